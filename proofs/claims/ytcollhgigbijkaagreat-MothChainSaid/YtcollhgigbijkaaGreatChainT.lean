import Derived.Test.YtcollhgigbijkaaGreatProg
import Derived.Test.YtcollhgigbijkaaGreatRows
import Derived.Conc.Holds
open Nat
open List hiding mem_of_getElem?
open Array hiding mem_of_getElem? mk
set_option linter.unusedVariables false
set_option linter.unusedSimpArgs false
namespace Go.Proofs.YtcollhgigbijkaaGreat
open Go Go.Proofs
theorem RD:(Rows.mothChainRow.wf (OpenSpec.ofChange Rows.mothChainSpec))=true:=by kernel_rfl
theorem RB:(laidOutB Tryz.prog)=true:=by kernel_rfl
theorem Rz:(mapsRowed Tryz.prog)=true:=by kernel_rfl
theorem Ry:(Tryz.f6.params.all (Tryz.prog.readableRec ·))=true:=by kernel_rfl
theorem Rx:(namedTie Tryz.prog Rows.mothChainRow.named Rows.mothChainSpec.vars)=true:=by kernel_rfl
theorem Rw:((Rows.mothChainRow.stops == []))=true:=by kernel_rfl
theorem Ru:((Tryz.prog.stops == []))=true:=by kernel_rfl
theorem Rt:((Rows.mothChainRow.knobs == []))=true:=by kernel_rfl
theorem Rr:((Tryz.prog.stopKnobs == []))=true:=by kernel_rfl
theorem Rq:((Rows.mothChainRow.inPlace == Tryz.prog.inPlace (6:FuncId)))=true:=by kernel_rfl
theorem PU:((Rows.mothChainRow.unfollowed == Tryz.prog.unfollowed (6:FuncId)))=true:=by kernel_rfl
theorem PT:((Rows.mothChainRow.recurses == Tryz.prog.recurses (6:FuncId)))=true:=by kernel_rfl
theorem PS:((Rows.mothChainRow.named == Tryz.prog.varsNamed (6:FuncId)))=true:=by kernel_rfl
theorem PR:((Rows.mothChainRow.maps == (Tryz.f6.params.toList++Rows.mothChainSpec.plain.varTypes Tryz.prog).any (Tryz.prog.mapsRec ·)))=true:=by kernel_rfl
theorem PQ:((Rows.mothChainRow.ifaces == (Tryz.f6.params.toList++Rows.mothChainSpec.plain.varTypes Tryz.prog).any (Tryz.prog.ifacesRec ·)))=true:=by kernel_rfl
theorem PP:((Rows.mothChainRow.mapsOut == Tryz.prog.mapsAmong Tryz.f6.resultTypes.toList))=true:=by kernel_rfl
theorem PO:((Rows.mothChainRow.loops == (Tryz.f6.params.toList++Rows.mothChainSpec.plain.varTypes Tryz.prog).any (Tryz.prog.loopsFrom ·)))=true:=by kernel_rfl
theorem PN:((Rows.mothChainRow.wideKeys == (Tryz.f6.params.toList++Rows.mothChainSpec.plain.varTypes Tryz.prog++Tryz.f6.resultTypes.toList).any (Tryz.prog.wideKeysFrom ·)))=true:=by kernel_rfl
theorem PM:(Rows.mothChainSpec.vars.all (Tryz.prog.varReadable ·))=true:=by kernel_rfl
theorem PL:(Tryz.f6.resultTypes.all (λt=>Tryz.prog.readableRec t && decide (t < Tryz.prog.types.size)))=true:=by kernel_rfl
theorem PK:((Rows.mothChainRow.ifacesOut == Tryz.f6.resultTypes.toList.any (Tryz.prog.ifacesRec ·)))=true:=by kernel_rfl
theorem PI:((Rows.mothChainRow.loopsOut == Tryz.f6.resultTypes.toList.any (Tryz.prog.loopsFrom ·)))=true:=by kernel_rfl
theorem PH:((Rows.mothChainRow.plainKeys == Tryz.prog.plainKeys))=true:=by kernel_rfl
theorem PG:(Rows.mothChainRow.shortTexts.isNone)=true:=by kernel_rfl
theorem PE:(Tryz.prog.stopsHeard)=true:=by kernel_rfl
theorem PD:(Tryz.prog.mayEnter)=true:=by kernel_rfl
theorem PC:((Rows.mothChainRow.lifted == Tryz.prog.liftsFinal))=true:=by kernel_rfl
theorem Pz:((Tryz.prog.make == some Rows.mothChainRow.make))=true:=by kernel_rfl
theorem Py:((Rows.mothChainRow.pinned == Rows.mothChainRow.pinnedBy))=true:=by kernel_rfl
theorem Px:((Rows.mothChainRow.veiled == (Tryz.f6.params.toList++Rows.mothChainSpec.plain.varTypes Tryz.prog++Tryz.f6.resultTypes.toList).any (Tryz.prog.veiledRec ·)))=true:=by kernel_rfl
theorem Po:(Rows.mothChainRow.veiledFits Tryz.prog Tryz.f6.params.toList (Tryz.f6.params.toList++Rows.mothChainSpec.plain.varTypes Tryz.prog++Tryz.f6.resultTypes.toList))=true:=by kernel_rfl
