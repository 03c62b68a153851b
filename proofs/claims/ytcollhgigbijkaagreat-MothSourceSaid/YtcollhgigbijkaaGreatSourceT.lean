import Derived.Test.YtcollhgigbijkaaGreatProg
import Derived.Test.YtcollhgigbijkaaGreatRows
import Derived.Conc.Holds
open Nat
open List hiding mem_of_getElem?
open Array hiding mem_of_getElem? mk
set_option linter.unusedVariables false
set_option linter.unusedSimpArgs false
namespace Go.Proofs.YtcollhgigbijkaaGreat
open Go Go.Proofs
theorem R7:(Rows.mothSourceRow.wf (OpenSpec.ofChange Rows.mothSourceSpec))=true:=by kernel_rfl
theorem R2:(laidOutB Tryz.prog)=true:=by kernel_rfl
theorem RZ:(mapsRowed Tryz.prog)=true:=by kernel_rfl
theorem RY:(Tryz.f4.params.all (Tryz.prog.readableRec ·))=true:=by kernel_rfl
theorem RX:(namedTie Tryz.prog Rows.mothSourceRow.named Rows.mothSourceSpec.vars)=true:=by kernel_rfl
theorem RV:((Rows.mothSourceRow.stops == []))=true:=by kernel_rfl
theorem RU:((Tryz.prog.stops == []))=true:=by kernel_rfl
theorem RS:((Rows.mothSourceRow.knobs == []))=true:=by kernel_rfl
theorem RR:((Tryz.prog.stopKnobs == []))=true:=by kernel_rfl
theorem RQ:((Rows.mothSourceRow.inPlace == Tryz.prog.inPlace (4:FuncId)))=true:=by kernel_rfl
theorem Qj:((Rows.mothSourceRow.unfollowed == Tryz.prog.unfollowed (4:FuncId)))=true:=by kernel_rfl
theorem Qi:((Rows.mothSourceRow.recurses == Tryz.prog.recurses (4:FuncId)))=true:=by kernel_rfl
theorem Qh:((Rows.mothSourceRow.named == Tryz.prog.varsNamed (4:FuncId)))=true:=by kernel_rfl
theorem Qg:((Rows.mothSourceRow.maps == (Tryz.f4.params.toList++Rows.mothSourceSpec.plain.varTypes Tryz.prog).any (Tryz.prog.mapsRec ·)))=true:=by kernel_rfl
theorem Qf:((Rows.mothSourceRow.ifaces == (Tryz.f4.params.toList++Rows.mothSourceSpec.plain.varTypes Tryz.prog).any (Tryz.prog.ifacesRec ·)))=true:=by kernel_rfl
theorem Qe:((Rows.mothSourceRow.mapsOut == Tryz.prog.mapsAmong Tryz.f4.resultTypes.toList))=true:=by kernel_rfl
theorem Qd:((Rows.mothSourceRow.loops == (Tryz.f4.params.toList++Rows.mothSourceSpec.plain.varTypes Tryz.prog).any (Tryz.prog.loopsFrom ·)))=true:=by kernel_rfl
theorem Qc:((Rows.mothSourceRow.wideKeys == (Tryz.f4.params.toList++Rows.mothSourceSpec.plain.varTypes Tryz.prog++Tryz.f4.resultTypes.toList).any (Tryz.prog.wideKeysFrom ·)))=true:=by kernel_rfl
theorem Qb:(Rows.mothSourceSpec.vars.all (Tryz.prog.varReadable ·))=true:=by kernel_rfl
theorem Qa:(Tryz.f4.resultTypes.all (λt=>Tryz.prog.readableRec t && decide (t < Tryz.prog.types.size)))=true:=by kernel_rfl
theorem P9:((Rows.mothSourceRow.ifacesOut == Tryz.f4.resultTypes.toList.any (Tryz.prog.ifacesRec ·)))=true:=by kernel_rfl
theorem P8:((Rows.mothSourceRow.loopsOut == Tryz.f4.resultTypes.toList.any (Tryz.prog.loopsFrom ·)))=true:=by kernel_rfl
theorem P7:((Rows.mothSourceRow.plainKeys == Tryz.prog.plainKeys))=true:=by kernel_rfl
theorem P6:(Rows.mothSourceRow.shortTexts.isNone)=true:=by kernel_rfl
theorem P5:(Tryz.prog.stopsHeard)=true:=by kernel_rfl
theorem P4:(Tryz.prog.mayEnter)=true:=by kernel_rfl
theorem P3:((Rows.mothSourceRow.lifted == Tryz.prog.liftsFinal))=true:=by kernel_rfl
theorem P2:((Tryz.prog.make == some Rows.mothSourceRow.make))=true:=by kernel_rfl
theorem P1:((Rows.mothSourceRow.pinned == Rows.mothSourceRow.pinnedBy))=true:=by kernel_rfl
theorem P0:((Rows.mothSourceRow.veiled == (Tryz.f4.params.toList++Rows.mothSourceSpec.plain.varTypes Tryz.prog++Tryz.f4.resultTypes.toList).any (Tryz.prog.veiledRec ·)))=true:=by kernel_rfl
theorem PZ:(Rows.mothSourceRow.veiledFits Tryz.prog Tryz.f4.params.toList (Tryz.f4.params.toList++Rows.mothSourceSpec.plain.varTypes Tryz.prog++Tryz.f4.resultTypes.toList))=true:=by kernel_rfl
