import Derived.Test.YtddkbkkogpolaaaGreatProg
import Derived.Test.YtddkbkkogpolaaaGreatRows
import Derived.Conc.Holds
open Nat
open List hiding mem_of_getElem?
open Array hiding mem_of_getElem? mk
set_option linter.unusedVariables false
set_option linter.unusedSimpArgs false
namespace Go.Proofs.YtddkbkkogpolaaaGreat
open Go Go.Proofs
theorem Rr:(Rows.mothColdRow.wf (OpenSpec.ofChange Rows.mothColdSpec))=true:=by kernel_rfl
theorem Rq:(laidOutB Tryz.prog)=true:=by kernel_rfl
theorem Ro:(mapsRowed Tryz.prog)=true:=by kernel_rfl
theorem Rn:(Tryz.f5.params.all (Tryz.prog.readableRec ·))=true:=by kernel_rfl
theorem Rm:(namedTie Tryz.prog Rows.mothColdRow.named Rows.mothColdSpec.vars)=true:=by kernel_rfl
theorem Rj:((Rows.mothColdRow.stops == []))=true:=by kernel_rfl
theorem Ri:((Tryz.prog.stops == []))=true:=by kernel_rfl
theorem Rh:((Rows.mothColdRow.knobs == []))=true:=by kernel_rfl
theorem Rf:((Tryz.prog.stopKnobs == []))=true:=by kernel_rfl
theorem Re:((Rows.mothColdRow.inPlace == Tryz.prog.inPlace (5:FuncId)))=true:=by kernel_rfl
theorem PL:((Rows.mothColdRow.unfollowed == Tryz.prog.unfollowed (5:FuncId)))=true:=by kernel_rfl
theorem PK:((Rows.mothColdRow.recurses == Tryz.prog.recurses (5:FuncId)))=true:=by kernel_rfl
theorem PI:((Rows.mothColdRow.named == Tryz.prog.varsNamed (5:FuncId)))=true:=by kernel_rfl
theorem PH:((Rows.mothColdRow.maps == (Tryz.f5.params.toList++Rows.mothColdSpec.plain.varTypes Tryz.prog).any (Tryz.prog.mapsRec ·)))=true:=by kernel_rfl
theorem PG:((Rows.mothColdRow.ifaces == (Tryz.f5.params.toList++Rows.mothColdSpec.plain.varTypes Tryz.prog).any (Tryz.prog.ifacesRec ·)))=true:=by kernel_rfl
theorem PE:((Rows.mothColdRow.mapsOut == Tryz.prog.mapsAmong Tryz.f5.resultTypes.toList))=true:=by kernel_rfl
theorem PD:((Rows.mothColdRow.loops == (Tryz.f5.params.toList++Rows.mothColdSpec.plain.varTypes Tryz.prog).any (Tryz.prog.loopsFrom ·)))=true:=by kernel_rfl
theorem PC:((Rows.mothColdRow.wideKeys == (Tryz.f5.params.toList++Rows.mothColdSpec.plain.varTypes Tryz.prog++Tryz.f5.resultTypes.toList).any (Tryz.prog.wideKeysFrom ·)))=true:=by kernel_rfl
theorem Pz:(Rows.mothColdSpec.vars.all (Tryz.prog.varReadable ·))=true:=by kernel_rfl
theorem Py:(Tryz.f5.resultTypes.all (λt=>Tryz.prog.readableRec t && decide (t < Tryz.prog.types.size)))=true:=by kernel_rfl
theorem Px:((Rows.mothColdRow.ifacesOut == Tryz.f5.resultTypes.toList.any (Tryz.prog.ifacesRec ·)))=true:=by kernel_rfl
theorem Po:((Rows.mothColdRow.loopsOut == Tryz.f5.resultTypes.toList.any (Tryz.prog.loopsFrom ·)))=true:=by kernel_rfl
theorem Pn:((Rows.mothColdRow.plainKeys == Tryz.prog.plainKeys))=true:=by kernel_rfl
theorem Pm:(Rows.mothColdRow.shortTexts.isNone)=true:=by kernel_rfl
theorem Pl:(Tryz.prog.stopsHeard)=true:=by kernel_rfl
theorem Pj:(Tryz.prog.mayEnter)=true:=by kernel_rfl
theorem Pi:((Rows.mothColdRow.lifted == Tryz.prog.liftsFinal))=true:=by kernel_rfl
theorem Pg:((Tryz.prog.make == some Rows.mothColdRow.make))=true:=by kernel_rfl
theorem Pe:((Rows.mothColdRow.pinned == Rows.mothColdRow.pinnedBy))=true:=by kernel_rfl
theorem O9:((Rows.mothColdRow.veiled == (Tryz.f5.params.toList++Rows.mothColdSpec.plain.varTypes Tryz.prog++Tryz.f5.resultTypes.toList).any (Tryz.prog.veiledRec ·)))=true:=by kernel_rfl
theorem O8:(Rows.mothColdRow.veiledFits Tryz.prog Tryz.f5.params.toList (Tryz.f5.params.toList++Rows.mothColdSpec.plain.varTypes Tryz.prog++Tryz.f5.resultTypes.toList))=true:=by kernel_rfl
