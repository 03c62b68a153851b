import Derived.Test.YthnacobbednnbaaGreatProg
import Derived.Test.YthnacobbednnbaaGreatRows
import Derived.Conc.Holds
open Nat
open List hiding mem_of_getElem?
open Array hiding mem_of_getElem? mk
set_option linter.unusedVariables false
set_option linter.unusedSimpArgs false
namespace Go.Proofs.YthnacobbednnbaaGreat
open Go Go.Proofs
theorem Vw:(Rows.mothStatesRow.wf (OpenSpec.ofChange Rows.mothStatesSpec))=true:=by kernel_rfl
theorem Vv:(laidOutB Tryz.prog)=true:=by kernel_rfl
theorem Vu:(mapsRowed Tryz.prog)=true:=by kernel_rfl
theorem Vt:(Tryz.f9.params.all (Tryz.prog.readableRec ·))=true:=by kernel_rfl
theorem Vs:(namedTie Tryz.prog Rows.mothStatesRow.named Rows.mothStatesSpec.vars)=true:=by kernel_rfl
theorem Vr:((Rows.mothStatesRow.stops == []))=true:=by kernel_rfl
theorem Vq:((Tryz.prog.stops == []))=true:=by kernel_rfl
theorem Vp:((Rows.mothStatesRow.knobs == []))=true:=by kernel_rfl
theorem Vo:((Tryz.prog.stopKnobs == []))=true:=by kernel_rfl
theorem Vn:((Rows.mothStatesRow.inPlace == Tryz.prog.inPlace (9:FuncId)))=true:=by kernel_rfl
theorem Tv:((Rows.mothStatesRow.unfollowed == Tryz.prog.unfollowed (9:FuncId)))=true:=by kernel_rfl
theorem Tu:((Rows.mothStatesRow.recurses == Tryz.prog.recurses (9:FuncId)))=true:=by kernel_rfl
theorem Tt:((Rows.mothStatesRow.named == Tryz.prog.varsNamed (9:FuncId)))=true:=by kernel_rfl
theorem To:((Rows.mothStatesRow.maps == (Tryz.f9.params.toList++Rows.mothStatesSpec.plain.varTypes Tryz.prog).any (Tryz.prog.mapsRec ·)))=true:=by kernel_rfl
theorem Tn:((Rows.mothStatesRow.ifaces == (Tryz.f9.params.toList++Rows.mothStatesSpec.plain.varTypes Tryz.prog).any (Tryz.prog.ifacesRec ·)))=true:=by kernel_rfl
theorem Tm:((Rows.mothStatesRow.mapsOut == Tryz.prog.mapsAmong Tryz.f9.resultTypes.toList))=true:=by kernel_rfl
theorem Tj:((Rows.mothStatesRow.loops == (Tryz.f9.params.toList++Rows.mothStatesSpec.plain.varTypes Tryz.prog).any (Tryz.prog.loopsFrom ·)))=true:=by kernel_rfl
theorem Tf:((Rows.mothStatesRow.wideKeys == (Tryz.f9.params.toList++Rows.mothStatesSpec.plain.varTypes Tryz.prog++Tryz.f9.resultTypes.toList).any (Tryz.prog.wideKeysFrom ·)))=true:=by kernel_rfl
theorem Td:(Rows.mothStatesSpec.vars.all (Tryz.prog.varReadable ·))=true:=by kernel_rfl
theorem Ta:(Tryz.f9.resultTypes.all (λt=>Tryz.prog.readableRec t && decide (t < Tryz.prog.types.size)))=true:=by kernel_rfl
theorem S9:((Rows.mothStatesRow.ifacesOut == Tryz.f9.resultTypes.toList.any (Tryz.prog.ifacesRec ·)))=true:=by kernel_rfl
theorem S7:((Rows.mothStatesRow.loopsOut == Tryz.f9.resultTypes.toList.any (Tryz.prog.loopsFrom ·)))=true:=by kernel_rfl
theorem S5:((Rows.mothStatesRow.plainKeys == Tryz.prog.plainKeys))=true:=by kernel_rfl
theorem SZ:(Rows.mothStatesRow.shortTexts.isNone)=true:=by kernel_rfl
theorem SY:(Tryz.prog.stopsHeard)=true:=by kernel_rfl
theorem SX:(Tryz.prog.mayEnter)=true:=by kernel_rfl
theorem SV:((Rows.mothStatesRow.lifted == Tryz.prog.liftsFinal))=true:=by kernel_rfl
theorem SU:((Tryz.prog.make == some Rows.mothStatesRow.make))=true:=by kernel_rfl
theorem SS:((Rows.mothStatesRow.pinned == Rows.mothStatesRow.pinnedBy))=true:=by kernel_rfl
theorem SR:((Rows.mothStatesRow.veiled == (Tryz.f9.params.toList++Rows.mothStatesSpec.plain.varTypes Tryz.prog++Tryz.f9.resultTypes.toList).any (Tryz.prog.veiledRec ·)))=true:=by kernel_rfl
theorem SQ:(Rows.mothStatesRow.veiledFits Tryz.prog Tryz.f9.params.toList (Tryz.f9.params.toList++Rows.mothStatesSpec.plain.varTypes Tryz.prog++Tryz.f9.resultTypes.toList))=true:=by kernel_rfl
