import Derived.Test.YthnacobbednnbaaGreatProg
import Derived.Test.YthnacobbednnbaaGreatRows
import Derived.Conc.Holds
open Nat
open List hiding mem_of_getElem?
open Array hiding mem_of_getElem? mk
set_option linter.unusedVariables false
set_option linter.unusedSimpArgs false
namespace Go.Proofs.YthnacobbednnbaaGreat
open Go Go.Proofs
theorem TG:(Rows.mothCoursesRow.wf (OpenSpec.ofChange Rows.mothCoursesSpec))=true:=by kernel_rfl
theorem TF:(laidOutB Tryz.prog)=true:=by kernel_rfl
theorem TD:(mapsRowed Tryz.prog)=true:=by kernel_rfl
theorem TC:(Tryz.f3.params.all (Tryz.prog.readableRec ·))=true:=by kernel_rfl
theorem TB:(namedTie Tryz.prog Rows.mothCoursesRow.named Rows.mothCoursesSpec.vars)=true:=by kernel_rfl
theorem TA:((Rows.mothCoursesRow.stops == []))=true:=by kernel_rfl
theorem Tz:((Tryz.prog.stops == []))=true:=by kernel_rfl
theorem Tv:((Rows.mothCoursesRow.knobs == []))=true:=by kernel_rfl
theorem Tu:((Tryz.prog.stopKnobs == []))=true:=by kernel_rfl
theorem Tt:((Rows.mothCoursesRow.inPlace == Tryz.prog.inPlace (3:FuncId)))=true:=by kernel_rfl
theorem QV:((Rows.mothCoursesRow.unfollowed == Tryz.prog.unfollowed (3:FuncId)))=true:=by kernel_rfl
theorem QU:((Rows.mothCoursesRow.recurses == Tryz.prog.recurses (3:FuncId)))=true:=by kernel_rfl
theorem QT:((Rows.mothCoursesRow.named == Tryz.prog.varsNamed (3:FuncId)))=true:=by kernel_rfl
theorem QR:((Rows.mothCoursesRow.maps == (Tryz.f3.params.toList++Rows.mothCoursesSpec.plain.varTypes Tryz.prog).any (Tryz.prog.mapsRec ·)))=true:=by kernel_rfl
theorem QQ:((Rows.mothCoursesRow.ifaces == (Tryz.f3.params.toList++Rows.mothCoursesSpec.plain.varTypes Tryz.prog).any (Tryz.prog.ifacesRec ·)))=true:=by kernel_rfl
theorem QP:((Rows.mothCoursesRow.mapsOut == Tryz.prog.mapsAmong Tryz.f3.resultTypes.toList))=true:=by kernel_rfl
theorem QO:((Rows.mothCoursesRow.loops == (Tryz.f3.params.toList++Rows.mothCoursesSpec.plain.varTypes Tryz.prog).any (Tryz.prog.loopsFrom ·)))=true:=by kernel_rfl
theorem QN:((Rows.mothCoursesRow.wideKeys == (Tryz.f3.params.toList++Rows.mothCoursesSpec.plain.varTypes Tryz.prog++Tryz.f3.resultTypes.toList).any (Tryz.prog.wideKeysFrom ·)))=true:=by kernel_rfl
theorem QM:(Rows.mothCoursesSpec.vars.all (Tryz.prog.varReadable ·))=true:=by kernel_rfl
theorem QL:(Tryz.f3.resultTypes.all (λt=>Tryz.prog.readableRec t && decide (t < Tryz.prog.types.size)))=true:=by kernel_rfl
theorem QK:((Rows.mothCoursesRow.ifacesOut == Tryz.f3.resultTypes.toList.any (Tryz.prog.ifacesRec ·)))=true:=by kernel_rfl
theorem QJ:((Rows.mothCoursesRow.loopsOut == Tryz.f3.resultTypes.toList.any (Tryz.prog.loopsFrom ·)))=true:=by kernel_rfl
theorem QI:((Rows.mothCoursesRow.plainKeys == Tryz.prog.plainKeys))=true:=by kernel_rfl
theorem QH:(Rows.mothCoursesRow.shortTexts.isNone)=true:=by kernel_rfl
theorem QG:(Tryz.prog.stopsHeard)=true:=by kernel_rfl
theorem QF:(Tryz.prog.mayEnter)=true:=by kernel_rfl
theorem QE:((Rows.mothCoursesRow.lifted == Tryz.prog.liftsFinal))=true:=by kernel_rfl
theorem QD:((Tryz.prog.make == some Rows.mothCoursesRow.make))=true:=by kernel_rfl
theorem QC:((Rows.mothCoursesRow.pinned == Rows.mothCoursesRow.pinnedBy))=true:=by kernel_rfl
theorem QB:((Rows.mothCoursesRow.veiled == (Tryz.f3.params.toList++Rows.mothCoursesSpec.plain.varTypes Tryz.prog++Tryz.f3.resultTypes.toList).any (Tryz.prog.veiledRec ·)))=true:=by kernel_rfl
theorem QA:(Rows.mothCoursesRow.veiledFits Tryz.prog Tryz.f3.params.toList (Tryz.f3.params.toList++Rows.mothCoursesSpec.plain.varTypes Tryz.prog++Tryz.f3.resultTypes.toList))=true:=by kernel_rfl
