import Derived.Test.YtddneonghpmidaaGreatDoorProg
import Derived.Test.YtddneonghpmidaaGreatDoorRows
import Derived.Conc.Holds
set_option linter.unusedVariables false
set_option linter.unusedSimpArgs false
namespace Go.Proofs.YtddneonghpmidaaGreatDoor
open Go Go.Proofs
theorem T9:(Rows.trunkFewsRow.wf (OpenSpec.ofChange Rows.trunkFewsSpec))=true:=by kernel_rfl
theorem T8:(laidOutB Tryz.prog)=true:=by kernel_rfl
theorem TZ:(mapsRowed Tryz.prog)=true:=by kernel_rfl
theorem TY:(Tryz.f3.params.all (Tryz.prog.readableRec ·))=true:=by kernel_rfl
theorem TX:(namedTie Tryz.prog Rows.trunkFewsRow.named Rows.trunkFewsSpec.vars)=true:=by kernel_rfl
theorem TU:((Rows.trunkFewsRow.stops == []))=true:=by kernel_rfl
theorem TS:((Tryz.prog.stops == []))=true:=by kernel_rfl
theorem TR:((Rows.trunkFewsRow.knobs == []))=true:=by kernel_rfl
theorem TP:((Tryz.prog.stopKnobs == []))=true:=by kernel_rfl
theorem TO:((Rows.trunkFewsRow.inPlace == Tryz.prog.inPlace (3:FuncId)))=true:=by kernel_rfl
theorem Q5:((Rows.trunkFewsRow.unfollowed == Tryz.prog.unfollowed (3:FuncId)))=true:=by kernel_rfl
theorem Q4:((Rows.trunkFewsRow.recurses == Tryz.prog.recurses (3:FuncId)))=true:=by kernel_rfl
theorem Q3:((Rows.trunkFewsRow.named == Tryz.prog.varsNamed (3:FuncId)))=true:=by kernel_rfl
theorem Q2:((Rows.trunkFewsRow.maps == (Tryz.f3.params.toList++Rows.trunkFewsSpec.plain.varTypes Tryz.prog).any (Tryz.prog.mapsRec ·)))=true:=by kernel_rfl
theorem Q1:((Rows.trunkFewsRow.ifaces == (Tryz.f3.params.toList++Rows.trunkFewsSpec.plain.varTypes Tryz.prog).any (Tryz.prog.ifacesRec ·)))=true:=by kernel_rfl
theorem Q0:((Rows.trunkFewsRow.mapsOut == Tryz.prog.mapsAmong Tryz.f3.resultTypes.toList))=true:=by kernel_rfl
theorem QZ:((Rows.trunkFewsRow.loops == (Tryz.f3.params.toList++Rows.trunkFewsSpec.plain.varTypes Tryz.prog).any (Tryz.prog.loopsFrom ·)))=true:=by kernel_rfl
theorem QY:((Rows.trunkFewsRow.wideKeys == (Tryz.f3.params.toList++Rows.trunkFewsSpec.plain.varTypes Tryz.prog++Tryz.f3.resultTypes.toList).any (Tryz.prog.wideKeysFrom ·)))=true:=by kernel_rfl
theorem QX:(Rows.trunkFewsSpec.vars.all (Tryz.prog.varReadable ·))=true:=by kernel_rfl
theorem QW:(Tryz.f3.resultTypes.all (fun t=>Tryz.prog.readableRec t && decide (t < Tryz.prog.types.size)))=true:=by kernel_rfl
theorem QV:((Rows.trunkFewsRow.ifacesOut == Tryz.f3.resultTypes.toList.any (Tryz.prog.ifacesRec ·)))=true:=by kernel_rfl
theorem QU:((Rows.trunkFewsRow.loopsOut == Tryz.f3.resultTypes.toList.any (Tryz.prog.loopsFrom ·)))=true:=by kernel_rfl
theorem QT:((Rows.trunkFewsRow.plainKeys == Tryz.prog.plainKeys))=true:=by kernel_rfl
theorem QR:(Rows.trunkFewsRow.shortTexts.isNone)=true:=by kernel_rfl
theorem QQ:(Tryz.prog.stopsHeard)=true:=by kernel_rfl
theorem QP:(Tryz.prog.mayEnter)=true:=by kernel_rfl
theorem QO:((Rows.trunkFewsRow.lifted == Tryz.prog.liftsFinal))=true:=by kernel_rfl
theorem QN:((Tryz.prog.make == some Rows.trunkFewsRow.make))=true:=by kernel_rfl
theorem QM:((Rows.trunkFewsRow.pinned == Rows.trunkFewsRow.pinnedBy))=true:=by kernel_rfl
theorem QL:((Rows.trunkFewsRow.veiled == (Tryz.f3.params.toList++Rows.trunkFewsSpec.plain.varTypes Tryz.prog++Tryz.f3.resultTypes.toList).any (Tryz.prog.veiledRec ·)))=true:=by kernel_rfl
theorem QK:(Rows.trunkFewsRow.veiledFits Tryz.prog Tryz.f3.params.toList (Tryz.f3.params.toList++Rows.trunkFewsSpec.plain.varTypes Tryz.prog++Tryz.f3.resultTypes.toList))=true:=by kernel_rfl
