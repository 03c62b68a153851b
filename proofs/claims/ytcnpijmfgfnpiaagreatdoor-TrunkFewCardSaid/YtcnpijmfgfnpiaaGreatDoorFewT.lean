import Derived.Test.YtcnpijmfgfnpiaaGreatDoorProg
import Derived.Test.YtcnpijmfgfnpiaaGreatDoorRows
import Derived.Conc.Holds
set_option linter.unusedVariables false
set_option linter.unusedSimpArgs false
namespace Go.Proofs.YtcnpijmfgfnpiaaGreatDoor
open Go Go.Proofs
theorem Q6:(Rows.trunkFewRow.wf (OpenSpec.ofChange Rows.trunkFewSpec))=true:=by kernel_rfl
theorem Q5:(laidOutB Tryz.prog)=true:=by kernel_rfl
theorem Q4:(mapsRowed Tryz.prog)=true:=by kernel_rfl
theorem Q3:(Tryz.f21.params.all (Tryz.prog.readableRec ·))=true:=by kernel_rfl
theorem Q2:(namedTie Tryz.prog Rows.trunkFewRow.named Rows.trunkFewSpec.vars)=true:=by kernel_rfl
theorem Q1:((Rows.trunkFewRow.stops == []))=true:=by kernel_rfl
theorem Q0:((Tryz.prog.stops == []))=true:=by kernel_rfl
theorem QZ:((Rows.trunkFewRow.knobs == []))=true:=by kernel_rfl
theorem QY:((Tryz.prog.stopKnobs == []))=true:=by kernel_rfl
theorem QX:((Rows.trunkFewRow.inPlace == Tryz.prog.inPlace (21:FuncId)))=true:=by kernel_rfl
theorem OQ:((Rows.trunkFewRow.unfollowed == Tryz.prog.unfollowed (21:FuncId)))=true:=by kernel_rfl
theorem OP:((Rows.trunkFewRow.recurses == Tryz.prog.recurses (21:FuncId)))=true:=by kernel_rfl
theorem OO:((Rows.trunkFewRow.named == Tryz.prog.varsNamed (21:FuncId)))=true:=by kernel_rfl
theorem ON:((Rows.trunkFewRow.maps == (Tryz.f21.params.toList++Rows.trunkFewSpec.plain.varTypes Tryz.prog).any (Tryz.prog.mapsRec ·)))=true:=by kernel_rfl
theorem OM:((Rows.trunkFewRow.ifaces == (Tryz.f21.params.toList++Rows.trunkFewSpec.plain.varTypes Tryz.prog).any (Tryz.prog.ifacesRec ·)))=true:=by kernel_rfl
theorem OL:((Rows.trunkFewRow.mapsOut == Tryz.prog.mapsAmong Tryz.f21.resultTypes.toList))=true:=by kernel_rfl
theorem OK:((Rows.trunkFewRow.loops == (Tryz.f21.params.toList++Rows.trunkFewSpec.plain.varTypes Tryz.prog).any (Tryz.prog.loopsFrom ·)))=true:=by kernel_rfl
theorem OJ:((Rows.trunkFewRow.wideKeys == (Tryz.f21.params.toList++Rows.trunkFewSpec.plain.varTypes Tryz.prog++Tryz.f21.resultTypes.toList).any (Tryz.prog.wideKeysFrom ·)))=true:=by kernel_rfl
theorem OI:(Rows.trunkFewSpec.vars.all (Tryz.prog.varReadable ·))=true:=by kernel_rfl
theorem OH:(Tryz.f21.resultTypes.all (fun t=>Tryz.prog.readableRec t && decide (t < Tryz.prog.types.size)))=true:=by kernel_rfl
theorem OG:((Rows.trunkFewRow.ifacesOut == Tryz.f21.resultTypes.toList.any (Tryz.prog.ifacesRec ·)))=true:=by kernel_rfl
theorem OF:((Rows.trunkFewRow.loopsOut == Tryz.f21.resultTypes.toList.any (Tryz.prog.loopsFrom ·)))=true:=by kernel_rfl
theorem OE:((Rows.trunkFewRow.plainKeys == Tryz.prog.plainKeys))=true:=by kernel_rfl
theorem OD:(Rows.trunkFewRow.shortTexts.isNone)=true:=by kernel_rfl
theorem OC:(Tryz.prog.stopsHeard)=true:=by kernel_rfl
theorem OB:(Tryz.prog.mayEnter)=true:=by kernel_rfl
theorem OA:((Rows.trunkFewRow.lifted == Tryz.prog.liftsFinal))=true:=by kernel_rfl
theorem Oz:((Tryz.prog.make == some Rows.trunkFewRow.make))=true:=by kernel_rfl
theorem Oy:((Rows.trunkFewRow.pinned == Rows.trunkFewRow.pinnedBy))=true:=by kernel_rfl
theorem Ox:((Rows.trunkFewRow.veiled == (Tryz.f21.params.toList++Rows.trunkFewSpec.plain.varTypes Tryz.prog++Tryz.f21.resultTypes.toList).any (Tryz.prog.veiledRec ·)))=true:=by kernel_rfl
theorem Ov:(Rows.trunkFewRow.veiledFits Tryz.prog Tryz.f21.params.toList (Tryz.f21.params.toList++Rows.trunkFewSpec.plain.varTypes Tryz.prog++Tryz.f21.resultTypes.toList))=true:=by kernel_rfl
end Go.Proofs.YtcnpijmfgfnpiaaGreatDoor
