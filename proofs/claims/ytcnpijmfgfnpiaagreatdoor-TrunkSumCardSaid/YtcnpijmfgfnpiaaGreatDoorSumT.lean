import Derived.Test.YtcnpijmfgfnpiaaGreatDoorProg
import Derived.Test.YtcnpijmfgfnpiaaGreatDoorRows
import Derived.Conc.Holds
set_option linter.unusedSimpArgs false
set_option linter.unusedVariables false
namespace Go.Proofs.YtcnpijmfgfnpiaaGreatDoor
open Go Go.Proofs
theorem Qq:(Rows.trunkSumRow.wf (OpenSpec.ofChange Rows.trunkSumSpec))=true:=by kernel_rfl
theorem Qp:(laidOutB Tryz.prog)=true:=by kernel_rfl
theorem Qo:(mapsRowed Tryz.prog)=true:=by kernel_rfl
theorem Qn:(Tryz.f19.params.all (Tryz.prog.readableRec ·))=true:=by kernel_rfl
theorem Qm:(namedTie Tryz.prog Rows.trunkSumRow.named Rows.trunkSumSpec.vars)=true:=by kernel_rfl
theorem Ql:((Rows.trunkSumRow.stops == []))=true:=by kernel_rfl
theorem Qk:((Tryz.prog.stops == []))=true:=by kernel_rfl
theorem Qj:((Rows.trunkSumRow.knobs == []))=true:=by kernel_rfl
theorem Qi:((Tryz.prog.stopKnobs == []))=true:=by kernel_rfl
theorem Qh:((Rows.trunkSumRow.inPlace == Tryz.prog.inPlace (19:FuncId)))=true:=by kernel_rfl
theorem Ob:((Rows.trunkSumRow.unfollowed == Tryz.prog.unfollowed (19:FuncId)))=true:=by kernel_rfl
theorem Oa:((Rows.trunkSumRow.recurses == Tryz.prog.recurses (19:FuncId)))=true:=by kernel_rfl
theorem N9:((Rows.trunkSumRow.named == Tryz.prog.varsNamed (19:FuncId)))=true:=by kernel_rfl
theorem N8:((Rows.trunkSumRow.maps == (Tryz.f19.params.toList++Rows.trunkSumSpec.plain.varTypes Tryz.prog).any (Tryz.prog.mapsRec ·)))=true:=by kernel_rfl
theorem N7:((Rows.trunkSumRow.ifaces == (Tryz.f19.params.toList++Rows.trunkSumSpec.plain.varTypes Tryz.prog).any (Tryz.prog.ifacesRec ·)))=true:=by kernel_rfl
theorem N6:((Rows.trunkSumRow.mapsOut == Tryz.prog.mapsAmong Tryz.f19.resultTypes.toList))=true:=by kernel_rfl
theorem N5:((Rows.trunkSumRow.loops == (Tryz.f19.params.toList++Rows.trunkSumSpec.plain.varTypes Tryz.prog).any (Tryz.prog.loopsFrom ·)))=true:=by kernel_rfl
theorem N4:((Rows.trunkSumRow.wideKeys == (Tryz.f19.params.toList++Rows.trunkSumSpec.plain.varTypes Tryz.prog++Tryz.f19.resultTypes.toList).any (Tryz.prog.wideKeysFrom ·)))=true:=by kernel_rfl
theorem N3:(Rows.trunkSumSpec.vars.all (Tryz.prog.varReadable ·))=true:=by kernel_rfl
theorem NZ:(Tryz.f19.resultTypes.all (fun t=>Tryz.prog.readableRec t && decide (t < Tryz.prog.types.size)))=true:=by kernel_rfl
theorem NY:((Rows.trunkSumRow.ifacesOut == Tryz.f19.resultTypes.toList.any (Tryz.prog.ifacesRec ·)))=true:=by kernel_rfl
theorem NX:((Rows.trunkSumRow.loopsOut == Tryz.f19.resultTypes.toList.any (Tryz.prog.loopsFrom ·)))=true:=by kernel_rfl
theorem NW:((Rows.trunkSumRow.plainKeys == Tryz.prog.plainKeys))=true:=by kernel_rfl
theorem NV:(Rows.trunkSumRow.shortTexts.isNone)=true:=by kernel_rfl
theorem NU:(Tryz.prog.stopsHeard)=true:=by kernel_rfl
theorem NT:(Tryz.prog.mayEnter)=true:=by kernel_rfl
theorem NS:((Rows.trunkSumRow.lifted == Tryz.prog.liftsFinal))=true:=by kernel_rfl
theorem NR:((Tryz.prog.make == some Rows.trunkSumRow.make))=true:=by kernel_rfl
theorem NQ:((Rows.trunkSumRow.pinned == Rows.trunkSumRow.pinnedBy))=true:=by kernel_rfl
theorem NP:((Rows.trunkSumRow.veiled == (Tryz.f19.params.toList++Rows.trunkSumSpec.plain.varTypes Tryz.prog++Tryz.f19.resultTypes.toList).any (Tryz.prog.veiledRec ·)))=true:=by kernel_rfl
theorem NN:(Rows.trunkSumRow.veiledFits Tryz.prog Tryz.f19.params.toList (Tryz.f19.params.toList++Rows.trunkSumSpec.plain.varTypes Tryz.prog++Tryz.f19.resultTypes.toList))=true:=by kernel_rfl
end Go.Proofs.YtcnpijmfgfnpiaaGreatDoor
