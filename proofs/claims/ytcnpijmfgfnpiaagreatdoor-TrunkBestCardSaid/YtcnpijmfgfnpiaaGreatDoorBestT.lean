import Derived.Test.YtcnpijmfgfnpiaaGreatDoorProg
import Derived.Test.YtcnpijmfgfnpiaaGreatDoorRows
import Derived.Conc.Holds
set_option linter.unusedVariables false
set_option linter.unusedSimpArgs false
namespace Go.Proofs.YtcnpijmfgfnpiaaGreatDoor
open Go Go.Proofs
theorem QA:(Rows.trunkBestRow.wf (OpenSpec.ofChange Rows.trunkBestSpec))=true:=by kernel_rfl
theorem Qz:(laidOutB Tryz.prog)=true:=by kernel_rfl
theorem Qy:(mapsRowed Tryz.prog)=true:=by kernel_rfl
theorem Qx:(Tryz.f13.params.all (Tryz.prog.readableRec ·))=true:=by kernel_rfl
theorem Qw:(namedTie Tryz.prog Rows.trunkBestRow.named Rows.trunkBestSpec.vars)=true:=by kernel_rfl
theorem Qv:((Rows.trunkBestRow.stops == []))=true:=by kernel_rfl
theorem Qu:((Tryz.prog.stops == []))=true:=by kernel_rfl
theorem Qs:((Rows.trunkBestRow.knobs == []))=true:=by kernel_rfl
theorem Qq:((Tryz.prog.stopKnobs == []))=true:=by kernel_rfl
theorem Qp:((Rows.trunkBestRow.inPlace == Tryz.prog.inPlace (13:FuncId)))=true:=by kernel_rfl
theorem Oq:((Rows.trunkBestRow.unfollowed == Tryz.prog.unfollowed (13:FuncId)))=true:=by kernel_rfl
theorem Oo:((Rows.trunkBestRow.recurses == Tryz.prog.recurses (13:FuncId)))=true:=by kernel_rfl
theorem On:((Rows.trunkBestRow.named == Tryz.prog.varsNamed (13:FuncId)))=true:=by kernel_rfl
theorem Om:((Rows.trunkBestRow.maps == (Tryz.f13.params.toList++Rows.trunkBestSpec.plain.varTypes Tryz.prog).any (Tryz.prog.mapsRec ·)))=true:=by kernel_rfl
theorem Ol:((Rows.trunkBestRow.ifaces == (Tryz.f13.params.toList++Rows.trunkBestSpec.plain.varTypes Tryz.prog).any (Tryz.prog.ifacesRec ·)))=true:=by kernel_rfl
theorem Oj:((Rows.trunkBestRow.mapsOut == Tryz.prog.mapsAmong Tryz.f13.resultTypes.toList))=true:=by kernel_rfl
theorem Oi:((Rows.trunkBestRow.loops == (Tryz.f13.params.toList++Rows.trunkBestSpec.plain.varTypes Tryz.prog).any (Tryz.prog.loopsFrom ·)))=true:=by kernel_rfl
theorem Oh:((Rows.trunkBestRow.wideKeys == (Tryz.f13.params.toList++Rows.trunkBestSpec.plain.varTypes Tryz.prog++Tryz.f13.resultTypes.toList).any (Tryz.prog.wideKeysFrom ·)))=true:=by kernel_rfl
theorem Og:(Rows.trunkBestSpec.vars.all (Tryz.prog.varReadable ·))=true:=by kernel_rfl
theorem Of:(Tryz.f13.resultTypes.all (fun t=>Tryz.prog.readableRec t && decide (t < Tryz.prog.types.size)))=true:=by kernel_rfl
theorem Oe:((Rows.trunkBestRow.ifacesOut == Tryz.f13.resultTypes.toList.any (Tryz.prog.ifacesRec ·)))=true:=by kernel_rfl
theorem Oc:((Rows.trunkBestRow.loopsOut == Tryz.f13.resultTypes.toList.any (Tryz.prog.loopsFrom ·)))=true:=by kernel_rfl
theorem Ob:((Rows.trunkBestRow.plainKeys == Tryz.prog.plainKeys))=true:=by kernel_rfl
theorem Oa:(Rows.trunkBestRow.shortTexts.isNone)=true:=by kernel_rfl
theorem N9:(Tryz.prog.stopsHeard)=true:=by kernel_rfl
theorem N8:(Tryz.prog.mayEnter)=true:=by kernel_rfl
theorem N7:((Rows.trunkBestRow.lifted == Tryz.prog.liftsFinal))=true:=by kernel_rfl
theorem N6:((Tryz.prog.make == some Rows.trunkBestRow.make))=true:=by kernel_rfl
theorem N5:((Rows.trunkBestRow.pinned == Rows.trunkBestRow.pinnedBy))=true:=by kernel_rfl
theorem N4:((Rows.trunkBestRow.veiled == (Tryz.f13.params.toList++Rows.trunkBestSpec.plain.varTypes Tryz.prog++Tryz.f13.resultTypes.toList).any (Tryz.prog.veiledRec ·)))=true:=by kernel_rfl
theorem N3:(Rows.trunkBestRow.veiledFits Tryz.prog Tryz.f13.params.toList (Tryz.f13.params.toList++Rows.trunkBestSpec.plain.varTypes Tryz.prog++Tryz.f13.resultTypes.toList))=true:=by kernel_rfl
end Go.Proofs.YtcnpijmfgfnpiaaGreatDoor
