import Derived.Test.YtcnpijmfgfnpiaaGreatDoorProg
import Derived.Test.YtcnpijmfgfnpiaaGreatDoorRows
import Derived.Conc.Holds
set_option linter.unusedVariables false
set_option linter.unusedSimpArgs false
namespace Go.Proofs.YtcnpijmfgfnpiaaGreatDoor
open Go Go.Proofs
theorem LE:(Rows.trunkKnownRow.wf (OpenSpec.ofChange Rows.trunkKnownSpec))=true:=by kernel_rfl
theorem LD:(laidOutB Tryz.prog)=true:=by kernel_rfl
theorem LC:(mapsRowed Tryz.prog)=true:=by kernel_rfl
theorem LA:(Tryz.f22.params.all (Tryz.prog.readableRec ·))=true:=by kernel_rfl
theorem Ly:(namedTie Tryz.prog Rows.trunkKnownRow.named Rows.trunkKnownSpec.vars)=true:=by kernel_rfl
theorem Lx:((Rows.trunkKnownRow.stops == []))=true:=by kernel_rfl
theorem Lu:((Tryz.prog.stops == []))=true:=by kernel_rfl
theorem Lt:((Rows.trunkKnownRow.knobs == []))=true:=by kernel_rfl
theorem Ls:((Tryz.prog.stopKnobs == []))=true:=by kernel_rfl
theorem Lr:((Rows.trunkKnownRow.inPlace == Tryz.prog.inPlace (22:FuncId)))=true:=by kernel_rfl
theorem Jj:((Rows.trunkKnownRow.unfollowed == Tryz.prog.unfollowed (22:FuncId)))=true:=by kernel_rfl
theorem Ji:((Rows.trunkKnownRow.recurses == Tryz.prog.recurses (22:FuncId)))=true:=by kernel_rfl
theorem Jh:((Rows.trunkKnownRow.named == Tryz.prog.varsNamed (22:FuncId)))=true:=by kernel_rfl
theorem Jg:((Rows.trunkKnownRow.maps == (Tryz.f22.params.toList++Rows.trunkKnownSpec.plain.varTypes Tryz.prog).any (Tryz.prog.mapsRec ·)))=true:=by kernel_rfl
theorem Jf:((Rows.trunkKnownRow.ifaces == (Tryz.f22.params.toList++Rows.trunkKnownSpec.plain.varTypes Tryz.prog).any (Tryz.prog.ifacesRec ·)))=true:=by kernel_rfl
theorem Je:((Rows.trunkKnownRow.mapsOut == Tryz.prog.mapsAmong Tryz.f22.resultTypes.toList))=true:=by kernel_rfl
theorem Jd:((Rows.trunkKnownRow.loops == (Tryz.f22.params.toList++Rows.trunkKnownSpec.plain.varTypes Tryz.prog).any (Tryz.prog.loopsFrom ·)))=true:=by kernel_rfl
theorem Jc:((Rows.trunkKnownRow.wideKeys == (Tryz.f22.params.toList++Rows.trunkKnownSpec.plain.varTypes Tryz.prog++Tryz.f22.resultTypes.toList).any (Tryz.prog.wideKeysFrom ·)))=true:=by kernel_rfl
theorem Jb:(Rows.trunkKnownSpec.vars.all (Tryz.prog.varReadable ·))=true:=by kernel_rfl
theorem I9:(Tryz.f22.resultTypes.all (fun t=>Tryz.prog.readableRec t && decide (t < Tryz.prog.types.size)))=true:=by kernel_rfl
theorem I8:((Rows.trunkKnownRow.ifacesOut == Tryz.f22.resultTypes.toList.any (Tryz.prog.ifacesRec ·)))=true:=by kernel_rfl
theorem I7:((Rows.trunkKnownRow.loopsOut == Tryz.f22.resultTypes.toList.any (Tryz.prog.loopsFrom ·)))=true:=by kernel_rfl
theorem I6:((Rows.trunkKnownRow.plainKeys == Tryz.prog.plainKeys))=true:=by kernel_rfl
theorem I5:(Rows.trunkKnownRow.shortTexts.isNone)=true:=by kernel_rfl
theorem I4:(Tryz.prog.stopsHeard)=true:=by kernel_rfl
theorem I3:(Tryz.prog.mayEnter)=true:=by kernel_rfl
theorem I2:((Rows.trunkKnownRow.lifted == Tryz.prog.liftsFinal))=true:=by kernel_rfl
theorem I1:((Tryz.prog.make == some Rows.trunkKnownRow.make))=true:=by kernel_rfl
theorem I0:((Rows.trunkKnownRow.pinned == Rows.trunkKnownRow.pinnedBy))=true:=by kernel_rfl
theorem IZ:((Rows.trunkKnownRow.veiled == (Tryz.f22.params.toList++Rows.trunkKnownSpec.plain.varTypes Tryz.prog++Tryz.f22.resultTypes.toList).any (Tryz.prog.veiledRec ·)))=true:=by kernel_rfl
theorem IY:(Rows.trunkKnownRow.veiledFits Tryz.prog Tryz.f22.params.toList (Tryz.f22.params.toList++Rows.trunkKnownSpec.plain.varTypes Tryz.prog++Tryz.f22.resultTypes.toList))=true:=by kernel_rfl
end Go.Proofs.YtcnpijmfgfnpiaaGreatDoor
