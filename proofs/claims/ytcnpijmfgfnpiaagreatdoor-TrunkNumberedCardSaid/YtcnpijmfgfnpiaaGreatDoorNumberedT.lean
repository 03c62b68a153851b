import Derived.Test.YtcnpijmfgfnpiaaGreatDoorProg
import Derived.Test.YtcnpijmfgfnpiaaGreatDoorRows
import Derived.Conc.Holds
set_option linter.unusedVariables false
set_option linter.unusedSimpArgs false
namespace Go.Proofs.YtcnpijmfgfnpiaaGreatDoor
open Go Go.Proofs
theorem NZ:(Rows.trunkNumberedRow.wf (OpenSpec.ofChange Rows.trunkNumberedSpec))=true:=by kernel_rfl
theorem NY:(laidOutB Tryz.prog)=true:=by kernel_rfl
theorem NX:(mapsRowed Tryz.prog)=true:=by kernel_rfl
theorem NW:(Tryz.f14.params.all (Tryz.prog.readableRec ·))=true:=by kernel_rfl
theorem NV:(namedTie Tryz.prog Rows.trunkNumberedRow.named Rows.trunkNumberedSpec.vars)=true:=by kernel_rfl
theorem NU:((Rows.trunkNumberedRow.stops == []))=true:=by kernel_rfl
theorem NT:((Tryz.prog.stops == []))=true:=by kernel_rfl
theorem NS:((Rows.trunkNumberedRow.knobs == []))=true:=by kernel_rfl
theorem NR:((Tryz.prog.stopKnobs == []))=true:=by kernel_rfl
theorem NQ:((Rows.trunkNumberedRow.inPlace == Tryz.prog.inPlace (14:FuncId)))=true:=by kernel_rfl
theorem IC:((Rows.trunkNumberedRow.unfollowed == Tryz.prog.unfollowed (14:FuncId)))=true:=by kernel_rfl
theorem IB:((Rows.trunkNumberedRow.recurses == Tryz.prog.recurses (14:FuncId)))=true:=by kernel_rfl
theorem IA:((Rows.trunkNumberedRow.named == Tryz.prog.varsNamed (14:FuncId)))=true:=by kernel_rfl
theorem Iz:((Rows.trunkNumberedRow.maps == (Tryz.f14.params.toList++Rows.trunkNumberedSpec.plain.varTypes Tryz.prog).any (Tryz.prog.mapsRec ·)))=true:=by kernel_rfl
theorem Iy:((Rows.trunkNumberedRow.ifaces == (Tryz.f14.params.toList++Rows.trunkNumberedSpec.plain.varTypes Tryz.prog).any (Tryz.prog.ifacesRec ·)))=true:=by kernel_rfl
theorem Ix:((Rows.trunkNumberedRow.mapsOut == Tryz.prog.mapsAmong Tryz.f14.resultTypes.toList))=true:=by kernel_rfl
theorem Iw:((Rows.trunkNumberedRow.loops == (Tryz.f14.params.toList++Rows.trunkNumberedSpec.plain.varTypes Tryz.prog).any (Tryz.prog.loopsFrom ·)))=true:=by kernel_rfl
theorem Iu:((Rows.trunkNumberedRow.wideKeys == (Tryz.f14.params.toList++Rows.trunkNumberedSpec.plain.varTypes Tryz.prog++Tryz.f14.resultTypes.toList).any (Tryz.prog.wideKeysFrom ·)))=true:=by kernel_rfl
theorem It:(Rows.trunkNumberedSpec.vars.all (Tryz.prog.varReadable ·))=true:=by kernel_rfl
theorem Is:(Tryz.f14.resultTypes.all (fun t=>Tryz.prog.readableRec t && decide (t < Tryz.prog.types.size)))=true:=by kernel_rfl
theorem Ir:((Rows.trunkNumberedRow.ifacesOut == Tryz.f14.resultTypes.toList.any (Tryz.prog.ifacesRec ·)))=true:=by kernel_rfl
theorem Iq:((Rows.trunkNumberedRow.loopsOut == Tryz.f14.resultTypes.toList.any (Tryz.prog.loopsFrom ·)))=true:=by kernel_rfl
theorem Ip:((Rows.trunkNumberedRow.plainKeys == Tryz.prog.plainKeys))=true:=by kernel_rfl
theorem Io:(Rows.trunkNumberedRow.shortTexts.isNone)=true:=by kernel_rfl
theorem Im:(Tryz.prog.stopsHeard)=true:=by kernel_rfl
theorem Il:(Tryz.prog.mayEnter)=true:=by kernel_rfl
theorem Ik:((Rows.trunkNumberedRow.lifted == Tryz.prog.liftsFinal))=true:=by kernel_rfl
theorem Ij:((Tryz.prog.make == some Rows.trunkNumberedRow.make))=true:=by kernel_rfl
theorem Ii:((Rows.trunkNumberedRow.pinned == Rows.trunkNumberedRow.pinnedBy))=true:=by kernel_rfl
theorem Ih:((Rows.trunkNumberedRow.veiled == (Tryz.f14.params.toList++Rows.trunkNumberedSpec.plain.varTypes Tryz.prog++Tryz.f14.resultTypes.toList).any (Tryz.prog.veiledRec ·)))=true:=by kernel_rfl
theorem Ig:(Rows.trunkNumberedRow.veiledFits Tryz.prog Tryz.f14.params.toList (Tryz.f14.params.toList++Rows.trunkNumberedSpec.plain.varTypes Tryz.prog++Tryz.f14.resultTypes.toList))=true:=by kernel_rfl
end Go.Proofs.YtcnpijmfgfnpiaaGreatDoor
