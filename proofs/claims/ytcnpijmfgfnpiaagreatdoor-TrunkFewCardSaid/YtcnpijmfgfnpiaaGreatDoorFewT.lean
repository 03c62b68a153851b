import Derived.Test.YtcnpijmfgfnpiaaGreatDoorProg
import Derived.Test.YtcnpijmfgfnpiaaGreatDoorRows
import Derived.Conc.Holds
set_option linter.unusedVariables false
set_option linter.unusedSimpArgs false
namespace Go.Proofs.YtcnpijmfgfnpiaaGreatDoor
open Go Go.Proofs
theorem NZ:(Rows.trunkFewRow.wf (OpenSpec.ofChange Rows.trunkFewSpec))=true:=by kernel_rfl
theorem NY:(laidOutB Tryz.prog)=true:=by kernel_rfl
theorem NX:(mapsRowed Tryz.prog)=true:=by kernel_rfl
theorem NW:(Tryz.f21.params.all (Tryz.prog.readableRec ·))=true:=by kernel_rfl
theorem NV:(namedTie Tryz.prog Rows.trunkFewRow.named Rows.trunkFewSpec.vars)=true:=by kernel_rfl
theorem NU:((Rows.trunkFewRow.stops == []))=true:=by kernel_rfl
theorem NT:((Tryz.prog.stops == []))=true:=by kernel_rfl
theorem NS:((Rows.trunkFewRow.knobs == []))=true:=by kernel_rfl
theorem NR:((Tryz.prog.stopKnobs == []))=true:=by kernel_rfl
theorem NQ:((Rows.trunkFewRow.inPlace == Tryz.prog.inPlace (21:FuncId)))=true:=by kernel_rfl
theorem IC:((Rows.trunkFewRow.unfollowed == Tryz.prog.unfollowed (21:FuncId)))=true:=by kernel_rfl
theorem IB:((Rows.trunkFewRow.recurses == Tryz.prog.recurses (21:FuncId)))=true:=by kernel_rfl
theorem IA:((Rows.trunkFewRow.named == Tryz.prog.varsNamed (21:FuncId)))=true:=by kernel_rfl
theorem Iz:((Rows.trunkFewRow.maps == (Tryz.f21.params.toList++Rows.trunkFewSpec.plain.varTypes Tryz.prog).any (Tryz.prog.mapsRec ·)))=true:=by kernel_rfl
theorem Iy:((Rows.trunkFewRow.ifaces == (Tryz.f21.params.toList++Rows.trunkFewSpec.plain.varTypes Tryz.prog).any (Tryz.prog.ifacesRec ·)))=true:=by kernel_rfl
theorem Ix:((Rows.trunkFewRow.mapsOut == Tryz.prog.mapsAmong Tryz.f21.resultTypes.toList))=true:=by kernel_rfl
theorem Iw:((Rows.trunkFewRow.loops == (Tryz.f21.params.toList++Rows.trunkFewSpec.plain.varTypes Tryz.prog).any (Tryz.prog.loopsFrom ·)))=true:=by kernel_rfl
theorem Iu:((Rows.trunkFewRow.wideKeys == (Tryz.f21.params.toList++Rows.trunkFewSpec.plain.varTypes Tryz.prog++Tryz.f21.resultTypes.toList).any (Tryz.prog.wideKeysFrom ·)))=true:=by kernel_rfl
theorem It:(Rows.trunkFewSpec.vars.all (Tryz.prog.varReadable ·))=true:=by kernel_rfl
theorem Is:(Tryz.f21.resultTypes.all (fun t=>Tryz.prog.readableRec t && decide (t < Tryz.prog.types.size)))=true:=by kernel_rfl
theorem Ir:((Rows.trunkFewRow.ifacesOut == Tryz.f21.resultTypes.toList.any (Tryz.prog.ifacesRec ·)))=true:=by kernel_rfl
theorem Iq:((Rows.trunkFewRow.loopsOut == Tryz.f21.resultTypes.toList.any (Tryz.prog.loopsFrom ·)))=true:=by kernel_rfl
theorem Ip:((Rows.trunkFewRow.plainKeys == Tryz.prog.plainKeys))=true:=by kernel_rfl
theorem Io:(Rows.trunkFewRow.shortTexts.isNone)=true:=by kernel_rfl
theorem Im:(Tryz.prog.stopsHeard)=true:=by kernel_rfl
theorem Il:(Tryz.prog.mayEnter)=true:=by kernel_rfl
theorem Ik:((Rows.trunkFewRow.lifted == Tryz.prog.liftsFinal))=true:=by kernel_rfl
theorem Ij:((Tryz.prog.make == some Rows.trunkFewRow.make))=true:=by kernel_rfl
theorem Ii:((Rows.trunkFewRow.pinned == Rows.trunkFewRow.pinnedBy))=true:=by kernel_rfl
theorem Ih:((Rows.trunkFewRow.veiled == (Tryz.f21.params.toList++Rows.trunkFewSpec.plain.varTypes Tryz.prog++Tryz.f21.resultTypes.toList).any (Tryz.prog.veiledRec ·)))=true:=by kernel_rfl
theorem Ig:(Rows.trunkFewRow.veiledFits Tryz.prog Tryz.f21.params.toList (Tryz.f21.params.toList++Rows.trunkFewSpec.plain.varTypes Tryz.prog++Tryz.f21.resultTypes.toList))=true:=by kernel_rfl
end Go.Proofs.YtcnpijmfgfnpiaaGreatDoor
