import Derived.Test.YtcnpijmfgfnpiaaGreatDoorProg
import Derived.Test.YtcnpijmfgfnpiaaGreatDoorRows
import Derived.Conc.Holds
set_option linter.unusedVariables false
set_option linter.unusedSimpArgs false
namespace Go.Proofs.YtcnpijmfgfnpiaaGreatDoor
open Go Go.Proofs
theorem Nc:(Rows.trunkSwapRow.wf (OpenSpec.ofChange Rows.trunkSwapSpec))=true:=by kernel_rfl
theorem Nb:(laidOutB Tryz.prog)=true:=by kernel_rfl
theorem Na:(mapsRowed Tryz.prog)=true:=by kernel_rfl
theorem M9:(Tryz.f7.params.all (Tryz.prog.readableRec ·))=true:=by kernel_rfl
theorem M8:(namedTie Tryz.prog Rows.trunkSwapRow.named Rows.trunkSwapSpec.vars)=true:=by kernel_rfl
theorem M7:((Rows.trunkSwapRow.stops == []))=true:=by kernel_rfl
theorem M6:((Tryz.prog.stops == []))=true:=by kernel_rfl
theorem M5:((Rows.trunkSwapRow.knobs == []))=true:=by kernel_rfl
theorem M4:((Tryz.prog.stopKnobs == []))=true:=by kernel_rfl
theorem MZ:((Rows.trunkSwapRow.inPlace == Tryz.prog.inPlace (7:FuncId)))=true:=by kernel_rfl
theorem HO:((Rows.trunkSwapRow.unfollowed == Tryz.prog.unfollowed (7:FuncId)))=true:=by kernel_rfl
theorem HN:((Rows.trunkSwapRow.recurses == Tryz.prog.recurses (7:FuncId)))=true:=by kernel_rfl
theorem HM:((Rows.trunkSwapRow.named == Tryz.prog.varsNamed (7:FuncId)))=true:=by kernel_rfl
theorem HL:((Rows.trunkSwapRow.maps == (Tryz.f7.params.toList++Rows.trunkSwapSpec.plain.varTypes Tryz.prog).any (Tryz.prog.mapsRec ·)))=true:=by kernel_rfl
theorem HK:((Rows.trunkSwapRow.ifaces == (Tryz.f7.params.toList++Rows.trunkSwapSpec.plain.varTypes Tryz.prog).any (Tryz.prog.ifacesRec ·)))=true:=by kernel_rfl
theorem HJ:((Rows.trunkSwapRow.mapsOut == Tryz.prog.mapsAmong Tryz.f7.resultTypes.toList))=true:=by kernel_rfl
theorem HI:((Rows.trunkSwapRow.loops == (Tryz.f7.params.toList++Rows.trunkSwapSpec.plain.varTypes Tryz.prog).any (Tryz.prog.loopsFrom ·)))=true:=by kernel_rfl
theorem HH:((Rows.trunkSwapRow.wideKeys == (Tryz.f7.params.toList++Rows.trunkSwapSpec.plain.varTypes Tryz.prog++Tryz.f7.resultTypes.toList).any (Tryz.prog.wideKeysFrom ·)))=true:=by kernel_rfl
theorem HG:(Rows.trunkSwapSpec.vars.all (Tryz.prog.varReadable ·))=true:=by kernel_rfl
theorem HF:(Tryz.f7.resultTypes.all (fun t=>Tryz.prog.readableRec t && decide (t < Tryz.prog.types.size)))=true:=by kernel_rfl
theorem HE:((Rows.trunkSwapRow.ifacesOut == Tryz.f7.resultTypes.toList.any (Tryz.prog.ifacesRec ·)))=true:=by kernel_rfl
theorem HD:((Rows.trunkSwapRow.loopsOut == Tryz.f7.resultTypes.toList.any (Tryz.prog.loopsFrom ·)))=true:=by kernel_rfl
theorem HC:((Rows.trunkSwapRow.plainKeys == Tryz.prog.plainKeys))=true:=by kernel_rfl
theorem HB:(Rows.trunkSwapRow.shortTexts.isNone)=true:=by kernel_rfl
theorem HA:(Tryz.prog.stopsHeard)=true:=by kernel_rfl
theorem Hz:(Tryz.prog.mayEnter)=true:=by kernel_rfl
theorem Hy:((Rows.trunkSwapRow.lifted == Tryz.prog.liftsFinal))=true:=by kernel_rfl
theorem Hw:((Tryz.prog.make == some Rows.trunkSwapRow.make))=true:=by kernel_rfl
theorem Hv:((Rows.trunkSwapRow.pinned == Rows.trunkSwapRow.pinnedBy))=true:=by kernel_rfl
theorem Hu:((Rows.trunkSwapRow.veiled == (Tryz.f7.params.toList++Rows.trunkSwapSpec.plain.varTypes Tryz.prog++Tryz.f7.resultTypes.toList).any (Tryz.prog.veiledRec ·)))=true:=by kernel_rfl
theorem Ht:(Rows.trunkSwapRow.veiledFits Tryz.prog Tryz.f7.params.toList (Tryz.f7.params.toList++Rows.trunkSwapSpec.plain.varTypes Tryz.prog++Tryz.f7.resultTypes.toList))=true:=by kernel_rfl
end Go.Proofs.YtcnpijmfgfnpiaaGreatDoor
