import Derived.Test.YtcnpijmfgfnpiaaGreatDoorProg
import Derived.Test.YtcnpijmfgfnpiaaGreatDoorRows
import Derived.Conc.Holds
set_option linter.unusedVariables false
set_option linter.unusedSimpArgs false
namespace Go.Proofs.YtcnpijmfgfnpiaaGreatDoor
open Go Go.Proofs
theorem Nc:(Rows.trunkRepackRow.wf (OpenSpec.ofChange Rows.trunkRepackSpec))=true:=by kernel_rfl
theorem Nb:(laidOutB Tryz.prog)=true:=by kernel_rfl
theorem Na:(mapsRowed Tryz.prog)=true:=by kernel_rfl
theorem M9:(Tryz.f10.params.all (Tryz.prog.readableRec ·))=true:=by kernel_rfl
theorem M8:(namedTie Tryz.prog Rows.trunkRepackRow.named Rows.trunkRepackSpec.vars)=true:=by kernel_rfl
theorem M7:((Rows.trunkRepackRow.stops == []))=true:=by kernel_rfl
theorem M6:((Tryz.prog.stops == []))=true:=by kernel_rfl
theorem M5:((Rows.trunkRepackRow.knobs == []))=true:=by kernel_rfl
theorem M4:((Tryz.prog.stopKnobs == []))=true:=by kernel_rfl
theorem MZ:((Rows.trunkRepackRow.inPlace == Tryz.prog.inPlace (10:FuncId)))=true:=by kernel_rfl
theorem HO:((Rows.trunkRepackRow.unfollowed == Tryz.prog.unfollowed (10:FuncId)))=true:=by kernel_rfl
theorem HN:((Rows.trunkRepackRow.recurses == Tryz.prog.recurses (10:FuncId)))=true:=by kernel_rfl
theorem HM:((Rows.trunkRepackRow.named == Tryz.prog.varsNamed (10:FuncId)))=true:=by kernel_rfl
theorem HL:((Rows.trunkRepackRow.maps == (Tryz.f10.params.toList++Rows.trunkRepackSpec.plain.varTypes Tryz.prog).any (Tryz.prog.mapsRec ·)))=true:=by kernel_rfl
theorem HK:((Rows.trunkRepackRow.ifaces == (Tryz.f10.params.toList++Rows.trunkRepackSpec.plain.varTypes Tryz.prog).any (Tryz.prog.ifacesRec ·)))=true:=by kernel_rfl
theorem HJ:((Rows.trunkRepackRow.mapsOut == Tryz.prog.mapsAmong Tryz.f10.resultTypes.toList))=true:=by kernel_rfl
theorem HI:((Rows.trunkRepackRow.loops == (Tryz.f10.params.toList++Rows.trunkRepackSpec.plain.varTypes Tryz.prog).any (Tryz.prog.loopsFrom ·)))=true:=by kernel_rfl
theorem HH:((Rows.trunkRepackRow.wideKeys == (Tryz.f10.params.toList++Rows.trunkRepackSpec.plain.varTypes Tryz.prog++Tryz.f10.resultTypes.toList).any (Tryz.prog.wideKeysFrom ·)))=true:=by kernel_rfl
theorem HG:(Rows.trunkRepackSpec.vars.all (Tryz.prog.varReadable ·))=true:=by kernel_rfl
theorem HF:(Tryz.f10.resultTypes.all (fun t=>Tryz.prog.readableRec t && decide (t < Tryz.prog.types.size)))=true:=by kernel_rfl
theorem HE:((Rows.trunkRepackRow.ifacesOut == Tryz.f10.resultTypes.toList.any (Tryz.prog.ifacesRec ·)))=true:=by kernel_rfl
theorem HD:((Rows.trunkRepackRow.loopsOut == Tryz.f10.resultTypes.toList.any (Tryz.prog.loopsFrom ·)))=true:=by kernel_rfl
theorem HC:((Rows.trunkRepackRow.plainKeys == Tryz.prog.plainKeys))=true:=by kernel_rfl
theorem HB:(Rows.trunkRepackRow.shortTexts.isNone)=true:=by kernel_rfl
theorem HA:(Tryz.prog.stopsHeard)=true:=by kernel_rfl
theorem Hz:(Tryz.prog.mayEnter)=true:=by kernel_rfl
theorem Hy:((Rows.trunkRepackRow.lifted == Tryz.prog.liftsFinal))=true:=by kernel_rfl
theorem Hw:((Tryz.prog.make == some Rows.trunkRepackRow.make))=true:=by kernel_rfl
theorem Hv:((Rows.trunkRepackRow.pinned == Rows.trunkRepackRow.pinnedBy))=true:=by kernel_rfl
theorem Hu:((Rows.trunkRepackRow.veiled == (Tryz.f10.params.toList++Rows.trunkRepackSpec.plain.varTypes Tryz.prog++Tryz.f10.resultTypes.toList).any (Tryz.prog.veiledRec ·)))=true:=by kernel_rfl
theorem Ht:(Rows.trunkRepackRow.veiledFits Tryz.prog Tryz.f10.params.toList (Tryz.f10.params.toList++Rows.trunkRepackSpec.plain.varTypes Tryz.prog++Tryz.f10.resultTypes.toList))=true:=by kernel_rfl
end Go.Proofs.YtcnpijmfgfnpiaaGreatDoor
