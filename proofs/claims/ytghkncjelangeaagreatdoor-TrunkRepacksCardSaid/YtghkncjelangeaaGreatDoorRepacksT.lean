import Derived.Test.YtghkncjelangeaaGreatDoorProg
import Derived.Test.YtghkncjelangeaaGreatDoorRows
import Derived.Conc.Holds
set_option linter.unusedVariables false
set_option linter.unusedSimpArgs false
namespace Go.Proofs.YtghkncjelangeaaGreatDoor
open Go Go.Proofs
theorem SX:(Rows.trunkRepacksRow.wf (OpenSpec.ofChange Rows.trunkRepacksSpec))=true:=by kernel_rfl
theorem SV:(laidOutB Tryz.prog)=true:=by kernel_rfl
theorem SU:(mapsRowed Tryz.prog)=true:=by kernel_rfl
theorem SS:(Tryz.f5.params.all (Tryz.prog.readableRec ·))=true:=by kernel_rfl
theorem SR:(namedTie Tryz.prog Rows.trunkRepacksRow.named Rows.trunkRepacksSpec.vars)=true:=by kernel_rfl
theorem SQ:((Rows.trunkRepacksRow.stops == []))=true:=by kernel_rfl
theorem SO:((Tryz.prog.stops == []))=true:=by kernel_rfl
theorem SN:((Rows.trunkRepacksRow.knobs == []))=true:=by kernel_rfl
theorem SL:((Tryz.prog.stopKnobs == []))=true:=by kernel_rfl
theorem SK:((Rows.trunkRepacksRow.inPlace == Tryz.prog.inPlace (5:FuncId)))=true:=by kernel_rfl
theorem Qb:((Rows.trunkRepacksRow.unfollowed == Tryz.prog.unfollowed (5:FuncId)))=true:=by kernel_rfl
theorem Qa:((Rows.trunkRepacksRow.recurses == Tryz.prog.recurses (5:FuncId)))=true:=by kernel_rfl
theorem P9:((Rows.trunkRepacksRow.named == Tryz.prog.varsNamed (5:FuncId)))=true:=by kernel_rfl
theorem P8:((Rows.trunkRepacksRow.maps == (Tryz.f5.params.toList++Rows.trunkRepacksSpec.plain.varTypes Tryz.prog).any (Tryz.prog.mapsRec ·)))=true:=by kernel_rfl
theorem P7:((Rows.trunkRepacksRow.ifaces == (Tryz.f5.params.toList++Rows.trunkRepacksSpec.plain.varTypes Tryz.prog).any (Tryz.prog.ifacesRec ·)))=true:=by kernel_rfl
theorem P6:((Rows.trunkRepacksRow.mapsOut == Tryz.prog.mapsAmong Tryz.f5.resultTypes.toList))=true:=by kernel_rfl
theorem P5:((Rows.trunkRepacksRow.loops == (Tryz.f5.params.toList++Rows.trunkRepacksSpec.plain.varTypes Tryz.prog).any (Tryz.prog.loopsFrom ·)))=true:=by kernel_rfl
theorem P4:((Rows.trunkRepacksRow.wideKeys == (Tryz.f5.params.toList++Rows.trunkRepacksSpec.plain.varTypes Tryz.prog++Tryz.f5.resultTypes.toList).any (Tryz.prog.wideKeysFrom ·)))=true:=by kernel_rfl
theorem P3:(Rows.trunkRepacksSpec.vars.all (Tryz.prog.varReadable ·))=true:=by kernel_rfl
theorem P2:(Tryz.f5.resultTypes.all (fun t=>Tryz.prog.readableRec t && decide (t < Tryz.prog.types.size)))=true:=by kernel_rfl
theorem P1:((Rows.trunkRepacksRow.ifacesOut == Tryz.f5.resultTypes.toList.any (Tryz.prog.ifacesRec ·)))=true:=by kernel_rfl
theorem P0:((Rows.trunkRepacksRow.loopsOut == Tryz.f5.resultTypes.toList.any (Tryz.prog.loopsFrom ·)))=true:=by kernel_rfl
theorem PZ:((Rows.trunkRepacksRow.plainKeys == Tryz.prog.plainKeys))=true:=by kernel_rfl
theorem PY:(Rows.trunkRepacksRow.shortTexts.isNone)=true:=by kernel_rfl
theorem PX:(Tryz.prog.stopsHeard)=true:=by kernel_rfl
theorem PW:(Tryz.prog.mayEnter)=true:=by kernel_rfl
theorem PV:((Rows.trunkRepacksRow.lifted == Tryz.prog.liftsFinal))=true:=by kernel_rfl
theorem PU:((Tryz.prog.make == some Rows.trunkRepacksRow.make))=true:=by kernel_rfl
theorem PT:((Rows.trunkRepacksRow.pinned == Rows.trunkRepacksRow.pinnedBy))=true:=by kernel_rfl
theorem PS:((Rows.trunkRepacksRow.veiled == (Tryz.f5.params.toList++Rows.trunkRepacksSpec.plain.varTypes Tryz.prog++Tryz.f5.resultTypes.toList).any (Tryz.prog.veiledRec ·)))=true:=by kernel_rfl
theorem PR:(Rows.trunkRepacksRow.veiledFits Tryz.prog Tryz.f5.params.toList (Tryz.f5.params.toList++Rows.trunkRepacksSpec.plain.varTypes Tryz.prog++Tryz.f5.resultTypes.toList))=true:=by kernel_rfl
end Go.Proofs.YtghkncjelangeaaGreatDoor
