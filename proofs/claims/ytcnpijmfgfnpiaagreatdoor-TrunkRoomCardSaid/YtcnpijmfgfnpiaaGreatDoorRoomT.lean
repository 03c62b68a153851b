import Derived.Test.YtcnpijmfgfnpiaaGreatDoorProg
import Derived.Test.YtcnpijmfgfnpiaaGreatDoorRows
import Derived.Conc.Holds
set_option linter.unusedVariables false
set_option linter.unusedSimpArgs false
namespace Go.Proofs.YtcnpijmfgfnpiaaGreatDoor
open Go Go.Proofs
theorem QM:(Rows.trunkRoomRow.wf (OpenSpec.ofChange Rows.trunkRoomSpec))=true:=by kernel_rfl
theorem QL:(laidOutB Tryz.prog)=true:=by kernel_rfl
theorem QK:(mapsRowed Tryz.prog)=true:=by kernel_rfl
theorem QJ:(Tryz.f8.params.all (Tryz.prog.readableRec ·))=true:=by kernel_rfl
theorem QI:(namedTie Tryz.prog Rows.trunkRoomRow.named Rows.trunkRoomSpec.vars)=true:=by kernel_rfl
theorem QH:((Rows.trunkRoomRow.stops == []))=true:=by kernel_rfl
theorem QG:((Tryz.prog.stops == []))=true:=by kernel_rfl
theorem QF:((Rows.trunkRoomRow.knobs == []))=true:=by kernel_rfl
theorem QE:((Tryz.prog.stopKnobs == []))=true:=by kernel_rfl
theorem QD:((Rows.trunkRoomRow.inPlace == Tryz.prog.inPlace (8:FuncId)))=true:=by kernel_rfl
theorem Oz:((Rows.trunkRoomRow.unfollowed == Tryz.prog.unfollowed (8:FuncId)))=true:=by kernel_rfl
theorem Oy:((Rows.trunkRoomRow.recurses == Tryz.prog.recurses (8:FuncId)))=true:=by kernel_rfl
theorem Ox:((Rows.trunkRoomRow.named == Tryz.prog.varsNamed (8:FuncId)))=true:=by kernel_rfl
theorem Ov:((Rows.trunkRoomRow.maps == (Tryz.f8.params.toList++Rows.trunkRoomSpec.plain.varTypes Tryz.prog).any (Tryz.prog.mapsRec ·)))=true:=by kernel_rfl
theorem Ou:((Rows.trunkRoomRow.ifaces == (Tryz.f8.params.toList++Rows.trunkRoomSpec.plain.varTypes Tryz.prog).any (Tryz.prog.ifacesRec ·)))=true:=by kernel_rfl
theorem Ot:((Rows.trunkRoomRow.mapsOut == Tryz.prog.mapsAmong Tryz.f8.resultTypes.toList))=true:=by kernel_rfl
theorem Oq:((Rows.trunkRoomRow.loops == (Tryz.f8.params.toList++Rows.trunkRoomSpec.plain.varTypes Tryz.prog).any (Tryz.prog.loopsFrom ·)))=true:=by kernel_rfl
theorem Oo:((Rows.trunkRoomRow.wideKeys == (Tryz.f8.params.toList++Rows.trunkRoomSpec.plain.varTypes Tryz.prog++Tryz.f8.resultTypes.toList).any (Tryz.prog.wideKeysFrom ·)))=true:=by kernel_rfl
theorem On:(Rows.trunkRoomSpec.vars.all (Tryz.prog.varReadable ·))=true:=by kernel_rfl
theorem Om:(Tryz.f8.resultTypes.all (fun t=>Tryz.prog.readableRec t && decide (t < Tryz.prog.types.size)))=true:=by kernel_rfl
theorem Ol:((Rows.trunkRoomRow.ifacesOut == Tryz.f8.resultTypes.toList.any (Tryz.prog.ifacesRec ·)))=true:=by kernel_rfl
theorem Oj:((Rows.trunkRoomRow.loopsOut == Tryz.f8.resultTypes.toList.any (Tryz.prog.loopsFrom ·)))=true:=by kernel_rfl
theorem Oi:((Rows.trunkRoomRow.plainKeys == Tryz.prog.plainKeys))=true:=by kernel_rfl
theorem Oh:(Rows.trunkRoomRow.shortTexts.isNone)=true:=by kernel_rfl
theorem Og:(Tryz.prog.stopsHeard)=true:=by kernel_rfl
theorem Of:(Tryz.prog.mayEnter)=true:=by kernel_rfl
theorem Oe:((Rows.trunkRoomRow.lifted == Tryz.prog.liftsFinal))=true:=by kernel_rfl
theorem Oc:((Tryz.prog.make == some Rows.trunkRoomRow.make))=true:=by kernel_rfl
theorem Ob:((Rows.trunkRoomRow.pinned == Rows.trunkRoomRow.pinnedBy))=true:=by kernel_rfl
theorem Oa:((Rows.trunkRoomRow.veiled == (Tryz.f8.params.toList++Rows.trunkRoomSpec.plain.varTypes Tryz.prog++Tryz.f8.resultTypes.toList).any (Tryz.prog.veiledRec ·)))=true:=by kernel_rfl
theorem N9:(Rows.trunkRoomRow.veiledFits Tryz.prog Tryz.f8.params.toList (Tryz.f8.params.toList++Rows.trunkRoomSpec.plain.varTypes Tryz.prog++Tryz.f8.resultTypes.toList))=true:=by kernel_rfl
end Go.Proofs.YtcnpijmfgfnpiaaGreatDoor
