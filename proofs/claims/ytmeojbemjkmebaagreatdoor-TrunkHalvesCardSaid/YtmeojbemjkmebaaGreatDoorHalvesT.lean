import Derived.Test.YtmeojbemjkmebaaGreatDoorProg
import Derived.Test.YtmeojbemjkmebaaGreatDoorRows
import Derived.Conc.Holds
set_option linter.unusedVariables false
set_option linter.unusedSimpArgs false
namespace Go.Proofs.YtmeojbemjkmebaaGreatDoor
open Go Go.Proofs
theorem Q5:(Rows.trunkHalvesRow.wf (OpenSpec.ofChange Rows.trunkHalvesSpec))=true:=by kernel_rfl
theorem Q4:(laidOutB Tryz.prog)=true:=by kernel_rfl
theorem Q3:(mapsRowed Tryz.prog)=true:=by kernel_rfl
theorem Q2:(Tryz.f3.params.all (Tryz.prog.readableRec ·))=true:=by kernel_rfl
theorem Q1:(namedTie Tryz.prog Rows.trunkHalvesRow.named Rows.trunkHalvesSpec.vars)=true:=by kernel_rfl
theorem Q0:((Rows.trunkHalvesRow.stops == []))=true:=by kernel_rfl
theorem QZ:((Tryz.prog.stops == []))=true:=by kernel_rfl
theorem QY:((Rows.trunkHalvesRow.knobs == []))=true:=by kernel_rfl
theorem QX:((Tryz.prog.stopKnobs == []))=true:=by kernel_rfl
theorem QW:((Rows.trunkHalvesRow.inPlace == Tryz.prog.inPlace (3:FuncId)))=true:=by kernel_rfl
theorem OT:((Rows.trunkHalvesRow.unfollowed == Tryz.prog.unfollowed (3:FuncId)))=true:=by kernel_rfl
theorem OS:((Rows.trunkHalvesRow.recurses == Tryz.prog.recurses (3:FuncId)))=true:=by kernel_rfl
theorem OR:((Rows.trunkHalvesRow.named == Tryz.prog.varsNamed (3:FuncId)))=true:=by kernel_rfl
theorem OQ:((Rows.trunkHalvesRow.maps == (Tryz.f3.params.toList++Rows.trunkHalvesSpec.plain.varTypes Tryz.prog).any (Tryz.prog.mapsRec ·)))=true:=by kernel_rfl
theorem OP:((Rows.trunkHalvesRow.ifaces == (Tryz.f3.params.toList++Rows.trunkHalvesSpec.plain.varTypes Tryz.prog).any (Tryz.prog.ifacesRec ·)))=true:=by kernel_rfl
theorem OO:((Rows.trunkHalvesRow.mapsOut == Tryz.prog.mapsAmong Tryz.f3.resultTypes.toList))=true:=by kernel_rfl
theorem ON:((Rows.trunkHalvesRow.loops == (Tryz.f3.params.toList++Rows.trunkHalvesSpec.plain.varTypes Tryz.prog).any (Tryz.prog.loopsFrom ·)))=true:=by kernel_rfl
theorem OM:((Rows.trunkHalvesRow.wideKeys == (Tryz.f3.params.toList++Rows.trunkHalvesSpec.plain.varTypes Tryz.prog++Tryz.f3.resultTypes.toList).any (Tryz.prog.wideKeysFrom ·)))=true:=by kernel_rfl
theorem OL:(Rows.trunkHalvesSpec.vars.all (Tryz.prog.varReadable ·))=true:=by kernel_rfl
theorem OK:(Tryz.f3.resultTypes.all (fun t=>Tryz.prog.readableRec t && decide (t < Tryz.prog.types.size)))=true:=by kernel_rfl
theorem OJ:((Rows.trunkHalvesRow.ifacesOut == Tryz.f3.resultTypes.toList.any (Tryz.prog.ifacesRec ·)))=true:=by kernel_rfl
theorem OI:((Rows.trunkHalvesRow.loopsOut == Tryz.f3.resultTypes.toList.any (Tryz.prog.loopsFrom ·)))=true:=by kernel_rfl
theorem OH:((Rows.trunkHalvesRow.plainKeys == Tryz.prog.plainKeys))=true:=by kernel_rfl
theorem OG:(Rows.trunkHalvesRow.shortTexts.isNone)=true:=by kernel_rfl
theorem OF:(Tryz.prog.stopsHeard)=true:=by kernel_rfl
theorem OE:(Tryz.prog.mayEnter)=true:=by kernel_rfl
theorem OD:((Rows.trunkHalvesRow.lifted == Tryz.prog.liftsFinal))=true:=by kernel_rfl
theorem OC:((Tryz.prog.make == some Rows.trunkHalvesRow.make))=true:=by kernel_rfl
theorem OB:((Rows.trunkHalvesRow.pinned == Rows.trunkHalvesRow.pinnedBy))=true:=by kernel_rfl
theorem OA:((Rows.trunkHalvesRow.veiled == (Tryz.f3.params.toList++Rows.trunkHalvesSpec.plain.varTypes Tryz.prog++Tryz.f3.resultTypes.toList).any (Tryz.prog.veiledRec ·)))=true:=by kernel_rfl
theorem Oz:(Rows.trunkHalvesRow.veiledFits Tryz.prog Tryz.f3.params.toList (Tryz.f3.params.toList++Rows.trunkHalvesSpec.plain.varTypes Tryz.prog++Tryz.f3.resultTypes.toList))=true:=by kernel_rfl
end Go.Proofs.YtmeojbemjkmebaaGreatDoor
