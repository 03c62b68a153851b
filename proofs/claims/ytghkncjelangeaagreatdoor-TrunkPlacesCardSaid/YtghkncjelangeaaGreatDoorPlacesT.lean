import Derived.Test.YtghkncjelangeaaGreatDoorProg
import Derived.Test.YtghkncjelangeaaGreatDoorRows
import Derived.Conc.Holds
set_option linter.unusedVariables false
set_option linter.unusedSimpArgs false
namespace Go.Proofs.YtghkncjelangeaaGreatDoor
open Go Go.Proofs
theorem R9:(Rows.trunkPlacesRow.wf (OpenSpec.ofChange Rows.trunkPlacesSpec))=true:=by kernel_rfl
theorem R7:(laidOutB Tryz.prog)=true:=by kernel_rfl
theorem R2:(mapsRowed Tryz.prog)=true:=by kernel_rfl
theorem RZ:(Tryz.f8.params.all (Tryz.prog.readableRec ·))=true:=by kernel_rfl
theorem RY:(namedTie Tryz.prog Rows.trunkPlacesRow.named Rows.trunkPlacesSpec.vars)=true:=by kernel_rfl
theorem RX:((Rows.trunkPlacesRow.stops == []))=true:=by kernel_rfl
theorem RV:((Tryz.prog.stops == []))=true:=by kernel_rfl
theorem RU:((Rows.trunkPlacesRow.knobs == []))=true:=by kernel_rfl
theorem RS:((Tryz.prog.stopKnobs == []))=true:=by kernel_rfl
theorem RR:((Rows.trunkPlacesRow.inPlace == Tryz.prog.inPlace (8:FuncId)))=true:=by kernel_rfl
theorem PI:((Rows.trunkPlacesRow.unfollowed == Tryz.prog.unfollowed (8:FuncId)))=true:=by kernel_rfl
theorem PH:((Rows.trunkPlacesRow.recurses == Tryz.prog.recurses (8:FuncId)))=true:=by kernel_rfl
theorem PG:((Rows.trunkPlacesRow.named == Tryz.prog.varsNamed (8:FuncId)))=true:=by kernel_rfl
theorem PE:((Rows.trunkPlacesRow.maps == (Tryz.f8.params.toList++Rows.trunkPlacesSpec.plain.varTypes Tryz.prog).any (Tryz.prog.mapsRec ·)))=true:=by kernel_rfl
theorem PD:((Rows.trunkPlacesRow.ifaces == (Tryz.f8.params.toList++Rows.trunkPlacesSpec.plain.varTypes Tryz.prog).any (Tryz.prog.ifacesRec ·)))=true:=by kernel_rfl
theorem PC:((Rows.trunkPlacesRow.mapsOut == Tryz.prog.mapsAmong Tryz.f8.resultTypes.toList))=true:=by kernel_rfl
theorem Pz:((Rows.trunkPlacesRow.loops == (Tryz.f8.params.toList++Rows.trunkPlacesSpec.plain.varTypes Tryz.prog).any (Tryz.prog.loopsFrom ·)))=true:=by kernel_rfl
theorem Py:((Rows.trunkPlacesRow.wideKeys == (Tryz.f8.params.toList++Rows.trunkPlacesSpec.plain.varTypes Tryz.prog++Tryz.f8.resultTypes.toList).any (Tryz.prog.wideKeysFrom ·)))=true:=by kernel_rfl
theorem Px:(Rows.trunkPlacesSpec.vars.all (Tryz.prog.varReadable ·))=true:=by kernel_rfl
theorem Po:(Tryz.f8.resultTypes.all (fun t=>Tryz.prog.readableRec t && decide (t < Tryz.prog.types.size)))=true:=by kernel_rfl
theorem Pn:((Rows.trunkPlacesRow.ifacesOut == Tryz.f8.resultTypes.toList.any (Tryz.prog.ifacesRec ·)))=true:=by kernel_rfl
theorem Pm:((Rows.trunkPlacesRow.loopsOut == Tryz.f8.resultTypes.toList.any (Tryz.prog.loopsFrom ·)))=true:=by kernel_rfl
theorem Pl:((Rows.trunkPlacesRow.plainKeys == Tryz.prog.plainKeys))=true:=by kernel_rfl
theorem Pj:(Rows.trunkPlacesRow.shortTexts.isNone)=true:=by kernel_rfl
theorem Pi:(Tryz.prog.stopsHeard)=true:=by kernel_rfl
theorem Pg:(Tryz.prog.mayEnter)=true:=by kernel_rfl
theorem Pe:((Rows.trunkPlacesRow.lifted == Tryz.prog.liftsFinal))=true:=by kernel_rfl
theorem O9:((Tryz.prog.make == some Rows.trunkPlacesRow.make))=true:=by kernel_rfl
theorem O8:((Rows.trunkPlacesRow.pinned == Rows.trunkPlacesRow.pinnedBy))=true:=by kernel_rfl
theorem O7:((Rows.trunkPlacesRow.veiled == (Tryz.f8.params.toList++Rows.trunkPlacesSpec.plain.varTypes Tryz.prog++Tryz.f8.resultTypes.toList).any (Tryz.prog.veiledRec ·)))=true:=by kernel_rfl
theorem O6:(Rows.trunkPlacesRow.veiledFits Tryz.prog Tryz.f8.params.toList (Tryz.f8.params.toList++Rows.trunkPlacesSpec.plain.varTypes Tryz.prog++Tryz.f8.resultTypes.toList))=true:=by kernel_rfl
end Go.Proofs.YtghkncjelangeaaGreatDoor
