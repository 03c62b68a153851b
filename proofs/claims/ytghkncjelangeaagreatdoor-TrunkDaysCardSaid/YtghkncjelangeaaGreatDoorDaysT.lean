import Derived.Test.YtghkncjelangeaaGreatDoorProg
import Derived.Test.YtghkncjelangeaaGreatDoorRows
import Derived.Conc.Holds
set_option linter.unusedVariables false
set_option linter.unusedSimpArgs false
namespace Go.Proofs.YtghkncjelangeaaGreatDoor
open Go Go.Proofs
theorem RF:(Rows.trunkDaysRow.wf (OpenSpec.ofChange Rows.trunkDaysSpec))=true:=by kernel_rfl
theorem RE:(laidOutB Tryz.prog)=true:=by kernel_rfl
theorem RD:(mapsRowed Tryz.prog)=true:=by kernel_rfl
theorem RB:(Tryz.f3.params.all (Tryz.prog.readableRec ·))=true:=by kernel_rfl
theorem RA:(namedTie Tryz.prog Rows.trunkDaysRow.named Rows.trunkDaysSpec.vars)=true:=by kernel_rfl
theorem Rz:((Rows.trunkDaysRow.stops == []))=true:=by kernel_rfl
theorem Ry:((Tryz.prog.stops == []))=true:=by kernel_rfl
theorem Rx:((Rows.trunkDaysRow.knobs == []))=true:=by kernel_rfl
theorem Rw:((Tryz.prog.stopKnobs == []))=true:=by kernel_rfl
theorem Ru:((Rows.trunkDaysRow.inPlace == Tryz.prog.inPlace (3:FuncId)))=true:=by kernel_rfl
theorem Pi:((Rows.trunkDaysRow.unfollowed == Tryz.prog.unfollowed (3:FuncId)))=true:=by kernel_rfl
theorem Pg:((Rows.trunkDaysRow.recurses == Tryz.prog.recurses (3:FuncId)))=true:=by kernel_rfl
theorem Pe:((Rows.trunkDaysRow.named == Tryz.prog.varsNamed (3:FuncId)))=true:=by kernel_rfl
theorem O9:((Rows.trunkDaysRow.maps == (Tryz.f3.params.toList++Rows.trunkDaysSpec.plain.varTypes Tryz.prog).any (Tryz.prog.mapsRec ·)))=true:=by kernel_rfl
theorem O8:((Rows.trunkDaysRow.ifaces == (Tryz.f3.params.toList++Rows.trunkDaysSpec.plain.varTypes Tryz.prog).any (Tryz.prog.ifacesRec ·)))=true:=by kernel_rfl
theorem O7:((Rows.trunkDaysRow.mapsOut == Tryz.prog.mapsAmong Tryz.f3.resultTypes.toList))=true:=by kernel_rfl
theorem O6:((Rows.trunkDaysRow.loops == (Tryz.f3.params.toList++Rows.trunkDaysSpec.plain.varTypes Tryz.prog).any (Tryz.prog.loopsFrom ·)))=true:=by kernel_rfl
theorem O5:((Rows.trunkDaysRow.wideKeys == (Tryz.f3.params.toList++Rows.trunkDaysSpec.plain.varTypes Tryz.prog++Tryz.f3.resultTypes.toList).any (Tryz.prog.wideKeysFrom ·)))=true:=by kernel_rfl
theorem O4:(Rows.trunkDaysSpec.vars.all (Tryz.prog.varReadable ·))=true:=by kernel_rfl
theorem O3:(Tryz.f3.resultTypes.all (fun t=>Tryz.prog.readableRec t && decide (t < Tryz.prog.types.size)))=true:=by kernel_rfl
theorem O2:((Rows.trunkDaysRow.ifacesOut == Tryz.f3.resultTypes.toList.any (Tryz.prog.ifacesRec ·)))=true:=by kernel_rfl
theorem O1:((Rows.trunkDaysRow.loopsOut == Tryz.f3.resultTypes.toList.any (Tryz.prog.loopsFrom ·)))=true:=by kernel_rfl
theorem O0:((Rows.trunkDaysRow.plainKeys == Tryz.prog.plainKeys))=true:=by kernel_rfl
theorem OZ:(Rows.trunkDaysRow.shortTexts.isNone)=true:=by kernel_rfl
theorem OY:(Tryz.prog.stopsHeard)=true:=by kernel_rfl
theorem OX:(Tryz.prog.mayEnter)=true:=by kernel_rfl
theorem OW:((Rows.trunkDaysRow.lifted == Tryz.prog.liftsFinal))=true:=by kernel_rfl
theorem OU:((Tryz.prog.make == some Rows.trunkDaysRow.make))=true:=by kernel_rfl
theorem OT:((Rows.trunkDaysRow.pinned == Rows.trunkDaysRow.pinnedBy))=true:=by kernel_rfl
theorem OS:((Rows.trunkDaysRow.veiled == (Tryz.f3.params.toList++Rows.trunkDaysSpec.plain.varTypes Tryz.prog++Tryz.f3.resultTypes.toList).any (Tryz.prog.veiledRec ·)))=true:=by kernel_rfl
theorem OR:(Rows.trunkDaysRow.veiledFits Tryz.prog Tryz.f3.params.toList (Tryz.f3.params.toList++Rows.trunkDaysSpec.plain.varTypes Tryz.prog++Tryz.f3.resultTypes.toList))=true:=by kernel_rfl
end Go.Proofs.YtghkncjelangeaaGreatDoor
