import Derived.Test.YtmeojbemjkmebaaGreatDoorProg
import Derived.Test.YtmeojbemjkmebaaGreatDoorRows
import Derived.Conc.Holds
set_option linter.unusedVariables false
set_option linter.unusedSimpArgs false
namespace Go.Proofs.YtmeojbemjkmebaaGreatDoor
open Go Go.Proofs
theorem RJ:(Rows.trunkStringsRow.wf (OpenSpec.ofChange Rows.trunkStringsSpec))=true:=by kernel_rfl
theorem RI:(laidOutB Tryz.prog)=true:=by kernel_rfl
theorem RH:(mapsRowed Tryz.prog)=true:=by kernel_rfl
theorem RG:(Tryz.f4.params.all (Tryz.prog.readableRec ·))=true:=by kernel_rfl
theorem RF:(namedTie Tryz.prog Rows.trunkStringsRow.named Rows.trunkStringsSpec.vars)=true:=by kernel_rfl
theorem RE:((Rows.trunkStringsRow.stops == []))=true:=by kernel_rfl
theorem RD:((Tryz.prog.stops == []))=true:=by kernel_rfl
theorem RB:((Rows.trunkStringsRow.knobs == []))=true:=by kernel_rfl
theorem RA:((Tryz.prog.stopKnobs == []))=true:=by kernel_rfl
theorem Rz:((Rows.trunkStringsRow.inPlace == Tryz.prog.inPlace (4:FuncId)))=true:=by kernel_rfl
theorem Px:((Rows.trunkStringsRow.unfollowed == Tryz.prog.unfollowed (4:FuncId)))=true:=by kernel_rfl
theorem Po:((Rows.trunkStringsRow.recurses == Tryz.prog.recurses (4:FuncId)))=true:=by kernel_rfl
theorem Pn:((Rows.trunkStringsRow.named == Tryz.prog.varsNamed (4:FuncId)))=true:=by kernel_rfl
theorem Pm:((Rows.trunkStringsRow.maps == (Tryz.f4.params.toList++Rows.trunkStringsSpec.plain.varTypes Tryz.prog).any (Tryz.prog.mapsRec ·)))=true:=by kernel_rfl
theorem Pl:((Rows.trunkStringsRow.ifaces == (Tryz.f4.params.toList++Rows.trunkStringsSpec.plain.varTypes Tryz.prog).any (Tryz.prog.ifacesRec ·)))=true:=by kernel_rfl
theorem Pj:((Rows.trunkStringsRow.mapsOut == Tryz.prog.mapsAmong Tryz.f4.resultTypes.toList))=true:=by kernel_rfl
theorem Pi:((Rows.trunkStringsRow.loops == (Tryz.f4.params.toList++Rows.trunkStringsSpec.plain.varTypes Tryz.prog).any (Tryz.prog.loopsFrom ·)))=true:=by kernel_rfl
theorem Pg:((Rows.trunkStringsRow.wideKeys == (Tryz.f4.params.toList++Rows.trunkStringsSpec.plain.varTypes Tryz.prog++Tryz.f4.resultTypes.toList).any (Tryz.prog.wideKeysFrom ·)))=true:=by kernel_rfl
theorem Pe:(Rows.trunkStringsSpec.vars.all (Tryz.prog.varReadable ·))=true:=by kernel_rfl
theorem O9:(Tryz.f4.resultTypes.all (fun t=>Tryz.prog.readableRec t && decide (t < Tryz.prog.types.size)))=true:=by kernel_rfl
theorem O8:((Rows.trunkStringsRow.ifacesOut == Tryz.f4.resultTypes.toList.any (Tryz.prog.ifacesRec ·)))=true:=by kernel_rfl
theorem O7:((Rows.trunkStringsRow.loopsOut == Tryz.f4.resultTypes.toList.any (Tryz.prog.loopsFrom ·)))=true:=by kernel_rfl
theorem O6:((Rows.trunkStringsRow.plainKeys == Tryz.prog.plainKeys))=true:=by kernel_rfl
theorem O5:(Rows.trunkStringsRow.shortTexts.isNone)=true:=by kernel_rfl
theorem O4:(Tryz.prog.stopsHeard)=true:=by kernel_rfl
theorem O3:(Tryz.prog.mayEnter)=true:=by kernel_rfl
theorem O2:((Rows.trunkStringsRow.lifted == Tryz.prog.liftsFinal))=true:=by kernel_rfl
theorem O1:((Tryz.prog.make == some Rows.trunkStringsRow.make))=true:=by kernel_rfl
theorem O0:((Rows.trunkStringsRow.pinned == Rows.trunkStringsRow.pinnedBy))=true:=by kernel_rfl
theorem OZ:((Rows.trunkStringsRow.veiled == (Tryz.f4.params.toList++Rows.trunkStringsSpec.plain.varTypes Tryz.prog++Tryz.f4.resultTypes.toList).any (Tryz.prog.veiledRec ·)))=true:=by kernel_rfl
theorem OY:(Rows.trunkStringsRow.veiledFits Tryz.prog Tryz.f4.params.toList (Tryz.f4.params.toList++Rows.trunkStringsSpec.plain.varTypes Tryz.prog++Tryz.f4.resultTypes.toList))=true:=by kernel_rfl
end Go.Proofs.YtmeojbemjkmebaaGreatDoor
