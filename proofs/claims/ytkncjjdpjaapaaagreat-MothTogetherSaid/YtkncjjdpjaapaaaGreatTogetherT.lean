import Derived.Test.YtkncjjdpjaapaaaGreatProg
import Derived.Test.YtkncjjdpjaapaaaGreatRows
import Derived.Conc.Holds
set_option linter.unusedVariables false
set_option linter.unusedSimpArgs false
namespace Go.Proofs.YtkncjjdpjaapaaaGreat
open Go Go.Proofs
theorem QK:(Rows.mothTogetherRow.wf (OpenSpec.ofChange Rows.mothTogetherSpec))=true:=by kernel_rfl
theorem QJ:(laidOutB Tryz.prog)=true:=by kernel_rfl
theorem QI:(mapsRowed Tryz.prog)=true:=by kernel_rfl
theorem QH:(Tryz.f3.params.all (Tryz.prog.readableRec ·))=true:=by kernel_rfl
theorem QG:(namedTie Tryz.prog Rows.mothTogetherRow.named Rows.mothTogetherSpec.vars)=true:=by kernel_rfl
theorem QF:((Rows.mothTogetherRow.stops == []))=true:=by kernel_rfl
theorem QE:((Tryz.prog.stops == []))=true:=by kernel_rfl
theorem QD:((Rows.mothTogetherRow.knobs == []))=true:=by kernel_rfl
theorem QC:((Tryz.prog.stopKnobs == []))=true:=by kernel_rfl
theorem QB:((Rows.mothTogetherRow.inPlace == Tryz.prog.inPlace (3:FuncId)))=true:=by kernel_rfl
theorem OZ:((Rows.mothTogetherRow.unfollowed == Tryz.prog.unfollowed (3:FuncId)))=true:=by kernel_rfl
theorem OY:((Rows.mothTogetherRow.recurses == Tryz.prog.recurses (3:FuncId)))=true:=by kernel_rfl
theorem OX:((Rows.mothTogetherRow.named == Tryz.prog.varsNamed (3:FuncId)))=true:=by kernel_rfl
theorem OW:((Rows.mothTogetherRow.maps == (Tryz.f3.params.toList++Rows.mothTogetherSpec.plain.varTypes Tryz.prog).any (Tryz.prog.mapsRec ·)))=true:=by kernel_rfl
theorem OU:((Rows.mothTogetherRow.ifaces == (Tryz.f3.params.toList++Rows.mothTogetherSpec.plain.varTypes Tryz.prog).any (Tryz.prog.ifacesRec ·)))=true:=by kernel_rfl
theorem OT:((Rows.mothTogetherRow.mapsOut == Tryz.prog.mapsAmong Tryz.f3.resultTypes.toList))=true:=by kernel_rfl
theorem OS:((Rows.mothTogetherRow.loops == (Tryz.f3.params.toList++Rows.mothTogetherSpec.plain.varTypes Tryz.prog).any (Tryz.prog.loopsFrom ·)))=true:=by kernel_rfl
theorem OR:((Rows.mothTogetherRow.wideKeys == (Tryz.f3.params.toList++Rows.mothTogetherSpec.plain.varTypes Tryz.prog++Tryz.f3.resultTypes.toList).any (Tryz.prog.wideKeysFrom ·)))=true:=by kernel_rfl
theorem OQ:(Rows.mothTogetherSpec.vars.all (Tryz.prog.varReadable ·))=true:=by kernel_rfl
theorem OP:(Tryz.f3.resultTypes.all (fun t=>Tryz.prog.readableRec t && decide (t < Tryz.prog.types.size)))=true:=by kernel_rfl
theorem OO:((Rows.mothTogetherRow.ifacesOut == Tryz.f3.resultTypes.toList.any (Tryz.prog.ifacesRec ·)))=true:=by kernel_rfl
theorem ON:((Rows.mothTogetherRow.loopsOut == Tryz.f3.resultTypes.toList.any (Tryz.prog.loopsFrom ·)))=true:=by kernel_rfl
theorem OM:((Rows.mothTogetherRow.plainKeys == Tryz.prog.plainKeys))=true:=by kernel_rfl
theorem OL:(Rows.mothTogetherRow.shortTexts.isNone)=true:=by kernel_rfl
theorem OK:(Tryz.prog.stopsHeard)=true:=by kernel_rfl
theorem OJ:(Tryz.prog.mayEnter)=true:=by kernel_rfl
theorem OI:((Rows.mothTogetherRow.lifted == Tryz.prog.liftsFinal))=true:=by kernel_rfl
theorem OH:((Tryz.prog.make == some Rows.mothTogetherRow.make))=true:=by kernel_rfl
theorem OG:((Rows.mothTogetherRow.pinned == Rows.mothTogetherRow.pinnedBy))=true:=by kernel_rfl
theorem OF:((Rows.mothTogetherRow.veiled == (Tryz.f3.params.toList++Rows.mothTogetherSpec.plain.varTypes Tryz.prog++Tryz.f3.resultTypes.toList).any (Tryz.prog.veiledRec ·)))=true:=by kernel_rfl
theorem OE:(Rows.mothTogetherRow.veiledFits Tryz.prog Tryz.f3.params.toList (Tryz.f3.params.toList++Rows.mothTogetherSpec.plain.varTypes Tryz.prog++Tryz.f3.resultTypes.toList))=true:=by kernel_rfl
end Go.Proofs.YtkncjjdpjaapaaaGreat
