import Derived.Test.YtmeojbemjkmebaaGreatDoorProg
import Derived.Test.YtmeojbemjkmebaaGreatDoorRows
import Derived.Conc.Holds
set_option linter.unusedVariables false
set_option linter.unusedSimpArgs false
namespace Go.Proofs.YtmeojbemjkmebaaGreatDoor
open Go Go.Proofs
theorem Tm:(Rows.trunkSwapsRow.wf (OpenSpec.ofChange Rows.trunkSwapsSpec))=true:=by kernel_rfl
theorem Tj:(laidOutB Tryz.prog)=true:=by kernel_rfl
theorem Ti:(mapsRowed Tryz.prog)=true:=by kernel_rfl
theorem Tf:(Tryz.f6.params.all (Tryz.prog.readableRec ·))=true:=by kernel_rfl
theorem Td:(namedTie Tryz.prog Rows.trunkSwapsRow.named Rows.trunkSwapsSpec.vars)=true:=by kernel_rfl
theorem Ta:((Rows.trunkSwapsRow.stops == []))=true:=by kernel_rfl
theorem S9:((Tryz.prog.stops == []))=true:=by kernel_rfl
theorem S8:((Rows.trunkSwapsRow.knobs == []))=true:=by kernel_rfl
theorem S7:((Tryz.prog.stopKnobs == []))=true:=by kernel_rfl
theorem S5:((Rows.trunkSwapsRow.inPlace == Tryz.prog.inPlace (6:FuncId)))=true:=by kernel_rfl
theorem Qo:((Rows.trunkSwapsRow.unfollowed == Tryz.prog.unfollowed (6:FuncId)))=true:=by kernel_rfl
theorem Qn:((Rows.trunkSwapsRow.recurses == Tryz.prog.recurses (6:FuncId)))=true:=by kernel_rfl
theorem Qm:((Rows.trunkSwapsRow.named == Tryz.prog.varsNamed (6:FuncId)))=true:=by kernel_rfl
theorem Ql:((Rows.trunkSwapsRow.maps == (Tryz.f6.params.toList++Rows.trunkSwapsSpec.plain.varTypes Tryz.prog).any (Tryz.prog.mapsRec ·)))=true:=by kernel_rfl
theorem Qk:((Rows.trunkSwapsRow.ifaces == (Tryz.f6.params.toList++Rows.trunkSwapsSpec.plain.varTypes Tryz.prog).any (Tryz.prog.ifacesRec ·)))=true:=by kernel_rfl
theorem Qj:((Rows.trunkSwapsRow.mapsOut == Tryz.prog.mapsAmong Tryz.f6.resultTypes.toList))=true:=by kernel_rfl
theorem Qi:((Rows.trunkSwapsRow.loops == (Tryz.f6.params.toList++Rows.trunkSwapsSpec.plain.varTypes Tryz.prog).any (Tryz.prog.loopsFrom ·)))=true:=by kernel_rfl
theorem Qh:((Rows.trunkSwapsRow.wideKeys == (Tryz.f6.params.toList++Rows.trunkSwapsSpec.plain.varTypes Tryz.prog++Tryz.f6.resultTypes.toList).any (Tryz.prog.wideKeysFrom ·)))=true:=by kernel_rfl
theorem Qg:(Rows.trunkSwapsSpec.vars.all (Tryz.prog.varReadable ·))=true:=by kernel_rfl
theorem Qf:(Tryz.f6.resultTypes.all (fun t=>Tryz.prog.readableRec t && decide (t < Tryz.prog.types.size)))=true:=by kernel_rfl
theorem Qe:((Rows.trunkSwapsRow.ifacesOut == Tryz.f6.resultTypes.toList.any (Tryz.prog.ifacesRec ·)))=true:=by kernel_rfl
theorem Qd:((Rows.trunkSwapsRow.loopsOut == Tryz.f6.resultTypes.toList.any (Tryz.prog.loopsFrom ·)))=true:=by kernel_rfl
theorem Qc:((Rows.trunkSwapsRow.plainKeys == Tryz.prog.plainKeys))=true:=by kernel_rfl
theorem Qb:(Rows.trunkSwapsRow.shortTexts.isNone)=true:=by kernel_rfl
theorem Qa:(Tryz.prog.stopsHeard)=true:=by kernel_rfl
theorem P9:(Tryz.prog.mayEnter)=true:=by kernel_rfl
theorem P8:((Rows.trunkSwapsRow.lifted == Tryz.prog.liftsFinal))=true:=by kernel_rfl
theorem P7:((Tryz.prog.make == some Rows.trunkSwapsRow.make))=true:=by kernel_rfl
theorem P6:((Rows.trunkSwapsRow.pinned == Rows.trunkSwapsRow.pinnedBy))=true:=by kernel_rfl
theorem P5:((Rows.trunkSwapsRow.veiled == (Tryz.f6.params.toList++Rows.trunkSwapsSpec.plain.varTypes Tryz.prog++Tryz.f6.resultTypes.toList).any (Tryz.prog.veiledRec ·)))=true:=by kernel_rfl
theorem P4:(Rows.trunkSwapsRow.veiledFits Tryz.prog Tryz.f6.params.toList (Tryz.f6.params.toList++Rows.trunkSwapsSpec.plain.varTypes Tryz.prog++Tryz.f6.resultTypes.toList))=true:=by kernel_rfl
end Go.Proofs.YtmeojbemjkmebaaGreatDoor
