import Derived.Test.YtmeojbemjkmebaaGreatDoorProg
import Derived.Test.YtmeojbemjkmebaaGreatDoorRows
import Derived.Conc.Holds
set_option linter.unusedVariables false
set_option linter.unusedSimpArgs false
namespace Go.Proofs.YtmeojbemjkmebaaGreatDoor
open Go Go.Proofs
theorem TD:(Rows.trunkBestsRow.wf (OpenSpec.ofChange Rows.trunkBestsSpec))=true:=by kernel_rfl
theorem TC:(laidOutB Tryz.prog)=true:=by kernel_rfl
theorem TB:(mapsRowed Tryz.prog)=true:=by kernel_rfl
theorem TA:(Tryz.f5.params.all (Tryz.prog.readableRec ·))=true:=by kernel_rfl
theorem Tz:(namedTie Tryz.prog Rows.trunkBestsRow.named Rows.trunkBestsSpec.vars)=true:=by kernel_rfl
theorem Tv:((Rows.trunkBestsRow.stops == []))=true:=by kernel_rfl
theorem Tt:((Tryz.prog.stops == []))=true:=by kernel_rfl
theorem To:((Rows.trunkBestsRow.knobs == []))=true:=by kernel_rfl
theorem Tn:((Tryz.prog.stopKnobs == []))=true:=by kernel_rfl
theorem Tm:((Rows.trunkBestsRow.inPlace == Tryz.prog.inPlace (5:FuncId)))=true:=by kernel_rfl
theorem QG:((Rows.trunkBestsRow.unfollowed == Tryz.prog.unfollowed (5:FuncId)))=true:=by kernel_rfl
theorem QF:((Rows.trunkBestsRow.recurses == Tryz.prog.recurses (5:FuncId)))=true:=by kernel_rfl
theorem QE:((Rows.trunkBestsRow.named == Tryz.prog.varsNamed (5:FuncId)))=true:=by kernel_rfl
theorem QD:((Rows.trunkBestsRow.maps == (Tryz.f5.params.toList++Rows.trunkBestsSpec.plain.varTypes Tryz.prog).any (Tryz.prog.mapsRec ·)))=true:=by kernel_rfl
theorem QC:((Rows.trunkBestsRow.ifaces == (Tryz.f5.params.toList++Rows.trunkBestsSpec.plain.varTypes Tryz.prog).any (Tryz.prog.ifacesRec ·)))=true:=by kernel_rfl
theorem QB:((Rows.trunkBestsRow.mapsOut == Tryz.prog.mapsAmong Tryz.f5.resultTypes.toList))=true:=by kernel_rfl
theorem QA:((Rows.trunkBestsRow.loops == (Tryz.f5.params.toList++Rows.trunkBestsSpec.plain.varTypes Tryz.prog).any (Tryz.prog.loopsFrom ·)))=true:=by kernel_rfl
theorem Qz:((Rows.trunkBestsRow.wideKeys == (Tryz.f5.params.toList++Rows.trunkBestsSpec.plain.varTypes Tryz.prog++Tryz.f5.resultTypes.toList).any (Tryz.prog.wideKeysFrom ·)))=true:=by kernel_rfl
theorem Qy:(Rows.trunkBestsSpec.vars.all (Tryz.prog.varReadable ·))=true:=by kernel_rfl
theorem Qx:(Tryz.f5.resultTypes.all (fun t=>Tryz.prog.readableRec t && decide (t < Tryz.prog.types.size)))=true:=by kernel_rfl
theorem Qw:((Rows.trunkBestsRow.ifacesOut == Tryz.f5.resultTypes.toList.any (Tryz.prog.ifacesRec ·)))=true:=by kernel_rfl
theorem Qv:((Rows.trunkBestsRow.loopsOut == Tryz.f5.resultTypes.toList.any (Tryz.prog.loopsFrom ·)))=true:=by kernel_rfl
theorem Qu:((Rows.trunkBestsRow.plainKeys == Tryz.prog.plainKeys))=true:=by kernel_rfl
theorem Qs:(Rows.trunkBestsRow.shortTexts.isNone)=true:=by kernel_rfl
theorem Qq:(Tryz.prog.stopsHeard)=true:=by kernel_rfl
theorem Qp:(Tryz.prog.mayEnter)=true:=by kernel_rfl
theorem Qo:((Rows.trunkBestsRow.lifted == Tryz.prog.liftsFinal))=true:=by kernel_rfl
theorem Qn:((Tryz.prog.make == some Rows.trunkBestsRow.make))=true:=by kernel_rfl
theorem Qm:((Rows.trunkBestsRow.pinned == Rows.trunkBestsRow.pinnedBy))=true:=by kernel_rfl
theorem Ql:((Rows.trunkBestsRow.veiled == (Tryz.f5.params.toList++Rows.trunkBestsSpec.plain.varTypes Tryz.prog++Tryz.f5.resultTypes.toList).any (Tryz.prog.veiledRec ·)))=true:=by kernel_rfl
theorem Qk:(Rows.trunkBestsRow.veiledFits Tryz.prog Tryz.f5.params.toList (Tryz.f5.params.toList++Rows.trunkBestsSpec.plain.varTypes Tryz.prog++Tryz.f5.resultTypes.toList))=true:=by kernel_rfl
end Go.Proofs.YtmeojbemjkmebaaGreatDoor
