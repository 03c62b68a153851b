import Derived.Test.YtlmopgkkijhllaaGreatProg
import Derived.Test.YtlmopgkkijhllaaGreatRows
import Derived.Conc.Holds
set_option linter.unusedVariables false
set_option linter.unusedSimpArgs false
namespace Go.Proofs.YtlmopgkkijhllaaGreat
open Go Go.Proofs
theorem SH:(Rows.mothAllRow.wf (OpenSpec.ofChange Rows.mothAllSpec))=true:=by kernel_rfl
theorem SG:(laidOutB Tryz.prog)=true:=by kernel_rfl
theorem SD:(mapsRowed Tryz.prog)=true:=by kernel_rfl
theorem SC:(Tryz.f5.params.all (Tryz.prog.readableRec ·))=true:=by kernel_rfl
theorem SB:(namedTie Tryz.prog Rows.mothAllRow.named Rows.mothAllSpec.vars)=true:=by kernel_rfl
theorem SA:((Rows.mothAllRow.stops == []))=true:=by kernel_rfl
theorem Sz:((Tryz.prog.stops == []))=true:=by kernel_rfl
theorem Sr:((Rows.mothAllRow.knobs == []))=true:=by kernel_rfl
theorem Sl:((Tryz.prog.stopKnobs == []))=true:=by kernel_rfl
theorem Sj:((Rows.mothAllRow.inPlace == Tryz.prog.inPlace (5:FuncId)))=true:=by kernel_rfl
theorem Qq:((Rows.mothAllRow.unfollowed == Tryz.prog.unfollowed (5:FuncId)))=true:=by kernel_rfl
theorem Qp:((Rows.mothAllRow.recurses == Tryz.prog.recurses (5:FuncId)))=true:=by kernel_rfl
theorem Qo:((Rows.mothAllRow.named == Tryz.prog.varsNamed (5:FuncId)))=true:=by kernel_rfl
theorem Qn:((Rows.mothAllRow.maps == (Tryz.f5.params.toList++Rows.mothAllSpec.plain.varTypes Tryz.prog).any (Tryz.prog.mapsRec ·)))=true:=by kernel_rfl
theorem Qm:((Rows.mothAllRow.ifaces == (Tryz.f5.params.toList++Rows.mothAllSpec.plain.varTypes Tryz.prog).any (Tryz.prog.ifacesRec ·)))=true:=by kernel_rfl
theorem Ql:((Rows.mothAllRow.mapsOut == Tryz.prog.mapsAmong Tryz.f5.resultTypes.toList))=true:=by kernel_rfl
theorem Qk:((Rows.mothAllRow.loops == (Tryz.f5.params.toList++Rows.mothAllSpec.plain.varTypes Tryz.prog).any (Tryz.prog.loopsFrom ·)))=true:=by kernel_rfl
theorem Qj:((Rows.mothAllRow.wideKeys == (Tryz.f5.params.toList++Rows.mothAllSpec.plain.varTypes Tryz.prog++Tryz.f5.resultTypes.toList).any (Tryz.prog.wideKeysFrom ·)))=true:=by kernel_rfl
theorem Qi:(Rows.mothAllSpec.vars.all (Tryz.prog.varReadable ·))=true:=by kernel_rfl
theorem Qh:(Tryz.f5.resultTypes.all (fun t=>Tryz.prog.readableRec t && decide (t < Tryz.prog.types.size)))=true:=by kernel_rfl
theorem Qg:((Rows.mothAllRow.ifacesOut == Tryz.f5.resultTypes.toList.any (Tryz.prog.ifacesRec ·)))=true:=by kernel_rfl
theorem Qf:((Rows.mothAllRow.loopsOut == Tryz.f5.resultTypes.toList.any (Tryz.prog.loopsFrom ·)))=true:=by kernel_rfl
theorem Qe:((Rows.mothAllRow.plainKeys == Tryz.prog.plainKeys))=true:=by kernel_rfl
theorem Qd:(Rows.mothAllRow.shortTexts.isNone)=true:=by kernel_rfl
theorem Qc:(Tryz.prog.stopsHeard)=true:=by kernel_rfl
theorem Qb:(Tryz.prog.mayEnter)=true:=by kernel_rfl
theorem Qa:((Rows.mothAllRow.lifted == Tryz.prog.liftsFinal))=true:=by kernel_rfl
theorem P9:((Tryz.prog.make == some Rows.mothAllRow.make))=true:=by kernel_rfl
theorem P8:((Rows.mothAllRow.pinned == Rows.mothAllRow.pinnedBy))=true:=by kernel_rfl
theorem P7:((Rows.mothAllRow.veiled == (Tryz.f5.params.toList++Rows.mothAllSpec.plain.varTypes Tryz.prog++Tryz.f5.resultTypes.toList).any (Tryz.prog.veiledRec ·)))=true:=by kernel_rfl
theorem P6:(Rows.mothAllRow.veiledFits Tryz.prog Tryz.f5.params.toList (Tryz.f5.params.toList++Rows.mothAllSpec.plain.varTypes Tryz.prog++Tryz.f5.resultTypes.toList))=true:=by kernel_rfl
