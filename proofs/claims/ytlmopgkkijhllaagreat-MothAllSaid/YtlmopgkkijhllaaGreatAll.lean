import Derived.Test.YtlmopgkkijhllaaGreatAllL
import Derived.Conc.HoldsTime
import Derived.Test.YtlmopgkkijhllaaGreatAllT
set_option linter.unusedVariables false
set_option linter.unusedSimpArgs false
namespace Go.Proofs.YtlmopgkkijhllaaGreat
open K Go Go.Proofs Go.ChangeShapes Go.WideShapes Go.ChangeAt Go.RowKit
theorem aT{a b:Bool}(h:a=true)(h':b=true):(a && b)=true:=by rw [h,h'];rfl
theorem j5:joinedFacts Tryz.prog 5 Tryz.f5 Rows.mothAllSpec Rows.mothAllRow=true:=by
 unfold joinedFacts;exact aT (aT (aT (aT (aT (aT (aT (aT (aT (aT (aT (aT (aT (aT (aT (aT (aT (aT (aT (aT (aT (aT (aT (aT (aT (aT (aT (aT (aT (aT (aT (SH) SG) SD) SC) SB) SA) Sz) Sr) Sl) Sj) Qq) Qp) Qo) Qn) Qm) Ql) Qk) Qj) Qi) Qh) Qg) Qf) Qe) Qd) Qc) Qb) Qa) P9) (by kernel_rfl)) P8) P7) P6
theorem own:ownKnob Tryz.prog.godebug=none:=by kernel_rfl
theorem EL:laidOutB Tryz.prog=true:=by kernel_rfl
theorem OL:Tryz.prog.cellsOf 3=1:=by kernel_rfl
theorem RV:MT Tryz.prog (.slice (.int .i64)) (.inl 28):=⟨3,Tryz.underlying28,OL,Tryz.underlying3⟩
set_option maxRecDepth 100000 in
theorem lifted(os:Os)(started:os.Started)(H:Type)(enc:TypeId×Value→H)(F:Stop.Interp):
 ReturnsInLeavingWide Rows.mothAllRow.assume Tryz.checked os 5 .any (Rows.mothAllSpec.pre6 enc Tryz.prog Tryz.f5 Rows.mothAllRow.domain false) ((OpenSpec.ofChange Rows.mothAllSpec).postWith enc Tryz.prog Tryz.f5 F (outsideKept [.timePasses]) false true false):=by
 refine returnsInLeavingWide_of_change_time (C:=Tryz.checked) own started Tryz.func5
  (ChangeSpec.witness6c (enc:=enc) (C:=Tryz.checked) ⟨#[], #[.slice none 0 0],[]⟩ 8 (by kernel_rfl) (by kernel_rfl) (by kernel_rfl) (by kernel_rfl)) ?_
 intro W base args ds gs before hval hW _ _ _
 refine Jw (by kernel_rfl) ?_
 refine jA.mono (E4 (s:=Rows.mothAllSpec) [(28,(.slice (.int .i64)))] (by rw [Tryz.params5];rfl) rfl Tryz.underlying4 ?_ EL ?_ ?_ rfl ?_ W base args ds gs before hval hW) fun e W' ⟨v,he,hp⟩=>⟨v,he,fun v1 hr=>hp v1 hr⟩
 ·
  intro p hp;simp only [List.mem_cons,List.not_mem_nil,or_false] at hp;rcases hp with rfl
  ·exact RV
 ·
  intro T hT;simp only [List.map_cons,List.map_nil,List.mem_cons,List.not_mem_nil,or_false] at hT;rcases hT with rfl
  ·exact⟨by kernel_rfl,of_decide_eq_true (by kernel_rfl)⟩
 ·
  rintro ds hd;obtain⟨d0,ds,rfl⟩:=List.exists_cons_of_length_eq_add_one (by simpa using hd:ds.length=0+1);have:ds=[]:=List.eq_nil_of_length_eq_zero (by simpa using hd);subst this;rfl
 ·
  rintro l ⟨a0,l0,rfl,rfl⟩;exact uM 1200 a0 true (LF a0)
theorem moth_all_holds:Rows.MothAllSaid:=
 OpenClaim.holds_of_wide_leaving_time 5 Tryz.f5 rfl rfl rfl rfl rfl rfl rfl ⟨rfl,rfl,rfl,rfl,rfl⟩ rfl rfl rfl rfl rfl (by kernel_rfl) Tryz.func5 j5
  (of_decide_eq_true (by kernel_rfl)) (by unfold Func.isWrapper;rw [if_neg (by decide+kernel)];exact⟨rfl,rfl⟩)
  (fun os started H enc _ F=>lifted os started H enc F)
#print axioms moth_all_holds
end Go.Proofs.YtlmopgkkijhllaaGreat
