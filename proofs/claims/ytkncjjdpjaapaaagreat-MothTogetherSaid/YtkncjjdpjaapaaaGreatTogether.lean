import Derived.Test.YtkncjjdpjaapaaaGreatVAB5
import Derived.Test.YtkncjjdpjaapaaaGreatTogL
import Derived.Test.YtkncjjdpjaapaaaGreatRows
import Derived.Conc.HoldsTime
import Derived.Test.YtkncjjdpjaapaaaGreatTogetherT
set_option linter.unusedVariables false
set_option linter.unusedSimpArgs false
namespace Go.Proofs.YtkncjjdpjaapaaaGreat
open K Go Go.Proofs Go.ChangeShapes Go.WideShapes Go.ChangeAt Go.RowKit
theorem aT{a b:Bool}(h:a=true)(h':b=true):(a && b)=true:=by rw [h,h'];rfl
theorem j3:joinedFacts Tryz.prog 3 Tryz.f3 Rows.mothTogetherSpec Rows.mothTogetherRow=true:=by
 unfold joinedFacts;exact aT (aT (aT (aT (aT (aT (aT (aT (aT (aT (aT (aT (aT (aT (aT (aT (aT (aT (aT (aT (aT (aT (aT (aT (aT (aT (aT (aT (aT (aT (aT (QK) QJ) QI) QH) QG) QF) QE) QD) QC) QB) OZ) OY) OX) OW) OU) OT) OS) OR) OQ) OP) OO) ON) OM) OL) OK) OJ) OI) OH) (by kernel_rfl)) OG) OF) OE
theorem own:ownKnob Tryz.prog.godebug=none:=by kernel_rfl
theorem Dm:laidOutB Tryz.prog=true:=by kernel_rfl
theorem Np:Tryz.prog.cellsOf 3=1:=by kernel_rfl
theorem Qs:MT Tryz.prog (.slice (.int .i64)) (.inl 22):=⟨3,Tryz.underlying22,Np,Tryz.underlying3⟩
set_option maxRecDepth 100000 in
theorem lifted(os:Os)(started:os.Started)(H:Type)(enc:TypeId×Value→H)(F:Stop.Interp):
 ReturnsInLeavingWide Rows.mothTogetherRow.assume Tryz.checked os 3 .any (Rows.mothTogetherSpec.pre6 enc Tryz.prog Tryz.f3 Rows.mothTogetherRow.domain false) ((OpenSpec.ofChange Rows.mothTogetherSpec).postWith enc Tryz.prog Tryz.f3 F (outsideKept [.timePasses]) false true false):=by
 refine returnsInLeavingWide_of_change_time (C:=Tryz.checked) own started Tryz.func3
  (ChangeSpec.witness6c (enc:=enc) (C:=Tryz.checked) ⟨#[], #[.slice none 0 0],[]⟩ 8 (by kernel_rfl) (by kernel_rfl) (by kernel_rfl) (by kernel_rfl)) ?_
 intro W base args ds gs before hval hW _ _ _
 refine Ig (by kernel_rfl) ?_
 refine jt.mono (DK (s:=Rows.mothTogetherSpec) [(22,(.slice (.int .i64)))] (by rw [Tryz.params3];rfl) rfl Tryz.underlying4 ?_ Dm ?_ ?_ rfl ?_ W base args ds gs before hval hW) fun e W' ⟨v,he,hp⟩=>⟨v,he,fun v1 hr=>hp v1 hr⟩
 ·
  intro p hp;simp only [List.mem_cons,List.not_mem_nil,or_false] at hp;rcases hp with rfl
  ·exact Qs
 ·
  intro T hT;simp only [List.map_cons,List.map_nil,List.mem_cons,List.not_mem_nil,or_false] at hT;rcases hT with rfl
  ·exact⟨by kernel_rfl,of_decide_eq_true (by kernel_rfl)⟩
 ·
  rintro ds hd;obtain⟨d0,ds,rfl⟩:=List.exists_cons_of_length_eq_add_one (by simpa using hd:ds.length=0+1);have:ds=[]:=List.eq_nil_of_length_eq_zero (by simpa using hd);subst this;rfl
 ·
  rintro l ⟨a0,l0,rfl,rfl⟩;exact oR 1200 a0 true (wi a0)
theorem moth_together_holds:Rows.MothTogetherSaid:=
 OpenClaim.holds_of_wide_leaving_time 3 Tryz.f3 rfl rfl rfl rfl rfl rfl rfl ⟨rfl,rfl,rfl,rfl,rfl⟩ rfl rfl rfl rfl rfl (by kernel_rfl) Tryz.func3 j3
  (of_decide_eq_true (by kernel_rfl)) (by unfold Func.isWrapper;rw [if_neg (by decide+kernel)];exact⟨rfl,rfl⟩)
  (fun os started H enc _ F=>lifted os started H enc F)
#print axioms moth_together_holds
end Go.Proofs.YtkncjjdpjaapaaaGreat
