import Derived.Test.YtflilincnacbpaaGreatNumL
import Derived.Conc.HoldsTime
import Derived.Test.YtflilincnacbpaaGreatNumberedT
open Nat
open List hiding mem_of_getElem?
open Array hiding mem_of_getElem? mk
set_option linter.unusedVariables false
set_option linter.unusedSimpArgs false
namespace Go.Proofs.YtflilincnacbpaaGreat
open K Go Go.Proofs Go.ChangeShapes Go.WideShapes Go.ChangeAt Go.RowKit
theorem aT{a b:Bool}(h:a=true)(h':b=true):(a && b)=true:=by rw [h,h'];rfl
theorem j3:joinedFacts Tryz.prog 3 Tryz.f3 Rows.mothNumberedSpec Rows.mothNumberedRow=true:=by
 unfold joinedFacts;exact aT (aT (aT (aT (aT (aT (aT (aT (aT (aT (aT (aT (aT (aT (aT (aT (aT (aT (aT (aT (aT (aT (aT (aT (aT (aT (aT (aT (aT (aT (aT (Uk) Uj) Ui) Uh) Ug) Uf) Ue) Ud) Uc) Ub) RN) RL) RJ) RI) RH) RG) RF) RE) RD) RB) Rz) Ry) Rx) Rw) Ru) Rt) Rr) Rq) (by kernel_rfl)) Ro) Rn) Rm
theorem own:ownKnob Tryz.prog.godebug=none:=by kernel_rfl
theorem FB:laidOutB Tryz.prog=true:=by kernel_rfl
theorem Qb:Tryz.prog.cellsOf 3=1:=by kernel_rfl
theorem TV:MT Tryz.prog (.slice (.int .i64)) (.inl 22):=⟨3,Tryz.underlying22,Qb,Tryz.underlying3⟩
set_option maxRecDepth 100000 in
theorem lifted(os:Os)(started:os.Started)(H:Type)(enc:TypeId×Value->H)(F:Stop.Interp):
 ReturnsInLeavingWide Rows.mothNumberedRow.assume Tryz.checked os 3 .any (Rows.mothNumberedSpec.pre6 enc Tryz.prog Tryz.f3 Rows.mothNumberedRow.domain false) ((OpenSpec.ofChange Rows.mothNumberedSpec).postWith enc Tryz.prog Tryz.f3 F (outsideKept [.timePasses]) false true false):=by
 refine returnsInLeavingWide_of_change_time (C:=Tryz.checked) own started Tryz.func3
  (ChangeSpec.witness6c (enc:=enc) (C:=Tryz.checked) ⟨#[], #[.slice none 0 0],[]⟩ 8 (by kernel_rfl) (by kernel_rfl) (by kernel_rfl) (by kernel_rfl)) ?_
 intro W base args ds gs before hval hW _ _ _
 refine KD (by kernel_rfl) ?_
 refine jC.mono (F3 (s:=Rows.mothNumberedSpec) [(22,(.slice (.int .i64)))] (by rw [Tryz.params3];rfl) rfl Tryz.underlying4 ?_ FB ?_ ?_ rfl ?_ W base args ds gs before hval hW) λe W' ⟨v,he,hp⟩=>⟨v,he,λv1 hr=>hp v1 hr⟩
 .
  intro p hp;simp only [mem_cons,not_mem_nil,or_false] at hp;rcases hp with rfl
  .exact TV
 .
  intro T hT;simp only [map_cons,map_nil,mem_cons,not_mem_nil,or_false] at hT;rcases hT with rfl
  .exact⟨by kernel_rfl,of_decide_eq_true (by kernel_rfl)⟩
 .
  rintro ds hd;obtain⟨d0,ds,rfl⟩:=exists_cons_of_length_eq_add_one (by simpa using hd:ds.length=0+1);have:ds=[]:=eq_nil_of_length_eq_zero (by simpa using hd);subst this;rfl
 .
  rintro l ⟨a0,l0,rfl,rfl⟩;exact pL 1200 a0 true (yf a0)
theorem moth_numbered_holds:Rows.MothNumberedSaid:=
 OpenClaim.holds_of_wide_leaving_time 3 Tryz.f3 rfl rfl rfl rfl rfl rfl rfl ⟨rfl,rfl,rfl,rfl,rfl⟩ rfl rfl rfl rfl rfl (by kernel_rfl) Tryz.func3 j3
  (of_decide_eq_true (by kernel_rfl)) (by unfold Func.isWrapper;rw [if_neg (by decide+kernel)];exact⟨rfl,rfl⟩)
  (λos started H enc _ F=>lifted os started H enc F)
#print axioms moth_numbered_holds
end Go.Proofs.YtflilincnacbpaaGreat
