import Derived.Test.YthnacobbednnbaaGreatNexsL
import Derived.Conc.HoldsTime
import Derived.Test.YthnacobbednnbaaGreatNextsT
open Nat
open List hiding mem_of_getElem?
open Array hiding mem_of_getElem? mk
set_option linter.unusedVariables false
set_option linter.unusedSimpArgs false
namespace Go.Proofs.YthnacobbednnbaaGreat
open K Go Go.Proofs Go.ChangeShapes Go.WideShapes Go.ChangeAt Go.RowKit
theorem aT{a b:Bool}(h:a=true)(h':b=true):(a && b)=true:=by rw [h,h'];rfl
theorem j4:joinedFacts Tryz.prog 4 Tryz.f4 Rows.mothNextsSpec Rows.mothNextsRow=true:=by
 unfold joinedFacts;exact aT (aT (aT (aT (aT (aT (aT (aT (aT (aT (aT (aT (aT (aT (aT (aT (aT (aT (aT (aT (aT (aT (aT (aT (aT (aT (aT (aT (aT (aT (aT (UN) UM) UL) UK) UJ) UI) UH) UG) UF) UE) R9) R7) R2) RZ) RY) RX) RV) RU) RS) RR) RQ) RP) RO) RN) RL) RJ) RI) RH) (by kernel_rfl)) RG) RF) RE
theorem own:ownKnob Tryz.prog.godebug=none:=by kernel_rfl
theorem F5:laidOutB Tryz.prog=true:=by kernel_rfl
theorem rE:Tryz.prog.cellsOf 3=1:=by kernel_rfl
theorem Qk:Tryz.prog.cellsOf 4=1:=by kernel_rfl
theorem Np:Tryz.prog.cellsOf 22=1:=by kernel_rfl
theorem Nn:Tryz.prog.cellsOf 23=1:=by kernel_rfl
theorem Nl:Tryz.prog.cellsOf 27=3:=by kernel_rfl
theorem Nk:Tryz.prog.cellsOf 28=1:=by kernel_rfl
theorem Nj:Tryz.prog.cellsOf 36=1:=by kernel_rfl
theorem Ry:MT Tryz.prog aJ (.inl 27):=⟨_,Tryz.underlying27,by kernel_rfl,rfl,rE,Tryz.underlying3,.inr ⟨rfl,rE,Tryz.underlying3,.inl ⟨_,rfl,rfl,Qk,Tryz.underlying4⟩⟩⟩
theorem Uu:MT Tryz.prog (.slice aJ) (.inl 23):=⟨27,Tryz.underlying23,Nl,Ry⟩
theorem Rx:MT Tryz.prog (.slice (.int .i64)) (.inl 28):=⟨3,Tryz.underlying28,rE,Tryz.underlying3⟩
theorem Us:MT Tryz.prog (.slice (.slice (.int .i64))) (.inl 36):=⟨28,Tryz.underlying36,Nk,Rx⟩
theorem Uw:MT Tryz.prog (.slice (.slice (.slice (.int .i64)))) (.inl 22):=⟨36,Tryz.underlying22,Nj,Us⟩
theorem Ut:MT Tryz.prog am (.inl 25):=⟨_,Tryz.underlying25,by kernel_rfl,rfl,rE,Tryz.underlying3,.inr ⟨rfl,rE,Tryz.underlying3,.inr ⟨rfl,rE,Tryz.underlying3,.inr ⟨rfl,rE,Tryz.underlying3,.inr ⟨rfl,Np,Uw,.inl ⟨_,rfl,rfl,Nn,Uu⟩⟩⟩⟩⟩⟩
set_option maxRecDepth 100000 in
theorem lifted(os:Os)(started:os.Started)(H:Type)(enc:TypeId×Value->H)(F:Stop.Interp):
 ReturnsInLeavingWide Rows.mothNextsRow.assume Tryz.checked os 4 .any (Rows.mothNextsSpec.pre6 enc Tryz.prog Tryz.f4 Rows.mothNextsRow.domain false) ((OpenSpec.ofChange Rows.mothNextsSpec).postWith enc Tryz.prog Tryz.f4 F (outsideKept [.timePasses]) false true false):=by
 refine returnsInLeavingWide_of_change_time (C:=Tryz.checked) own started Tryz.func4
  (ChangeSpec.witness6c (enc:=enc) (C:=Tryz.checked) ⟨#[], #[.agg #[.int .i64 0,.int .i64 0,.int .i64 0,.int .i64 0,.slice none 0 0,.slice none 0 0],.agg #[.int .i64 0,.int .i64 0,.bool false],.int .i64 0,.slice none 0 0],[]⟩ 8 (by kernel_rfl) (by kernel_rfl) (by kernel_rfl) (by kernel_rfl)) ?_
 intro W base args ds gs before hval hW _ _ _
 refine KL (by kernel_rfl) ?_
 refine ko.mono (Gy (s:=Rows.mothNextsSpec) [(25,am),(27,aJ),(3,(.int .i64)),(28,(.slice (.int .i64)))] (by rw [Tryz.params4];rfl) rfl Tryz.underlying4 ?_ F5 ?_ ?_ rfl ?_ W base args ds gs before hval hW) λe W' ⟨v,he,hp⟩=>⟨v,he,λv1 hr=>hp v1 hr⟩
 .
  intro p hp;simp only [mem_cons,not_mem_nil,or_false] at hp;rcases hp with rfl |rfl |rfl |rfl
  .exact Ut
  .exact Ry
  .exact Tryz.underlying3
  .exact Rx
 .
  intro T hT;simp only [map_cons,map_nil,mem_cons,not_mem_nil,or_false] at hT;rcases hT with rfl |rfl |rfl |rfl
  .exact⟨by kernel_rfl,of_decide_eq_true (by kernel_rfl)⟩
  .exact⟨by kernel_rfl,of_decide_eq_true (by kernel_rfl)⟩
  .exact⟨by kernel_rfl,of_decide_eq_true (by kernel_rfl)⟩
  .exact⟨by kernel_rfl,of_decide_eq_true (by kernel_rfl)⟩
 .
  rintro ds hd;obtain⟨d0,ds,rfl⟩:=exists_cons_of_length_eq_add_one (by simpa using hd:ds.length=3+1);obtain⟨d1,ds,rfl⟩:=exists_cons_of_length_eq_add_one (by simpa using hd:ds.length=2+1);obtain⟨d2,ds,rfl⟩:=exists_cons_of_length_eq_add_one (by simpa using hd:ds.length=1+1);obtain⟨d3,ds,rfl⟩:=exists_cons_of_length_eq_add_one (by simpa using hd:ds.length=0+1);have:ds=[]:=eq_nil_of_length_eq_zero (by simpa using hd);subst this;rfl
 .
  rintro l ⟨a0,l0,rfl,a1,l1,rfl,a2,l2,rfl,a3,l3,rfl,rfl⟩;exact GZ 2 rfl (tq 1200 a0 a1 a2 a3 true (F3 a0 a1 a2 a3))
theorem moth_nexts_holds:Rows.MothNextsSaid:=
 OpenClaim.holds_of_wide_leaving_time 4 Tryz.f4 rfl rfl rfl rfl rfl rfl rfl ⟨rfl,rfl,rfl,rfl,rfl⟩ rfl rfl rfl rfl rfl (by kernel_rfl) Tryz.func4 j4
  (of_decide_eq_true (by kernel_rfl)) (by unfold Func.isWrapper;rw [if_neg (by decide+kernel)];exact⟨rfl,rfl⟩)
  (λos started H enc _ F=>lifted os started H enc F)
#print axioms moth_nexts_holds
end Go.Proofs.YthnacobbednnbaaGreat
