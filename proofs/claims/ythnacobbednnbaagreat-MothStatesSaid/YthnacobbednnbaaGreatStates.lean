import Derived.Test.YthnacobbednnbaaGreatStasL
import Derived.Conc.HoldsTime
import Derived.Test.YthnacobbednnbaaGreatStatesT
open Nat
open List hiding mem_of_getElem?
open Array hiding mem_of_getElem? mk
set_option linter.unusedVariables false
set_option linter.unusedSimpArgs false
namespace Go.Proofs.YthnacobbednnbaaGreat
open K Go Go.Proofs Go.ChangeShapes Go.WideShapes Go.ChangeAt Go.RowKit
theorem aT{a b:Bool}(h:a=true)(h':b=true):(a && b)=true:=by rw [h,h'];rfl
theorem j9:joinedFacts Tryz.prog 9 Tryz.f9 Rows.mothStatesSpec Rows.mothStatesRow=true:=by
 unfold joinedFacts;exact aT (aT (aT (aT (aT (aT (aT (aT (aT (aT (aT (aT (aT (aT (aT (aT (aT (aT (aT (aT (aT (aT (aT (aT (aT (aT (aT (aT (aT (aT (aT (Vw) Vv) Vu) Vt) Vs) Vr) Vq) Vp) Vo) Vn) Tv) Tu) Tt) To) Tn) Tm) Tj) Tf) Td) Ta) S9) S7) S5) SZ) SY) SX) SV) SU) (by kernel_rfl)) SS) SR) SQ
theorem own:ownKnob Tryz.prog.godebug=none:=by kernel_rfl
theorem GU:laidOutB Tryz.prog=true:=by kernel_rfl
theorem sf:Tryz.prog.cellsOf 3=1:=by kernel_rfl
theorem Q0:Tryz.prog.cellsOf 4=1:=by kernel_rfl
theorem Oa:Tryz.prog.cellsOf 22=1:=by kernel_rfl
theorem N9:Tryz.prog.cellsOf 23=1:=by kernel_rfl
theorem N8:Tryz.prog.cellsOf 27=3:=by kernel_rfl
theorem N7:Tryz.prog.cellsOf 28=1:=by kernel_rfl
theorem N6:Tryz.prog.cellsOf 36=1:=by kernel_rfl
theorem SK:MT Tryz.prog aJ (.inl 27):=⟨_,Tryz.underlying27,by kernel_rfl,rfl,sf,Tryz.underlying3,.inr ⟨rfl,sf,Tryz.underlying3,.inl ⟨_,rfl,rfl,Q0,Tryz.underlying4⟩⟩⟩
theorem Ve:MT Tryz.prog (.slice aJ) (.inl 23):=⟨27,Tryz.underlying23,N8,SK⟩
theorem SJ:MT Tryz.prog (.slice (.int .i64)) (.inl 28):=⟨3,Tryz.underlying28,sf,Tryz.underlying3⟩
theorem Va:MT Tryz.prog (.slice (.slice (.int .i64))) (.inl 36):=⟨28,Tryz.underlying36,N7,SJ⟩
theorem Vf:MT Tryz.prog (.slice (.slice (.slice (.int .i64)))) (.inl 22):=⟨36,Tryz.underlying22,N6,Va⟩
theorem Vb:MT Tryz.prog ak (.inl 25):=⟨_,Tryz.underlying25,by kernel_rfl,rfl,sf,Tryz.underlying3,.inr ⟨rfl,sf,Tryz.underlying3,.inr ⟨rfl,sf,Tryz.underlying3,.inr ⟨rfl,sf,Tryz.underlying3,.inr ⟨rfl,Oa,Vf,.inl ⟨_,rfl,rfl,N9,Ve⟩⟩⟩⟩⟩⟩
set_option maxRecDepth 100000 in
theorem lifted(os:Os)(started:os.Started)(H:Type)(enc:TypeId×Value->H)(F:Stop.Interp):
 ReturnsInLeavingWide Rows.mothStatesRow.assume Tryz.checked os 9 .any (Rows.mothStatesSpec.pre6 enc Tryz.prog Tryz.f9 Rows.mothStatesRow.domain false) ((OpenSpec.ofChange Rows.mothStatesSpec).postWith enc Tryz.prog Tryz.f9 F (outsideKept [.timePasses]) false true false):=by
 refine returnsInLeavingWide_of_change_time (C:=Tryz.checked) own started Tryz.func9
  (ChangeSpec.witness6c (enc:=enc) (C:=Tryz.checked) ⟨#[], #[.agg #[.int .i64 0,.int .i64 0,.int .i64 0,.int .i64 0,.slice none 0 0,.slice none 0 0],.agg #[.int .i64 0,.int .i64 0,.bool false],.int .i64 0,.int .i64 0,.slice none 0 0],[]⟩ 8 (by kernel_rfl) (by kernel_rfl) (by kernel_rfl) (by kernel_rfl)) ?_
 intro W base args ds gs before hval hW _ _ _
 refine Lr (by kernel_rfl) ?_
 refine kD.mono (Hh (s:=Rows.mothStatesSpec) [(25,ak),(27,aJ),(3,(.int .i64)),(3,(.int .i64)),(28,(.slice (.int .i64)))] (by rw [Tryz.params9];rfl) rfl Tryz.underlying4 ?_ GU ?_ ?_ rfl ?_ W base args ds gs before hval hW) λe W' ⟨v,he,hp⟩=>⟨v,he,λv1 hr=>hp v1 hr⟩
 .
  intro p hp;simp only [mem_cons,not_mem_nil,or_false] at hp;rcases hp with rfl |rfl |rfl |rfl |rfl
  .exact Vb
  .exact SK
  .exact Tryz.underlying3
  .exact Tryz.underlying3
  .exact SJ
 .
  intro T hT;simp only [map_cons,map_nil,mem_cons,not_mem_nil,or_false] at hT;rcases hT with rfl |rfl |rfl |rfl |rfl
  .exact⟨by kernel_rfl,of_decide_eq_true (by kernel_rfl)⟩
  .exact⟨by kernel_rfl,of_decide_eq_true (by kernel_rfl)⟩
  .exact⟨by kernel_rfl,of_decide_eq_true (by kernel_rfl)⟩
  .exact⟨by kernel_rfl,of_decide_eq_true (by kernel_rfl)⟩
  .exact⟨by kernel_rfl,of_decide_eq_true (by kernel_rfl)⟩
 .
  rintro ds hd;obtain⟨d0,ds,rfl⟩:=exists_cons_of_length_eq_add_one (by simpa using hd:ds.length=4+1);obtain⟨d1,ds,rfl⟩:=exists_cons_of_length_eq_add_one (by simpa using hd:ds.length=3+1);obtain⟨d2,ds,rfl⟩:=exists_cons_of_length_eq_add_one (by simpa using hd:ds.length=2+1);obtain⟨d3,ds,rfl⟩:=exists_cons_of_length_eq_add_one (by simpa using hd:ds.length=1+1);obtain⟨d4,ds,rfl⟩:=exists_cons_of_length_eq_add_one (by simpa using hd:ds.length=0+1);have:ds=[]:=eq_nil_of_length_eq_zero (by simpa using hd);subst this;rfl
 .
  rintro l ⟨a0,l0,rfl,a1,l1,rfl,a2,l2,rfl,a3,l3,rfl,a4,l4,rfl,rfl⟩;exact yK 3 rfl (yK 2 rfl (s4 1200 a0 a1 a2 a3 a4 true (Dq a0 a1 a2 a3 a4)))
theorem moth_states_holds:Rows.MothStatesSaid:=
 OpenClaim.holds_of_wide_leaving_time 9 Tryz.f9 rfl rfl rfl rfl rfl rfl rfl ⟨rfl,rfl,rfl,rfl,rfl⟩ rfl rfl rfl rfl rfl (by kernel_rfl) Tryz.func9 j9
  (of_decide_eq_true (by kernel_rfl)) (by unfold Func.isWrapper;rw [if_neg (by decide+kernel)];exact⟨rfl,rfl⟩)
  (λos started H enc _ F=>lifted os started H enc F)
#print axioms moth_states_holds
end Go.Proofs.YthnacobbednnbaaGreat
