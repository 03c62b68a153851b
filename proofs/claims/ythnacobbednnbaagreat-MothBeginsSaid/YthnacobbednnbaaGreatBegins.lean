import Derived.Test.YthnacobbednnbaaGreatBegL
import Derived.Conc.HoldsTime
import Derived.Test.YthnacobbednnbaaGreatBeginsT
open Nat
open List hiding mem_of_getElem?
open Array hiding mem_of_getElem? mk
set_option linter.unusedVariables false
set_option linter.unusedSimpArgs false
namespace Go.Proofs.YthnacobbednnbaaGreat
open K Go Go.Proofs Go.ChangeShapes Go.WideShapes Go.ChangeAt Go.RowKit
theorem aT{a b:Bool}(h:a=true)(h':b=true):(a && b)=true:=by rw [h,h'];rfl
theorem j6:joinedFacts Tryz.prog 6 Tryz.f6 Rows.mothBeginsSpec Rows.mothBeginsRow=true:=by
 unfold joinedFacts;exact aT (aT (aT (aT (aT (aT (aT (aT (aT (aT (aT (aT (aT (aT (aT (aT (aT (aT (aT (aT (aT (aT (aT (aT (aT (aT (aT (aT (aT (aT (aT (UX) UW) UV) UU) UT) US) UR) UQ) UP) UO) SD) SC) SB) SA) Sz) Sr) Sl) Sj) Si) R9) R7) R2) RZ) RY) RX) RV) RU) RS) (by kernel_rfl)) RR) RQ) RP
theorem own:ownKnob Tryz.prog.godebug=none:=by kernel_rfl
theorem Gk:laidOutB Tryz.prog=true:=by kernel_rfl
theorem rV:Tryz.prog.cellsOf 3=1:=by kernel_rfl
theorem Qs:Tryz.prog.cellsOf 4=1:=by kernel_rfl
theorem NC:Tryz.prog.cellsOf 22=1:=by kernel_rfl
theorem NA:Tryz.prog.cellsOf 23=1:=by kernel_rfl
theorem Nz:Tryz.prog.cellsOf 27=3:=by kernel_rfl
theorem Ny:Tryz.prog.cellsOf 28=1:=by kernel_rfl
theorem Nx:Tryz.prog.cellsOf 36=1:=by kernel_rfl
theorem RJ:MT Tryz.prog aJ (.inl 27):=⟨_,Tryz.underlying27,by kernel_rfl,rfl,rV,Tryz.underlying3,.inr ⟨rfl,rV,Tryz.underlying3,.inl ⟨_,rfl,rfl,Qs,Tryz.underlying4⟩⟩⟩
theorem UF:MT Tryz.prog (.slice aJ) (.inl 23):=⟨27,Tryz.underlying23,Nz,RJ⟩
theorem RI:MT Tryz.prog (.slice (.int .i64)) (.inl 28):=⟨3,Tryz.underlying28,rV,Tryz.underlying3⟩
theorem UD:MT Tryz.prog (.slice (.slice (.int .i64))) (.inl 36):=⟨28,Tryz.underlying36,Ny,RI⟩
theorem UG:MT Tryz.prog (.slice (.slice (.slice (.int .i64)))) (.inl 22):=⟨36,Tryz.underlying22,Nx,UD⟩
theorem UE:MT Tryz.prog am (.inl 25):=⟨_,Tryz.underlying25,by kernel_rfl,rfl,rV,Tryz.underlying3,.inr ⟨rfl,rV,Tryz.underlying3,.inr ⟨rfl,rV,Tryz.underlying3,.inr ⟨rfl,rV,Tryz.underlying3,.inr ⟨rfl,NC,UG,.inl ⟨_,rfl,rfl,NA,UF⟩⟩⟩⟩⟩⟩
set_option maxRecDepth 100000 in
theorem lifted(os:Os)(started:os.Started)(H:Type)(enc:TypeId×Value->H)(F:Stop.Interp):
 ReturnsInLeavingWide Rows.mothBeginsRow.assume Tryz.checked os 6 .any (Rows.mothBeginsSpec.pre6 enc Tryz.prog Tryz.f6 Rows.mothBeginsRow.domain false) ((OpenSpec.ofChange Rows.mothBeginsSpec).postWith enc Tryz.prog Tryz.f6 F (outsideKept [.timePasses]) false true false):=by
 refine returnsInLeavingWide_of_change_time (C:=Tryz.checked) own started Tryz.func6
  (ChangeSpec.witness6c (enc:=enc) (C:=Tryz.checked) ⟨#[], #[.agg #[.int .i64 0,.int .i64 0,.int .i64 0,.int .i64 0,.slice none 0 0,.slice none 0 0],.agg #[.int .i64 0,.int .i64 0,.bool false],.slice none 0 0],[]⟩ 8 (by kernel_rfl) (by kernel_rfl) (by kernel_rfl) (by kernel_rfl)) ?_
 intro W base args ds gs before hval hW _ _ _
 refine KY (by kernel_rfl) ?_
 refine ku.mono (GO (s:=Rows.mothBeginsSpec) [(25,am),(27,aJ),(28,(.slice (.int .i64)))] (by rw [Tryz.params6];rfl) rfl Tryz.underlying4 ?_ Gk ?_ ?_ rfl ?_ W base args ds gs before hval hW) λe W' ⟨v,he,hp⟩=>⟨v,he,λv1 hr=>hp v1 hr⟩
 .
  intro p hp;simp only [mem_cons,not_mem_nil,or_false] at hp;rcases hp with rfl |rfl |rfl
  .exact UE
  .exact RJ
  .exact RI
 .
  intro T hT;simp only [map_cons,map_nil,mem_cons,not_mem_nil,or_false] at hT;rcases hT with rfl |rfl |rfl
  .exact⟨by kernel_rfl,of_decide_eq_true (by kernel_rfl)⟩
  .exact⟨by kernel_rfl,of_decide_eq_true (by kernel_rfl)⟩
  .exact⟨by kernel_rfl,of_decide_eq_true (by kernel_rfl)⟩
 .
  rintro ds hd;obtain⟨d0,ds,rfl⟩:=exists_cons_of_length_eq_add_one (by simpa using hd:ds.length=2+1);obtain⟨d1,ds,rfl⟩:=exists_cons_of_length_eq_add_one (by simpa using hd:ds.length=1+1);obtain⟨d2,ds,rfl⟩:=exists_cons_of_length_eq_add_one (by simpa using hd:ds.length=0+1);have:ds=[]:=eq_nil_of_length_eq_zero (by simpa using hd);subst this;rfl
 .
  rintro l ⟨a0,l0,rfl,a1,l1,rfl,a2,l2,rfl,rfl⟩;exact sQ 1200 a0 a1 a2 true (BQ a0 a1 a2)
theorem moth_begins_holds:Rows.MothBeginsSaid:=
 OpenClaim.holds_of_wide_leaving_time 6 Tryz.f6 rfl rfl rfl rfl rfl rfl rfl ⟨rfl,rfl,rfl,rfl,rfl⟩ rfl rfl rfl rfl rfl (by kernel_rfl) Tryz.func6 j6
  (of_decide_eq_true (by kernel_rfl)) (by unfold Func.isWrapper;rw [if_neg (by decide+kernel)];exact⟨rfl,rfl⟩)
  (λos started H enc _ F=>lifted os started H enc F)
#print axioms moth_begins_holds
end Go.Proofs.YthnacobbednnbaaGreat
