import Derived.Test.YtmbkabgllafffaaGreatFrzsL
import Derived.Conc.HoldsTime
import Derived.Test.YtmbkabgllafffaaGreatFreezesT
open Nat
open List hiding mem_of_getElem?
open Array hiding mem_of_getElem? mk
set_option linter.unusedVariables false
set_option linter.unusedSimpArgs false
namespace Go.Proofs.YtmbkabgllafffaaGreat
open K Go Go.Proofs Go.ChangeShapes Go.WideShapes Go.ChangeAt Go.RowKit
theorem aT{a b:Bool}(h:a=true)(h':b=true):(a && b)=true:=by rw [h,h'];rfl
theorem j4:joinedFacts Tryz.prog 4 Tryz.f4 Rows.mothFreezesSpec Rows.mothFreezesRow=true:=by
 unfold joinedFacts;exact aT (aT (aT (aT (aT (aT (aT (aT (aT (aT (aT (aT (aT (aT (aT (aT (aT (aT (aT (aT (aT (aT (aT (aT (aT (aT (aT (aT (aT (aT (aT (VF) VE) VD) VC) VB) VA) Vz) Vy) Vx) Vw) TL) TK) TJ) TG) TF) TD) TC) TB) TA) Tz) Tv) Tu) Tt) To) Tn) Tm) Tj) Tf) (by kernel_rfl)) Td) Ta) S9
theorem own:ownKnob Tryz.prog.godebug=none:=by kernel_rfl
theorem G0:laidOutB Tryz.prog=true:=by kernel_rfl
theorem sF:Tryz.prog.cellsOf 3=1:=by kernel_rfl
theorem Q8:Tryz.prog.cellsOf 4=1:=by kernel_rfl
theorem Ol:Tryz.prog.cellsOf 22=1:=by kernel_rfl
theorem Oj:Tryz.prog.cellsOf 25=1:=by kernel_rfl
theorem Oi:Tryz.prog.cellsOf 26=1:=by kernel_rfl
theorem Oh:Tryz.prog.cellsOf 29=1:=by kernel_rfl
theorem Og:Tryz.prog.cellsOf 46=3:=by kernel_rfl
theorem SX:MT Tryz.prog aI (.inl 46):=⟨_,Tryz.underlying46,by kernel_rfl,rfl,sF,Tryz.underlying3,.inr ⟨rfl,sF,Tryz.underlying3,.inl ⟨_,rfl,rfl,Q8,Tryz.underlying4⟩⟩⟩
theorem Vn:MT Tryz.prog (.slice aI) (.inl 26):=⟨46,Tryz.underlying26,Og,SX⟩
theorem SY:MT Tryz.prog (.slice (.int .i64)) (.inl 22):=⟨3,Tryz.underlying22,sF,Tryz.underlying3⟩
theorem Vl:MT Tryz.prog (.slice (.slice (.int .i64))) (.inl 29):=⟨22,Tryz.underlying29,Ol,SY⟩
theorem Vo:MT Tryz.prog (.slice (.slice (.slice (.int .i64)))) (.inl 25):=⟨29,Tryz.underlying25,Oh,Vl⟩
theorem Vm:MT Tryz.prog ak (.inl 28):=⟨_,Tryz.underlying28,by kernel_rfl,rfl,sF,Tryz.underlying3,.inr ⟨rfl,sF,Tryz.underlying3,.inr ⟨rfl,sF,Tryz.underlying3,.inr ⟨rfl,sF,Tryz.underlying3,.inr ⟨rfl,Oj,Vo,.inl ⟨_,rfl,rfl,Oi,Vn⟩⟩⟩⟩⟩⟩
set_option maxRecDepth 100000 in
theorem lifted(os:Os)(started:os.Started)(H:Type)(enc:TypeId×Value->H)(F:Stop.Interp):
 ReturnsInLeavingWide Rows.mothFreezesRow.assume Tryz.checked os 4 .any (Rows.mothFreezesSpec.pre6 enc Tryz.prog Tryz.f4 Rows.mothFreezesRow.domain false) ((OpenSpec.ofChange Rows.mothFreezesSpec).postWith enc Tryz.prog Tryz.f4 F (outsideKept [.timePasses]) false true false):=by
 refine returnsInLeavingWide_of_change_time (C:=Tryz.checked) own started Tryz.func4
  (ChangeSpec.witness6c (enc:=enc) (C:=Tryz.checked) ⟨#[], #[.agg #[.int .i64 0,.int .i64 0,.int .i64 0,.int .i64 0,.slice none 0 0,.slice none 0 0],.agg #[.int .i64 0,.int .i64 0,.bool false],.int .i64 0,.slice none 0 0],[]⟩ 8 (by kernel_rfl) (by kernel_rfl) (by kernel_rfl) (by kernel_rfl)) ?_
 intro W base args ds gs before hval hW _ _ _
 refine LI (by kernel_rfl) ?_
 refine kJ.mono (Ho (s:=Rows.mothFreezesSpec) [(28,ak),(46,aI),(3,(.int .i64)),(22,(.slice (.int .i64)))] (by rw [Tryz.params4];rfl) rfl Tryz.underlying4 ?_ G0 ?_ ?_ rfl ?_ W base args ds gs before hval hW) λe W' ⟨v,he,hp⟩=>⟨v,he,λv1 hr=>hp v1 hr⟩
 .
  intro p hp;simp only [mem_cons,not_mem_nil,or_false] at hp;rcases hp with rfl |rfl |rfl |rfl
  .exact Vm
  .exact SX
  .exact Tryz.underlying3
  .exact SY
 .
  intro T hT;simp only [map_cons,map_nil,mem_cons,not_mem_nil,or_false] at hT;rcases hT with rfl |rfl |rfl |rfl
  .exact⟨by kernel_rfl,of_decide_eq_true (by kernel_rfl)⟩
  .exact⟨by kernel_rfl,of_decide_eq_true (by kernel_rfl)⟩
  .exact⟨by kernel_rfl,of_decide_eq_true (by kernel_rfl)⟩
  .exact⟨by kernel_rfl,of_decide_eq_true (by kernel_rfl)⟩
 .
  rintro ds hd;obtain⟨d0,ds,rfl⟩:=exists_cons_of_length_eq_add_one (by simpa using hd:ds.length=3+1);obtain⟨d1,ds,rfl⟩:=exists_cons_of_length_eq_add_one (by simpa using hd:ds.length=2+1);obtain⟨d2,ds,rfl⟩:=exists_cons_of_length_eq_add_one (by simpa using hd:ds.length=1+1);obtain⟨d3,ds,rfl⟩:=exists_cons_of_length_eq_add_one (by simpa using hd:ds.length=0+1);have:ds=[]:=eq_nil_of_length_eq_zero (by simpa using hd);subst this;rfl
 .
  rintro l ⟨a0,l0,rfl,a1,l1,rfl,a2,l2,rfl,a3,l3,rfl,rfl⟩;exact HL 2 rfl (sd 1200 a0 a1 a2 a3 true (BU a0 a1 a2 a3))
theorem moth_freezes_holds:Rows.MothFreezesSaid:=
 OpenClaim.holds_of_wide_leaving_time 4 Tryz.f4 rfl rfl rfl rfl rfl rfl rfl ⟨rfl,rfl,rfl,rfl,rfl⟩ rfl rfl rfl rfl rfl (by kernel_rfl) Tryz.func4 j4
  (of_decide_eq_true (by kernel_rfl)) (by unfold Func.isWrapper;rw [if_neg (by decide+kernel)];exact⟨rfl,rfl⟩)
  (λos started H enc _ F=>lifted os started H enc F)
#print axioms moth_freezes_holds
end Go.Proofs.YtmbkabgllafffaaGreat
