import Derived.Test.YtcpbmhgakdeceaaGreatWrsL
import Derived.Conc.HoldsTime
import Derived.Test.YtcpbmhgakdeceaaGreatWrongsT
open Nat
open List hiding mem_of_getElem?
open Array hiding mem_of_getElem? mk
set_option linter.unusedVariables false
set_option linter.unusedSimpArgs false
namespace Go.Proofs.YtcpbmhgakdeceaaGreat
open K Go Go.Proofs Go.ChangeShapes Go.WideShapes Go.ChangeAt Go.RowKit
theorem aT{a b:Bool}(h:a=true)(h':b=true):(a && b)=true:=by rw [h,h'];rfl
theorem j3:joinedFacts Tryz.prog 3 Tryz.f3 Rows.mothWrongsSpec Rows.mothWrongsRow=true:=by
 unfold joinedFacts;exact aT (aT (aT (aT (aT (aT (aT (aT (aT (aT (aT (aT (aT (aT (aT (aT (aT (aT (aT (aT (aT (aT (aT (aT (aT (aT (aT (aT (aT (aT (aT (WI) WH) WG) WE) WC) WB) WA) Wz) Wy) Wx) UQ) UP) UO) UN) UM) UL) UK) UJ) UI) UH) UG) UF) UE) UD) UC) UB) UA) Uz) (by kernel_rfl)) Uy) Ux) Uw
theorem own:ownKnob Tryz.prog.godebug=none:=by kernel_rfl
theorem Hm:laidOutB Tryz.prog=true:=by kernel_rfl
theorem sR:Tryz.prog.cellsOf 3=1:=by kernel_rfl
theorem SG:Tryz.prog.cellsOf 4=1:=by kernel_rfl
theorem O5:Tryz.prog.cellsOf 22=1:=by kernel_rfl
theorem O4:Tryz.prog.cellsOf 23=1:=by kernel_rfl
theorem O3:Tryz.prog.cellsOf 27=3:=by kernel_rfl
theorem O2:Tryz.prog.cellsOf 28=1:=by kernel_rfl
theorem O1:Tryz.prog.cellsOf 45=1:=by kernel_rfl
theorem Up:MT Tryz.prog aA (.inl 27):=⟨_,Tryz.underlying27,by kernel_rfl,rfl,sR,Tryz.underlying3,.inr ⟨rfl,sR,Tryz.underlying3,.inl ⟨_,rfl,rfl,SG,Tryz.underlying4⟩⟩⟩
theorem Wj:MT Tryz.prog (.slice aA) (.inl 23):=⟨27,Tryz.underlying23,O3,Up⟩
theorem Uo:MT Tryz.prog (.slice (.int .i64)) (.inl 28):=⟨3,Tryz.underlying28,sR,Tryz.underlying3⟩
theorem Wh:MT Tryz.prog (.slice (.slice (.int .i64))) (.inl 45):=⟨28,Tryz.underlying45,O2,Uo⟩
theorem Wm:MT Tryz.prog (.slice (.slice (.slice (.int .i64)))) (.inl 22):=⟨45,Tryz.underlying22,O1,Wh⟩
theorem Wi:MT Tryz.prog ah (.inl 25):=⟨_,Tryz.underlying25,by kernel_rfl,rfl,sR,Tryz.underlying3,.inr ⟨rfl,sR,Tryz.underlying3,.inr ⟨rfl,sR,Tryz.underlying3,.inr ⟨rfl,sR,Tryz.underlying3,.inr ⟨rfl,O5,Wm,.inl ⟨_,rfl,rfl,O4,Wj⟩⟩⟩⟩⟩⟩
set_option maxRecDepth 100000 in
theorem lifted(os:Os)(started:os.Started)(H:Type)(enc:TypeId×Value->H)(F:Stop.Interp):
 ReturnsInLeavingWide Rows.mothWrongsRow.assume Tryz.checked os 3 .any (Rows.mothWrongsSpec.pre6 enc Tryz.prog Tryz.f3 Rows.mothWrongsRow.domain false) ((OpenSpec.ofChange Rows.mothWrongsSpec).postWith enc Tryz.prog Tryz.f3 F (outsideKept [.timePasses]) false true false):=by
 refine returnsInLeavingWide_of_change_time (C:=Tryz.checked) own started Tryz.func3
  (ChangeSpec.witness6c (enc:=enc) (C:=Tryz.checked) ⟨#[], #[.agg #[.int .i64 0,.int .i64 0,.int .i64 0,.int .i64 0,.slice none 0 0,.slice none 0 0],.agg #[.int .i64 0,.int .i64 0,.bool false],.slice none 0 0],[]⟩ 8 (by kernel_rfl) (by kernel_rfl) (by kernel_rfl) (by kernel_rfl)) ?_
 intro W base args ds gs before hval hW _ _ _
 refine MU (by kernel_rfl) ?_
 refine kK.mono (HM (s:=Rows.mothWrongsSpec) [(25,ah),(27,aA),(28,(.slice (.int .i64)))] (by rw [Tryz.params3];rfl) rfl Tryz.underlying4 ?_ Hm ?_ ?_ rfl ?_ W base args ds gs before hval hW) λe W' ⟨v,he,hp⟩=>⟨v,he,λv1 hr=>hp v1 hr⟩
 .
  intro p hp;simp only [mem_cons,not_mem_nil,or_false] at hp;rcases hp with rfl |rfl |rfl
  .exact Wi
  .exact Up
  .exact Uo
 .
  intro T hT;simp only [map_cons,map_nil,mem_cons,not_mem_nil,or_false] at hT;rcases hT with rfl |rfl |rfl
  .exact⟨by kernel_rfl,of_decide_eq_true (by kernel_rfl)⟩
  .exact⟨by kernel_rfl,of_decide_eq_true (by kernel_rfl)⟩
  .exact⟨by kernel_rfl,of_decide_eq_true (by kernel_rfl)⟩
 .
  rintro ds hd;obtain⟨d0,ds,rfl⟩:=exists_cons_of_length_eq_add_one (by simpa using hd:ds.length=2+1);obtain⟨d1,ds,rfl⟩:=exists_cons_of_length_eq_add_one (by simpa using hd:ds.length=1+1);obtain⟨d2,ds,rfl⟩:=exists_cons_of_length_eq_add_one (by simpa using hd:ds.length=0+1);have:ds=[]:=eq_nil_of_length_eq_zero (by simpa using hd);subst this;rfl
 .
  rintro l ⟨a0,l0,rfl,a1,l1,rfl,a2,l2,rfl,rfl⟩;exact tD 1200 a0 a1 a2 true (DI a0 a1 a2)
theorem moth_wrongs_holds:Rows.MothWrongsSaid:=
 OpenClaim.holds_of_wide_leaving_time 3 Tryz.f3 rfl rfl rfl rfl rfl rfl rfl ⟨rfl,rfl,rfl,rfl,rfl⟩ rfl rfl rfl rfl rfl (by kernel_rfl) Tryz.func3 j3
  (of_decide_eq_true (by kernel_rfl)) (by unfold Func.isWrapper;rw [if_neg (by decide+kernel)];exact⟨rfl,rfl⟩)
  (λos started H enc _ F=>lifted os started H enc F)
#print axioms moth_wrongs_holds
end Go.Proofs.YtcpbmhgakdeceaaGreat
