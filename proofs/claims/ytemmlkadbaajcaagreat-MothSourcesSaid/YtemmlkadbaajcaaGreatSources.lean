import Derived.Test.YtemmlkadbaajcaaGreatSrcsL
import Derived.Conc.HoldsTime
import Derived.Test.YtemmlkadbaajcaaGreatSourcesT
open Nat
open List hiding mem_of_getElem?
open Array hiding mem_of_getElem? mk
set_option linter.unusedVariables false
set_option linter.unusedSimpArgs false
namespace Go.Proofs.YtemmlkadbaajcaaGreat
open K Go Go.Proofs Go.ChangeShapes Go.WideShapes Go.ChangeAt Go.RowKit
theorem aT{a b:Bool}(h:a=true)(h':b=true):(a && b)=true:=by rw [h,h'];rfl
theorem j3:joinedFacts Tryz.prog 3 Tryz.f3 Rows.mothSourcesSpec Rows.mothSourcesRow=true:=by
 unfold joinedFacts;exact aT (aT (aT (aT (aT (aT (aT (aT (aT (aT (aT (aT (aT (aT (aT (aT (aT (aT (aT (aT (aT (aT (aT (aT (aT (aT (aT (aT (aT (aT (aT (VT) VS) VQ) VP) VO) VN) VM) VL) VK) VJ) Ug) Uf) Ue) Ud) Uc) Ub) Ua) T9) T8) TZ) TY) TX) TW) TV) TU) TS) TR) TP) (by kernel_rfl)) TO) TN) TM
theorem own:ownKnob Tryz.prog.godebug=none:=by kernel_rfl
theorem Hu:laidOutB Tryz.prog=true:=by kernel_rfl
theorem sE:Tryz.prog.cellsOf 3=1:=by kernel_rfl
theorem RB:Tryz.prog.cellsOf 4=1:=by kernel_rfl
theorem OI:Tryz.prog.cellsOf 22=1:=by kernel_rfl
theorem OH:Tryz.prog.cellsOf 23=1:=by kernel_rfl
theorem OG:Tryz.prog.cellsOf 27=3:=by kernel_rfl
theorem OF:Tryz.prog.cellsOf 28=1:=by kernel_rfl
theorem OE:Tryz.prog.cellsOf 36=1:=by kernel_rfl
theorem TG:MT Tryz.prog aL (.inl 27):=⟨_,Tryz.underlying27,by kernel_rfl,rfl,sE,Tryz.underlying3,.inr ⟨rfl,sE,Tryz.underlying3,.inl ⟨_,rfl,rfl,RB,Tryz.underlying4⟩⟩⟩
theorem VA:MT Tryz.prog (.slice aL) (.inl 23):=⟨27,Tryz.underlying23,OG,TG⟩
theorem Q0:MT Tryz.prog (.slice (.int .i64)) (.inl 28):=⟨3,Tryz.underlying28,sE,Tryz.underlying3⟩
theorem Vy:MT Tryz.prog (.slice (.slice (.int .i64))) (.inl 36):=⟨28,Tryz.underlying36,OF,Q0⟩
theorem VB:MT Tryz.prog (.slice (.slice (.slice (.int .i64)))) (.inl 22):=⟨36,Tryz.underlying22,OE,Vy⟩
theorem Vz:MT Tryz.prog am (.inl 25):=⟨_,Tryz.underlying25,by kernel_rfl,rfl,sE,Tryz.underlying3,.inr ⟨rfl,sE,Tryz.underlying3,.inr ⟨rfl,sE,Tryz.underlying3,.inr ⟨rfl,sE,Tryz.underlying3,.inr ⟨rfl,OI,VB,.inl ⟨_,rfl,rfl,OH,VA⟩⟩⟩⟩⟩⟩
set_option maxRecDepth 100000 in
theorem lifted(os:Os)(started:os.Started)(H:Type)(enc:TypeId×Value->H)(F:Stop.Interp):
 ReturnsInLeavingWide Rows.mothSourcesRow.assume Tryz.checked os 3 .any (Rows.mothSourcesSpec.pre6 enc Tryz.prog Tryz.f3 Rows.mothSourcesRow.domain false) ((OpenSpec.ofChange Rows.mothSourcesSpec).postWith enc Tryz.prog Tryz.f3 F (outsideKept [.timePasses]) false true false):=by
 refine returnsInLeavingWide_of_change_time (C:=Tryz.checked) own started Tryz.func3
  (ChangeSpec.witness6c (enc:=enc) (C:=Tryz.checked) ⟨#[], #[.agg #[.int .i64 0,.int .i64 0,.int .i64 0,.int .i64 0,.slice none 0 0,.slice none 0 0],.agg #[.int .i64 0,.int .i64 0,.bool false],.slice none 0 0,.int .i64 0,.slice none 0 0],[]⟩ 8 (by kernel_rfl) (by kernel_rfl) (by kernel_rfl) (by kernel_rfl)) ?_
 intro W base args ds gs before hval hW _ _ _
 refine L8 (by kernel_rfl) ?_
 refine kP.mono (HT (s:=Rows.mothSourcesSpec) [(25,am),(27,aL),(28,(.slice (.int .i64))),(3,(.int .i64)),(28,(.slice (.int .i64)))] (by rw [Tryz.params3];rfl) rfl Tryz.underlying4 ?_ Hu ?_ ?_ rfl ?_ W base args ds gs before hval hW) λe W' ⟨v,he,hp⟩=>⟨v,he,λv1 hr=>hp v1 hr⟩
 .
  intro p hp;simp only [mem_cons,not_mem_nil,or_false] at hp;rcases hp with rfl |rfl |rfl |rfl |rfl
  .exact Vz
  .exact TG
  .exact Q0
  .exact Tryz.underlying3
  .exact Q0
 .
  intro T hT;simp only [map_cons,map_nil,mem_cons,not_mem_nil,or_false] at hT;rcases hT with rfl |rfl |rfl |rfl |rfl
  .exact⟨by kernel_rfl,of_decide_eq_true (by kernel_rfl)⟩
  .exact⟨by kernel_rfl,of_decide_eq_true (by kernel_rfl)⟩
  .exact⟨by kernel_rfl,of_decide_eq_true (by kernel_rfl)⟩
  .exact⟨by kernel_rfl,of_decide_eq_true (by kernel_rfl)⟩
  .exact⟨by kernel_rfl,of_decide_eq_true (by kernel_rfl)⟩
 .
  rintro ds hd;obtain⟨d0,ds,rfl⟩:=exists_cons_of_length_eq_add_one (by simpa using hd:ds.length=4+1);obtain⟨d1,ds,rfl⟩:=exists_cons_of_length_eq_add_one (by simpa using hd:ds.length=3+1);obtain⟨d2,ds,rfl⟩:=exists_cons_of_length_eq_add_one (by simpa using hd:ds.length=2+1);obtain⟨d3,ds,rfl⟩:=exists_cons_of_length_eq_add_one (by simpa using hd:ds.length=1+1);obtain⟨d4,ds,rfl⟩:=exists_cons_of_length_eq_add_one (by simpa using hd:ds.length=0+1);have:ds=[]:=eq_nil_of_length_eq_zero (by simpa using hd);subst this;rfl
 .
  rintro l ⟨a0,l0,rfl,a1,l1,rfl,a2,l2,rfl,a3,l3,rfl,a4,l4,rfl,rfl⟩;exact If 3 rfl (sc 1200 a0 a1 a2 a3 a4 true (Bq a0 a1 a2 a3 a4))
theorem moth_sources_holds:Rows.MothSourcesSaid:=
 OpenClaim.holds_of_wide_leaving_time 3 Tryz.f3 rfl rfl rfl rfl rfl rfl rfl ⟨rfl,rfl,rfl,rfl,rfl⟩ rfl rfl rfl rfl rfl (by kernel_rfl) Tryz.func3 j3
  (of_decide_eq_true (by kernel_rfl)) (by unfold Func.isWrapper;rw [if_neg (by decide+kernel)];exact⟨rfl,rfl⟩)
  (λos started H enc _ F=>lifted os started H enc F)
#print axioms moth_sources_holds
end Go.Proofs.YtemmlkadbaajcaaGreat
