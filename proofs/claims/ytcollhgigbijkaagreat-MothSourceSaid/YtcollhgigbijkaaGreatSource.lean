import Derived.Test.YtcollhgigbijkaaGreatSouL
import Derived.Conc.HoldsTime
import Derived.Test.YtcollhgigbijkaaGreatSourceT
open Nat
open List hiding mem_of_getElem?
open Array hiding mem_of_getElem? mk
set_option linter.unusedVariables false
set_option linter.unusedSimpArgs false
namespace Go.Proofs.YtcollhgigbijkaaGreat
open K Go Go.Proofs Go.ChangeShapes Go.WideShapes Go.ChangeAt Go.RowKit
theorem aT{a b:Bool}(h:a=true)(h':b=true):(a && b)=true:=by rw [h,h'];rfl
theorem j4:joinedFacts Tryz.prog 4 Tryz.f4 Rows.mothSourceSpec Rows.mothSourceRow=true:=by
 unfold joinedFacts;exact aT (aT (aT (aT (aT (aT (aT (aT (aT (aT (aT (aT (aT (aT (aT (aT (aT (aT (aT (aT (aT (aT (aT (aT (aT (aT (aT (aT (aT (aT (aT (R7) R2) RZ) RY) RX) RV) RU) RS) RR) RQ) Qj) Qi) Qh) Qg) Qf) Qe) Qd) Qc) Qb) Qa) P9) P8) P7) P6) P5) P4) P3) P2) (by kernel_rfl)) P1) P0) PZ
theorem own:ownKnob Tryz.prog.godebug=none:=by kernel_rfl
theorem Ee:laidOutB Tryz.prog=true:=by kernel_rfl
theorem OB:Tryz.prog.cellsOf 3=1:=by kernel_rfl
theorem RG:MT Tryz.prog (.slice (.int .i64)) (.inl 22):=⟨3,Tryz.underlying22,OB,Tryz.underlying3⟩
set_option maxRecDepth 100000 in
theorem lifted(os:Os)(started:os.Started)(H:Type)(enc:TypeId×Value->H)(F:Stop.Interp):
 ReturnsInLeavingWide Rows.mothSourceRow.assume Tryz.checked os 4 .any (Rows.mothSourceSpec.pre6 enc Tryz.prog Tryz.f4 Rows.mothSourceRow.domain false) ((OpenSpec.ofChange Rows.mothSourceSpec).postWith enc Tryz.prog Tryz.f4 F (outsideKept [.timePasses]) false true false):=by
 refine returnsInLeavingWide_of_change_time (C:=Tryz.checked) own started Tryz.func4
  (ChangeSpec.witness6c (enc:=enc) (C:=Tryz.checked) ⟨#[], #[.slice none 0 0],[]⟩ 8 (by kernel_rfl) (by kernel_rfl) (by kernel_rfl) (by kernel_rfl)) ?_
 intro W base args ds gs before hval hW _ _ _
 refine Ja (by kernel_rfl) ?_
 refine jq.mono (EE (s:=Rows.mothSourceSpec) [(22,(.slice (.int .i64)))] (by rw [Tryz.params4];rfl) rfl Tryz.underlying4 ?_ Ee ?_ ?_ rfl ?_ W base args ds gs before hval hW) λe W' ⟨v,he,hp⟩=>⟨v,he,λv1 hr=>hp v1 hr⟩
 .
  intro p hp;simp only [mem_cons,not_mem_nil,or_false] at hp;rcases hp with rfl
  .exact RG
 .
  intro T hT;simp only [map_cons,map_nil,mem_cons,not_mem_nil,or_false] at hT;rcases hT with rfl
  .exact⟨by kernel_rfl,of_decide_eq_true (by kernel_rfl)⟩
 .
  rintro ds hd;obtain⟨d0,ds,rfl⟩:=exists_cons_of_length_eq_add_one (by simpa using hd:ds.length=0+1);have:ds=[]:=eq_nil_of_length_eq_zero (by simpa using hd);subst this;rfl
 .
  rintro l ⟨a0,l0,rfl,rfl⟩;exact qM 1200 a0 true (AB a0)
theorem moth_source_holds:Rows.MothSourceSaid:=
 OpenClaim.holds_of_wide_leaving_time 4 Tryz.f4 rfl rfl rfl rfl rfl rfl rfl ⟨rfl,rfl,rfl,rfl,rfl⟩ rfl rfl rfl rfl rfl (by kernel_rfl) Tryz.func4 j4
  (of_decide_eq_true (by kernel_rfl)) (by unfold Func.isWrapper;rw [if_neg (by decide+kernel)];exact⟨rfl,rfl⟩)
  (λos started H enc _ F=>lifted os started H enc F)
#print axioms moth_source_holds
end Go.Proofs.YtcollhgigbijkaaGreat
