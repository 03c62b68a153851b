import Derived.Test.YtlhalkpppmnnmaaGreatKnoL
import Derived.Conc.HoldsTime
import Derived.Test.YtlhalkpppmnnmaaGreatKnownT
open Nat
open List hiding mem_of_getElem?
open Array hiding mem_of_getElem? mk
set_option linter.unusedVariables false
set_option linter.unusedSimpArgs false
namespace Go.Proofs.YtlhalkpppmnnmaaGreat
open K Go Go.Proofs Go.ChangeShapes Go.WideShapes Go.ChangeAt Go.RowKit
theorem aT{a b:Bool}(h:a=true)(h':b=true):(a && b)=true:=by rw [h,h'];rfl
theorem j3:joinedFacts Tryz.prog 3 Tryz.f3 Rows.mothKnownSpec Rows.mothKnownRow=true:=by
 unfold joinedFacts;exact aT (aT (aT (aT (aT (aT (aT (aT (aT (aT (aT (aT (aT (aT (aT (aT (aT (aT (aT (aT (aT (aT (aT (aT (aT (aT (aT (aT (aT (aT (aT (N3) NZ) NY) NX) NW) NV) NU) NT) NS) NR) LL) LK) LJ) LI) LH) LG) LF) LE) LD) LC) LA) Ly) Lx) Lu) Lt) Ls) Lr) Lq) (by kernel_rfl)) Lp) Lo) Ln
theorem own:ownKnob Tryz.prog.godebug=none:=by kernel_rfl
theorem AX:laidOutB Tryz.prog=true:=by kernel_rfl
set_option maxRecDepth 100000 in
theorem lifted(os:Os)(started:os.Started)(H:Type)(enc:TypeId×Value->H)(F:Stop.Interp):
 ReturnsInLeavingWide Rows.mothKnownRow.assume Tryz.checked os 3 .any (Rows.mothKnownSpec.pre6 enc Tryz.prog Tryz.f3 Rows.mothKnownRow.domain false) ((OpenSpec.ofChange Rows.mothKnownSpec).postWith enc Tryz.prog Tryz.f3 F (outsideKept [.timePasses]) false true false):=by
 refine returnsInLeavingWide_of_change_time (C:=Tryz.checked) own started Tryz.func3
  (ChangeSpec.witness6c (enc:=enc) (C:=Tryz.checked) ⟨#[], #[],[]⟩ 8 (by kernel_rfl) (by kernel_rfl) (by kernel_rfl) (by kernel_rfl)) ?_
 intro W base args ds gs before hval hW _ _ _
 refine FQ (by kernel_rfl) ?_
 refine ix.mono (Bg (s:=Rows.mothKnownSpec) [] (by rw [Tryz.params3];rfl) rfl Tryz.underlying4 ?_ AX ?_ ?_ rfl ?_ W base args ds gs before hval hW) λe W' ⟨v,he,hp⟩=>⟨v,he,λv1 hr=>hp v1 hr⟩
 .
  exact λp hp=>by simp at hp
 .
  exact λT hT=>by simp at hT
 .
  intro ds hd;have:ds=[]:=eq_nil_of_length_eq_zero (by simpa using hd);subst this;rfl
 .
  rintro l rfl;exact qU 1200 true (AY)
theorem moth_known_holds:Rows.MothKnownSaid:=
 OpenClaim.holds_of_wide_leaving_time 3 Tryz.f3 rfl rfl rfl rfl rfl rfl rfl ⟨rfl,rfl,rfl,rfl,rfl⟩ rfl rfl rfl rfl rfl (by kernel_rfl) Tryz.func3 j3
  (of_decide_eq_true (by kernel_rfl)) (by unfold Func.isWrapper;rw [if_neg (by decide+kernel)];exact⟨rfl,rfl⟩)
  (λos started H enc _ F=>lifted os started H enc F)
#print axioms moth_known_holds
end Go.Proofs.YtlhalkpppmnnmaaGreat
