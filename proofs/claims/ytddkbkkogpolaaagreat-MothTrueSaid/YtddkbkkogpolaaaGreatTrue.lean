import Derived.Test.YtddkbkkogpolaaaGreatTruL
import Derived.Conc.HoldsTime
import Derived.Test.YtddkbkkogpolaaaGreatTrueT
open Nat
open List hiding mem_of_getElem?
open Array hiding mem_of_getElem? mk
set_option linter.unusedVariables false
set_option linter.unusedSimpArgs false
namespace Go.Proofs.YtddkbkkogpolaaaGreat
open K Go Go.Proofs Go.ChangeShapes Go.WideShapes Go.ChangeAt Go.RowKit
theorem aT{a b:Bool}(h:a=true)(h':b=true):(a && b)=true:=by rw [h,h'];rfl
theorem j8:joinedFacts Tryz.prog 8 Tryz.f8 Rows.mothTrueSpec Rows.mothTrueRow=true:=by
 unfold joinedFacts;exact aT (aT (aT (aT (aT (aT (aT (aT (aT (aT (aT (aT (aT (aT (aT (aT (aT (aT (aT (aT (aT (aT (aT (aT (aT (aT (aT (aT (aT (aT (aT (UB) UA) Uz) Uy) Ux) Uw) Uu) Ut) Us) Ur) RX) RV) RU) RS) RR) RQ) RP) RO) RN) RL) RJ) RI) RH) RG) RF) RE) RD) RB) (by kernel_rfl)) Rz) Ry) Rx
theorem own:ownKnob Tryz.prog.godebug=none:=by kernel_rfl
theorem Fe:laidOutB Tryz.prog=true:=by kernel_rfl
theorem Qf:Tryz.prog.cellsOf 3=1:=by kernel_rfl
theorem Ui:MT Tryz.prog (.slice (.int .i64)) (.inl 22):=⟨3,Tryz.underlying22,Qf,Tryz.underlying3⟩
set_option maxRecDepth 100000 in
theorem lifted(os:Os)(started:os.Started)(H:Type)(enc:TypeId×Value->H)(F:Stop.Interp):
 ReturnsInLeavingWide Rows.mothTrueRow.assume Tryz.checked os 8 .any (Rows.mothTrueSpec.pre6 enc Tryz.prog Tryz.f8 Rows.mothTrueRow.domain false) ((OpenSpec.ofChange Rows.mothTrueSpec).postWith enc Tryz.prog Tryz.f8 F (outsideKept [.timePasses]) false true false):=by
 refine returnsInLeavingWide_of_change_time (C:=Tryz.checked) own started Tryz.func8
  (ChangeSpec.witness6c (enc:=enc) (C:=Tryz.checked) ⟨#[], #[.slice none 0 0],[]⟩ 8 (by kernel_rfl) (by kernel_rfl) (by kernel_rfl) (by kernel_rfl)) ?_
 intro W base args ds gs before hval hW _ _ _
 refine Kz (by kernel_rfl) ?_
 refine jF.mono (FM (s:=Rows.mothTrueSpec) [(22,(.slice (.int .i64)))] (by rw [Tryz.params8];rfl) rfl Tryz.underlying4 ?_ Fe ?_ ?_ rfl ?_ W base args ds gs before hval hW) λe W' ⟨v,he,hp⟩=>⟨v,he,λv1 hr=>hp v1 hr⟩
 .
  intro p hp;simp only [mem_cons,not_mem_nil,or_false] at hp;rcases hp with rfl
  .exact Ui
 .
  intro T hT;simp only [map_cons,map_nil,mem_cons,not_mem_nil,or_false] at hT;rcases hT with rfl
  .exact⟨by kernel_rfl,of_decide_eq_true (by kernel_rfl)⟩
 .
  rintro ds hd;obtain⟨d0,ds,rfl⟩:=exists_cons_of_length_eq_add_one (by simpa using hd:ds.length=0+1);have:ds=[]:=eq_nil_of_length_eq_zero (by simpa using hd);subst this;rfl
 .
  rintro l ⟨a0,l0,rfl,rfl⟩;exact tO 1200 a0 true (G5 a0)
theorem moth_true_holds:Rows.MothTrueSaid:=
 OpenClaim.holds_of_wide_leaving_time 8 Tryz.f8 rfl rfl rfl rfl rfl rfl rfl ⟨rfl,rfl,rfl,rfl,rfl⟩ rfl rfl rfl rfl rfl (by kernel_rfl) Tryz.func8 j8
  (of_decide_eq_true (by kernel_rfl)) (by unfold Func.isWrapper;rw [if_neg (by decide+kernel)];exact⟨rfl,rfl⟩)
  (λos started H enc _ F=>lifted os started H enc F)
#print axioms moth_true_holds
end Go.Proofs.YtddkbkkogpolaaaGreat
