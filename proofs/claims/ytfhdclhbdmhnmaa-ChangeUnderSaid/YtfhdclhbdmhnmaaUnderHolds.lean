/- Proved: for every slice of ints, galloonlaw04.ChangeUnder returns true and the slice reads as it did before; no goroutine is started. Conditions: none. -/
import Derived.Test.YtfhdclhbdmhnmaaCore28
import Derived.Test.YtfhdclhbdmhnmaaUnderL
import Derived.Test.YtfhdclhbdmhnmaaRows
namespace Go.Proofs.Ytfhdclhbdmhnmaa
open K Go Go.Proofs Go.ChangeShapes Go.WideShapes Go.ChangeAt Go.RowKit

theorem own : ownKnob Try.prog.godebug = none := by kernel_rfl
theorem cells3 : Try.prog.cellsOf 3 = 1 := by kernel_rfl

set_option maxRecDepth 100000 in
theorem lifted (os : Os) (started : os.Started) (H : Type) (enc : TypeId × Value → H) :
    ReturnsInLeavingWide {} Try.checked os 10 .any (Rows.changeUnderSpec.pre6 enc Try.prog Try.f10 Rows.changeUnderRow.domain false) (Rows.changeUnderSpec.post enc Try.prog Try.f10 false true false false) := by
  refine leaving_of_handed (returnsInHanded_of_change_sized (C := Try.checked) own started (by kernel_rfl) Try.func10
    (ChangeSpec.witness6 (enc := enc) (C := Try.checked) false ⟨#[], #[.slice none 0 0], []⟩ 8 (by kernel_rfl) (by kernel_rfl) (by kernel_rfl) (by kernel_rfl)) ?_)
  intro W base args ds gs before hval hW _ _ _
  exact close_ints (s := Rows.changeUnderSpec) Try.params10 rfl Try.underlying22 Try.underlying3 cells3 Try.underlying4 (fun _ => rfl) rfl (fun a0 _ _ => law_ChangeUnder_ok 120 a0 true (under_law (k := 120) (by decide) dressed120 a0)) W base args ds gs before hval hW

theorem under_holds : Rows.ChangeUnderSaid :=
  OpenClaim.holds_of_wide_leaving 10 Try.f10 rfl rfl rfl rfl rfl rfl rfl ⟨rfl, rfl, rfl, rfl, rfl⟩ rfl rfl rfl rfl rfl (by kernel_rfl) Try.func10 (by kernel_rfl)
    (of_decide_eq_true (by kernel_rfl)) (by unfold Func.isWrapper; rw [if_neg (by decide +kernel)]; exact ⟨rfl, rfl⟩)
    (fun os started H enc _ => lifted os started H enc)

#print axioms under_holds
end Go.Proofs.Ytfhdclhbdmhnmaa
