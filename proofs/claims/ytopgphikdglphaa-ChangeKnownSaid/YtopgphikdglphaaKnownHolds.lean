/- Proved: for all arguments, galloonlaw04.ChangeKnown returns true and the arguments read as they did before; goroutines are started, and all have quit. Conditions: none. -/
import Derived.Test.YtopgphikdglphaaB5
import Derived.Test.YtopgphikdglphaaB7
import Derived.Test.YtopgphikdglphaaRows
namespace Go.Proofs.Ytopgphikdglphaa
open K Go Go.Proofs Go.ChangeShapes Go.WideShapes Go.ChangeAt Go.RowKit

theorem own : ownKnob Try.prog.godebug = none := by kernel_rfl
theorem laid : laidOutB Try.prog = true := by kernel_rfl



set_option maxRecDepth 100000 in
theorem lifted (os : Os) (started : os.Started) (H : Type) (enc : TypeId × Value → H) :
 ReturnsInLeavingWide {} Try.checked os 4 .any (Rows.changeKnownSpec.pre6 enc Try.prog Try.f4 Rows.changeKnownRow.domain false) (Rows.changeKnownSpec.post enc Try.prog Try.f4 false true false false) := by
 refine returnsInLeavingWide_of_change_sized (C := Try.checked) own started Try.func4
  (ChangeSpec.witness6 (enc := enc) (C := Try.checked) false ⟨#[], #[], []⟩ 8 (by kernel_rfl) (by kernel_rfl) (by kernel_rfl) (by kernel_rfl)) ?_
 intro W base args ds gs before hval hW _ _ _
 refine well_of (by kernel_rfl) ?_
 refine close_all (s := Rows.changeKnownSpec) [] (by rw [Try.params4]; rfl) rfl Try.underlying4 ?_ laid ?_ ?_ rfl ?_ W base args ds gs before hval hW
 ·
  exact fun p hp => by simp at hp
 ·
  exact fun T hT => by simp at hT
 ·
  intro ds hd;have : ds = [] := List.eq_nil_of_length_eq_zero (by simpa using hd);subst this;rfl
 ·
  rintro l rfl;exact law_ChangeKnown_ok 200  true (known_law)

theorem known_holds : Rows.ChangeKnownSaid :=
 OpenClaim.holds_of_wide_leaving 4 Try.f4 rfl rfl rfl rfl rfl rfl rfl ⟨rfl, rfl, rfl, rfl, rfl⟩ rfl rfl rfl rfl rfl (by kernel_rfl) Try.func4 (by kernel_rfl)
  (of_decide_eq_true (by kernel_rfl)) (by unfold Func.isWrapper; rw [if_neg (by decide +kernel)]; exact ⟨rfl, rfl⟩)
  (fun os started H enc _ => lifted os started H enc)

#print axioms known_holds
end Go.Proofs.Ytopgphikdglphaa
