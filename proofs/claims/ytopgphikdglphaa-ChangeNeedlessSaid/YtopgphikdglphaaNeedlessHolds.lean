/- Proved: for all arguments, galloonlaw04.ChangeNeedless returns true and the arguments read as they did before; goroutines are started, and all have quit. Conditions: none. -/
import Derived.Test.YtopgphikdglphaaB5
import Derived.Test.YtopgphikdglphaaB9
import Derived.Test.YtopgphikdglphaaRows
namespace Go.Proofs.Ytopgphikdglphaa
open K Go Go.Proofs Go.ChangeShapes Go.WideShapes Go.ChangeAt Go.RowKit

theorem own : ownKnob Try.prog.godebug = none := by kernel_rfl
theorem laid : laidOutB Try.prog = true := by kernel_rfl
theorem cells3 : Try.prog.cellsOf 3 = 1 := by kernel_rfl
theorem mt22 : MT Try.prog (.slice (.int .i64)) (.inl 22) := ⟨3, Try.underlying22, cells3, Try.underlying3⟩

set_option maxRecDepth 100000 in
theorem lifted (os : Os) (started : os.Started) (H : Type) (enc : TypeId × Value → H) :
 ReturnsInLeavingWide {} Try.checked os 3 .any (Rows.changeNeedlessSpec.pre6 enc Try.prog Try.f3 Rows.changeNeedlessRow.domain false) (Rows.changeNeedlessSpec.post enc Try.prog Try.f3 false true false false) := by
 refine returnsInLeavingWide_of_change_sized (C := Try.checked) own started Try.func3
  (ChangeSpec.witness6 (enc := enc) (C := Try.checked) false ⟨#[], #[.slice none 0 0], []⟩ 8 (by kernel_rfl) (by kernel_rfl) (by kernel_rfl) (by kernel_rfl)) ?_
 intro W base args ds gs before hval hW _ _ _
 refine well_of (by kernel_rfl) ?_
 refine close_all (s := Rows.changeNeedlessSpec) [(22, (.slice (.int .i64)))] (by rw [Try.params3]; rfl) rfl Try.underlying4 ?_ laid ?_ ?_ rfl ?_ W base args ds gs before hval hW
 ·
  intro p hp;simp only [List.mem_cons, List.not_mem_nil, or_false] at hp;rcases hp with rfl
  ·exact mt22
 ·
  intro T hT;simp only [List.map_cons, List.map_nil, List.mem_cons, List.not_mem_nil, or_false] at hT;rcases hT with rfl
  ·exact ⟨by kernel_rfl, of_decide_eq_true (by kernel_rfl)⟩
 ·
  rintro ds hd;obtain ⟨d0, ds, rfl⟩ := List.exists_cons_of_length_eq_add_one (by simpa using hd : ds.length = 0 + 1);have : ds = [] := List.eq_nil_of_length_eq_zero (by simpa using hd);subst this;rfl
 ·
  rintro l ⟨a0, l0, rfl, rfl⟩;exact law_ChangeNeedless_ok 100 a0 true (needless_law (k := 100) (by decide) dressed100 a0)

theorem needless_holds : Rows.ChangeNeedlessSaid :=
 OpenClaim.holds_of_wide_leaving 3 Try.f3 rfl rfl rfl rfl rfl rfl rfl ⟨rfl, rfl, rfl, rfl, rfl⟩ rfl rfl rfl rfl rfl (by kernel_rfl) Try.func3 (by kernel_rfl)
  (of_decide_eq_true (by kernel_rfl)) (by unfold Func.isWrapper; rw [if_neg (by decide +kernel)]; exact ⟨rfl, rfl⟩)
  (fun os started H enc _ => lifted os started H enc)

#print axioms needless_holds
end Go.Proofs.Ytopgphikdglphaa
