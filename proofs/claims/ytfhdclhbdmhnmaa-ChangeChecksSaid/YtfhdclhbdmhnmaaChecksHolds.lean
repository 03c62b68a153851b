/- Proved: for every change and every slice of ints, galloonlaw04.ChangeChecks returns true and the input reads as it did before; no goroutine is started. Conditions: none. -/
import Derived.Test.YtfhdclhbdmhnmaaCore30
import Derived.Test.YtfhdclhbdmhnmaaChecks
import Derived.Test.YtfhdclhbdmhnmaaRows
namespace Go.Proofs.Ytfhdclhbdmhnmaa
open K Go Go.Proofs Go.ChangeShapes Go.WideShapes Go.ChangeAt Go.RowKit

theorem own : ownKnob Try.prog.godebug = none := by kernel_rfl
theorem cells3 : Try.prog.cellsOf 3 = 1 := by kernel_rfl
theorem cells22 : Try.prog.cellsOf 22 = 1 := by kernel_rfl
theorem laid : laidOutB Try.prog = true := by kernel_rfl

theorem mtInts : MT Try.prog (.slice (.int .i64)) (.inl 22) := ⟨3, Try.underlying22, cells3, Try.underlying3⟩
theorem mtThing : MT Try.prog tThing (.inl 45) :=
  ⟨_, Try.underlying45, by kernel_rfl, rfl, cells22, mtInts, .inr ⟨rfl, cells3, Try.underlying3, .inr ⟨rfl, cells3, Try.underlying3, .inr ⟨rfl, cells3, Try.underlying3, .inl ⟨_, rfl, rfl, cells3, Try.underlying3⟩⟩⟩⟩⟩
theorem mtDresser : MT Try.prog tDresser (.inl 53) :=
  ⟨_, Try.underlying53, by kernel_rfl, rfl, cells22, mtInts, .inr ⟨rfl, cells3, Try.underlying3, .inl ⟨_, rfl, rfl, cells3, Try.underlying3⟩⟩⟩
theorem mtChange : MT Try.prog tChange (.inl 28) :=
  ⟨_, Try.underlying28, by kernel_rfl, rfl, by kernel_rfl, ⟨45, Try.underlying25, by kernel_rfl, mtThing⟩, .inr ⟨rfl, by kernel_rfl, ⟨53, Try.underlying26, by kernel_rfl, mtDresser⟩, .inr ⟨rfl, cells22, mtInts, .inl ⟨_, rfl, rfl, cells22, mtInts⟩⟩⟩⟩

set_option maxRecDepth 100000 in
theorem lifted (os : Os) (started : os.Started) (H : Type) (enc : TypeId × Value → H) :
    ReturnsInLeavingWide {} Try.checked os 12 .any (Rows.changeChecksSpec.pre6 enc Try.prog Try.f12 Rows.changeChecksRow.domain false) (Rows.changeChecksSpec.post enc Try.prog Try.f12 false true false false) := by
  refine leaving_of_handed (returnsInHanded_of_change_sized (C := Try.checked) own started (by kernel_rfl) Try.func12
    (ChangeSpec.witness6 (enc := enc) (C := Try.checked) false ⟨#[], #[.agg #[.slice none 0 0, .slice none 0 0, .slice none 0 0, .slice none 0 0], .slice none 0 0], []⟩ 8 (by kernel_rfl) (by kernel_rfl) (by kernel_rfl) (by kernel_rfl)) ?_)
  intro W base args ds gs before hval hW _ _ _
  refine close_all (s := Rows.changeChecksSpec) [(28, tChange), (22, .slice (.int .i64))] (by rw [Try.params12]; rfl) rfl Try.underlying4 ?_ laid ?_ ?_ rfl ?_ W base args ds gs before hval hW
  · intro p hp
    simp only [List.mem_cons, List.not_mem_nil, or_false] at hp
    rcases hp with rfl | rfl
    · exact mtChange
    · exact mtInts
  · intro T hT
    simp only [List.map_cons, List.map_nil, List.mem_cons, List.not_mem_nil, or_false] at hT
    rcases hT with rfl | rfl
    · exact ⟨by kernel_rfl, of_decide_eq_true (by kernel_rfl)⟩
    · exact ⟨by kernel_rfl, of_decide_eq_true (by kernel_rfl)⟩
  · rintro ds hd
    obtain ⟨d1, ds, rfl⟩ := List.exists_cons_of_length_eq_add_one hd
    obtain ⟨d2, ds, rfl⟩ := List.exists_cons_of_length_eq_add_one (by simpa using hd : ds.length = 0 + 1)
    have : ds = [] := List.eq_nil_of_length_eq_zero (by simpa using hd)
    subst this
    rfl
  · rintro l ⟨a0, l1, rfl, a1, l2, rfl, rfl⟩
    exact law_ChangeChecks_ok 100 a0 a1 true (checks_law (k := 100) (by decide) dressed100 a0 a1)

theorem checks_holds : Rows.ChangeChecksSaid :=
  OpenClaim.holds_of_wide_leaving 12 Try.f12 rfl rfl rfl rfl rfl rfl rfl ⟨rfl, rfl, rfl, rfl, rfl⟩ rfl rfl rfl rfl rfl (by kernel_rfl) Try.func12 (by kernel_rfl)
    (of_decide_eq_true (by kernel_rfl)) (by unfold Func.isWrapper; rw [if_neg (by decide +kernel)]; exact ⟨rfl, rfl⟩)
    (fun os started H enc _ => lifted os started H enc)

#print axioms checks_holds
end Go.Proofs.Ytfhdclhbdmhnmaa
