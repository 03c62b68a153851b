/- Proved: for all arguments, galloonlaw04.ChangeThroughs returns true and the arguments read as they did before; no goroutine is started. Conditions: none. -/
import Derived.Test.YtfhdclhbdmhnmaaGreatB4
import Derived.Test.YtfhdclhbdmhnmaaGreatB7
import Derived.Test.YtfhdclhbdmhnmaaGreatRows
namespace Go.Proofs.YtfhdclhbdmhnmaaGreat
open K Go Go.Proofs Go.ChangeShapes Go.WideShapes Go.ChangeAt Go.RowKit

theorem own : ownKnob Tryz.prog.godebug = none := by kernel_rfl
theorem laid : laidOutB Tryz.prog = true := by kernel_rfl
theorem cells3 : Tryz.prog.cellsOf 3 = 1 := by kernel_rfl
theorem cells22 : Tryz.prog.cellsOf 22 = 1 := by kernel_rfl
theorem cells23 : Tryz.prog.cellsOf 23 = 1 := by kernel_rfl
theorem cells24 : Tryz.prog.cellsOf 24 = 1 := by kernel_rfl
theorem cells26 : Tryz.prog.cellsOf 26 = 4 := by kernel_rfl
theorem cells52 : Tryz.prog.cellsOf 52 = 3 := by kernel_rfl
theorem cells74 : Tryz.prog.cellsOf 74 = 5 := by kernel_rfl
theorem mt24 : MT Tryz.prog (.slice (.int .i64)) (.inl 24) := ⟨3, Tryz.underlying24, cells3, Tryz.underlying3⟩
theorem mt52 : MT Tryz.prog tDresser (.inl 52) := ⟨_, Tryz.underlying52, by kernel_rfl, rfl, cells24, mt24, .inr ⟨rfl, cells3, Tryz.underlying3, .inl ⟨_, rfl, rfl, cells3, Tryz.underlying3⟩⟩⟩
theorem mt23 : MT Tryz.prog (.slice tDresser) (.inl 23) := ⟨52, Tryz.underlying23, cells52, mt52⟩
theorem mt74 : MT Tryz.prog tThing (.inl 74) := ⟨_, Tryz.underlying74, by kernel_rfl, rfl, cells24, mt24, .inr ⟨rfl, cells3, Tryz.underlying3, .inr ⟨rfl, cells3, Tryz.underlying3, .inr ⟨rfl, cells3, Tryz.underlying3, .inl ⟨_, rfl, rfl, cells3, Tryz.underlying3⟩⟩⟩⟩⟩
theorem mt22 : MT Tryz.prog (.slice tThing) (.inl 22) := ⟨74, Tryz.underlying22, cells74, mt74⟩
theorem mt26 : MT Tryz.prog tChange (.inl 26) := ⟨_, Tryz.underlying26, by kernel_rfl, rfl, cells22, mt22, .inr ⟨rfl, cells23, mt23, .inr ⟨rfl, cells24, mt24, .inl ⟨_, rfl, rfl, cells24, mt24⟩⟩⟩⟩
theorem mt29 : MT Tryz.prog (.slice tChange) (.inl 29) := ⟨26, Tryz.underlying29, cells26, mt26⟩

set_option maxRecDepth 100000 in
theorem lifted (os : Os) (started : os.Started) (H : Type) (enc : TypeId × Value → H) :
 ReturnsInLeavingWide {} Tryz.checked os 5 .any (Rows.changeThroughsSpec.pre6 enc Tryz.prog Tryz.f5 Rows.changeThroughsRow.domain false) (Rows.changeThroughsSpec.post enc Tryz.prog Tryz.f5 false true false false) := by
 refine leaving_of_handed (returnsInHanded_of_change_sized (C := Tryz.checked) own started (by kernel_rfl) Tryz.func5
  (ChangeSpec.witness6 (enc := enc) (C := Tryz.checked) false ⟨#[], #[.slice none 0 0, .slice none 0 0, .slice none 0 0], []⟩ 8 (by kernel_rfl) (by kernel_rfl) (by kernel_rfl) (by kernel_rfl)) ?_)
 intro W base args ds gs before hval hW _ _ _;refine close_all (s := Rows.changeThroughsSpec) [(29, (.slice tChange)), (24, (.slice (.int .i64))), (24, (.slice (.int .i64)))] (by rw [Tryz.params5]; rfl) rfl Tryz.underlying4 ?_ laid ?_ ?_ rfl ?_ W base args ds gs before hval hW
 ·intro p hp;simp only [List.mem_cons, List.not_mem_nil, or_false] at hp;rcases hp with rfl | rfl | rfl
  ·exact mt29
  ·exact mt24
  ·exact mt24
 ·intro T hT;simp only [List.map_cons, List.map_nil, List.mem_cons, List.not_mem_nil, or_false] at hT;rcases hT with rfl | rfl | rfl
  ·exact ⟨by kernel_rfl, of_decide_eq_true (by kernel_rfl)⟩
  ·exact ⟨by kernel_rfl, of_decide_eq_true (by kernel_rfl)⟩
  ·exact ⟨by kernel_rfl, of_decide_eq_true (by kernel_rfl)⟩
 ·rintro ds hd;obtain ⟨d0, ds, rfl⟩ := List.exists_cons_of_length_eq_add_one (by simpa using hd : ds.length = 2 + 1);obtain ⟨d1, ds, rfl⟩ := List.exists_cons_of_length_eq_add_one (by simpa using hd : ds.length = 1 + 1);obtain ⟨d2, ds, rfl⟩ := List.exists_cons_of_length_eq_add_one (by simpa using hd : ds.length = 0 + 1);have : ds = [] := List.eq_nil_of_length_eq_zero (by simpa using hd);subst this;rfl
 ·rintro l ⟨a0, l0, rfl, a1, l1, rfl, a2, l2, rfl, rfl⟩;exact law_ChangeThroughs_ok 30000 a0 a1 a2 true (throughs_law (k := 30000) (by decide) dressed30000 a0 a1 a2)

theorem throughs_holds : Rows.ChangeThroughsSaid :=
 OpenClaim.holds_of_wide_leaving 5 Tryz.f5 rfl rfl rfl rfl rfl rfl rfl ⟨rfl, rfl, rfl, rfl, rfl⟩ rfl rfl rfl rfl rfl (by kernel_rfl) Tryz.func5 (by kernel_rfl)
  (of_decide_eq_true (by kernel_rfl)) (by unfold Func.isWrapper; rw [if_neg (by decide +kernel)]; exact ⟨rfl, rfl⟩)
  (fun os started H enc _ => lifted os started H enc)

#print axioms throughs_holds
end Go.Proofs.YtfhdclhbdmhnmaaGreat
