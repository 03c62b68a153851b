/- Plain law, part 12: who can do what, what comes first, the error of a plan. -/
import Derived.Test.YtfhdclhbdmhnmaaLaw11
namespace Go.Proofs.Ytfhdclhbdmhnmaa
open K Go Go.Proofs

/-- A thing of a change. -/
def thg (c : dChange) (x : Int) : dThing := c.1[x.toNat]?.getD ([], 0, 0, 0, 0)
/-- Has a task to be done before another one? -/
def befB (c : dChange) (x y : Bool × Int) : Bool := (decide (x.2 = y.2) && !x.1 && y.1) || (decide (x.2 ∈ (thg c y.2).1) && !x.1) || (decide (y.2 ∈ (thg c x.2).1) && y.1)
def bef (c : dChange) (ts : List (Bool × Int)) (a b : Nat) : Bool := match ts[a]?, ts[b]? with
  | some x, some y => befB c x y
  | _, _ => false
def befL (c : dChange) (ts : List (Bool × Int)) (b : Nat) : List Nat := (List.range ts.length).filter fun a => bef c ts a b

theorem thg_some {c : dChange} {i : Nat} {t : dThing} (h : c.1[i]? = some t) : thg c (i : Int) = t := by simp [thg, h]
theorem befT_iff {c : dChange} {x y : Bool × Int} (hx : ∃ i : Nat, i < c.1.length ∧ x.2 = (i : Int)) (hy : ∃ i : Nat, i < c.1.length ∧ y.2 = (i : Int)) : BefT c x y ↔ befB c x y = true := by
  obtain ⟨i, hi, ei⟩ := hx
  obtain ⟨j, hj, ej⟩ := hy
  obtain ⟨xb, xv⟩ := x
  obtain ⟨yb, yv⟩ := y
  simp only at ei ej
  subst ei ej
  have hgi := List.getElem?_eq_getElem hi
  have hgj := List.getElem?_eq_getElem hj
  simp only [BefT, befB, Bool.or_eq_true, Bool.and_eq_true, decide_eq_true_eq, Bool.not_eq_true', thg_some hgi, thg_some hgj]
  constructor
  · rintro (⟨a, b, d⟩ | ⟨i', t, a, b, d, e⟩ | ⟨i', t, a, b, d, e⟩)
    · exact .inl (.inl ⟨⟨a, b⟩, d⟩)
    · have : j = i' := by omega
      subst this
      rw [hgj] at a; cases a
      exact .inl (.inr ⟨d, e⟩)
    · have : i = i' := by omega
      subst this
      rw [hgi] at a; cases a
      exact .inr ⟨d, e⟩
  · rintro ((⟨⟨a, b⟩, d⟩ | ⟨a, b⟩) | ⟨a, b⟩)
    · exact .inl ⟨a, b, d⟩
    · exact .inr (.inl ⟨j, _, hgj, rfl, a, b⟩)
    · exact .inr (.inr ⟨i, _, hgi, rfl, a, b⟩)

theorem QV.mask {n : Int} {c : dChange} {mv : List Bool} {q : dQuick} (h : QV n c mv q) {b : Nat} (hb : b < 8) : ∃ m, q.2.2[b]? = some m ∧ Mask m ∧ (∀ a : Nat, Has m a ↔ bef c (tsC c mv) a b = true) ∧ bitsL m 8 = (befL c (tsC c mv) b).map fun (a : Nat) => (a : Int) := by
  have hl : b < q.2.2.length := by rw [h.len]; exact hb
  obtain ⟨h1, h2⟩ := h.masks b _ (List.getElem?_eq_getElem hl)
  have h3 : ∀ a : Nat, Has q.2.2[b] a ↔ bef c (tsC c mv) a b = true := fun a => by
    rw [h2]
    unfold bef
    constructor
    · rintro ⟨x, y, e1, e2, hb⟩
      rw [e1, e2]
      exact (befT_iff (tsC_rng _ (List.mem_of_getElem? e1)) (tsC_rng _ (List.mem_of_getElem? e2))).1 hb
    · intro hm
      cases e1 : (tsC c mv)[a]? with
      | none => rw [e1] at hm; simp at hm
      | some x => cases e2 : (tsC c mv)[b]? with
        | none => rw [e1, e2] at hm; simp at hm
        | some y =>
          rw [e1, e2] at hm
          exact ⟨x, y, rfl, rfl, (befT_iff (tsC_rng _ (List.mem_of_getElem? e1)) (tsC_rng _ (List.mem_of_getElem? e2))).2 hm⟩
  refine ⟨_, List.getElem?_eq_getElem hl, h1, h3, ?_⟩
  unfold bitsL befL
  have hf : ∀ i, decide (Has q.2.2[b] i) = true → i < (tsC c mv).length := fun i hi => by
    have := (h3 i).1 (of_decide_eq_true hi)
    unfold bef at this
    cases e1 : (tsC c mv)[i]? with
    | none => rw [e1] at this; simp at this
    | some x => exact (List.getElem?_eq_some_iff.1 e1).1
  rw [filter_range hf 8 (by have := h.t4; omega)]
  congr 1
  apply List.filter_congr
  intro i _
  rw [Bool.eq_iff_iff, decide_eq_true_eq]
  exact h3 i

end Go.Proofs.Ytfhdclhbdmhnmaa
