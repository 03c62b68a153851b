/- The calculus, part 23: a loop's body over an iterator, as a function that is not asked any more behind a stop. -/
import Derived.Test.YtfhdclhbdmhnmaaCore22
namespace Go.Proofs.Ytfhdclhbdmhnmaa
namespace K
open Go

/-- The body of a loop over an iterator: the state, and whether it has been left. -/
def stopY {σ α : Type} (Y : σ → α → Option (σ × Bool)) : σ × Bool → α → Option ((σ × Bool) × Bool)
  | (_, true), _ => none
  | (s, false), p => (Y s p).bind fun r => some ((r.1, !r.2), r.2)

theorem stopY_some {σ α : Type} {Y : σ → α → Option (σ × Bool)} {q : σ × Bool} {p : α} {r : (σ × Bool) × Bool} (h : stopY Y q p = some r) : ∃ r', q.2 = false ∧ Y q.1 p = some r' ∧ r = ((r'.1, !r'.2), r'.2) := by
  obtain ⟨s, b⟩ := q
  cases b with
  | true => cases h
  | false =>
    simp only [stopY] at h
    cases hY : Y s p with
    | none => rw [hY] at h; cases h
    | some r' => rw [hY] at h; exact ⟨r', rfl, rfl, (Option.some.inj h).symm⟩

/-- The resources behind a loop's record. -/
@[reducible] def jOf (b : Bool) : Option Code := cond b (some .ret) none
end K
end Go.Proofs.Ytfhdclhbdmhnmaa
