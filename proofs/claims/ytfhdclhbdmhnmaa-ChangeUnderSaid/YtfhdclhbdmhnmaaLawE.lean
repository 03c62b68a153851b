/- Plain law: when steps end, as the laws count it. -/
import Derived.Test.YtfhdclhbdmhnmaaPlan
namespace Go.Proofs.Ytfhdclhbdmhnmaa
open K Go Go.Proofs

theorem bgo_len {c : dChange} {ts : List (Bool × Int)} : ∀ {p : List dStep} {E F : Nat → Int}, (bgo c ts E F p).length = p.length
  | [], _, _ => rfl
  | s :: p, _, _ => by simp [bgo, bgo_len (p := p)]
theorem bge_not {c : dChange} {ts : List (Bool × Int)} {i : Nat} : ∀ {p : List dStep} {E F : Nat → Int}, (∀ s ∈ p, s.1.toNat ≠ i) → bge c ts E F p i = E i
  | [], _, _, _ => rfl
  | s :: p, E, F, h => by
    rw [bge, bge_not fun x hx => h x (List.mem_cons_of_mem _ hx)]
    unfold upd
    rw [if_neg (Ne.symm (h s (by simp)))]
/-- A task ends as many bars later as it takes. -/
theorem bge_at {c : dChange} {ts : List (Bool × Int)} : ∀ {p : List dStep} {E F : Nat → Int} {i : Nat} {s : dStep} {b : Int}, (∀ s ∈ p, 0 ≤ s.1) → (p.map (·.1)).Nodup → p[i]? = some s → (bgo c ts E F p)[i]? = some b → bge c ts E F p s.1.toNat = b + barsB c (tsk ts s.1)
  | [], _, _, _, _, _, _, _, h, _ => by simp at h
  | x :: p, E, F, 0, s, b, h0, hn, h1, h2 => by
    simp only [List.getElem?_cons_zero, Option.some.injEq] at h1
    subst h1
    simp only [bgo, List.getElem?_cons_zero, Option.some.injEq] at h2
    subst h2
    simp only [List.map_cons, List.nodup_cons, List.mem_map] at hn
    rw [bge, bge_not]
    · unfold upd; rw [if_pos rfl]; rfl
    · intro y hy e
      have a := h0 y (List.mem_cons_of_mem _ hy)
      have b := h0 x (by simp)
      exact hn.1 ⟨y, hy, by omega⟩
  | x :: p, E, F, i + 1, s, b, h0, hn, h1, h2 => by
    simp only [List.getElem?_cons_succ] at h1
    simp only [bgo, List.getElem?_cons_succ] at h2
    simp only [List.map_cons, List.nodup_cons] at hn
    rw [bge]
    exact bge_at (fun y hy => h0 y (List.mem_cons_of_mem _ hy)) hn.2 h1 h2

theorem lasts_eq {k : Nat} {c : dChange} {mv : List Bool} {w : Bool × Int} (hw : w ∈ tsC c mv) : law_lasts k c (w.2, w.1) = some (barsB c w) := by
  obtain ⟨i, hi, ei⟩ := tsC_rng w hw
  unfold law_lasts barsB
  simp only
  rw [geti_thg (by omega) (by omega)]
  simp only [bs]
  split <;> simp

theorem tsk_swap {c : dChange} {ts : List (Bool × Int)} {s : dStep} (h : StepOk c ts s) : geti (ts.map fun x => (x.2, x.1)) s.1 = some ((tsk ts s.1).2, (tsk ts s.1).1) := by
  have hl : s.1.toNat < ts.length := by have := h.1; have := h.2.1; omega
  rw [geti_at h.1 (by rw [List.length_map]; exact hl), List.getElem_map, tsk, List.getElem?_eq_getElem hl]; rfl

end Go.Proofs.Ytfhdclhbdmhnmaa
