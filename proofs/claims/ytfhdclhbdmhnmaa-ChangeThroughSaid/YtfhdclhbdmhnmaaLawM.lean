/- Plain law: sooner, or able to do more. -/
import Derived.Test.YtfhdclhbdmhnmaaLawW
namespace Go.Proofs.Ytfhdclhbdmhnmaa
open K Go Go.Proofs

theorem bgAt_le {c c' : dChange} {ts : List (Bool × Int)} (hc : c'.1 = c.1) {E E' F F' : Nat → Int} {δ : Int} (hE : ∀ i, E' i ≤ E i + δ) (hF : ∀ i, F' i ≤ F i + δ) {s : dStep} : bgAt c' ts E' F' s ≤ bgAt c ts E F s + δ := by
  have hb : befL c' ts s.1.toNat = befL c ts s.1.toNat := by
    unfold befL bef befB thg
    rw [hc]
  unfold bgAt
  rw [hb, foldmax_le]
  obtain ⟨h1, h2⟩ := le_foldmax (E := E) (l := befL c ts s.1.toNat) (m := F s.2.toNat)
  exact ⟨by have := hF s.2.toNat; omega, fun a ha => by have := hE a; have := h2 a ha; omega⟩
theorem bge_le {c c' : dChange} {ts : List (Bool × Int)} (hc : c'.1 = c.1) {δ : Int} : ∀ {p : List dStep} {E E' F F' : Nat → Int}, (∀ i, E' i ≤ E i + δ) → (∀ i, F' i ≤ F i + δ) → ∀ i, bge c' ts E' F' p i ≤ bge c ts E F p i + δ
  | [], _, _, _, _, hE, _ => hE
  | s :: p, E, E', F, F', hE, hF => by
    have hb : barsB c' (tsk ts s.1) = barsB c (tsk ts s.1) := by unfold barsB thg; rw [hc]
    have he : bgEnd c' ts E' F' s ≤ bgEnd c ts E F s + δ := by
      unfold bgEnd
      rw [hb]
      have := bgAt_le (ts := ts) hc hE hF (s := s)
      omega
    rw [bge, bge]
    refine bge_le hc (fun i => ?_) (fun i => ?_)
    · unfold upd; split
      · exact he
      · exact hE i
    · unfold upd; split
      · exact he
      · exact hF i
theorem lenS_le {c c' : dChange} {ts : List (Bool × Int)} (hc : c'.1 = c.1) {δ : Int} (h0 : 0 ≤ δ) (hF : ∀ i, F0 c' i ≤ F0 c i + δ) {p : List dStep} : lenS c' ts p ≤ lenS c ts p + δ := by
  have h := bge_le (ts := ts) (p := p) hc (E := E0) (E' := E0) (δ := δ) (fun i => by unfold E0; omega) hF
  unfold lenS
  generalize bge c' ts E0 (F0 c') p = E' at *
  generalize bge c ts E0 (F0 c) p = E at *
  have a0 := h 0; have a1 := h 1; have a2 := h 2; have a3 := h 3
  unfold maxE
  simp only [imax_le]
  have b : ∀ x, x ≤ imax (imax (imax (E 0) (E 1)) (E 2)) (E 3) ↔ ((x ≤ E 0 ∨ x ≤ E 1) ∨ x ≤ E 2) ∨ x ≤ E 3 := fun x => by simp only [le_imax]
  have b0 := (b (E 0)).2 (.inl (.inl (.inl (Int.le_refl _))))
  have b1 := (b (E 1)).2 (.inl (.inl (.inr (Int.le_refl _))))
  have b2 := (b (E 2)).2 (.inl (.inr (Int.le_refl _)))
  have b3 := (b (E 3)).2 (.inr (Int.le_refl _))
  omega

/-- Who can do more keeps all plans. -/
theorem cpS_more {c c' : dChange} {ts : List (Bool × Int)} (h1 : c'.1 = c.1) (h2 : c'.2.1.length = c.2.1.length) (h3 : ∀ (i : Int) w, 0 ≤ i → i < c.2.1.length → w ∈ ts → canB c i w = true → canB c' i w = true) {p : List dStep} (h : cpS c ts p = 0) : cpS c' ts p = 0 := by
  have hb : ∀ b, befL c' ts b = befL c ts b := fun b => by
    unfold befL bef befB thg
    rw [h1]
  have step : ∀ (s : dStep) (done : List Int), stepErr c ts done s = 0 → stepErr c' ts done s = 0 := fun s done hs => by
    unfold stepErr at hs ⊢
    rw [hb, h2]
    by_cases a1 : 0 ≤ s.1 ∧ s.1 < ts.length
    · have n1 : ¬ ¬ (0 ≤ s.1 ∧ s.1 < ts.length) := fun h => h a1
      simp only [n1, if_false] at hs ⊢
      by_cases a2 : s.1 ∈ done
      · simp only [a2, if_true] at hs; cases hs
      · simp only [a2, if_false] at hs ⊢
        by_cases a3 : 0 ≤ s.2 ∧ s.2 < c.2.1.length
        · have n3 : ¬ ¬ (0 ≤ s.2 ∧ s.2 < c.2.1.length) := fun h => h a3
          simp only [n3, if_false] at hs ⊢
          by_cases a4 : canB c s.2 (ts[s.1.toNat]?.getD (false, 0)) = false
          · simp only [a4, if_true] at hs; cases hs
          · have hl : s.1.toNat < ts.length := by omega
            have a5 : canB c' s.2 (ts[s.1.toNat]?.getD (false, 0)) = true := h3 _ _ a3.1 a3.2 (by rw [List.getElem?_eq_getElem hl]; exact List.getElem_mem hl) (by simpa using a4)
            rw [if_neg a4] at hs
            rw [if_neg (by rw [a5]; decide)]
            exact hs
        · simp only [a3, not_false_eq_true, if_true] at hs; cases hs
    · simp only [a1, not_false_eq_true, if_true] at hs; cases hs
  have key : ∀ (p : List dStep) (done : List Int), cpGo c ts done p = 0 → cpGo c' ts done p = 0 := by
    intro p
    induction p with
    | nil => intro done _; rfl
    | cons s p ih =>
      intro done h
      rw [cpGo] at h ⊢
      by_cases h0 : stepErr c ts done s = 0
      · rw [if_neg (by simp [h0])] at h
        rw [if_neg (by simp [step s done h0])]
        exact ih _ h
      · rw [if_pos h0] at h; exact absurd h h0
  obtain ⟨e1, e2⟩ := cpS_ok h
  unfold cpS
  rw [if_neg (by omega), if_neg (by omega), key p [] e2]

/-- **More hands are no worse, but for as many bars as they come later.** -/
theorem fewS_more {c c' : dChange} {ts : List (Bool × Int)} (h1 : c'.1 = c.1) (h2 : c'.2.1.length = c.2.1.length) (h3 : ∀ (i : Int) w, 0 ≤ i → i < c.2.1.length → w ∈ ts → canB c i w = true → canB c' i w = true) {δ : Int} (h0 : 0 ≤ δ) (hF : ∀ i, F0 c' i ≤ F0 c i + δ)
    (h : (fewS c ts).1 = true) : (fewS c' ts).1 = true ∧ (fewS c' ts).2.1 ≤ (fewS c ts).2.1 + δ := by
  rcases fewS_spec (c := c) (ts := ts) with ⟨hf, _⟩ | ⟨_, a1, a2, _⟩
  · rw [hf] at h; cases h
  · have b1 := cpS_more h1 h2 h3 a1
    have hs : (fewS c' ts).1 = true := fewS_some.2 ⟨_, b1⟩
    refine ⟨hs, ?_⟩
    rcases fewS_spec (c := c') (ts := ts) with ⟨hf, _⟩ | ⟨_, _, _, b2⟩
    · rw [hf] at hs; cases hs
    · have := b2 _ b1
      have := lenS_le (ts := ts) h1 h0 hF (p := (fewS c ts).2.2)
      omega

end Go.Proofs.Ytfhdclhbdmhnmaa
