/- Plain law: a change with other dressers. -/
import Derived.Test.YtfhdclhbdmhnmaaLaw14
namespace Go.Proofs.Ytfhdclhbdmhnmaa
open K Go Go.Proofs

/-- A change with other dressers. -/
abbrev wD (c : dChange) (ds : List dDresser) : dChange := (c.1, ds, c.2.2.1, c.2.2.2)

theorem vc_with {k : Nat} {n : Int} {c : dChange} {ds : List dDresser} (hG : GoodC k c) (hc : VC n c) (hd : ∀ x ∈ ds, GoodD n x) (hl : 1 ≤ ds.length ∧ ds.length ≤ 3) : VC n (wD c ds) := by
  obtain ⟨⟨up, n', h1, h4, hl', hgo, hw, hv, _⟩, _, _⟩ := hG
  have : n' = n := by have := hc.len; omega
  subst this
  exact vc_of_good ⟨h1, h4⟩ hl' hgo hw hv hd hl

theorem fix_with {c : dChange} {ds : List dDresser} {mv : List Bool} (h : Fix c mv) : Fix (wD c ds) mv := ⟨h.len, h.sound, h.shut⟩

/-- **A valid change with other dressers is at work as it was.** -/
theorem begin_with {k : Nat} (hk : 50 ≤ k) {k' : Nat} {n : Int} {c : dChange} {mv : List Bool} {q : dQuick} {ds : List dDresser} (hG : GoodC k' c) (hq : QV n c mv q) (hd : ∀ x ∈ ds, GoodD n x) (hl : 1 ≤ ds.length ∧ ds.length ≤ 3) :
    ∃ q', chg_begin k (wD c ds) = some (some q', 0) ∧ QV n (wD c ds) mv q' :=
  (begin_ok hk (vc_with hG hq.vc hd hl) (fix_with hq.fix)).2 hq.t4

theorem bef_with {c : dChange} {ds : List dDresser} {ts : List (Bool × Int)} {b : Nat} : befL (wD c ds) ts b = befL c ts b := rfl

theorem drs_set {c : dChange} {ds : List dDresser} {x : dDresser} {d : Nat} (hd : d < ds.length) {i : Int} (hi : 0 ≤ i) : drs (wD c (ds.set d x)) i = if i = (d : Int) then x else drs (wD c ds) i := by
  unfold drs
  simp only [List.getElem?_set]
  by_cases h : d = i.toNat
  · rw [if_pos h, if_pos hd, if_pos (by omega)]; rfl
  · rw [if_neg h, if_neg (by omega)]

/-- Who can do what does not hang on when they come. -/
theorem canB_from {c : dChange} {ds : List dDresser} {x : dDresser} {v : Int} {d : Nat} (hx : ds[d]? = some x) {i : Int} (hi : 0 ≤ i) {w : Bool × Int} : canB (wD c (ds.set d (x.1, x.2.1, v))) i w = canB (wD c ds) i w := by
  have hd : d < ds.length := (List.getElem?_eq_some_iff.1 hx).1
  have e := drs_set (c := c) (ds := ds) (x := (x.1, x.2.1, v)) hd hi
  have : (drs (wD c (ds.set d (x.1, x.2.1, v))) i).1 = (drs (wD c ds) i).1 ∧ (drs (wD c (ds.set d (x.1, x.2.1, v))) i).2.1 = (drs (wD c ds) i).2.1 := by
    rw [e]
    by_cases h : i = (d : Int)
    · rw [if_pos h]
      subst h
      unfold drs
      simp [hx]
    · rw [if_neg h]; exact ⟨rfl, rfl⟩
  unfold canB
  rw [this.1, this.2]
  rfl

theorem stepErr_congr {c c' : dChange} {ts : List (Bool × Int)} {done : List Int} {s : dStep} (h1 : c'.1 = c.1) (h2 : c'.2.1.length = c.2.1.length) (h3 : 0 ≤ s.2 → s.2 < c.2.1.length → canB c' s.2 (tsk ts s.1) = canB c s.2 (tsk ts s.1)) : stepErr c' ts done s = stepErr c ts done s := by
  have hb : ∀ b, befL c' ts b = befL c ts b := fun b => by
    unfold befL bef befB thg
    rw [h1]
  unfold stepErr
  rw [hb, h2]
  by_cases a1 : 0 ≤ s.1 ∧ s.1 < ts.length
  · have n1 : ¬ ¬ (0 ≤ s.1 ∧ s.1 < ts.length) := fun h => h a1
    simp only [n1, if_false]
    by_cases a2 : s.1 ∈ done
    · simp only [a2, if_true]
    · simp only [a2, if_false]
      by_cases a3 : 0 ≤ s.2 ∧ s.2 < c.2.1.length
      · have n3 : ¬ ¬ (0 ≤ s.2 ∧ s.2 < c.2.1.length) := fun h => h a3
        have := h3 a3.1 a3.2
        unfold tsk at this
        simp only [n3, if_false, this]
      · simp only [a3, not_false_eq_true, if_true]
  · simp only [a1, not_false_eq_true, if_true]
theorem cpS_congr {c c' : dChange} {ts : List (Bool × Int)} (h1 : c'.1 = c.1) (h2 : c'.2.1.length = c.2.1.length) (h3 : ∀ (i : Int) w, 0 ≤ i → i < c.2.1.length → w ∈ ts → canB c' i w = canB c i w) {p : List dStep} : cpS c' ts p = cpS c ts p := by
  have key : ∀ (p : List dStep) (done : List Int), cpGo c' ts done p = cpGo c ts done p := by
    intro p
    induction p with
    | nil => intro done; rfl
    | cons s p ih =>
      intro done
      have e : stepErr c' ts done s = stepErr c ts done s := by
        by_cases hs : 0 ≤ s.1 ∧ s.1 < ts.length
        · refine stepErr_congr h1 h2 fun a b => h3 _ _ a b ?_
          have hl : s.1.toNat < ts.length := by omega
          rw [tsk, List.getElem?_eq_getElem hl]
          exact List.getElem_mem hl
        · unfold stepErr
          simp only [hs, not_false_eq_true, if_true]
      rw [cpGo, cpGo, e, ih]
  unfold cpS
  rw [key]

/-- Whether there is a plan. -/
theorem fewS_some {c : dChange} {ts : List (Bool × Int)} : (fewS c ts).1 = true ↔ ∃ p, cpS c ts p = 0 := by
  rcases fewS_spec (c := c) (ts := ts) with ⟨h, _, h'⟩ | ⟨h, h', _⟩
  · rw [h]
    exact ⟨fun h => (nomatch h), fun ⟨p, hp⟩ => absurd hp (h' p)⟩
  · exact ⟨fun _ => ⟨_, h'⟩, fun _ => h⟩

theorem goodD_from {n : Int} {x : dDresser} (h : GoodD n x) {v : Int} (hv : 0 ≤ v ∧ v ≤ 9) : GoodD n (x.1, x.2.1, v) := ⟨h.can, h.side, hv⟩
theorem good_set {n : Int} {ds : List dDresser} {d : Nat} {x : dDresser} (h : ∀ x ∈ ds, GoodD n x) (hx : GoodD n x) : ∀ y ∈ ds.set d x, GoodD n y := fun y hy => by
  rcases List.mem_or_eq_of_mem_set hy with h' | h'
  · exact h y h'
  · subst h'; exact hx

/-- The bars of a plan are not many. -/
theorem bge_bnd {n : Int} {c : dChange} {mv : List Bool} (hc : VC n c) : ∀ {p : List dStep} {E F : Nat → Int} {b : Int}, (∀ s ∈ p, StepOk c (tsC c mv) s) → Bnd E b → Bnd F b → Bnd (bge c (tsC c mv) E F p) (b + 4 * p.length)
  | [], E, F, b, _, hE, _ => by rw [bge]; exact hE.mono (by simp)
  | s :: p, E, F, b, hs, hE, hF => by
    have hb := barsB_rng hc (tsk_mem (hs s (by simp)))
    have hat := bgAt_bnd (c := c) (ts := tsC c mv) (s := s) hE hF
    have hv : 0 ≤ bgEnd c (tsC c mv) E F s ∧ bgEnd c (tsC c mv) E F s ≤ b + 4 := by unfold bgEnd; omega
    have := bge_bnd hc (p := p) (E := upd E s.1.toNat (bgEnd c (tsC c mv) E F s)) (F := upd F s.2.toNat (bgEnd c (tsC c mv) E F s)) (b := b + 4) (fun x hx => hs x (List.mem_cons_of_mem _ hx)) ((hE.mono (b' := b + 4) (by omega)).upd hv) ((hF.mono (b' := b + 4) (by omega)).upd hv)
    rw [bge]
    exact this.mono (by simp only [List.length_cons]; omega)
theorem few_bnd {n : Int} {c : dChange} {mv : List Bool} (hc : VC n c) (ht : (tsC c mv).length ≤ 4) : 0 ≤ (fewS c (tsC c mv)).2.1 ∧ (fewS c (tsC c mv)).2.1 ≤ 25 := by
  rcases fewS_spec (c := c) (ts := tsC c mv) with ⟨_, h, _⟩ | ⟨_, h1, h2, _⟩
  · rw [h]; exact ⟨Int.le_refl 0, by decide⟩
  · rw [h2]
    obtain ⟨a, b⟩ := cpS_ok h1
    have := bge_bnd hc (mv := mv) (p := (fewS c (tsC c mv)).2.2) (E := E0) (F := F0 c) (b := 9) (fun s hs => ((cpGo_ok b).1 s hs).1) (fun i => ⟨Int.le_refl 0, by unfold E0; decide⟩) (F0_bnd hc)
    unfold lenS maxE
    generalize bge c (tsC c mv) E0 (F0 c) (fewS c (tsC c mv)).2.2 = E at *
    have h0 := this 0; have h1 := this 1; have h2 := this 2; have h3 := this 3
    simp only [imax_le, le_imax]
    omega

end Go.Proofs.Ytfhdclhbdmhnmaa
