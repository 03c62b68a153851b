/- Plain law, part 16: when steps begin and end, and what is worn. -/
import Derived.Test.YtfhdclhbdmhnmaaLawB
namespace Go.Proofs.Ytfhdclhbdmhnmaa
open K Go Go.Proofs

/-- How it stands behind some steps: the ends of tasks, and when dressers are free. -/
def bst (c : dChange) (ts : List (Bool × Int)) : (Nat → Int) × (Nat → Int) → List dStep → (Nat → Int) × (Nat → Int)
  | x, [] => x
  | x, s :: p => bst c ts (upd x.1 s.1.toNat (bgEnd c ts x.1 x.2 s), upd x.2 s.2.toNat (bgEnd c ts x.1 x.2 s)) p
theorem bst_bge {c : dChange} {ts : List (Bool × Int)} : ∀ {p : List dStep} {E F : Nat → Int}, (bst c ts (E, F) p).1 = bge c ts E F p
  | [], _, _ => rfl
  | s :: p, E, F => by rw [bst, bge]; exact bst_bge
theorem bst_app {c : dChange} {ts : List (Bool × Int)} : ∀ {p r : List dStep} {x : (Nat → Int) × (Nat → Int)}, bst c ts x (p ++ r) = bst c ts (bst c ts x p) r
  | [], _, _ => rfl
  | s :: p, r, x => by rw [List.cons_append, bst, bst]; exact bst_app
theorem bgo_at {c : dChange} {ts : List (Bool × Int)} : ∀ {p : List dStep} {E F : Nat → Int} {i : Nat} {s : dStep}, p[i]? = some s → (bgo c ts E F p)[i]? = some (bgAt c ts (bst c ts (E, F) (p.take i)).1 (bst c ts (E, F) (p.take i)).2 s)
  | [], _, _, _, _, h => by simp at h
  | x :: p, E, F, 0, s, h => by
    simp only [List.getElem?_cons_zero, Option.some.injEq] at h
    subst h
    simp [bgo, bst]
  | x :: p, E, F, i + 1, s, h => by
    simp only [List.getElem?_cons_succ] at h
    rw [bgo, List.getElem?_cons_succ, bgo_at h, List.take_succ_cons, bst]
theorem bgo_len' {c : dChange} {ts : List (Bool × Int)} : ∀ {p : List dStep} {E F : Nat → Int}, (bgo c ts E F p).length = p.length
  | [], _, _ => rfl
  | s :: p, _, _ => by simp [bgo, bgo_len' (p := p)]
theorem bge_not' {c : dChange} {ts : List (Bool × Int)} {i : Nat} : ∀ {p : List dStep} {E F : Nat → Int}, (∀ s ∈ p, s.1.toNat ≠ i) → bge c ts E F p i = E i
  | [], _, _, _ => rfl
  | s :: p, E, F, h => by
    rw [bge, bge_not' fun x hx => h x (List.mem_cons_of_mem _ hx)]
    unfold upd
    rw [if_neg (Ne.symm (h s (by simp)))]

/-- When step i begins and ends. -/
def bAt (c : dChange) (ts : List (Bool × Int)) (p : List dStep) (i : Nat) (s : dStep) : Int := bgAt c ts (bst c ts (E0, F0 c) (p.take i)).1 (bst c ts (E0, F0 c) (p.take i)).2 s
def eAt (c : dChange) (ts : List (Bool × Int)) (p : List dStep) (i : Nat) (s : dStep) : Int := bAt c ts p i s + barsB c (tsk ts s.1)
theorem bgo_b {c : dChange} {ts : List (Bool × Int)} {p : List dStep} {i : Nat} {s : dStep} (h : p[i]? = some s) : (bgo c ts E0 (F0 c) p)[i]? = some (bAt c ts p i s) := bgo_at h

theorem take_get {p : List dStep} {i : Nat} {s : dStep} (h : p[i]? = some s) : p.take (i + 1) = p.take i ++ [s] := by rw [List.take_add_one, h]; rfl

/-- Behind step k the task of step k ends when it ends. -/
theorem bst_end {c : dChange} {ts : List (Bool × Int)} {p : List dStep} (h0 : ∀ s ∈ p, 0 ≤ s.1) (hn : (p.map (·.1)).Nodup) {k : Nat} {s : dStep} (hk : p[k]? = some s) : ∀ {i : Nat}, k < i → i ≤ p.length → (bst c ts (E0, F0 c) (p.take i)).1 s.1.toNat = eAt c ts p k s
  | 0, h, _ => by omega
  | i + 1, h, hl => by
    have hi : i < p.length := by omega
    have hg := List.getElem?_eq_getElem hi
    rw [take_get hg, bst_app, bst, bst]
    simp only
    unfold upd
    by_cases hki : k = i
    · subst hki
      rw [hk] at hg
      cases hg
      rw [if_pos rfl]
      rfl
    · have hne : s.1.toNat ≠ p[i].1.toNat := fun e => by
        have h1 := h0 s (List.mem_of_getElem? hk)
        have h2 := h0 p[i] (List.getElem_mem hi)
        have e1 : (p.map (·.1))[k]? = some s.1 := by rw [List.getElem?_map, hk]; rfl
        have e2 : (p.map (·.1))[i]? = some s.1 := by rw [List.getElem?_map, hg]; simp only [Option.map_some, Option.some.injEq]; omega
        have hkl : k < (p.map (·.1)).length := (List.getElem?_eq_some_iff.1 e1).1
        exact hki ((List.getElem?_inj hkl hn).1 (e1.trans e2.symm))
      rw [if_neg hne]
      exact bst_end h0 hn hk (by omega) (by omega)

theorem barsB_nonneg {n : Int} {c : dChange} {mv : List Bool} (hc : VC n c) {s : dStep} (h : StepOk c (tsC c mv) s) : 1 ≤ barsB c (tsk (tsC c mv) s.1) ∧ barsB c (tsk (tsC c mv) s.1) ≤ 4 := barsB_rng hc (tsk_mem h)

/-- A dresser is free when all steps before have ended. -/
theorem bst_free {n : Int} {c : dChange} {mv : List Bool} (hc : VC n c) {p : List dStep} (hs : ∀ s ∈ p, StepOk c (tsC c mv) s) {d : Nat} {x : Int} : ∀ {i : Nat}, i ≤ p.length →
    ((bst c (tsC c mv) (E0, F0 c) (p.take i)).2 d ≤ x ↔ F0 c d ≤ x ∧ ∀ k s, k < i → p[k]? = some s → s.2.toNat = d → eAt c (tsC c mv) p k s ≤ x)
  | 0, _ => by simp [bst]
  | i + 1, hl => by
    have hi : i < p.length := by omega
    have hg := List.getElem?_eq_getElem hi
    have hS := hs p[i] (List.getElem_mem hi)
    have ih := bst_free hc hs (d := d) (x := x) (i := i) (by omega)
    rw [take_get hg, bst_app, bst, bst]
    simp only
    unfold upd
    have he : bgEnd c (tsC c mv) (bst c (tsC c mv) (E0, F0 c) (p.take i)).1 (bst c (tsC c mv) (E0, F0 c) (p.take i)).2 p[i] = eAt c (tsC c mv) p i p[i] := rfl
    rw [he]
    by_cases hd : d = p[i].2.toNat
    · rw [if_pos hd]
      have hge : (bst c (tsC c mv) (E0, F0 c) (p.take i)).2 d ≤ eAt c (tsC c mv) p i p[i] := by
        have h1 := (le_foldmax (E := (bst c (tsC c mv) (E0, F0 c) (p.take i)).1) (l := befL c (tsC c mv) p[i].1.toNat) (m := (bst c (tsC c mv) (E0, F0 c) (p.take i)).2 p[i].2.toNat)).1
        have h2 := (barsB_nonneg hc hS).1
        rw [hd]
        unfold eAt bAt bgAt
        omega
      constructor
      · intro h
        obtain ⟨h1, h2⟩ := ih.1 (Int.le_trans hge h)
        refine ⟨h1, fun k s hk hks hsd => ?_⟩
        by_cases hki : k = i
        · subst hki
          rw [hg] at hks; cases hks
          exact h
        · exact h2 k s (by omega) hks hsd
      · rintro ⟨_, h2⟩
        exact h2 i _ (by omega) hg hd.symm
    · rw [if_neg hd, ih]
      constructor
      · rintro ⟨h1, h2⟩
        refine ⟨h1, fun k s hk hks hsd => ?_⟩
        by_cases hki : k = i
        · subst hki
          rw [hg] at hks; cases hks
          exact absurd hsd.symm hd
        · exact h2 k s (by omega) hks hsd
      · rintro ⟨h1, h2⟩
        exact ⟨h1, fun k s hk => h2 k s (by omega)⟩

/-- In a plan, what has to be done before stands before. -/
theorem cpGo_bef {c : dChange} {ts : List (Bool × Int)} : ∀ {p : List dStep} {done : List Int} {i : Nat} {s : dStep}, cpGo c ts done p = 0 → p[i]? = some s → ∀ a ∈ befL c ts s.1.toNat, (a : Int) ∈ done ∨ ∃ k s', k < i ∧ p[k]? = some s' ∧ s'.1 = (a : Int)
  | [], _, _, _, _, h => by simp at h
  | x :: p, done, i, s, hc, h => by
    rw [cpGo] at hc
    by_cases h0 : stepErr c ts done x = 0
    · rw [if_neg (by simp [h0])] at hc
      intro a ha
      cases i with
      | zero =>
        simp only [List.getElem?_cons_zero, Option.some.injEq] at h
        subst h
        have hx := mem_extL.2 h0
        unfold extL at hx
        simp only [List.mem_flatMap] at hx
        obtain ⟨t, _, hx⟩ := hx
        split at hx
        · rename_i hm
          have e1 := (mem_whoL.1 hx).1
          have e2 : x.1.toNat = t := by omega
          rw [e2] at ha
          exact .inl ((mayB_iff.1 hm).2 a ha)
        · cases hx
      | succ i =>
        simp only [List.getElem?_cons_succ] at h
        rcases cpGo_bef hc h a ha with h1 | ⟨k, s', h1, h2, h3⟩
        · rcases List.mem_append.1 h1 with h1 | h1
          · exact .inl h1
          · simp only [List.mem_singleton] at h1
            exact .inr ⟨0, x, by omega, rfl, h1.symm⟩
        · exact .inr ⟨k + 1, s', by omega, by simpa using h2, h3⟩
    · rw [if_pos h0] at hc; exact absurd hc h0

/-- **When a step begins.** -/
theorem bAt_le {n : Int} {c : dChange} {mv : List Bool} (hc : VC n c) {p : List dStep} (hp : cpS c (tsC c mv) p = 0) {i : Nat} {s : dStep} (hi : p[i]? = some s) {x : Int} :
    bAt c (tsC c mv) p i s ≤ x ↔ F0 c s.2.toNat ≤ x ∧ (∀ k s', k < i → p[k]? = some s' → s'.2.toNat = s.2.toNat → eAt c (tsC c mv) p k s' ≤ x) ∧ (∀ k s', k < i → p[k]? = some s' → s'.1.toNat ∈ befL c (tsC c mv) s.1.toNat → eAt c (tsC c mv) p k s' ≤ x) := by
  obtain ⟨_, hgo⟩ := cpS_ok hp
  obtain ⟨h3, hn⟩ := cpGo_ok hgo
  have hs : ∀ s ∈ p, StepOk c (tsC c mv) s := fun s hs => (h3 s hs).1
  have hil : i < p.length := (List.getElem?_eq_some_iff.1 hi).1
  have h0 : ∀ s ∈ p, 0 ≤ s.1 := fun s h => (hs s h).1
  unfold bAt bgAt
  rw [foldmax_le, bst_free hc hs (by omega)]
  constructor
  · rintro ⟨⟨h1, h2⟩, h4⟩
    refine ⟨h1, h2, fun k s' hk hks hb => ?_⟩
    rw [← bst_end h0 hn hks hk (by omega)]
    exact h4 _ hb
  · rintro ⟨h1, h2, h4⟩
    refine ⟨⟨h1, h2⟩, fun a ha => ?_⟩
    rcases cpGo_bef hgo hi a ha with h | ⟨k, s', hk, hks, e⟩
    · simp at h
    · have e2 : a = s'.1.toNat := by omega
      rw [e2, bst_end h0 hn hks hk (by omega)]
      exact h4 k s' hk hks (by rw [← e2]; exact ha)

theorem bAt_bnd {n : Int} {c : dChange} {mv : List Bool} (hc : VC n c) {p : List dStep} (hs : ∀ s ∈ p, StepOk c (tsC c mv) s) {i : Nat} {s : dStep} (hi : p[i]? = some s) (hp : p.length ≤ 4) : 0 ≤ bAt c (tsC c mv) p i s ∧ bAt c (tsC c mv) p i s ≤ 25 := by
  have key : ∀ (r : List dStep) (x : (Nat → Int) × (Nat → Int)) (b : Int), (∀ s ∈ r, StepOk c (tsC c mv) s) → Bnd x.1 b → Bnd x.2 b → Bnd (bst c (tsC c mv) x r).1 (b + 4 * r.length) ∧ Bnd (bst c (tsC c mv) x r).2 (b + 4 * r.length) := by
    intro r
    induction r with
    | nil => intro x b _ h1 h2; rw [bst]; exact ⟨h1.mono (by simp), h2.mono (by simp)⟩
    | cons s r ih =>
      intro x b hs h1 h2
      have hb := barsB_rng hc (tsk_mem (hs s (by simp)))
      have hat := bgAt_bnd (c := c) (ts := tsC c mv) (s := s) h1 h2
      have hv : 0 ≤ bgEnd c (tsC c mv) x.1 x.2 s ∧ bgEnd c (tsC c mv) x.1 x.2 s ≤ b + 4 := by unfold bgEnd; omega
      rw [bst]
      have := ih (upd x.1 s.1.toNat (bgEnd c (tsC c mv) x.1 x.2 s), upd x.2 s.2.toNat (bgEnd c (tsC c mv) x.1 x.2 s)) (b + 4) (fun y hy => hs y (List.mem_cons_of_mem _ hy)) ((h1.mono (b' := b + 4) (by omega)).upd hv) ((h2.mono (b' := b + 4) (by omega)).upd hv)
      exact ⟨this.1.mono (by simp only [List.length_cons]; omega), this.2.mono (by simp only [List.length_cons]; omega)⟩
  have hil : i < p.length := (List.getElem?_eq_some_iff.1 hi).1
  obtain ⟨h1, h2⟩ := key (p.take i) (E0, F0 c) 9 (fun s h => hs s (List.mem_of_mem_take h)) (fun i => by simp [E0]) (F0_bnd hc)
  have := bgAt_bnd (c := c) (ts := tsC c mv) (s := s) h1 h2
  rw [List.length_take] at this
  unfold bAt
  omega

theorem iandn_has {a b : Int} (ha : Mask a) (hb : Mask b) : Mask (iandn .u8 a b) ∧ ∀ i, Has (iandn .u8 a b) i ↔ Has a i ∧ ¬ Has b i := by
  obtain ⟨n, hn, rfl⟩ := mask_nat ha
  obtain ⟨m, hm, rfl⟩ := mask_nat hb
  have h1 : ((BitVec.ofInt IntKind.u8.bits (n : Int)) &&& ~~~ (BitVec.ofInt IntKind.u8.bits (m : Int))).toNat = n &&& (255 - m) := by
    show ((BitVec.ofInt 8 (n : Int)) &&& ~~~ (BitVec.ofInt 8 (m : Int))).toNat = n &&& (255 - m)
    have e1 : (BitVec.ofInt 8 (n : Int)).toNat = n := ofInt8 hn
    have e2 : (BitVec.ofInt 8 (m : Int)).toNat = m := ofInt8 hm
    rw [BitVec.toNat_and, BitVec.toNat_not, e1, e2]
  have e : iandn .u8 (n : Int) (m : Int) = ((n &&& (255 - m) : Nat) : Int) := by
    unfold iandn
    rw [h1]
    exact wrap_u8 (lt_and8 hn)
  rw [e]
  refine ⟨⟨by omega, by have := lt_and8 (m := 255 - m) hn; omega⟩, fun i => ?_⟩
  have h3 : ∀ i, i < 8 → (255 - m).testBit i = !m.testBit i := fun i hi => by
    have := Nat.testBit_two_pow_sub_succ (n := 8) (x := m) hm i
    have e : 2 ^ 8 - (m + 1) = 255 - m := by omega
    rw [e] at this
    simp [this, hi]
  simp only [Has, Int.toNat_natCast, Nat.testBit_and]
  by_cases h8 : i < 8
  · rw [h3 i h8]
    cases n.testBit i <;> cases m.testBit i <;> simp
  · have := Nat.testBit_lt_two_pow (x := n) (i := i) (Nat.lt_of_lt_of_le hn (Nat.pow_le_pow_right (by decide) (by omega) : 2 ^ 8 ≤ 2 ^ i))
    rw [this]; simp

/-- What is worn at a bar. -/
def wornP (c : dChange) (ts : List (Bool × Int)) (p : List dStep) (bar : Int) (i : Nat) : Prop :=
  ((i : Int) ∈ c.2.2.1 ∧ ¬ ∃ j s, p[j]? = some s ∧ tsk ts s.1 = (false, (i : Int)) ∧ bAt c ts p j s ≤ bar) ∨ ∃ j s, p[j]? = some s ∧ tsk ts s.1 = (true, (i : Int)) ∧ eAt c ts p j s ≤ bar

theorem Wearing_ok {k : Nat} (hk : 50 ≤ k) {n : Int} {c : dChange} {mv : List Bool} {q : dQuick} (h : QV n c mv q) (hb : chg_begin k c = some (some q, 0)) {p : List dStep} {bar : Int} (hp : cpS c (tsC c mv) p = 0) (h0 : 0 ≤ bar) :
    ∃ m, Mask m ∧ (∀ i, Has m i ↔ wornP c (tsC c mv) p bar i) ∧ chg_Wearing k c p bar = some (bitsL m 8, 0) := by
  obtain ⟨hl, hgo⟩ := cpS_ok hp
  obtain ⟨h3, hn⟩ := cpGo_ok hgo
  have hs : ∀ s ∈ p, StepOk c (tsC c mv) s := fun s hs => (h3 s hs).1
  have hs0 : ∀ s ∈ p, 0 ≤ s.1 := fun s h => (hs s h).1
  have ht := h.t4
  obtain ⟨w1, w2, w3, _⟩ := h.vc.wl
  obtain ⟨el, e1, hE⟩ := begins_eq hk h (by omega) hs
  have hcq : (((q.1.1, q.1.2.1, q.1.2.2.1, q.1.2.2.2), q.2.1, q.2.2) : dQuick) = q := rfl
  obtain ⟨r5, e5, m5, d5⟩ := of_set_ok (k := k) hk (l := c.2.2.1) (by omega) (fun x hx => by have := h.vc.wears.2 x hx; have := h.vc.n4; omega)
  unfold chg_Wearing
  rw [asked_eq hk h hb (by omega), bs, co_some, hp]
  simp only [not_true_eq_false, if_false]
  rw [if_neg (by omega), hcq, h.eq, e5, bs, e1, bs]
  have hEn : ∀ j s, p[j]? = some s → bge c (tsC c mv) E0 (F0 c) p s.1.toNat = eAt c (tsC c mv) p j s := fun j s hj => by
    have hjl : j < p.length := (List.getElem?_eq_some_iff.1 hj).1
    have := bst_end (c := c) (ts := tsC c mv) hs0 hn hj (i := p.length) hjl (Nat.le_refl _)
    rw [List.take_length, bst_bge] at this
    exact this
  have key : W (chg_Wearing_l1 k p bar q (bgo c (tsC c mv) E0 (F0 c) p, el) k (r5, 0, 0)) fun r => Mask r.1 ∧ Mask r.2 ∧ (∀ i : Nat, Has r.1 i ↔ ((i : Int) ∈ c.2.2.1 ∧ ¬ ∃ j s, p[j]? = some s ∧ tsk (tsC c mv) s.1 = (false, (i : Int)) ∧ bAt c (tsC c mv) p j s ≤ bar)) ∧
      (∀ i : Nat, Has r.2 i ↔ ∃ j s, p[j]? = some s ∧ tsk (tsC c mv) s.1 = (true, (i : Int)) ∧ eAt c (tsC c mv) p j s ≤ bar) := by
    refine W.loop (f := chg_Wearing_l1 k p bar q (bgo c (tsC c mv) E0 (F0 c) p, el)) (fun m y => ∃ j : Nat, y.2.2 = (j : Int) ∧ j ≤ p.length ∧ m = p.length - j ∧ Mask y.1 ∧ Mask y.2.1 ∧ (∀ i : Nat, Has y.1 i ↔ ((i : Int) ∈ c.2.2.1 ∧ ¬ ∃ j' s, j' < j ∧ p[j']? = some s ∧ tsk (tsC c mv) s.1 = (false, (i : Int)) ∧ bAt c (tsC c mv) p j' s ≤ bar)) ∧
      (∀ i : Nat, Has y.2.1 i ↔ ∃ j' s, j' < j ∧ p[j']? = some s ∧ tsk (tsC c mv) s.1 = (true, (i : Int)) ∧ eAt c (tsC c mv) p j' s ≤ bar)) ?_ p.length k (r5, 0, 0) (by omega)
      ⟨0, rfl, by omega, by omega, m5, (show Mask 0 from ⟨by decide, by decide⟩), fun i => by rw [d5]; simp, fun i => by simp [Has]⟩
    rintro fuel m ⟨s1, s2, y⟩ ⟨j, hj, hle, hm, hM1, hM2, hH1, hH2⟩ ih
    simp only at hj hM1 hM2 hH1 hH2
    subst hj
    have o1 : j < p.length → m - 1 < m ∧ m - 1 = p.length - (j + 1) ∧ j + 1 ≤ p.length := by clear hH1 hH2 ih; omega
    unfold chg_Wearing_l1
    dsimp only
    refine W.ite (fun hlt => ?_) (fun hge => W.ret (by
      have : j = p.length := by clear hH1 hH2 ih; omega
      subst this
      refine ⟨hM1, hM2, fun i => ?_, fun i => ?_⟩
      · rw [hH1]
        constructor
        · rintro ⟨a, b⟩; exact ⟨a, fun ⟨j', s, e⟩ => b ⟨j', s, (List.getElem?_eq_some_iff.1 e.1).1, e⟩⟩
        · rintro ⟨a, b⟩; exact ⟨a, fun ⟨j', s, _, e⟩ => b ⟨j', s, e⟩⟩
      · rw [hH2]
        constructor
        · rintro ⟨j', s, _, e⟩; exact ⟨j', s, e⟩
        · rintro ⟨j', s, e⟩; exact ⟨j', s, (List.getElem?_eq_some_iff.1 e.1).1, e⟩))
    have hlt' : j < p.length := by clear hH1 hH2 ih; omega
    have hg := List.getElem?_eq_getElem hlt'
    have hS := hs p[j] (List.getElem_mem hlt')
    obtain ⟨i0, hi0, ei0⟩ := tsC_rng _ (tsk_mem hS)
    have hB := bgo_b (c := c) (ts := tsC c mv) hg
    have hEj := hEn j p[j] hg
    rw [geti_W hlt', bs, h.tasks, geti_tsk hS, bs]
    have hgB : geti (bgo c (tsC c mv) E0 (F0 c) p) (j : Int) = some (bAt c (tsC c mv) p j p[j]) := geti_q (by clear hH1 hH2 ih; omega) (by simpa using hB)
    have hgE : geti el p[j].1 = some (eAt c (tsC c mv) p j p[j]) := by
      rw [hE.get hS.1 (show p[j].1 < ((4 : Nat) : Int) by have := hS.2.1; clear hH1 hH2 ih; omega), hEj]
    rw [hgB, bs, work_thing, bs, chk_ok (by have := hS.1; have := hS.2.1; clear hH1 hH2 ih; omega), bs, hgE, bs]
    simp only [bs]
    have hstep : ∀ (b : Bool) (i : Nat) (Q : Nat → dStep → Prop), (∃ j' s, j' < j + 1 ∧ p[j']? = some s ∧ tsk (tsC c mv) s.1 = (b, (i : Int)) ∧ Q j' s) ↔ (∃ j' s, j' < j ∧ p[j']? = some s ∧ tsk (tsC c mv) s.1 = (b, (i : Int)) ∧ Q j' s) ∨ (tsk (tsC c mv) p[j].1 = (b, (i : Int)) ∧ Q j p[j]) := fun b i Q => by
      constructor
      · rintro ⟨j', s, h1, h2, h3⟩
        by_cases hjj : j' = j
        · subst hjj
          rw [hg] at h2; cases h2
          exact .inr h3
        · exact .inl ⟨j', s, by clear hH1 hH2 ih; omega, h2, h3⟩
      · rintro (⟨j', s, h1, h2⟩ | h1)
        · exact ⟨j', s, by clear hH1 hH2 ih; omega, h2⟩
        · exact ⟨j, _, by clear hH1 hH2 ih; omega, hg, h1⟩
    have next : ∀ (z1 z2 : Int), Mask z1 → Mask z2 → (∀ i : Nat, Has z1 i ↔ (Has s1 i ∧ ¬ (tsk (tsC c mv) p[j].1 = (false, (i : Int)) ∧ bAt c (tsC c mv) p j p[j] ≤ bar))) → (∀ i : Nat, Has z2 i ↔ (Has s2 i ∨ (tsk (tsC c mv) p[j].1 = (true, (i : Int)) ∧ eAt c (tsC c mv) p j p[j] ≤ bar))) →
        W ((some (z1, z2) : Option (Int × Int)).bind fun x12 => (ck ((j : Int) + (1 : Int))).bind fun x24 => chg_Wearing_l1 k p bar q (bgo c (tsC c mv) E0 (F0 c) p, el) fuel (x12.1, x12.2, x24)) fun r => Mask r.1 ∧ Mask r.2 ∧ (∀ i : Nat, Has r.1 i ↔ ((i : Int) ∈ c.2.2.1 ∧ ¬ ∃ j s, p[j]? = some s ∧ tsk (tsC c mv) s.1 = (false, (i : Int)) ∧ bAt c (tsC c mv) p j s ≤ bar)) ∧
      (∀ i : Nat, Has r.2 i ↔ ∃ j s, p[j]? = some s ∧ tsk (tsC c mv) s.1 = (true, (i : Int)) ∧ eAt c (tsC c mv) p j s ≤ bar) := fun z1 z2 n1 n2 g1 g2 => by
      rw [bs, ck_ok (by clear hH1 hH2 ih g1 g2; omega) (by clear hH1 hH2 ih g1 g2; omega), bs]
      refine ih (m - 1) (z1, z2, (j : Int) + 1) (o1 hlt').1 ⟨j + 1, rfl, (o1 hlt').2.2, (o1 hlt').2.1, n1, n2, fun i => ?_, fun i => ?_⟩
      · simp only
        rw [g1, hH1, hstep]
        constructor
        · rintro ⟨⟨a, b⟩, d⟩; exact ⟨a, fun h => h.elim b d⟩
        · rintro ⟨a, b⟩; exact ⟨⟨a, fun h => b (.inl h)⟩, fun h => b (.inr h)⟩
      · simp only
        rw [g2, hH2, hstep]
    have hof : W (chg_of k [(tsk (tsC c mv) p[j].1).2]) fun r => Mask r ∧ ∀ i : Nat, Has r i ↔ (i : Int) = (tsk (tsC c mv) p[j].1).2 := by
      refine (of_set_ok hk (l := [(tsk (tsC c mv) p[j].1).2]) (by simp) (fun x hx => by simp only [List.mem_singleton] at hx; subst hx; clear hH1 hH2 ih; omega)).mono fun r hr => ⟨hr.1, fun i => by rw [hr.2]; simp⟩
    obtain ⟨rf, ef, mf, df⟩ := hof
    obtain ⟨ma, da⟩ := iandn_has hM1 mf
    obtain ⟨mo, dof⟩ := ior_ok hM2 mf
    generalize htk : tsk (tsC c mv) p[j].1 = w at *
    obtain ⟨wb, wv⟩ := w
    simp only at *
    cases wb with
    | false =>
      simp only [Bool.false_eq_true, not_false_eq_true, if_true]
      by_cases hb1 : bAt c (tsC c mv) p j p[j] ≤ bar
      · rw [if_pos hb1, ef, bs]
        refine next _ _ ma hM2 (fun i => ?_) (fun i => by simp)
        rw [da, df]
        simp only [Prod.mk.injEq, true_and, hb1, and_true]
        constructor
        · rintro ⟨a, b⟩; exact ⟨a, fun h => b h.symm⟩
        · rintro ⟨a, b⟩; exact ⟨a, fun h => b h.symm⟩
      · rw [if_neg hb1]
        exact next _ _ hM1 hM2 (fun i => by simp [hb1]) (fun i => by simp)
    | true =>
      simp only [not_true_eq_false, if_false]
      by_cases hb1 : eAt c (tsC c mv) p j p[j] ≤ bar
      · rw [if_pos hb1, ef, bs]
        refine next _ _ hM1 mo (fun i => by simp) (fun i => ?_)
        rw [dof, df]
        simp only [Prod.mk.injEq, true_and, hb1, and_true]
        constructor
        · rintro (a | a)
          · exact .inl a
          · exact .inr a.symm
        · rintro (a | a)
          · exact .inl a
          · exact .inr a.symm
      · rw [if_neg hb1]
        exact next _ _ hM1 hM2 (fun i => by simp) (fun i => by simp [hb1])
  obtain ⟨⟨z1, z2⟩, ez, n1, n2, g1, g2⟩ := key
  simp only at n1 n2 g1 g2
  obtain ⟨mo, dof⟩ := ior_ok n1 n2
  refine ⟨_, mo, fun i => ?_, by rw [ez, bs]; simp only; rw [set_list_ok hk mo, bs]⟩
  rw [dof, g1, g2]
  exact Iff.rfl
end Go.Proofs.Ytfhdclhbdmhnmaa
