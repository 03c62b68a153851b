/- Plain law: the reference's plans: when steps begin, the bars, all plans, the fewest bars. -/
import Derived.Test.YtfhdclhbdmhnmaaGreatB6
import Derived.Test.YtfhdclhbdmhnmaaGreatB5
namespace Go.Proofs.YtfhdclhbdmhnmaaGreat
open K Go Go.Proofs

section
variable {k : Nat} {n : Int} {c : dChange} {mv : List Bool}

theorem bef_tsk {s s' : dStep} (h : StepOk c (tsC c mv) s) (h' : StepOk c (tsC c mv) s') : befB c (tsk (tsC c mv) s'.1) (tsk (tsC c mv) s.1) = true ↔ s'.1.toNat ∈ befL c (tsC c mv) s.1.toNat := by
  have l1 : s.1.toNat < (tsC c mv).length := by have := h.1; have := h.2.1; omega
  have l2 : s'.1.toNat < (tsC c mv).length := by have := h'.1; have := h'.2.1; omega
  rw [mem_befL]
  unfold bef
  rw [List.getElem?_eq_getElem l1, List.getElem?_eq_getElem l2]
  unfold tsk
  rw [List.getElem?_eq_getElem l1, List.getElem?_eq_getElem l2]
  exact Iff.rfl

/-- **When the steps of a plan begin.** -/
theorem rbegins_eq (hk : 50 ≤ k) (hc : VC n c) (hF : Fix c mv) (ht : (tsC c mv).length ≤ 4) {p : List dStep} (h0 : cpS c (tsC c mv) p = 0) : ref_begins k c p = some (bgo c (tsC c mv) E0 (F0 c) p) := by
  obtain ⟨hl, hgo⟩ := cpS_ok h0
  have hs : ∀ s ∈ p, StepOk c (tsC c mv) s := fun s h => ((cpGo_ok hgo).1 s h).1
  have hBl : (bgo c (tsC c mv) E0 (F0 c) p).length = p.length := bgo_len'
  have hbd : ∀ (i : Nat) (hi : i < p.length), 0 ≤ bAt c (tsC c mv) p i p[i] ∧ bAt c (tsC c mv) p i p[i] ≤ 25 := fun i hi => bAt_bnd hc hs (List.getElem?_eq_getElem hi) (by omega)
  have hbr : ∀ (i : Nat) (hi : i < p.length), 1 ≤ barsB c (tsk (tsC c mv) p[i].1) ∧ barsB c (tsk (tsC c mv) p[i].1) ≤ 4 := fun i hi => barsB_nonneg hc (hs _ (List.getElem_mem hi))
  have due : ∀ (o : List Int) (i : Nat) (hi : i < p.length) (x : dDresser), o = (bgo c (tsC c mv) E0 (F0 c) p).take i → x.2.2 = F0 c p[i].2.toNat →
      ref_begins_l2 k c p ((tsC c mv).map fun x => (x.2, x.1)) (o, (i : Int)) ((tsk (tsC c mv) p[i].1).2, (tsk (tsC c mv) p[i].1).1) k (x.2.2, 0) = some (bAt c (tsC c mv) p i p[i]) := fun o i hi x ho hx => by
    subst ho
    have key : W (ref_begins_l2 k c p ((tsC c mv).map fun x => (x.2, x.1)) ((bgo c (tsC c mv) E0 (F0 c) p).take i, (i : Int)) ((tsk (tsC c mv) p[i].1).2, (tsk (tsC c mv) p[i].1).1) k (x.2.2, 0)) fun r => ∀ x, r ≤ x ↔ bAt c (tsC c mv) p i p[i] ≤ x := by
      refine W.loop (f := ref_begins_l2 k c p ((tsC c mv).map fun x => (x.2, x.1)) ((bgo c (tsC c mv) E0 (F0 c) p).take i, (i : Int)) ((tsk (tsC c mv) p[i].1).2, (tsk (tsC c mv) p[i].1).1)) (fun m y => ∃ j : Nat, y.2 = (j : Int) ∧ j ≤ i ∧ m = i - j ∧ ∀ x, y.1 ≤ x ↔ F0 c p[i].2.toNat ≤ x ∧ ∀ t s', t < j → p[t]? = some s' → (s'.2.toNat = p[i].2.toNat ∨ s'.1.toNat ∈ befL c (tsC c mv) p[i].1.toNat) → eAt c (tsC c mv) p t s' ≤ x) ?_ i k (x.2.2, 0) (by omega)
        ⟨0, rfl, by omega, by omega, fun z => by simp only [hx]; simp⟩
      rintro fuel m ⟨r, y⟩ ⟨j, hj, hle, hm, hr⟩ ih
      simp only at hj hr
      subst hj
      have o1 : j < i → m - 1 < m ∧ m - 1 = i - (j + 1) ∧ j + 1 ≤ i := by clear hr ih; omega
      unfold ref_begins_l2
      dsimp only
      refine W.ite (fun hlt => ?_) (fun hge => W.ret fun x => by
        have hji : j = i := by clear hr ih; omega
        subst hji
        rw [hr, bAt_le hc h0 (List.getElem?_eq_getElem hi)]
        constructor
        · rintro ⟨a, b⟩
          exact ⟨a, fun t s' h1 h2 h3 => b t s' h1 h2 (.inl h3), fun t s' h1 h2 h3 => b t s' h1 h2 (.inr h3)⟩
        · rintro ⟨a, b, d⟩
          exact ⟨a, fun t s' h1 h2 h3 => h3.elim (b t s' h1 h2) (d t s' h1 h2)⟩)
      have hji : j < i := by clear hr ih; omega
      have hjl : j < p.length := by clear hr ih; omega
      have hS := hs _ (List.getElem_mem hjl)
      have hSi := hs _ (List.getElem_mem hi)
      have hgb : geti ((bgo c (tsC c mv) E0 (F0 c) p).take i) (j : Int) = some (bAt c (tsC c mv) p j p[j]) := geti_q (by clear hr ih; omega) (by
        rw [Int.toNat_natCast, List.getElem?_take, if_pos hji]
        exact bgo_b (List.getElem?_eq_getElem hjl))
      have hB := hbd j hjl
      have hR := hbr j hjl
      have hck : ck ((j : Int) + 1) = some ((j : Int) + 1) := ck_ok (by clear hr ih; omega) (by clear hr ih; omega)
      have hck2 : ck (bAt c (tsC c mv) p j p[j] + barsB c (tsk (tsC c mv) p[j].1)) = some (eAt c (tsC c mv) p j p[j]) := ck_ok (by clear hr ih; omega) (by clear hr ih; omega)
      have hneed : (if p[j].2 = p[i].2 then some true else some (befB c (tsk (tsC c mv) p[j].1) (tsk (tsC c mv) p[i].1))) = some (decide (p[j].2.toNat = p[i].2.toNat ∨ p[j].1.toNat ∈ befL c (tsC c mv) p[i].1.toNat)) := by
        have a1 : p[j].2 = p[i].2 ↔ p[j].2.toNat = p[i].2.toNat := by have := hS.2.2.1; have := hSi.2.2.1; clear hr ih; omega
        by_cases e : p[j].2 = p[i].2
        · rw [if_pos e, decide_eq_true (.inl (a1.1 e))]
        · rw [if_neg e]
          refine congrArg some ?_
          rw [Bool.eq_iff_iff, bef_tsk hSi hS, decide_eq_true_eq]
          exact ⟨.inr, fun h => h.resolve_left fun h => e (a1.2 h)⟩
      have hstep : ∀ x, (∀ t s', t < j + 1 → p[t]? = some s' → (s'.2.toNat = p[i].2.toNat ∨ s'.1.toNat ∈ befL c (tsC c mv) p[i].1.toNat) → eAt c (tsC c mv) p t s' ≤ x) ↔ (∀ t s', t < j → p[t]? = some s' → (s'.2.toNat = p[i].2.toNat ∨ s'.1.toNat ∈ befL c (tsC c mv) p[i].1.toNat) → eAt c (tsC c mv) p t s' ≤ x) ∧ ((p[j].2.toNat = p[i].2.toNat ∨ p[j].1.toNat ∈ befL c (tsC c mv) p[i].1.toNat) → eAt c (tsC c mv) p j p[j] ≤ x) := fun x => by
        constructor
        · intro h
          exact ⟨fun t s' h1 => h t s' (by clear hr ih; omega), h j _ (by clear hr ih; omega) (List.getElem?_eq_getElem hjl)⟩
        · rintro ⟨h1, h2⟩ t s' h3 h4 h5
          by_cases htj : t = j
          · subst htj
            rw [List.getElem?_eq_getElem hjl] at h4
            cases h4
            exact h2 h5
          · exact h1 t s' (by clear hr ih; omega) h4 h5
      simp only [hgb, bs, geti_W hjl, geti_W hi, tsk_sw hS, rtakes_eq (tsk_mem hS), hck2, refBefore_eq hk hc (tsk_mem hS) (tsk_mem hSi), hneed]
      by_cases hnd : p[j].2.toNat = p[i].2.toNat ∨ p[j].1.toNat ∈ befL c (tsC c mv) p[i].1.toNat
      · rw [decide_eq_true hnd, if_pos rfl, bs, hck, bs]
        refine ih (m - 1) (_, (j : Int) + 1) (o1 hji).1 ⟨j + 1, rfl, (o1 hji).2.2, (o1 hji).2.1, fun x => ?_⟩
        simp only
        rw [imax_le, hr, hstep, and_assoc]
        constructor
        · rintro ⟨a, b, d⟩; exact ⟨a, b, fun _ => d⟩
        · rintro ⟨a, b, d⟩; exact ⟨a, b, d hnd⟩
      · rw [decide_eq_false hnd, if_neg (by simp), bs, hck, bs]
        refine ih (m - 1) (_, (j : Int) + 1) (o1 hji).1 ⟨j + 1, rfl, (o1 hji).2.2, (o1 hji).2.1, fun x => ?_⟩
        simp only
        rw [hr, hstep]
        constructor
        · rintro ⟨a, b⟩; exact ⟨a, b, fun h => absurd h hnd⟩
        · rintro ⟨a, b, _⟩; exact ⟨a, b⟩
    obtain ⟨r, e, hr⟩ := key
    have : r = bAt c (tsC c mv) p i p[i] := by
      have a := (hr r).1 (Int.le_refl _)
      have b := (hr (bAt c (tsC c mv) p i p[i])).2 (Int.le_refl _)
      omega
    rw [e, this]
  unfold ref_begins
  rw [refTasks_eq hk hc hF, bs]
  have key : W (ref_begins_l1 k c p ((tsC c mv).map fun x => (x.2, x.1)) k ([], 0)) fun r => r = bgo c (tsC c mv) E0 (F0 c) p := by
    refine W.loop (f := ref_begins_l1 k c p ((tsC c mv).map fun x => (x.2, x.1))) (fun m y => ∃ i : Nat, y.2 = (i : Int) ∧ i ≤ p.length ∧ m = p.length - i ∧ y.1 = (bgo c (tsC c mv) E0 (F0 c) p).take i) ?_ p.length k ([], 0) (by omega) ⟨0, rfl, by omega, by omega, by simp⟩
    rintro fuel m ⟨o, y⟩ ⟨i, hi, hle, hm, ho⟩ ih
    simp only at hi ho
    subst hi ho
    unfold ref_begins_l1
    dsimp only
    refine W.ite (fun hlt => ?_) (fun hge => W.ret (by
      have : i = p.length := by omega
      subst this
      rw [← hBl, List.take_length]))
    have hlt' : i < p.length := by omega
    have hS := hs _ (List.getElem_mem hlt')
    have hF' : (drs c p[i].2).2.2 = F0 c p[i].2.toNat := by unfold F0; rw [show ((p[i].2.toNat : Nat) : Int) = p[i].2 by have := hS.2.2.1; omega]
    rw [geti_W hlt', bs, tsk_sw hS, bs, bs, geti_drs hS.2.2.1 hS.2.2.2, bs, due _ i hlt' _ rfl hF', bs, chk_ok (okLen_of (by simp only [List.length_take, List.length_cons, List.length_nil]; omega)), bs, bs, ck_ok (by omega) (by omega), bs]
    refine ih (m - 1) (_, (i : Int) + 1) (by omega) ⟨i + 1, rfl, by omega, by omega, ?_⟩
    simp only
    rw [List.take_add_one, bgo_b (List.getElem?_eq_getElem hlt')]
    rfl
  obtain ⟨r, e, rfl⟩ := key
  rw [e, bs]

/-- The bars of a plan, as the greatest end. -/
theorem lenS_le (hc : VC n c) {p : List dStep} (h0 : cpS c (tsC c mv) p = 0) (ht : (tsC c mv).length ≤ 4) (x : Int) : lenS c (tsC c mv) p ≤ x ↔ 0 ≤ x ∧ ∀ t s', p[t]? = some s' → eAt c (tsC c mv) p t s' ≤ x := by
  obtain ⟨hl, hgo⟩ := cpS_ok h0
  have hs : ∀ s ∈ p, StepOk c (tsC c mv) s := fun s h => ((cpGo_ok hgo).1 s h).1
  have hn := (cpGo_ok hgo).2
  have hE : ∀ j s, p[j]? = some s → bge c (tsC c mv) E0 (F0 c) p s.1.toNat = eAt c (tsC c mv) p j s := fun j s hj => by
    have hjl : j < p.length := (List.getElem?_eq_some_iff.1 hj).1
    have := bst_end (c := c) (ts := tsC c mv) (fun s h => (hs s h).1) hn hj (i := p.length) hjl (Nat.le_refl _)
    rw [List.take_length, bst_bge] at this
    exact this
  have hB := bge_bnd hc (mv := mv) (p := p) (E := E0) (F := F0 c) (b := 9) hs (fun i => by simp [E0]) (F0_bnd hc)
  have hiff : lenS c (tsC c mv) p ≤ x ↔ ((bge c (tsC c mv) E0 (F0 c) p 0 ≤ x ∧ bge c (tsC c mv) E0 (F0 c) p 1 ≤ x) ∧ bge c (tsC c mv) E0 (F0 c) p 2 ≤ x) ∧ bge c (tsC c mv) E0 (F0 c) p 3 ≤ x := by
    unfold lenS maxE; simp only [imax_le]
  rw [hiff]
  constructor
  · rintro ⟨⟨⟨a, b⟩, d⟩, e⟩
    refine ⟨Int.le_trans (hB 0).1 a, fun t s' h1 => ?_⟩
    rw [← hE t s' h1]
    have hS := hs s' (List.mem_of_getElem? h1)
    have hx : s'.1.toNat = 0 ∨ s'.1.toNat = 1 ∨ s'.1.toNat = 2 ∨ s'.1.toNat = 3 := by have := hS.1; have := hS.2.1; omega
    rcases hx with e' | e' | e' | e' <;> rw [e'] <;> assumption
  · rintro ⟨a, b⟩
    have hall : ∀ i, bge c (tsC c mv) E0 (F0 c) p i ≤ x := fun i => by
      by_cases hx : ∃ s' ∈ p, s'.1.toNat = i
      · obtain ⟨s', hs', e⟩ := hx
        obtain ⟨t, ht'⟩ := List.mem_iff_getElem?.1 hs'
        rw [← e, hE t s' ht']
        exact b t s' ht'
      · rw [bge_not' fun s hs' e => hx ⟨s, hs', e⟩]
        exact a
    exact ⟨⟨⟨hall 0, hall 1⟩, hall 2⟩, hall 3⟩

/-- **The bars of a plan.** -/
theorem rbars_eq (hk : 50 ≤ k) (hc : VC n c) (hF : Fix c mv) (ht : (tsC c mv).length ≤ 4) {p : List dStep} (h0 : cpS c (tsC c mv) p = 0) : ref_bars k c p = some (lenS c (tsC c mv) p) := by
  obtain ⟨hl, hgo⟩ := cpS_ok h0
  have hs : ∀ s ∈ p, StepOk c (tsC c mv) s := fun s h => ((cpGo_ok hgo).1 s h).1
  unfold ref_bars
  rw [refTasks_eq hk hc hF, bs, rbegins_eq hk hc hF ht h0, bs]
  have key : W (ref_bars_l1 k c p ((tsC c mv).map fun x => (x.2, x.1)) (bgo c (tsC c mv) E0 (F0 c) p) k (0, 0)) fun r => ∀ x, r ≤ x ↔ lenS c (tsC c mv) p ≤ x := by
    refine W.loop (f := ref_bars_l1 k c p ((tsC c mv).map fun x => (x.2, x.1)) (bgo c (tsC c mv) E0 (F0 c) p)) (fun m y => ∃ i : Nat, y.2 = (i : Int) ∧ i ≤ p.length ∧ m = p.length - i ∧ ∀ x, y.1 ≤ x ↔ 0 ≤ x ∧ ∀ t s', t < i → p[t]? = some s' → eAt c (tsC c mv) p t s' ≤ x) ?_ p.length k (0, 0) (by omega) ⟨0, rfl, by omega, by omega, fun x => by simp⟩
    rintro fuel m ⟨r, y⟩ ⟨i, hi, hle, hm, hr⟩ ih
    simp only at hi hr
    subst hi
    have o1 : i < p.length → m - 1 < m ∧ m - 1 = p.length - (i + 1) ∧ i + 1 ≤ p.length := by clear hr ih; omega
    unfold ref_bars_l1
    dsimp only
    refine W.ite (fun hlt => ?_) (fun hge => W.ret fun x => by
      rw [hr, lenS_le hc h0 ht]
      refine and_congr Iff.rfl ⟨fun h t s' h1 => h t s' ?_ h1, fun h t s' _ h1 => h t s' h1⟩
      have := (List.getElem?_eq_some_iff.1 h1).1
      clear hr ih; omega)
    have hlt' : i < p.length := by clear hr ih; omega
    have hS := hs _ (List.getElem_mem hlt')
    have hB := bAt_bnd hc hs (List.getElem?_eq_getElem hlt') (by clear hr ih; omega)
    have hR := barsB_nonneg hc hS
    have hgb : geti (bgo c (tsC c mv) E0 (F0 c) p) (i : Int) = some (bAt c (tsC c mv) p i p[i]) := geti_q (by clear hr ih; omega) (by simpa using bgo_b (List.getElem?_eq_getElem hlt'))
    have hck : ck ((i : Int) + 1) = some ((i : Int) + 1) := ck_ok (by clear hr ih; omega) (by clear hr ih; omega)
    have hck2 : ck (bAt c (tsC c mv) p i p[i] + barsB c (tsk (tsC c mv) p[i].1)) = some (eAt c (tsC c mv) p i p[i]) := ck_ok (by clear hr ih; omega) (by clear hr ih; omega)
    rw [hgb, bs, geti_W hlt', bs, tsk_sw hS, bs, rtakes_eq (tsk_mem hS), bs, hck2, bs, hck, bs]
    refine ih (m - 1) (_, (i : Int) + 1) (o1 hlt').1 ⟨i + 1, rfl, (o1 hlt').2.2, (o1 hlt').2.1, fun x => ?_⟩
    simp only
    rw [imax_le, hr, and_assoc]
    refine and_congr Iff.rfl ?_
    constructor
    · rintro ⟨a, b⟩ t s' h1 h2
      by_cases hti : t = i
      · subst hti
        rw [List.getElem?_eq_getElem hlt'] at h2
        cases h2
        exact b
      · exact a t s' (by clear hr ih; omega) h2
    · intro h
      exact ⟨fun t s' h1 => h t s' (by clear hr ih; omega), h i _ (by clear hr ih; omega) (List.getElem?_eq_getElem hlt')⟩
  obtain ⟨r, e, hr⟩ := key
  have : r = lenS c (tsC c mv) p := by
    have a := (hr r).1 (Int.le_refl _)
    have b := (hr (lenS c (tsC c mv) p)).2 (Int.le_refl _)
    omega
  rw [e, bs, this]
end
end Go.Proofs.YtfhdclhbdmhnmaaGreat

/- Plain law: the reference's list of all plans; the fewest bars. -/
namespace Go.Proofs.YtfhdclhbdmhnmaaGreat
open K Go Go.Proofs

theorem flatMap_len {α β : Type} {f : α → List β} {b : Nat} : ∀ {l : List α}, (∀ x ∈ l, (f x).length ≤ b) → (l.flatMap f).length ≤ l.length * b
  | [], _ => by simp
  | x :: l, h => by
    rw [List.flatMap_cons, List.length_append, List.length_cons, Nat.succ_mul]
    have := h x (by simp)
    have := flatMap_len (l := l) (f := f) fun y hy => h y (by simp [hy])
    omega

/-- The steps of one task that can be next. -/
def stT (c : dChange) (ts : List (Bool × Int)) (done : List Int) (t m : Nat) : List dStep := ((List.range m).filter fun (d : Nat) => decide (stepErr c ts done ((t : Int), (d : Int)) = 0)).map fun (d : Nat) => ((t : Int), (d : Int))
theorem stT_succ {c : dChange} {ts : List (Bool × Int)} {done : List Int} {t m : Nat} : stT c ts done t (m + 1) = stT c ts done t m ++ (if stepErr c ts done ((t : Int), (m : Int)) = 0 then [((t : Int), (m : Int))] else []) := by
  unfold stT
  rw [List.range_succ, List.filter_append, List.map_append]
  congr 1
  by_cases h : stepErr c ts done ((t : Int), (m : Int)) = 0 <;> simp [h]
theorem stT_len {c : dChange} {ts : List (Bool × Int)} {done : List Int} {t m : Nat} : (stT c ts done t m).length ≤ m := by
  unfold stT
  rw [List.length_map]
  exact Nat.le_trans (List.length_filter_le _ _) (by simp)

theorem range'_zero : ∀ {n : Nat}, List.range' 0 n = List.range n := fun {n} => by rw [List.range_eq_range']

theorem extL_eq {c : dChange} {ts : List (Bool × Int)} {done : List Int} : extL c ts done 0 = (List.range ts.length).flatMap fun t => stT c ts done t c.2.1.length := by
  unfold extL
  rw [Nat.sub_zero, range'_zero]
  have : ∀ t ∈ List.range ts.length, (if mayB c ts done t = true then whoL c ts t 0 else []) = stT c ts done t c.2.1.length := fun t ht => by
    have htl : t < ts.length := List.mem_range.1 ht
    unfold stT whoL
    rw [Nat.sub_zero, range'_zero]
    by_cases hm : mayB c ts done t = true
    · rw [if_pos hm]
      congr 1
      apply List.filter_congr
      intro d hd
      have hdl : d < c.2.1.length := List.mem_range.1 hd
      obtain ⟨m1, m2⟩ := mayB_iff.1 hm
      unfold stepErr
      simp only
      rw [if_neg (by omega), if_neg m1, if_neg (by omega)]
      show canB c (d : Int) (tsk ts (t : Int)) = decide ((if canB c (d : Int) (tsk ts (t : Int)) = false then (8 : Int) else if ¬ (∀ a ∈ befL c ts t, (a : Int) ∈ done) then 5 else 0) = 0)
      cases canB c (d : Int) (tsk ts (t : Int)) with
      | false => simp
      | true => rw [if_neg (by simp), if_neg (by simpa using m2)]; simp
    · rw [if_neg hm]
      symm
      rw [List.map_eq_nil_iff, List.filter_eq_nil_iff]
      intro d hd h0
      have h0 := of_decide_eq_true h0
      refine hm (mayB_iff.2 ?_)
      unfold stepErr at h0
      simp only at h0
      have hdl : d < c.2.1.length := List.mem_range.1 hd
      rw [if_neg (by omega)] at h0
      by_cases a2 : (t : Int) ∈ done
      · rw [if_pos a2] at h0; cases h0
      · rw [if_neg a2, if_neg (by omega)] at h0
        by_cases a4 : canB c (d : Int) (ts[((t : Nat) : Int).toNat]?.getD (false, 0)) = false
        · rw [if_pos a4] at h0; cases h0
        · rw [if_neg a4] at h0
          by_cases a5 : ∀ a ∈ befL c ts ((t : Nat) : Int).toNat, (a : Int) ∈ done
          · exact ⟨a2, a5⟩
          · rw [if_pos a5] at h0; cases h0
  generalize List.range ts.length = l at *
  induction l with
  | nil => rfl
  | cons x l ih =>
    rw [List.flatMap_cons, List.flatMap_cons, this x (by simp), ih fun t ht => this t (by simp [ht])]

theorem gen_len {c : dChange} {ts : List (Bool × Int)} (ht : ts.length ≤ 4) (hd : c.2.1.length ≤ 3) : ∀ {r : Nat} {done : List Int} {p : List dStep}, (gen c ts r done p).length ≤ 12 ^ r
  | 0, _, _ => by simp [gen]
  | r + 1, done, p => by
    rw [gen]
    have h1 := flatMap_len (l := extL c ts done 0) (f := fun s => gen c ts r (done ++ [s.1]) (p ++ [s])) (b := 12 ^ r) fun s _ => gen_len ht hd
    have h2 : (extL c ts done 0).length ≤ 12 := by
      rw [extL_eq]
      have := flatMap_len (l := List.range ts.length) (f := fun t => stT c ts done t c.2.1.length) (b := 3) fun t _ => Nat.le_trans stT_len hd
      rw [List.length_range] at this
      omega
    have h3 := Nat.mul_le_mul_right (12 ^ r) h2
    rw [Nat.pow_succ]
    omega

section
variable {k : Nat} {n : Int} {c : dChange} {mv : List Bool}

theorem rplans2_eq (hk : 50 ≤ k) (hc : VC n c) (hF : Fix c mv) (ht : (tsC c mv).length ≤ 4) {self : dChange → List dStep → Option (List (List dStep))} {p : List dStep} {r t : Nat} (hp : p.length ≤ 4) (hr : r ≤ 3)
    (hself : ∀ d : Nat, d < c.2.1.length → self c (p ++ [((t : Int), (d : Int))]) = some (gen c (tsC c mv) r (p.map (·.1) ++ [(t : Int)]) (p ++ [((t : Int), (d : Int))]))) {o : List (List dStep)} (ho : o.length ≤ 100000) :
    ref_plans_l2 k c p self (o, (t : Int)) k (o, 0) = some (o ++ (stT c (tsC c mv) (p.map (·.1)) t c.2.1.length).flatMap fun s => gen c (tsC c mv) r (p.map (·.1) ++ [s.1]) (p ++ [s])) := by
  have hdl := hc.dl
  have hB : 12 ^ r ≤ 1728 := by
    have := Nat.pow_le_pow_right (n := 12) (by decide) hr
    exact this
  have key : W (ref_plans_l2 k c p self (o, (t : Int)) k (o, 0)) fun x => x = o ++ (stT c (tsC c mv) (p.map (·.1)) t c.2.1.length).flatMap fun s => gen c (tsC c mv) r (p.map (·.1) ++ [s.1]) (p ++ [s]) := by
    refine W.loop (f := ref_plans_l2 k c p self (o, (t : Int))) (fun m y => ∃ j : Nat, y.2 = (j : Int) ∧ j ≤ c.2.1.length ∧ m = c.2.1.length - j ∧ y.1 = o ++ (stT c (tsC c mv) (p.map (·.1)) t j).flatMap fun s => gen c (tsC c mv) r (p.map (·.1) ++ [s.1]) (p ++ [s])) ?_ c.2.1.length k (o, 0) (by omega) ⟨0, rfl, by omega, by omega, by simp [stT]⟩
    rintro fuel m ⟨x, y⟩ ⟨j, hj, hle, hm, hx⟩ ih
    simp only at hj hx
    subst hj hx
    unfold ref_plans_l2
    dsimp only
    refine W.ite (fun hlt => ?_) (fun hge => W.ret (by
      have : j = c.2.1.length := by omega
      rw [this]))
    have hfl := flatMap_len (l := stT c (tsC c mv) (p.map (·.1)) t j) (f := fun s => gen c (tsC c mv) r (p.map (·.1) ++ [s.1]) (p ++ [s])) (b := 1728) fun s _ => Nat.le_trans (gen_len ht hdl.2) hB
    have hsl := stT_len (c := c) (ts := tsC c mv) (done := p.map (·.1)) (t := t) (m := j)
    have hgl := gen_len (c := c) (ts := tsC c mv) ht hdl.2 (r := r) (done := p.map (·.1) ++ [(t : Int)]) (p := p ++ [((t : Int), (j : Int))])
    have hck : ck ((j : Int) + 1) = some ((j : Int) + 1) := ck_ok (by omega) (by omega)
    rw [rstep_eq hk hc hF ht (by omega), bs]
    by_cases h0 : stepErr c (tsC c mv) (p.map (·.1)) ((t : Int), (j : Int)) = 0
    · rw [if_pos h0, chk_ok (okLen_of (by simp only [List.length_nil]; omega)), bs, chk_ok (okLen_of (by simp only [List.nil_append, List.length_cons, List.length_nil]; omega)), bs, List.nil_append, hself j (by omega), bs, chk_ok (by unfold okLen; rw [List.length_append]; omega), bs, bs, hck, bs]
      refine ih (m - 1) (_, (j : Int) + 1) (by omega) ⟨j + 1, rfl, by omega, by omega, ?_⟩
      simp only
      rw [stT_succ, if_pos h0, List.flatMap_append, ← List.append_assoc]
      simp
    · rw [if_neg h0, bs, hck, bs]
      refine ih (m - 1) (_, (j : Int) + 1) (by omega) ⟨j + 1, rfl, by omega, by omega, ?_⟩
      simp only
      rw [stT_succ, if_neg h0, List.append_nil]
  obtain ⟨x, e, rfl⟩ := key
  exact e

/-- **All plans.** -/
theorem rplans_eq (hk : 50 ≤ k) (hc : VC n c) (hF : Fix c mv) (ht : (tsC c mv).length ≤ 4) : ∀ (r m : Nat) {p : List dStep}, p.length + r = (tsC c mv).length → r < m → ref_plans k m c p = some (gen c (tsC c mv) r (p.map (·.1)) p) := by
  have hdl := hc.dl
  intro r
  induction r with
  | zero =>
    intro m p hp hm
    obtain ⟨m, rfl⟩ : ∃ m', m = m' + 1 := ⟨m - 1, by omega⟩
    rw [ref_plans, refTasks_eq hk hc hF, bs, List.length_map, if_pos (by omega), gen]
  | succ r ih =>
    intro m p hp hm
    obtain ⟨m, rfl⟩ : ∃ m', m = m' + 1 := ⟨m - 1, by omega⟩
    rw [ref_plans, refTasks_eq hk hc hF, bs, List.length_map, if_neg (by omega), gen, extL_eq]
    have hB : 12 ^ r ≤ 1728 := Nat.pow_le_pow_right (n := 12) (by decide) (show r ≤ 3 by omega)
    have key : W (ref_plans_l1 k c p (ref_plans k m) ((tsC c mv).map fun x => (x.2, x.1)) k ([], 0)) fun x => x = ((List.range (tsC c mv).length).flatMap fun t => stT c (tsC c mv) (p.map (·.1)) t c.2.1.length).flatMap fun s => gen c (tsC c mv) r (p.map (·.1) ++ [s.1]) (p ++ [s]) := by
      refine W.loop (f := ref_plans_l1 k c p (ref_plans k m) ((tsC c mv).map fun x => (x.2, x.1))) (fun m y => ∃ t : Nat, y.2 = (t : Int) ∧ t ≤ (tsC c mv).length ∧ m = (tsC c mv).length - t ∧ y.1 = ((List.range t).flatMap fun t => stT c (tsC c mv) (p.map (·.1)) t c.2.1.length).flatMap fun s => gen c (tsC c mv) r (p.map (·.1) ++ [s.1]) (p ++ [s])) ?_ (tsC c mv).length k ([], 0) (by omega) ⟨0, rfl, by omega, by omega, by simp⟩
      rintro fuel mm ⟨x, y⟩ ⟨t, hj, hle, hmm, hx⟩ ih2
      simp only at hj hx
      subst hj hx
      unfold ref_plans_l1
      dsimp only
      rw [List.length_map]
      refine W.ite (fun hlt => ?_) (fun hge => W.ret (by
        have : t = (tsC c mv).length := by omega
        rw [this]))
      have h1 := flatMap_len (l := (List.range t).flatMap fun t => stT c (tsC c mv) (p.map (·.1)) t c.2.1.length) (f := fun s => gen c (tsC c mv) r (p.map (·.1) ++ [s.1]) (p ++ [s])) (b := 1728) fun s _ => Nat.le_trans (gen_len ht hdl.2) hB
      have h2 := flatMap_len (l := List.range t) (f := fun t => stT c (tsC c mv) (p.map (·.1)) t c.2.1.length) (b := 3) fun t _ => Nat.le_trans stT_len hdl.2
      rw [List.length_range] at h2
      rw [rplans2_eq hk hc hF ht (r := r) (by omega) (by omega) (fun d hd => by
        have := ih m (p := p ++ [((t : Int), (d : Int))]) (by rw [List.length_append]; simp only [List.length_cons, List.length_nil]; omega) (by omega)
        rw [this, List.map_append]; rfl) (by omega), bs, ck_ok (by omega) (by omega), bs]
      refine ih2 (mm - 1) (_, (t : Int) + 1) (by omega) ⟨t + 1, rfl, by omega, by omega, ?_⟩
      simp only
      rw [List.range_succ, List.flatMap_append, List.flatMap_append]
      simp
    obtain ⟨x, e, rfl⟩ := key
    rw [e, bs]

theorem rPlans_eq (hk : 50 ≤ k) (hc : VC n c) (hF : Fix c mv) (ht : (tsC c mv).length ≤ 4) : ref_Plans k c = some (plansS c (tsC c mv)) := by
  unfold ref_Plans plansS
  rw [rplans_eq hk hc hF ht (tsC c mv).length k (p := []) (by simp) (by omega), bs]
  rfl

theorem minL_app {f : List dStep → Int} : ∀ {l m : List (List dStep)} {b : Bool × Int × List dStep}, minL f b (l ++ m) = minL f (minL f b l) m
  | [], m, b => rfl
  | p :: l, m, b => by rw [List.cons_append, minL, minL, minL_app]

/-- **The fewest bars.** -/
theorem rfew_eq (hk : 30000 ≤ k) (hc : VC n c) (hF : Fix c mv) (ht : (tsC c mv).length ≤ 4) : ref_fewest k c = some ((fewS c (tsC c mv)).2.2, (fewS c (tsC c mv)).2.1, (fewS c (tsC c mv)).1) := by
  have hk5 : 50 ≤ k := by omega
  have hl : (plansS c (tsC c mv)).length ≤ 20736 := Nat.le_trans (gen_len ht hc.dl.2) (Nat.pow_le_pow_right (n := 12) (by decide) ht)
  have hm : ∀ p ∈ plansS c (tsC c mv), ref_bars k c p = some (lenS c (tsC c mv) p) := fun p hp => rbars_eq hk5 hc hF ht (mem_plansS.1 hp)
  unfold ref_fewest fewS
  rw [rPlans_eq hk5 hc hF ht, bs]
  generalize plansS c (tsC c mv) = L at *
  cases L with
  | nil => rw [if_pos (by simp)]; rfl
  | cons p0 l =>
    rw [if_neg (by simp only [List.length_cons]; omega), show geti (p0 :: l) 0 = some p0 from rfl, bs, hm p0 (by simp), bs]
    have e0 : minL (lenS c (tsC c mv)) (false, 0, []) (p0 :: l) = minL (lenS c (tsC c mv)) (true, lenS c (tsC c mv) p0, p0) (p0 :: l) := by
      rw [minL, minL, if_pos (.inl rfl), if_neg (by simp)]
    rw [e0]
    have key : W (ref_fewest_l1 k c (p0 :: l) k (0, lenS c (tsC c mv) p0, 0)) fun r => ∃ pl, geti (p0 :: l) r.1 = some pl ∧ minL (lenS c (tsC c mv)) (true, lenS c (tsC c mv) p0, p0) (p0 :: l) = (true, r.2, pl) := by
      refine W.loop (f := ref_fewest_l1 k c (p0 :: l)) (fun m y => ∃ j : Nat, y.2.2 = (j : Int) ∧ j ≤ (p0 :: l).length ∧ m = (p0 :: l).length - j ∧ ∃ pl, geti (p0 :: l) y.1 = some pl ∧ minL (lenS c (tsC c mv)) (true, lenS c (tsC c mv) p0, p0) ((p0 :: l).take j) = (true, y.2.1, pl)) ?_ (p0 :: l).length k (0, lenS c (tsC c mv) p0, 0) (by omega)
        ⟨0, rfl, by omega, by omega, p0, rfl, rfl⟩
      rintro fuel m ⟨b, v, y⟩ ⟨j, hj, hle, hmm, pl, h1, h2⟩ ih
      simp only at hj h1 h2
      subst hj
      unfold ref_fewest_l1
      dsimp only
      refine W.ite (fun hlt => ?_) (fun hge => W.ret ⟨pl, h1, by
        have : j = (p0 :: l).length := by omega
        rw [this, List.take_length] at h2
        exact h2⟩)
      have hlt' : j < (p0 :: l).length := by omega
      have hck : ck ((j : Int) + 1) = some ((j : Int) + 1) := ck_ok (by omega) (by omega)
      have hs : minL (lenS c (tsC c mv)) (true, lenS c (tsC c mv) p0, p0) ((p0 :: l).take (j + 1)) = if lenS c (tsC c mv) (p0 :: l)[j] < v then (true, lenS c (tsC c mv) (p0 :: l)[j], (p0 :: l)[j]) else (true, v, pl) := by
        rw [List.take_add_one, List.getElem?_eq_getElem hlt', minL_app, h2]
        simp only [Option.toList_some, minL, Bool.true_eq_false, false_or]
      rw [geti_W hlt', bs, hm _ (List.getElem_mem hlt'), bs]
      by_cases hv : lenS c (tsC c mv) (p0 :: l)[j] < v
      · rw [if_pos hv, bs, hck, bs]
        exact ih (m - 1) (_, _, (j : Int) + 1) (by omega) ⟨j + 1, rfl, by omega, by omega, _, geti_W hlt', by rw [hs, if_pos hv]⟩
      · rw [if_neg hv, bs, hck, bs]
        exact ih (m - 1) (_, _, (j : Int) + 1) (by omega) ⟨j + 1, rfl, by omega, by omega, pl, h1, by rw [hs, if_neg hv]⟩
    obtain ⟨r, e, pl, h1, h2⟩ := key
    rw [e, bs, h1, bs, h2]
end
end Go.Proofs.YtfhdclhbdmhnmaaGreat

/- Plain law: copies. -/
namespace Go.Proofs.YtfhdclhbdmhnmaaGreat
open K Go Go.Proofs

theorem copyInts_ok {k : Nat} {l : List Int} (h : l.length ≤ 1000) : kit_CopyInts k l = some l := by
  unfold kit_CopyInts
  rw [chkP, if_pos (okLen_of (by simpa using h))]
  rfl

theorem copyChange_ok {k : Nat} (hk : 50 ≤ k) {c : dChange} (h1 : c.1.length ≤ 20) (h2 : c.2.1.length ≤ 20) (h3 : ∀ t ∈ c.1, t.1.length ≤ 20) (h4 : ∀ d ∈ c.2.1, d.1.length ≤ 20) (h5 : c.2.2.1.length ≤ 20) (h6 : c.2.2.2.length ≤ 20) : kit_CopyChange k c = some c := by
  have k1 : W (kit_CopyChange_l1 k c k ([], 0)) fun r => r = c.1 := by
    refine W.loop (f := kit_CopyChange_l1 k c) (fun m y => ∃ j : Nat, y.2 = (j : Int) ∧ j ≤ c.1.length ∧ m = c.1.length - j ∧ y.1 = c.1.take j) ?_ c.1.length k _ (by omega) ⟨0, rfl, by omega, by omega, by simp⟩
    rintro fuel m ⟨o, y⟩ ⟨j, hj, hle, hq, ho⟩ ih
    simp only at hj ho
    subst hj ho
    unfold kit_CopyChange_l1
    dsimp only
    refine W.ite (fun hlt => ?_) (fun hge => W.ret (by have : j = c.1.length := by omega
                                                       subst this; rw [List.take_length]))
    have hlt' : j < c.1.length := by omega
    refine W.bindE (geti_W hlt') (W.bindE (copyInts_ok (by have := h3 _ (List.getElem_mem hlt'); omega)) (W.chk (okLen_of (by simp only [List.length_take, List.length_cons, List.length_nil]; omega)) (W.ck (by omega) (by omega) (ih (m - 1) (_, (j : Int) + 1) (by omega) ⟨j + 1, ?_, by omega, by omega, ?_⟩))))
    · show (j : Int) + 1 = ((j + 1 : Nat) : Int)
      omega
    · show c.1.take j ++ [_] = _
      rw [List.take_add_one, List.getElem?_eq_getElem hlt']
      rfl
  have k2 : W (kit_CopyChange_l2 k c k ([], 0)) fun r => r = c.2.1 := by
    refine W.loop (f := kit_CopyChange_l2 k c) (fun m y => ∃ j : Nat, y.2 = (j : Int) ∧ j ≤ c.2.1.length ∧ m = c.2.1.length - j ∧ y.1 = c.2.1.take j) ?_ c.2.1.length k _ (by omega) ⟨0, rfl, by omega, by omega, by simp⟩
    rintro fuel m ⟨o, y⟩ ⟨j, hj, hle, hq, ho⟩ ih
    simp only at hj ho
    subst hj ho
    unfold kit_CopyChange_l2
    dsimp only
    refine W.ite (fun hlt => ?_) (fun hge => W.ret (by have : j = c.2.1.length := by omega
                                                       subst this; rw [List.take_length]))
    have hlt' : j < c.2.1.length := by omega
    refine W.bindE (geti_W hlt') (W.bindE (copyInts_ok (by have := h4 _ (List.getElem_mem hlt'); omega)) (W.chk (okLen_of (by simp only [List.length_take, List.length_cons, List.length_nil]; omega)) (W.ck (by omega) (by omega) (ih (m - 1) (_, (j : Int) + 1) (by omega) ⟨j + 1, ?_, by omega, by omega, ?_⟩))))
    · show (j : Int) + 1 = ((j + 1 : Nat) : Int)
      omega
    · show c.2.1.take j ++ [_] = _
      rw [List.take_add_one, List.getElem?_eq_getElem hlt']
      rfl
  obtain ⟨x1, e1, rfl⟩ := k1
  obtain ⟨x2, e2, rfl⟩ := k2
  unfold kit_CopyChange
  rw [copyInts_ok (by omega), copyInts_ok (by omega), e1, e2]
  rfl

end Go.Proofs.YtfhdclhbdmhnmaaGreat

/- Plain law: copies, as they are made where the order is open. -/
namespace Go.Proofs.YtfhdclhbdmhnmaaGreat
open K Go Go.Proofs

theorem copyChangeF_ok {k : Nat} (hk : 50 ≤ k) {c : dChange} (h1 : c.1.length ≤ 20) (h2 : c.2.1.length ≤ 20) (h3 : ∀ t ∈ c.1, t.1.length ≤ 20) (h4 : ∀ d ∈ c.2.1, d.1.length ≤ 20) (h5 : c.2.2.1.length ≤ 20) (h6 : c.2.2.2.length ≤ 20) : kit_CopyChangeF k c = some c := by
  have k1 : W (kit_CopyChangeF_l1 k c k ([], 0)) fun r => r = c.1 := by
    refine W.loop (f := kit_CopyChangeF_l1 k c) (fun m y => ∃ j : Nat, y.2 = (j : Int) ∧ j ≤ c.1.length ∧ m = c.1.length - j ∧ y.1 = c.1.take j) ?_ c.1.length k _ (by omega) ⟨0, rfl, by omega, by omega, by simp⟩
    rintro fuel m ⟨o, y⟩ ⟨j, hj, hle, hq, ho⟩ ih
    simp only at hj ho
    subst hj ho
    unfold kit_CopyChangeF_l1
    dsimp only
    refine W.ite (fun hlt => ?_) (fun hge => W.ret (by have : j = c.1.length := by omega
                                                       subst this; rw [List.take_length]))
    have hlt' : j < c.1.length := by omega
    refine W.bindE (geti_W hlt') (W.bindE (copyInts_ok (by have := h3 _ (List.getElem_mem hlt'); omega)) (W.chk (okLen_of (by simp only [List.length_take, List.length_cons, List.length_nil]; omega)) (W.ck (by omega) (by omega) (ih (m - 1) (_, (j : Int) + 1) (by omega) ⟨j + 1, ?_, by omega, by omega, ?_⟩))))
    · show (j : Int) + 1 = ((j + 1 : Nat) : Int)
      omega
    · show c.1.take j ++ [_] = _
      rw [List.take_add_one, List.getElem?_eq_getElem hlt']
      rfl
  have k2 : W (kit_CopyChangeF_l2 k c k ([], 0)) fun r => r = c.2.1 := by
    refine W.loop (f := kit_CopyChangeF_l2 k c) (fun m y => ∃ j : Nat, y.2 = (j : Int) ∧ j ≤ c.2.1.length ∧ m = c.2.1.length - j ∧ y.1 = c.2.1.take j) ?_ c.2.1.length k _ (by omega) ⟨0, rfl, by omega, by omega, by simp⟩
    rintro fuel m ⟨o, y⟩ ⟨j, hj, hle, hq, ho⟩ ih
    simp only at hj ho
    subst hj ho
    unfold kit_CopyChangeF_l2
    dsimp only
    refine W.ite (fun hlt => ?_) (fun hge => W.ret (by have : j = c.2.1.length := by omega
                                                       subst this; rw [List.take_length]))
    have hlt' : j < c.2.1.length := by omega
    refine W.bindE (geti_W hlt') (W.bindE (copyInts_ok (by have := h4 _ (List.getElem_mem hlt'); omega)) (W.chk (okLen_of (by simp only [List.length_take, List.length_cons, List.length_nil]; omega)) (W.ck (by omega) (by omega) (ih (m - 1) (_, (j : Int) + 1) (by omega) ⟨j + 1, ?_, by omega, by omega, ?_⟩))))
    · show (j : Int) + 1 = ((j + 1 : Nat) : Int)
      omega
    · show c.2.1.take j ++ [_] = _
      rw [List.take_add_one, List.getElem?_eq_getElem hlt']
      rfl
  obtain ⟨x1, e1, rfl⟩ := k1
  obtain ⟨x2, e2, rfl⟩ := k2
  unfold kit_CopyChangeF
  rw [copyInts_ok (by omega), copyInts_ok (by omega), e1, e2]
  rfl

end Go.Proofs.YtfhdclhbdmhnmaaGreat

/- Plain law: the changes of a law that compares with the reference. -/
namespace Go.Proofs.YtfhdclhbdmhnmaaGreat
open K Go Go.Proofs

/-- A loop that only looks, from the start. -/
theorem for_all0 {ε : Type} {f : Nat → Int → Option (Except ε Unit)} {N k : Nat} (hk : N < k) (step : ∀ n (j : Nat), j < N → f (n + 1) (j : Int) = f n ((j : Int) + 1)) (stop : ∀ n, f (n + 1) (N : Int) = some (.ok ())) : f k 0 = some (.ok ()) := by
  have key : ∀ (m j n : Nat), N - j = m → j ≤ N → m < n → f n (j : Int) = some (.ok ()) := by
    intro m
    induction m with
    | zero =>
      intro j n h1 h2 h3
      obtain ⟨n, rfl⟩ : ∃ n', n = n' + 1 := ⟨n - 1, by omega⟩
      have : j = N := by omega
      subst this
      exact stop n
    | succ m ih =>
      intro j n h1 h2 h3
      obtain ⟨n, rfl⟩ : ∃ n', n = n' + 1 := ⟨n - 1, by omega⟩
      rw [step n j (by omega)]
      exact ih (j + 1) n (by omega) (by omega) (by omega)
  exact key N 0 k rfl (Nat.zero_le _) hk

theorem sameChanges_self {k : Nat} (hk : 50 ≤ k) {c : dChange} (hs : Short c) : kit_SameChanges k c c = some true := by
  have h1 := hs.things
  have h2 := hs.dressers
  have h3 := hs.wears
  have h4 := hs.wants
  have k1 : kit_SameChanges_l1 k c c k 0 = some (.ok ()) := for_all0 (N := c.1.length) (by omega) (fun n j hj => by
    have := hs.over _ (List.getElem_mem hj)
    have hck : ck ((j : Int) + 1) = some ((j : Int) + 1) := ck_ok (by omega) (by omega)
    simp only [kit_SameChanges_l1, Int.ofNat_lt, hj, if_true, geti_W hj, bs, sameInts_self (show (c.1[j]).1.length < k by omega) (show (c.1[j]).1.length ≤ 1000000 by omega), not_true_eq_false, if_false, hck, decide_true, Bool.not_true, Bool.false_eq_true]) (fun n => by simp [kit_SameChanges_l1])
  have k2 : kit_SameChanges_l2 k c c k 0 = some (.ok ()) := for_all0 (N := c.2.1.length) (by omega) (fun n j hj => by
    have := hs.can _ (List.getElem_mem hj)
    have hck : ck ((j : Int) + 1) = some ((j : Int) + 1) := ck_ok (by omega) (by omega)
    simp only [kit_SameChanges_l2, Int.ofNat_lt, hj, if_true, geti_W hj, bs, sameInts_self (show (c.2.1[j]).1.length < k by omega) (show (c.2.1[j]).1.length ≤ 1000000 by omega), not_true_eq_false, if_false, hck, decide_true, Bool.not_true, Bool.false_eq_true]) (fun n => by simp [kit_SameChanges_l2])
  unfold kit_SameChanges
  simp only [sameInts_self (show c.2.2.1.length < k by omega) (show c.2.2.1.length ≤ 1000000 by omega), sameInts_self (show c.2.2.2.length < k by omega) (show c.2.2.2.length ≤ 1000000 by omega), bs, not_true_eq_false, if_false, decide_true, Bool.not_true, Bool.false_eq_true, k1, k2, bE_k]

theorem copy_short {k : Nat} (hk : 50 ≤ k) {c : dChange} (hs : Short c) : kit_CopyChange k c = some c := copyChange_ok hk hs.things hs.dressers hs.over hs.can hs.wears hs.wants
theorem copyF_short {k : Nat} (hk : 50 ≤ k) {c : dChange} (hs : Short c) : kit_CopyChangeF k c = some c := copyChangeF_ok hk hs.things hs.dressers hs.over hs.can hs.wears hs.wants
theorem short_of_vc {n : Int} {c : dChange} (hc : VC n c) : Short c := by
  obtain ⟨w1, w2, w3, w4, w5⟩ := hc.wl
  have := hc.dl
  exact ⟨by omega, by omega, by omega, by omega, fun t h => by have := w4 t h; omega, fun d h => by have := w5 d h; omega⟩

/-- A loop over a list that leaves at the first that is too long. -/
theorem long_loop {α : Type} {l : List α} {g : α → Nat} {f : Nat → Int → Option (Except Bool Unit)} {k : Nat} (hk : l.length < k) (step : ∀ n (j : Nat) (h : j < l.length), f (n + 1) (j : Int) = if 20 < g l[j] then some (.error true) else f n ((j : Int) + 1)) (stop : ∀ n, f (n + 1) (l.length : Int) = some (.ok ())) :
    W (f k 0) fun r => r = .error true ∨ (r = .ok () ∧ ∀ x ∈ l, g x ≤ 20) := by
  have key : ∀ (m j n : Nat), l.length - j = m → j ≤ l.length → m < n → W (f n (j : Int)) fun r => r = .error true ∨ (r = .ok () ∧ ∀ x ∈ l.drop j, g x ≤ 20) := by
    intro m
    induction m with
    | zero =>
      intro j n h1 h2 h3
      obtain ⟨n, rfl⟩ : ∃ n', n = n' + 1 := ⟨n - 1, by omega⟩
      have : j = l.length := by omega
      subst this
      exact ⟨_, stop n, .inr ⟨rfl, by simp⟩⟩
    | succ m ih =>
      intro j n h1 h2 h3
      obtain ⟨n, rfl⟩ : ∃ n', n = n' + 1 := ⟨n - 1, by omega⟩
      have hj : j < l.length := by omega
      rw [step n j hj]
      by_cases hg : 20 < g l[j]
      · rw [if_pos hg]; exact ⟨_, rfl, .inl rfl⟩
      · rw [if_neg hg]
        obtain ⟨r, e, h⟩ := ih (j + 1) n (by omega) (by omega) (by omega)
        refine ⟨r, e, h.imp id fun ⟨h1, h2⟩ => ⟨h1, fun x hx => ?_⟩⟩
        rw [List.drop_eq_getElem_cons hj, List.mem_cons] at hx
        rcases hx with rfl | hx
        · omega
        · exact h2 x hx
  exact key l.length 0 k rfl (Nat.zero_le _) hk

theorem long_ok {k : Nat} (hk : 50 ≤ k) {c : dChange} : W (law_long k c) fun r => r = false → Short c := by
  unfold law_long
  by_cases h1 : (20 : Int) < (c.1.length : Int)
  · rw [if_pos h1, bs, if_pos rfl]; exact ⟨_, rfl, fun h => (nomatch h)⟩
  by_cases h2 : (20 : Int) < (c.2.1.length : Int)
  · rw [if_neg h1, if_pos h2, bs, if_pos rfl]; exact ⟨_, rfl, fun h => (nomatch h)⟩
  by_cases h3 : (20 : Int) < (c.2.2.1.length : Int)
  · rw [if_neg h1, if_neg h2, if_pos h3, bs, if_pos rfl]; exact ⟨_, rfl, fun h => (nomatch h)⟩
  by_cases h4 : (20 : Int) < (c.2.2.2.length : Int)
  · rw [if_neg h1, if_neg h2, if_neg h3, bs, if_pos (decide_eq_true h4)]; exact ⟨_, rfl, fun h => (nomatch h)⟩
  rw [if_neg h1, if_neg h2, if_neg h3, bs, if_neg (by simpa using h4)]
  obtain ⟨r1, e1, g1⟩ := long_loop (l := c.1) (g := fun t => t.1.length) (f := law_long_l1 k c) (k := k) (by omega) (fun n j h => by
    have hck : ck ((j : Int) + 1) = some ((j : Int) + 1) := ck_ok (by omega) (by omega)
    simp only [law_long_l1, Int.ofNat_lt, h, if_true, geti_W h, bs, hck]
    by_cases hx : 20 < (c.1[j]).1.length
    · rw [if_pos (by omega), if_pos hx]
    · rw [if_neg (by omega), if_neg hx]) (fun n => by simp [law_long_l1])
  obtain ⟨r2, e2, g2⟩ := long_loop (l := c.2.1) (g := fun t => t.1.length) (f := law_long_l2 k c) (k := k) (by omega) (fun n j h => by
    have hck : ck ((j : Int) + 1) = some ((j : Int) + 1) := ck_ok (by omega) (by omega)
    simp only [law_long_l2, Int.ofNat_lt, h, if_true, geti_W h, bs, hck]
    by_cases hx : 20 < (c.2.1[j]).1.length
    · rw [if_pos (by omega), if_pos hx]
    · rw [if_neg (by omega), if_neg hx]) (fun n => by simp [law_long_l2])
  rw [e1, e2]
  rcases g1 with rfl | ⟨rfl, g1⟩
  · rw [bE_e]; exact ⟨_, rfl, fun h => (nomatch h)⟩
  rcases g2 with rfl | ⟨rfl, g2⟩
  · rw [bE_k, bE_e]; exact ⟨_, rfl, fun h => (nomatch h)⟩
  rw [bE_k, bE_k]
  exact ⟨_, rfl, fun _ => ⟨by omega, by omega, by omega, by omega, g1, g2⟩⟩

/-- **The changes of a law.** -/
theorem sets_ok2 {k : Nat} (hk : 50 ≤ k) {c : dChange} (hs : Short c) {l : dLots} {m : Int} (hl : Lo l m) (hm : 0 ≤ m ∧ m ≤ 1000) : W (law_sets k c l) fun r => Lo r.2 (m + 310) ∧ r.1.length = 4 ∧ (∀ x ∈ r.1, Short x) ∧ r.1[0]? = some c ∧ ∃ c1, r.1[1]? = some c1 ∧ ∃ n mv q, VC n c1 ∧ chg_begin k c1 = some (some q, 0) ∧ QV n c1 mv q := by
  obtain ⟨r2, e2, hlo, _, n, mv, q, hc, hbg, hq⟩ := lots_ok hk hl hm
  have hs2 := short_of_vc hc
  have hn := hc.n4
  have hl2 := hc.len
  have hd2 := hc.dl
  obtain ⟨r9, e9, _, _, h9⟩ := upto_ok (k := k) (n := 2) hlo (by omega) (by decide)
  unfold law_sets
  rw [e2, bs, copy_short hk hs2, bs]
  have fin : ∀ (x : (List dThing) × (List dDresser) × (List Int) × (List Int) × Int × Int), Lo (x.2.2.2.1, x.2.2.2.2.1, x.2.2.2.2.2) (m + 310) → Short (x.1, x.2.1, r2.1.2.2.1, x.2.2.1) →
      W ((some x).bind fun x7 => some ([c, r2.1, (x7.1, x7.2.1, r2.1.2.2.1, x7.2.2.1), r2.1], (x7.2.2.2.1, x7.2.2.2.2.1, x7.2.2.2.2.2))) fun r => Lo r.2 (m + 310) ∧ r.1.length = 4 ∧ (∀ x ∈ r.1, Short x) ∧ r.1[0]? = some c ∧ ∃ c1, r.1[1]? = some c1 ∧ ∃ n mv q, VC n c1 ∧ chg_begin k c1 = some (some q, 0) ∧ QV n c1 mv q := fun x h1 h2 => by
    refine W.ret ⟨h1, rfl, fun y hy => ?_, rfl, _, rfl, n, mv, q, hc, hbg, hq⟩
    simp only [List.mem_cons, List.not_mem_nil, or_false] at hy
    rcases hy with rfl | rfl | rfl | rfl
    · exact hs
    · exact hs2
    · exact h2
    · exact hs2
  rw [show kit_Lots_Upto k (r2.2.1, r2.2.2.1, r2.2.2.2) 2 = some r9 from e9, bs]
  by_cases c0 : r9.1 = 0
  · rw [if_pos c0, copyInts_ok (by have := hs.wants; omega), bs]
    exact fin _ (h9.mono (by omega)) ⟨hs2.things, hs2.dressers, hs2.wears, hs.wants, hs2.over, hs2.can⟩
  rw [if_neg c0]
  by_cases c1 : r9.1 = 1
  · rw [if_pos c1]
    by_cases hp : (0 : Int) < (c.1.length : Int)
    · rw [if_pos hp, ck_ok (by omega) (by omega), bs]
      obtain ⟨r14, e14, a14, b14, h14⟩ := upto_ok (k := k) (n := (r2.1.1.length : Int) - 1) h9 (by omega) (by omega)
      rw [show kit_Lots_Upto k (r9.2.1, r9.2.2.1, r9.2.2.2) _ = some r14 from e14, bs, copyF_short hk hs, bs]
      have b14 := b14 (by omega)
      have hg0 : 0 < c.1.length := by omega
      rw [show geti c.1 0 = some c.1[0] from geti_W (i := 0) hg0, bs, geti_at a14 (by omega), bs]
      refine fin _ (h14.mono (by omega)) ⟨by simpa using hs2.things, hs2.dressers, hs2.wears, hs2.wants, fun t ht => ?_, hs2.can⟩
      rcases List.mem_or_eq_of_mem_set ht with h | rfl
      · exact hs2.over t h
      · exact hs.over _ (List.getElem_mem hg0)
    · rw [if_neg hp]
      exact fin _ (h9.mono (by omega)) hs2
  rw [if_neg c1]
  by_cases c2 : r9.1 = 2
  · rw [if_pos c2]
    by_cases hp : (0 : Int) < (c.2.1.length : Int)
    · rw [if_pos hp, ck_ok (by omega) (by omega), bs]
      obtain ⟨r14, e14, a14, b14, h14⟩ := upto_ok (k := k) (n := (r2.1.2.1.length : Int) - 1) h9 (by omega) (by omega)
      rw [show kit_Lots_Upto k (r9.2.1, r9.2.2.1, r9.2.2.2) _ = some r14 from e14, bs, copyF_short hk hs, bs]
      have b14 := b14 (by omega)
      have hg0 : 0 < c.2.1.length := by omega
      rw [show geti c.2.1 0 = some c.2.1[0] from geti_W (i := 0) hg0, bs, geti_at a14 (by omega), bs]
      refine fin _ (h14.mono (by omega)) ⟨hs2.things, by simpa using hs2.dressers, hs2.wears, hs2.wants, hs2.over, fun t ht => ?_⟩
      rcases List.mem_or_eq_of_mem_set ht with h | rfl
      · exact hs2.can t h
      · exact hs.can _ (List.getElem_mem hg0)
    · rw [if_neg hp]
      exact fin _ (h9.mono (by omega)) hs2
  · rw [if_neg c2]
    exact fin _ (h9.mono (by omega)) hs2

theorem bool_of (p : Prop) : ∃ b : Bool, b = true ↔ p := by
  by_cases h : p
  · exact ⟨true, by simp [h]⟩
  · exact ⟨false, by simp [h]⟩

theorem sets_ok {k : Nat} (hk : 50 ≤ k) {c : dChange} (hs : Short c) {l : dLots} {m : Int} (hl : Lo l m) (hm : 0 ≤ m ∧ m ≤ 1000) : W (law_sets k c l) fun r => Lo r.2 (m + 310) ∧ r.1.length = 4 ∧ ∀ x ∈ r.1, Short x := (sets_ok2 hk hs hl hm).mono fun _ h => ⟨h.1, h.2.1, h.2.2.1⟩
end Go.Proofs.YtfhdclhbdmhnmaaGreat

/- Plain law: what the program and the reference say of any short change and plan. -/
namespace Go.Proofs.YtfhdclhbdmhnmaaGreat
open K Go Go.Proofs

/-- A short change is wrong for both, in one way, or good for both. -/
theorem ask_cases {k : Nat} (hk : 50 ≤ k) {c : dChange} (hs : Short c) : (∃ e : Int, e ≠ 0 ∧ chg_begin k c = some (none, e) ∧ ref_asked k c = some e) ∨ ∃ n mv q, QV n c mv q ∧ chg_begin k c = some (some q, 0) ∧ ref_asked k c = some 0 := by
  obtain ⟨b, hb⟩ := bool_of (∃ i, Rch c i i)
  by_cases h : chkS c b = 0
  · have hc := vc_of_chk hs hb h
    obtain ⟨mv, hF⟩ := hc.fix
    have ha := refAsked_eq hk hs hb (fun _ => hF)
    rw [if_neg (by simp [h])] at ha
    by_cases h4 : 4 < (tsC c mv).length
    · rw [if_pos h4] at ha
      exact .inl ⟨6, by decide, (begin_ok hk hc hF).1 h4, ha⟩
    · rw [if_neg h4] at ha
      obtain ⟨q, hbg, hq⟩ := (begin_ok hk hc hF).2 (by omega)
      exact .inr ⟨_, mv, q, hq, hbg, ha⟩
  · have ha := refAsked_eq hk hs hb (mv := []) (fun h' => absurd h' h)
    rw [if_pos h] at ha
    refine .inl ⟨_, h, ?_, ha⟩
    unfold chg_begin
    rw [chgCheck_eq hk hs hb, bs, if_pos h]

theorem few_len {c : dChange} {ts : List (Bool × Int)} : (fewS c ts).2.2.length ≤ ts.length := by
  rcases fewS_spec (c := c) (ts := ts) with ⟨_, h, _⟩ | ⟨_, h, _⟩
  · rw [h]; simp
  · have := (cpS_ok h).1; omega

/-- **The fewest bars.** -/
theorem fewest_said {k : Nat} (hk : 30000 ≤ k) {c : dChange} (hs : Short c) : ∃ r, chg_Fewest k c = some r ∧ ref_Fewest k c = some r ∧ r.1.length ≤ 20 := by
  have hk5 : 50 ≤ k := by omega
  rcases ask_cases hk5 hs with ⟨e, he, h1, h2⟩ | ⟨n, mv, q, hq, h1, h2⟩
  · refine ⟨([], 0, e), ?_, ?_, by simp⟩
    · unfold chg_Fewest
      rw [h1, bs, co_none, if_pos he]
    · unfold ref_Fewest
      rw [h2, bs, if_pos he]
  · have ht := hq.t4
    refine ⟨_, Fewest_eq hk5 hq h1, ?_, ?_⟩
    · unfold ref_Fewest
      rw [h2, bs, if_neg (by simp), rfew_eq hk hq.vc hq.fix ht, bs]
      cases (fewS c (tsC c mv)).1 <;> simp
    · have := few_len (c := c) (ts := tsC c mv)
      split
      · simp only; omega
      · simp
end Go.Proofs.YtfhdclhbdmhnmaaGreat

/- Plain law: ChangeFewests. -/
namespace Go.Proofs.YtfhdclhbdmhnmaaGreat
open K Go Go.Proofs

theorem dressed30000 : law_dressed 30000 = some true := by decide +kernel

/-- **The law.** -/
theorem fewests_law {k : Nat} (hk : 30000 ≤ k) (hd : law_dressed k = some true) (a0 : dChange) (a1 : List Int) : law_ChangeFewests k a0 a1 = some true := by
  have hk5 : 50 ≤ k := by omega
  obtain ⟨b, eb, hb⟩ := long_ok hk5 (c := a0)
  unfold law_ChangeFewests
  rw [eb, bs]
  cases b with
  | true => rw [if_pos rfl, hd, bs]
  | false =>
    have hs := hb rfl
    rw [if_neg (by decide)]
    obtain ⟨⟨cs, l⟩, e, _, h4, hx⟩ := sets_ok hk5 hs (l := (a1, 0, 1)) (m := 0) newLots_ok (by decide)
    rw [show kit_NewLots k a1 = some (a1, 0, 1) from rfl, bs, e, bs]
    simp only at h4 hx
    have key : law_ChangeFewests_l1 k (cs, l) k 0 = some (.ok ()) := for_all0 (N := 3) (by omega) (fun n j hj => by
      have hjl : j < cs.length := by omega
      have hS := hx _ (List.getElem_mem hjl)
      obtain ⟨r, g1, g2, l1⟩ := fewest_said hk hS
      have hck : ck ((j : Int) + 1) = some ((j : Int) + 1) := ck_ok (by omega) (by omega)
      have hlt : (j : Int) < 3 := by omega
      have hc4 : ((cs[j].1, cs[j].2.1, cs[j].2.2.1, cs[j].2.2.2) : dChange) = cs[j] := rfl
      simp only [law_ChangeFewests_l1, hlt, if_true, geti_W hjl, bs, copy_short hk5 hS, hc4, g1, g2, not_true_eq_false, if_false, sameSteps_self (show r.1.length < k by omega) (show r.1.length ≤ 1000000 by omega), sameChanges_self hk5 hS, Bool.not_true, Bool.false_eq_true, hck]) (fun n => by simp [law_ChangeFewests_l1])
    rw [key, bE_k, hd, bs]
end Go.Proofs.YtfhdclhbdmhnmaaGreat
