/- Plain law: the reference's plans: when steps begin, the bars, all plans, the fewest bars. -/
import Derived.Test.YtfhdclhbdmhnmaaGreatB6
import Derived.Test.YtfhdclhbdmhnmaaGreatB5
namespace Go.Proofs.YtfhdclhbdmhnmaaGreat
open K Go Go.Proofs

section
variable {k : Nat} {n : Int} {c : dChange} {mv : List Bool}

theorem bef_tsk {s s' : dStep} (h : StepOk c (tsC c mv) s) (h' : StepOk c (tsC c mv) s') : befB c (tsk (tsC c mv) s'.1) (tsk (tsC c mv) s.1) = true ↔ s'.1.toNat ∈ befL c (tsC c mv) s.1.toNat := by
  have l1 : s.1.toNat < (tsC c mv).length := by have := h.1; have := h.2.1; omega
  have l2 : s'.1.toNat < (tsC c mv).length := by have := h'.1; have := h'.2.1; omega
  rw [mem_befL]
  unfold bef
  rw [List.getElem?_eq_getElem l1, List.getElem?_eq_getElem l2]
  unfold tsk
  rw [List.getElem?_eq_getElem l1, List.getElem?_eq_getElem l2]
  exact Iff.rfl

/-- **When the steps of a plan begin.** -/
theorem rbegins_eq (hk : 50 ≤ k) (hc : VC n c) (hF : Fix c mv) (ht : (tsC c mv).length ≤ 4) {p : List dStep} (h0 : cpS c (tsC c mv) p = 0) : ref_begins k c p = some (bgo c (tsC c mv) E0 (F0 c) p) := by
  obtain ⟨hl, hgo⟩ := cpS_ok h0
  have hs : ∀ s ∈ p, StepOk c (tsC c mv) s := fun s h => ((cpGo_ok hgo).1 s h).1
  have hBl : (bgo c (tsC c mv) E0 (F0 c) p).length = p.length := bgo_len'
  have hbd : ∀ (i : Nat) (hi : i < p.length), 0 ≤ bAt c (tsC c mv) p i p[i] ∧ bAt c (tsC c mv) p i p[i] ≤ 25 := fun i hi => bAt_bnd hc hs (List.getElem?_eq_getElem hi) (by omega)
  have hbr : ∀ (i : Nat) (hi : i < p.length), 1 ≤ barsB c (tsk (tsC c mv) p[i].1) ∧ barsB c (tsk (tsC c mv) p[i].1) ≤ 4 := fun i hi => barsB_nonneg hc (hs _ (List.getElem_mem hi))
  have due : ∀ (o : List Int) (i : Nat) (hi : i < p.length) (x : dDresser), o = (bgo c (tsC c mv) E0 (F0 c) p).take i → x.2.2 = F0 c p[i].2.toNat →
      ref_begins_l2 k c p ((tsC c mv).map fun x => (x.2, x.1)) (o, (i : Int)) ((tsk (tsC c mv) p[i].1).2, (tsk (tsC c mv) p[i].1).1) k (x.2.2, 0) = some (bAt c (tsC c mv) p i p[i]) := fun o i hi x ho hx => by
    subst ho
    have key : W (ref_begins_l2 k c p ((tsC c mv).map fun x => (x.2, x.1)) ((bgo c (tsC c mv) E0 (F0 c) p).take i, (i : Int)) ((tsk (tsC c mv) p[i].1).2, (tsk (tsC c mv) p[i].1).1) k (x.2.2, 0)) fun r => ∀ x, r ≤ x ↔ bAt c (tsC c mv) p i p[i] ≤ x := by
      refine W.loop (f := ref_begins_l2 k c p ((tsC c mv).map fun x => (x.2, x.1)) ((bgo c (tsC c mv) E0 (F0 c) p).take i, (i : Int)) ((tsk (tsC c mv) p[i].1).2, (tsk (tsC c mv) p[i].1).1)) (fun m y => ∃ j : Nat, y.2 = (j : Int) ∧ j ≤ i ∧ m = i - j ∧ ∀ x, y.1 ≤ x ↔ F0 c p[i].2.toNat ≤ x ∧ ∀ t s', t < j → p[t]? = some s' → (s'.2.toNat = p[i].2.toNat ∨ s'.1.toNat ∈ befL c (tsC c mv) p[i].1.toNat) → eAt c (tsC c mv) p t s' ≤ x) ?_ i k (x.2.2, 0) (by omega)
        ⟨0, rfl, by omega, by omega, fun z => by simp only [hx]; simp⟩
      rintro fuel m ⟨r, y⟩ ⟨j, hj, hle, hm, hr⟩ ih
      simp only at hj hr
      subst hj
      have o1 : j < i → m - 1 < m ∧ m - 1 = i - (j + 1) ∧ j + 1 ≤ i := by clear hr ih; omega
      unfold ref_begins_l2
      dsimp only
      refine W.ite (fun hlt => ?_) (fun hge => W.ret fun x => by
        have hji : j = i := by clear hr ih; omega
        subst hji
        rw [hr, bAt_le hc h0 (List.getElem?_eq_getElem hi)]
        constructor
        · rintro ⟨a, b⟩
          exact ⟨a, fun t s' h1 h2 h3 => b t s' h1 h2 (.inl h3), fun t s' h1 h2 h3 => b t s' h1 h2 (.inr h3)⟩
        · rintro ⟨a, b, d⟩
          exact ⟨a, fun t s' h1 h2 h3 => h3.elim (b t s' h1 h2) (d t s' h1 h2)⟩)
      have hji : j < i := by clear hr ih; omega
      have hjl : j < p.length := by clear hr ih; omega
      have hS := hs _ (List.getElem_mem hjl)
      have hSi := hs _ (List.getElem_mem hi)
      have hgb : geti ((bgo c (tsC c mv) E0 (F0 c) p).take i) (j : Int) = some (bAt c (tsC c mv) p j p[j]) := geti_q (by clear hr ih; omega) (by
        rw [Int.toNat_natCast, List.getElem?_take, if_pos hji]
        exact bgo_b (List.getElem?_eq_getElem hjl))
      have hB := hbd j hjl
      have hR := hbr j hjl
      have hck : ck ((j : Int) + 1) = some ((j : Int) + 1) := ck_ok (by clear hr ih; omega) (by clear hr ih; omega)
      have hck2 : ck (bAt c (tsC c mv) p j p[j] + barsB c (tsk (tsC c mv) p[j].1)) = some (eAt c (tsC c mv) p j p[j]) := ck_ok (by clear hr ih; omega) (by clear hr ih; omega)
      have hneed : (if p[j].2 = p[i].2 then some true else some (befB c (tsk (tsC c mv) p[j].1) (tsk (tsC c mv) p[i].1))) = some (decide (p[j].2.toNat = p[i].2.toNat ∨ p[j].1.toNat ∈ befL c (tsC c mv) p[i].1.toNat)) := by
        have a1 : p[j].2 = p[i].2 ↔ p[j].2.toNat = p[i].2.toNat := by have := hS.2.2.1; have := hSi.2.2.1; clear hr ih; omega
        by_cases e : p[j].2 = p[i].2
        · rw [if_pos e, decide_eq_true (.inl (a1.1 e))]
        · rw [if_neg e]
          refine congrArg some ?_
          rw [Bool.eq_iff_iff, bef_tsk hSi hS, decide_eq_true_eq]
          exact ⟨.inr, fun h => h.resolve_left fun h => e (a1.2 h)⟩
      have hstep : ∀ x, (∀ t s', t < j + 1 → p[t]? = some s' → (s'.2.toNat = p[i].2.toNat ∨ s'.1.toNat ∈ befL c (tsC c mv) p[i].1.toNat) → eAt c (tsC c mv) p t s' ≤ x) ↔ (∀ t s', t < j → p[t]? = some s' → (s'.2.toNat = p[i].2.toNat ∨ s'.1.toNat ∈ befL c (tsC c mv) p[i].1.toNat) → eAt c (tsC c mv) p t s' ≤ x) ∧ ((p[j].2.toNat = p[i].2.toNat ∨ p[j].1.toNat ∈ befL c (tsC c mv) p[i].1.toNat) → eAt c (tsC c mv) p j p[j] ≤ x) := fun x => by
        constructor
        · intro h
          exact ⟨fun t s' h1 => h t s' (by clear hr ih; omega), h j _ (by clear hr ih; omega) (List.getElem?_eq_getElem hjl)⟩
        · rintro ⟨h1, h2⟩ t s' h3 h4 h5
          by_cases htj : t = j
          · subst htj
            rw [List.getElem?_eq_getElem hjl] at h4
            cases h4
            exact h2 h5
          · exact h1 t s' (by clear hr ih; omega) h4 h5
      simp only [hgb, bs, geti_W hjl, geti_W hi, tsk_sw hS, rtakes_eq (tsk_mem hS), hck2, refBefore_eq hk hc (tsk_mem hS) (tsk_mem hSi), hneed]
      by_cases hnd : p[j].2.toNat = p[i].2.toNat ∨ p[j].1.toNat ∈ befL c (tsC c mv) p[i].1.toNat
      · rw [decide_eq_true hnd, if_pos rfl, bs, hck, bs]
        refine ih (m - 1) (_, (j : Int) + 1) (o1 hji).1 ⟨j + 1, rfl, (o1 hji).2.2, (o1 hji).2.1, fun x => ?_⟩
        simp only
        rw [imax_le, hr, hstep, and_assoc]
        constructor
        · rintro ⟨a, b, d⟩; exact ⟨a, b, fun _ => d⟩
        · rintro ⟨a, b, d⟩; exact ⟨a, b, d hnd⟩
      · rw [decide_eq_false hnd, if_neg (by simp), bs, hck, bs]
        refine ih (m - 1) (_, (j : Int) + 1) (o1 hji).1 ⟨j + 1, rfl, (o1 hji).2.2, (o1 hji).2.1, fun x => ?_⟩
        simp only
        rw [hr, hstep]
        constructor
        · rintro ⟨a, b⟩; exact ⟨a, b, fun h => absurd h hnd⟩
        · rintro ⟨a, b, _⟩; exact ⟨a, b⟩
    obtain ⟨r, e, hr⟩ := key
    have : r = bAt c (tsC c mv) p i p[i] := by
      have a := (hr r).1 (Int.le_refl _)
      have b := (hr (bAt c (tsC c mv) p i p[i])).2 (Int.le_refl _)
      omega
    rw [e, this]
  unfold ref_begins
  rw [refTasks_eq hk hc hF, bs]
  have key : W (ref_begins_l1 k c p ((tsC c mv).map fun x => (x.2, x.1)) k ([], 0)) fun r => r = bgo c (tsC c mv) E0 (F0 c) p := by
    refine W.loop (f := ref_begins_l1 k c p ((tsC c mv).map fun x => (x.2, x.1))) (fun m y => ∃ i : Nat, y.2 = (i : Int) ∧ i ≤ p.length ∧ m = p.length - i ∧ y.1 = (bgo c (tsC c mv) E0 (F0 c) p).take i) ?_ p.length k ([], 0) (by omega) ⟨0, rfl, by omega, by omega, by simp⟩
    rintro fuel m ⟨o, y⟩ ⟨i, hi, hle, hm, ho⟩ ih
    simp only at hi ho
    subst hi ho
    unfold ref_begins_l1
    dsimp only
    refine W.ite (fun hlt => ?_) (fun hge => W.ret (by
      have : i = p.length := by omega
      subst this
      rw [← hBl, List.take_length]))
    have hlt' : i < p.length := by omega
    have hS := hs _ (List.getElem_mem hlt')
    have hF' : (drs c p[i].2).2.2 = F0 c p[i].2.toNat := by unfold F0; rw [show ((p[i].2.toNat : Nat) : Int) = p[i].2 by have := hS.2.2.1; omega]
    rw [geti_W hlt', bs, tsk_sw hS, bs, bs, geti_drs hS.2.2.1 hS.2.2.2, bs, due _ i hlt' _ rfl hF', bs, chk_ok (okLen_of (by simp only [List.length_take, List.length_cons, List.length_nil]; omega)), bs, bs, ck_ok (by omega) (by omega), bs]
    refine ih (m - 1) (_, (i : Int) + 1) (by omega) ⟨i + 1, rfl, by omega, by omega, ?_⟩
    simp only
    rw [List.take_add_one, bgo_b (List.getElem?_eq_getElem hlt')]
    rfl
  obtain ⟨r, e, rfl⟩ := key
  rw [e, bs]

end
end Go.Proofs.YtfhdclhbdmhnmaaGreat

/- Plain law: the reference's list of all plans; the fewest bars. -/
namespace Go.Proofs.YtfhdclhbdmhnmaaGreat
open K Go Go.Proofs

section
variable {k : Nat} {n : Int} {c : dChange} {mv : List Bool}

end
end Go.Proofs.YtfhdclhbdmhnmaaGreat

/- Plain law: copies. -/
namespace Go.Proofs.YtfhdclhbdmhnmaaGreat
open K Go Go.Proofs

theorem copyInts_ok {k : Nat} {l : List Int} (h : l.length ≤ 1000) : kit_CopyInts k l = some l := by
  unfold kit_CopyInts
  rw [chkP, if_pos (okLen_of (by simpa using h))]
  rfl

theorem copyChange_ok {k : Nat} (hk : 50 ≤ k) {c : dChange} (h1 : c.1.length ≤ 20) (h2 : c.2.1.length ≤ 20) (h3 : ∀ t ∈ c.1, t.1.length ≤ 20) (h4 : ∀ d ∈ c.2.1, d.1.length ≤ 20) (h5 : c.2.2.1.length ≤ 20) (h6 : c.2.2.2.length ≤ 20) : kit_CopyChange k c = some c := by
  have k1 : W (kit_CopyChange_l1 k c k ([], 0)) fun r => r = c.1 := by
    refine W.loop (f := kit_CopyChange_l1 k c) (fun m y => ∃ j : Nat, y.2 = (j : Int) ∧ j ≤ c.1.length ∧ m = c.1.length - j ∧ y.1 = c.1.take j) ?_ c.1.length k _ (by omega) ⟨0, rfl, by omega, by omega, by simp⟩
    rintro fuel m ⟨o, y⟩ ⟨j, hj, hle, hq, ho⟩ ih
    simp only at hj ho
    subst hj ho
    unfold kit_CopyChange_l1
    dsimp only
    refine W.ite (fun hlt => ?_) (fun hge => W.ret (by have : j = c.1.length := by omega
                                                       subst this; rw [List.take_length]))
    have hlt' : j < c.1.length := by omega
    refine W.bindE (geti_W hlt') (W.bindE (copyInts_ok (by have := h3 _ (List.getElem_mem hlt'); omega)) (W.chk (okLen_of (by simp only [List.length_take, List.length_cons, List.length_nil]; omega)) (W.ck (by omega) (by omega) (ih (m - 1) (_, (j : Int) + 1) (by omega) ⟨j + 1, ?_, by omega, by omega, ?_⟩))))
    · show (j : Int) + 1 = ((j + 1 : Nat) : Int)
      omega
    · show c.1.take j ++ [_] = _
      rw [List.take_add_one, List.getElem?_eq_getElem hlt']
      rfl
  have k2 : W (kit_CopyChange_l2 k c k ([], 0)) fun r => r = c.2.1 := by
    refine W.loop (f := kit_CopyChange_l2 k c) (fun m y => ∃ j : Nat, y.2 = (j : Int) ∧ j ≤ c.2.1.length ∧ m = c.2.1.length - j ∧ y.1 = c.2.1.take j) ?_ c.2.1.length k _ (by omega) ⟨0, rfl, by omega, by omega, by simp⟩
    rintro fuel m ⟨o, y⟩ ⟨j, hj, hle, hq, ho⟩ ih
    simp only at hj ho
    subst hj ho
    unfold kit_CopyChange_l2
    dsimp only
    refine W.ite (fun hlt => ?_) (fun hge => W.ret (by have : j = c.2.1.length := by omega
                                                       subst this; rw [List.take_length]))
    have hlt' : j < c.2.1.length := by omega
    refine W.bindE (geti_W hlt') (W.bindE (copyInts_ok (by have := h4 _ (List.getElem_mem hlt'); omega)) (W.chk (okLen_of (by simp only [List.length_take, List.length_cons, List.length_nil]; omega)) (W.ck (by omega) (by omega) (ih (m - 1) (_, (j : Int) + 1) (by omega) ⟨j + 1, ?_, by omega, by omega, ?_⟩))))
    · show (j : Int) + 1 = ((j + 1 : Nat) : Int)
      omega
    · show c.2.1.take j ++ [_] = _
      rw [List.take_add_one, List.getElem?_eq_getElem hlt']
      rfl
  obtain ⟨x1, e1, rfl⟩ := k1
  obtain ⟨x2, e2, rfl⟩ := k2
  unfold kit_CopyChange
  rw [copyInts_ok (by omega), copyInts_ok (by omega), e1, e2]
  rfl

end Go.Proofs.YtfhdclhbdmhnmaaGreat

/- Plain law: copies, as they are made where the order is open. -/
namespace Go.Proofs.YtfhdclhbdmhnmaaGreat
open K Go Go.Proofs

theorem copyChangeF_ok {k : Nat} (hk : 50 ≤ k) {c : dChange} (h1 : c.1.length ≤ 20) (h2 : c.2.1.length ≤ 20) (h3 : ∀ t ∈ c.1, t.1.length ≤ 20) (h4 : ∀ d ∈ c.2.1, d.1.length ≤ 20) (h5 : c.2.2.1.length ≤ 20) (h6 : c.2.2.2.length ≤ 20) : kit_CopyChangeF k c = some c := by
  have k1 : W (kit_CopyChangeF_l1 k c k ([], 0)) fun r => r = c.1 := by
    refine W.loop (f := kit_CopyChangeF_l1 k c) (fun m y => ∃ j : Nat, y.2 = (j : Int) ∧ j ≤ c.1.length ∧ m = c.1.length - j ∧ y.1 = c.1.take j) ?_ c.1.length k _ (by omega) ⟨0, rfl, by omega, by omega, by simp⟩
    rintro fuel m ⟨o, y⟩ ⟨j, hj, hle, hq, ho⟩ ih
    simp only at hj ho
    subst hj ho
    unfold kit_CopyChangeF_l1
    dsimp only
    refine W.ite (fun hlt => ?_) (fun hge => W.ret (by have : j = c.1.length := by omega
                                                       subst this; rw [List.take_length]))
    have hlt' : j < c.1.length := by omega
    refine W.bindE (geti_W hlt') (W.bindE (copyInts_ok (by have := h3 _ (List.getElem_mem hlt'); omega)) (W.chk (okLen_of (by simp only [List.length_take, List.length_cons, List.length_nil]; omega)) (W.ck (by omega) (by omega) (ih (m - 1) (_, (j : Int) + 1) (by omega) ⟨j + 1, ?_, by omega, by omega, ?_⟩))))
    · show (j : Int) + 1 = ((j + 1 : Nat) : Int)
      omega
    · show c.1.take j ++ [_] = _
      rw [List.take_add_one, List.getElem?_eq_getElem hlt']
      rfl
  have k2 : W (kit_CopyChangeF_l2 k c k ([], 0)) fun r => r = c.2.1 := by
    refine W.loop (f := kit_CopyChangeF_l2 k c) (fun m y => ∃ j : Nat, y.2 = (j : Int) ∧ j ≤ c.2.1.length ∧ m = c.2.1.length - j ∧ y.1 = c.2.1.take j) ?_ c.2.1.length k _ (by omega) ⟨0, rfl, by omega, by omega, by simp⟩
    rintro fuel m ⟨o, y⟩ ⟨j, hj, hle, hq, ho⟩ ih
    simp only at hj ho
    subst hj ho
    unfold kit_CopyChangeF_l2
    dsimp only
    refine W.ite (fun hlt => ?_) (fun hge => W.ret (by have : j = c.2.1.length := by omega
                                                       subst this; rw [List.take_length]))
    have hlt' : j < c.2.1.length := by omega
    refine W.bindE (geti_W hlt') (W.bindE (copyInts_ok (by have := h4 _ (List.getElem_mem hlt'); omega)) (W.chk (okLen_of (by simp only [List.length_take, List.length_cons, List.length_nil]; omega)) (W.ck (by omega) (by omega) (ih (m - 1) (_, (j : Int) + 1) (by omega) ⟨j + 1, ?_, by omega, by omega, ?_⟩))))
    · show (j : Int) + 1 = ((j + 1 : Nat) : Int)
      omega
    · show c.2.1.take j ++ [_] = _
      rw [List.take_add_one, List.getElem?_eq_getElem hlt']
      rfl
  obtain ⟨x1, e1, rfl⟩ := k1
  obtain ⟨x2, e2, rfl⟩ := k2
  unfold kit_CopyChangeF
  rw [copyInts_ok (by omega), copyInts_ok (by omega), e1, e2]
  rfl

end Go.Proofs.YtfhdclhbdmhnmaaGreat

/- Plain law: the changes of a law that compares with the reference. -/
namespace Go.Proofs.YtfhdclhbdmhnmaaGreat
open K Go Go.Proofs

/-- A loop that only looks, from the start. -/
theorem for_all0 {ε : Type} {f : Nat → Int → Option (Except ε Unit)} {N k : Nat} (hk : N < k) (step : ∀ n (j : Nat), j < N → f (n + 1) (j : Int) = f n ((j : Int) + 1)) (stop : ∀ n, f (n + 1) (N : Int) = some (.ok ())) : f k 0 = some (.ok ()) := by
  have key : ∀ (m j n : Nat), N - j = m → j ≤ N → m < n → f n (j : Int) = some (.ok ()) := by
    intro m
    induction m with
    | zero =>
      intro j n h1 h2 h3
      obtain ⟨n, rfl⟩ : ∃ n', n = n' + 1 := ⟨n - 1, by omega⟩
      have : j = N := by omega
      subst this
      exact stop n
    | succ m ih =>
      intro j n h1 h2 h3
      obtain ⟨n, rfl⟩ : ∃ n', n = n' + 1 := ⟨n - 1, by omega⟩
      rw [step n j (by omega)]
      exact ih (j + 1) n (by omega) (by omega) (by omega)
  exact key N 0 k rfl (Nat.zero_le _) hk

theorem sameChanges_self {k : Nat} (hk : 50 ≤ k) {c : dChange} (hs : Short c) : kit_SameChanges k c c = some true := by
  have h1 := hs.things
  have h2 := hs.dressers
  have h3 := hs.wears
  have h4 := hs.wants
  have k1 : kit_SameChanges_l1 k c c k 0 = some (.ok ()) := for_all0 (N := c.1.length) (by omega) (fun n j hj => by
    have := hs.over _ (List.getElem_mem hj)
    have hck : ck ((j : Int) + 1) = some ((j : Int) + 1) := ck_ok (by omega) (by omega)
    simp only [kit_SameChanges_l1, Int.ofNat_lt, hj, if_true, geti_W hj, bs, sameInts_self (show (c.1[j]).1.length < k by omega) (show (c.1[j]).1.length ≤ 1000000 by omega), not_true_eq_false, if_false, hck, decide_true, Bool.not_true, Bool.false_eq_true]) (fun n => by simp [kit_SameChanges_l1])
  have k2 : kit_SameChanges_l2 k c c k 0 = some (.ok ()) := for_all0 (N := c.2.1.length) (by omega) (fun n j hj => by
    have := hs.can _ (List.getElem_mem hj)
    have hck : ck ((j : Int) + 1) = some ((j : Int) + 1) := ck_ok (by omega) (by omega)
    simp only [kit_SameChanges_l2, Int.ofNat_lt, hj, if_true, geti_W hj, bs, sameInts_self (show (c.2.1[j]).1.length < k by omega) (show (c.2.1[j]).1.length ≤ 1000000 by omega), not_true_eq_false, if_false, hck, decide_true, Bool.not_true, Bool.false_eq_true]) (fun n => by simp [kit_SameChanges_l2])
  unfold kit_SameChanges
  simp only [sameInts_self (show c.2.2.1.length < k by omega) (show c.2.2.1.length ≤ 1000000 by omega), sameInts_self (show c.2.2.2.length < k by omega) (show c.2.2.2.length ≤ 1000000 by omega), bs, not_true_eq_false, if_false, decide_true, Bool.not_true, Bool.false_eq_true, k1, k2, bE_k]

theorem copy_short {k : Nat} (hk : 50 ≤ k) {c : dChange} (hs : Short c) : kit_CopyChange k c = some c := copyChange_ok hk hs.things hs.dressers hs.over hs.can hs.wears hs.wants
theorem copyF_short {k : Nat} (hk : 50 ≤ k) {c : dChange} (hs : Short c) : kit_CopyChangeF k c = some c := copyChangeF_ok hk hs.things hs.dressers hs.over hs.can hs.wears hs.wants
theorem short_of_vc {n : Int} {c : dChange} (hc : VC n c) : Short c := by
  obtain ⟨w1, w2, w3, w4, w5⟩ := hc.wl
  have := hc.dl
  exact ⟨by omega, by omega, by omega, by omega, fun t h => by have := w4 t h; omega, fun d h => by have := w5 d h; omega⟩

/-- A loop over a list that leaves at the first that is too long. -/
theorem long_loop {α : Type} {l : List α} {g : α → Nat} {f : Nat → Int → Option (Except Bool Unit)} {k : Nat} (hk : l.length < k) (step : ∀ n (j : Nat) (h : j < l.length), f (n + 1) (j : Int) = if 20 < g l[j] then some (.error true) else f n ((j : Int) + 1)) (stop : ∀ n, f (n + 1) (l.length : Int) = some (.ok ())) :
    W (f k 0) fun r => r = .error true ∨ (r = .ok () ∧ ∀ x ∈ l, g x ≤ 20) := by
  have key : ∀ (m j n : Nat), l.length - j = m → j ≤ l.length → m < n → W (f n (j : Int)) fun r => r = .error true ∨ (r = .ok () ∧ ∀ x ∈ l.drop j, g x ≤ 20) := by
    intro m
    induction m with
    | zero =>
      intro j n h1 h2 h3
      obtain ⟨n, rfl⟩ : ∃ n', n = n' + 1 := ⟨n - 1, by omega⟩
      have : j = l.length := by omega
      subst this
      exact ⟨_, stop n, .inr ⟨rfl, by simp⟩⟩
    | succ m ih =>
      intro j n h1 h2 h3
      obtain ⟨n, rfl⟩ : ∃ n', n = n' + 1 := ⟨n - 1, by omega⟩
      have hj : j < l.length := by omega
      rw [step n j hj]
      by_cases hg : 20 < g l[j]
      · rw [if_pos hg]; exact ⟨_, rfl, .inl rfl⟩
      · rw [if_neg hg]
        obtain ⟨r, e, h⟩ := ih (j + 1) n (by omega) (by omega) (by omega)
        refine ⟨r, e, h.imp id fun ⟨h1, h2⟩ => ⟨h1, fun x hx => ?_⟩⟩
        rw [List.drop_eq_getElem_cons hj, List.mem_cons] at hx
        rcases hx with rfl | hx
        · omega
        · exact h2 x hx
  exact key l.length 0 k rfl (Nat.zero_le _) hk

theorem long_ok {k : Nat} (hk : 50 ≤ k) {c : dChange} : W (law_long k c) fun r => r = false → Short c := by
  unfold law_long
  by_cases h1 : (20 : Int) < (c.1.length : Int)
  · rw [if_pos h1, bs, if_pos rfl]; exact ⟨_, rfl, fun h => (nomatch h)⟩
  by_cases h2 : (20 : Int) < (c.2.1.length : Int)
  · rw [if_neg h1, if_pos h2, bs, if_pos rfl]; exact ⟨_, rfl, fun h => (nomatch h)⟩
  by_cases h3 : (20 : Int) < (c.2.2.1.length : Int)
  · rw [if_neg h1, if_neg h2, if_pos h3, bs, if_pos rfl]; exact ⟨_, rfl, fun h => (nomatch h)⟩
  by_cases h4 : (20 : Int) < (c.2.2.2.length : Int)
  · rw [if_neg h1, if_neg h2, if_neg h3, bs, if_pos (decide_eq_true h4)]; exact ⟨_, rfl, fun h => (nomatch h)⟩
  rw [if_neg h1, if_neg h2, if_neg h3, bs, if_neg (by simpa using h4)]
  obtain ⟨r1, e1, g1⟩ := long_loop (l := c.1) (g := fun t => t.1.length) (f := law_long_l1 k c) (k := k) (by omega) (fun n j h => by
    have hck : ck ((j : Int) + 1) = some ((j : Int) + 1) := ck_ok (by omega) (by omega)
    simp only [law_long_l1, Int.ofNat_lt, h, if_true, geti_W h, bs, hck]
    by_cases hx : 20 < (c.1[j]).1.length
    · rw [if_pos (by omega), if_pos hx]
    · rw [if_neg (by omega), if_neg hx]) (fun n => by simp [law_long_l1])
  obtain ⟨r2, e2, g2⟩ := long_loop (l := c.2.1) (g := fun t => t.1.length) (f := law_long_l2 k c) (k := k) (by omega) (fun n j h => by
    have hck : ck ((j : Int) + 1) = some ((j : Int) + 1) := ck_ok (by omega) (by omega)
    simp only [law_long_l2, Int.ofNat_lt, h, if_true, geti_W h, bs, hck]
    by_cases hx : 20 < (c.2.1[j]).1.length
    · rw [if_pos (by omega), if_pos hx]
    · rw [if_neg (by omega), if_neg hx]) (fun n => by simp [law_long_l2])
  rw [e1, e2]
  rcases g1 with rfl | ⟨rfl, g1⟩
  · rw [bE_e]; exact ⟨_, rfl, fun h => (nomatch h)⟩
  rcases g2 with rfl | ⟨rfl, g2⟩
  · rw [bE_k, bE_e]; exact ⟨_, rfl, fun h => (nomatch h)⟩
  rw [bE_k, bE_k]
  exact ⟨_, rfl, fun _ => ⟨by omega, by omega, by omega, by omega, g1, g2⟩⟩

/-- **The changes of a law.** -/
theorem sets_ok2 {k : Nat} (hk : 50 ≤ k) {c : dChange} (hs : Short c) {l : dLots} {m : Int} (hl : Lo l m) (hm : 0 ≤ m ∧ m ≤ 1000) : W (law_sets k c l) fun r => Lo r.2 (m + 310) ∧ r.1.length = 4 ∧ (∀ x ∈ r.1, Short x) ∧ r.1[0]? = some c ∧ ∃ c1, r.1[1]? = some c1 ∧ ∃ n mv q, VC n c1 ∧ chg_begin k c1 = some (some q, 0) ∧ QV n c1 mv q := by
  obtain ⟨r2, e2, hlo, _, n, mv, q, hc, hbg, hq⟩ := lots_ok hk hl hm
  have hs2 := short_of_vc hc
  have hn := hc.n4
  have hl2 := hc.len
  have hd2 := hc.dl
  obtain ⟨r9, e9, _, _, h9⟩ := upto_ok (k := k) (n := 2) hlo (by omega) (by decide)
  unfold law_sets
  rw [e2, bs, copy_short hk hs2, bs]
  have fin : ∀ (x : (List dThing) × (List dDresser) × (List Int) × (List Int) × Int × Int), Lo (x.2.2.2.1, x.2.2.2.2.1, x.2.2.2.2.2) (m + 310) → Short (x.1, x.2.1, r2.1.2.2.1, x.2.2.1) →
      W ((some x).bind fun x7 => some ([c, r2.1, (x7.1, x7.2.1, r2.1.2.2.1, x7.2.2.1), r2.1], (x7.2.2.2.1, x7.2.2.2.2.1, x7.2.2.2.2.2))) fun r => Lo r.2 (m + 310) ∧ r.1.length = 4 ∧ (∀ x ∈ r.1, Short x) ∧ r.1[0]? = some c ∧ ∃ c1, r.1[1]? = some c1 ∧ ∃ n mv q, VC n c1 ∧ chg_begin k c1 = some (some q, 0) ∧ QV n c1 mv q := fun x h1 h2 => by
    refine W.ret ⟨h1, rfl, fun y hy => ?_, rfl, _, rfl, n, mv, q, hc, hbg, hq⟩
    simp only [List.mem_cons, List.not_mem_nil, or_false] at hy
    rcases hy with rfl | rfl | rfl | rfl
    · exact hs
    · exact hs2
    · exact h2
    · exact hs2
  rw [show kit_Lots_Upto k (r2.2.1, r2.2.2.1, r2.2.2.2) 2 = some r9 from e9, bs]
  by_cases c0 : r9.1 = 0
  · rw [if_pos c0, copyInts_ok (by have := hs.wants; omega), bs]
    exact fin _ (h9.mono (by omega)) ⟨hs2.things, hs2.dressers, hs2.wears, hs.wants, hs2.over, hs2.can⟩
  rw [if_neg c0]
  by_cases c1 : r9.1 = 1
  · rw [if_pos c1]
    by_cases hp : (0 : Int) < (c.1.length : Int)
    · rw [if_pos hp, ck_ok (by omega) (by omega), bs]
      obtain ⟨r14, e14, a14, b14, h14⟩ := upto_ok (k := k) (n := (r2.1.1.length : Int) - 1) h9 (by omega) (by omega)
      rw [show kit_Lots_Upto k (r9.2.1, r9.2.2.1, r9.2.2.2) _ = some r14 from e14, bs, copyF_short hk hs, bs]
      have b14 := b14 (by omega)
      have hg0 : 0 < c.1.length := by omega
      rw [show geti c.1 0 = some c.1[0] from geti_W (i := 0) hg0, bs, geti_at a14 (by omega), bs]
      refine fin _ (h14.mono (by omega)) ⟨by simpa using hs2.things, hs2.dressers, hs2.wears, hs2.wants, fun t ht => ?_, hs2.can⟩
      rcases List.mem_or_eq_of_mem_set ht with h | rfl
      · exact hs2.over t h
      · exact hs.over _ (List.getElem_mem hg0)
    · rw [if_neg hp]
      exact fin _ (h9.mono (by omega)) hs2
  rw [if_neg c1]
  by_cases c2 : r9.1 = 2
  · rw [if_pos c2]
    by_cases hp : (0 : Int) < (c.2.1.length : Int)
    · rw [if_pos hp, ck_ok (by omega) (by omega), bs]
      obtain ⟨r14, e14, a14, b14, h14⟩ := upto_ok (k := k) (n := (r2.1.2.1.length : Int) - 1) h9 (by omega) (by omega)
      rw [show kit_Lots_Upto k (r9.2.1, r9.2.2.1, r9.2.2.2) _ = some r14 from e14, bs, copyF_short hk hs, bs]
      have b14 := b14 (by omega)
      have hg0 : 0 < c.2.1.length := by omega
      rw [show geti c.2.1 0 = some c.2.1[0] from geti_W (i := 0) hg0, bs, geti_at a14 (by omega), bs]
      refine fin _ (h14.mono (by omega)) ⟨hs2.things, by simpa using hs2.dressers, hs2.wears, hs2.wants, hs2.over, fun t ht => ?_⟩
      rcases List.mem_or_eq_of_mem_set ht with h | rfl
      · exact hs2.can t h
      · exact hs.can _ (List.getElem_mem hg0)
    · rw [if_neg hp]
      exact fin _ (h9.mono (by omega)) hs2
  · rw [if_neg c2]
    exact fin _ (h9.mono (by omega)) hs2

theorem bool_of (p : Prop) : ∃ b : Bool, b = true ↔ p := by
  by_cases h : p
  · exact ⟨true, by simp [h]⟩
  · exact ⟨false, by simp [h]⟩

end Go.Proofs.YtfhdclhbdmhnmaaGreat

/- Plain law: what the program and the reference say of any short change and plan. -/
namespace Go.Proofs.YtfhdclhbdmhnmaaGreat
open K Go Go.Proofs

/-- A short change is wrong for both, in one way, or good for both. -/
theorem ask_cases {k : Nat} (hk : 50 ≤ k) {c : dChange} (hs : Short c) : (∃ e : Int, e ≠ 0 ∧ chg_begin k c = some (none, e) ∧ ref_asked k c = some e) ∨ ∃ n mv q, QV n c mv q ∧ chg_begin k c = some (some q, 0) ∧ ref_asked k c = some 0 := by
  obtain ⟨b, hb⟩ := bool_of (∃ i, Rch c i i)
  by_cases h : chkS c b = 0
  · have hc := vc_of_chk hs hb h
    obtain ⟨mv, hF⟩ := hc.fix
    have ha := refAsked_eq hk hs hb (fun _ => hF)
    rw [if_neg (by simp [h])] at ha
    by_cases h4 : 4 < (tsC c mv).length
    · rw [if_pos h4] at ha
      exact .inl ⟨6, by decide, (begin_ok hk hc hF).1 h4, ha⟩
    · rw [if_neg h4] at ha
      obtain ⟨q, hbg, hq⟩ := (begin_ok hk hc hF).2 (by omega)
      exact .inr ⟨_, mv, q, hq, hbg, ha⟩
  · have ha := refAsked_eq hk hs hb (mv := []) (fun h' => absurd h' h)
    rw [if_pos h] at ha
    refine .inl ⟨_, h, ?_, ha⟩
    unfold chg_begin
    rw [chgCheck_eq hk hs hb, bs, if_pos h]

end Go.Proofs.YtfhdclhbdmhnmaaGreat

/- Plain law: the plan that is made of the lots. -/
namespace Go.Proofs.YtfhdclhbdmhnmaaGreat
open K Go Go.Proofs

theorem mixed_ok {k : Nat} (hk : 50 ≤ k) {l : dLots} {m : Int} {n : Nat} (hl : Lo l m) (hm : 0 ≤ m ∧ m ≤ 1000) (hn : n ≤ 8) : W (kit_Lots_Mixed k l (n : Int)) fun r => Lo r.2 (m + 10) ∧ r.1.length = n ∧ ∀ x ∈ r.1, 0 ≤ x ∧ x < (n : Int) := by
  unfold kit_Lots_Mixed
  refine W.bind (R := fun r => Lo (r.2.1, r.2.2.1, r.2.2.2) (m + 10) ∧ r.1.length = n ∧ ∀ x ∈ r.1, 0 ≤ x ∧ x < (n : Int)) ?_ fun r h => W.ret h
  refine W.loop (f := kit_Lots_Mixed_l1 k (n : Int)) (fun q y => ∃ j : Nat, y.2.2.2.2 = (j : Int) ∧ j ≤ n ∧ q = n - j ∧ Lo (y.1, y.2.1, y.2.2.1) (m + j) ∧ y.2.2.2.1.length = j ∧ ∀ x ∈ y.2.2.2.1, 0 ≤ x ∧ x < (n : Int)) ?_ n k _ (by omega)
    ⟨0, rfl, by omega, by omega, by simpa using hl, rfl, by simp⟩
  rintro fuel q ⟨nums, d, s, o, y⟩ ⟨j, hj, hle, hq, hlo, hlen, hx⟩ ih
  simp only at hj hlo hlen hx
  subst hj
  unfold kit_Lots_Mixed_l1
  dsimp only
  refine W.ite (fun hlt => ?_) (fun hge => W.ret ⟨hlo.mono (by omega), by show o.length = n; omega, hx⟩)
  obtain ⟨r5, e5, a5, b5, c5⟩ := upto_ok (k := k) (n := (j : Int)) hlo (by omega) (by omega)
  have b5 := b5 (by omega)
  have ho : (o ++ [(j : Int)]).length = j + 1 := by simp [hlen]
  have hr5 : r5.1.toNat < (o ++ [(j : Int)]).length := by omega
  have hmem : ∀ x ∈ o ++ [(j : Int)], 0 ≤ x ∧ x < (n : Int) := fun x hx' => by
    rcases List.mem_append.1 hx' with h | h
    · exact hx x h
    · simp only [List.mem_singleton] at h; omega
  rw [e5, bs, chk_ok (okLen_of (by simp only [List.length_cons, List.length_nil]; omega)), bs, geti_at a5 hr5, bs, geti_W (by omega), bs]
  have hgs : geti (List.set (o ++ [(j : Int)]) (Int.toNat (j : Int)) (o ++ [(j : Int)])[r5.1.toNat]) r5.1 = some ((List.set (o ++ [(j : Int)]) (Int.toNat (j : Int)) (o ++ [(j : Int)])[r5.1.toNat])[r5.1.toNat]'(by rw [List.length_set]; exact hr5)) := geti_at a5 (by rw [List.length_set]; exact hr5)
  rw [hgs, bs, ck_ok (by omega) (by omega), bs]
  refine ih (q - 1) (_, _, _, _, (j : Int) + 1) (by omega) ⟨j + 1, by show (j : Int) + 1 = ((j + 1 : Nat) : Int); omega, by omega, by omega, c5.mono (by omega), by simp [hlen], fun x hx' => ?_⟩
  rcases List.mem_or_eq_of_mem_set hx' with h | h
  · rcases List.mem_or_eq_of_mem_set h with h | h
    · exact hmem x h
    · subst h; exact hmem _ (List.getElem_mem hr5)
  · subst h; omega

theorem met_ok {k : Nat} (hk : 50 ≤ k) {y6 : (List Int) × Int × Int × (List dStep)} {y21 : Bool × Int} (hl : y6.2.2.2.length ≤ 8) : W (kit_PlanOf_l4 k y6 y21 k (false, 0)) fun b => (b = true ↔ ∃ s ∈ y6.2.2.2, s.1 = y21.2) := by
  refine W.loop (f := kit_PlanOf_l4 k y6 y21) (fun m y => ∃ j : Nat, y.2 = (j : Int) ∧ j ≤ y6.2.2.2.length ∧ m = y6.2.2.2.length - j ∧ (y.1 = true ↔ ∃ s ∈ y6.2.2.2.take j, s.1 = y21.2)) ?_ y6.2.2.2.length k (false, 0) (by omega) ⟨0, rfl, by omega, by omega, by simp⟩
  rintro fuel m ⟨b, y⟩ ⟨j, hj, hle, hm, hb⟩ ih
  simp only at hj hb
  subst hj
  have o1 : j < y6.2.2.2.length → m - 1 < m ∧ m - 1 = y6.2.2.2.length - (j + 1) ∧ j + 1 ≤ y6.2.2.2.length := by clear hb ih; omega
  unfold kit_PlanOf_l4
  dsimp only
  refine W.ite (fun hlt => ?_) (fun hge => W.ret (by
    have : j = y6.2.2.2.length := by clear hb ih; omega
    subst this
    rw [List.take_length] at hb
    exact hb))
  have hlt' : j < y6.2.2.2.length := by clear hb ih; omega
  have hnew : (∃ s ∈ y6.2.2.2.take (j + 1), s.1 = y21.2) ↔ b = true ∨ y6.2.2.2[j].1 = y21.2 := by
    rw [hb, List.take_add_one, List.getElem?_eq_getElem hlt']
    simp only [Option.toList_some, List.mem_append, List.mem_singleton]
    constructor
    · rintro ⟨s, h | rfl, h'⟩
      · exact .inl ⟨s, h, h'⟩
      · exact .inr h'
    · rintro (⟨s, h, h'⟩ | h)
      · exact ⟨s, .inl h, h'⟩
      · exact ⟨_, .inr rfl, h⟩
  have next : ∀ bb : Bool, (bb = true ↔ b = true ∨ y6.2.2.2[j].1 = y21.2) → W ((some bb : Option Bool).bind fun x31 => (ck ((j : Int) + (1 : Int))).bind fun x34 => kit_PlanOf_l4 k y6 y21 fuel (x31, x34)) fun b => (b = true ↔ ∃ s ∈ y6.2.2.2, s.1 = y21.2) := fun bb hbb => by
    rw [bs, ck_ok (by clear hb ih hnew; omega) (by clear hb ih hnew; omega), bs]
    exact ih (m - 1) (bb, (j : Int) + 1) (o1 hlt').1 ⟨j + 1, rfl, (o1 hlt').2.2, (o1 hlt').2.1, by simp only; rw [hbb, hnew]⟩
  by_cases h1 : b = true
  · rw [if_pos h1]; exact next true ⟨fun _ => .inl h1, fun _ => rfl⟩
  · rw [if_neg h1, geti_W hlt', bs]; exact next _ (by rw [decide_eq_true_eq]; exact ⟨fun h => .inr h, fun h => h.elim (absurd · h1) id⟩)

/-- What comes first is looked at: it comes to an answer; a task that is met is not free. -/
theorem free_ok {k : Nat} (hk : 50 ≤ k) {n : Int} {c : dChange} {mv : List Bool} (hc : VC n c) (ht : (tsC c mv).length ≤ 4) {r3 : (List Int) × dLots} {y6 : (List Int) × Int × Int × (List dStep)} {y12 : Int × Int} {x17 : dTask} {o : Nat}
    (hl : y6.2.2.2.length ≤ 8) (h0 : 0 ≤ y12.2) (ho : r3.1[y12.2.toNat]? = some (o : Int)) (hol : o < (tsC c mv).length) (hx : x17 ∈ (tsC c mv).map fun x => (x.2, x.1)) :
    W (kit_PlanOf_l3 k c ((tsC c mv).map fun x => (x.2, x.1)) r3 y6 y12 x17 k (true, 0)) fun b => (b = true → ¬ ∃ s ∈ y6.2.2.2, s.1 = (o : Int)) := by
  obtain ⟨w1, w2, w3, w4, _⟩ := hc.wl
  have rng : ∀ x ∈ (tsC c mv).map (fun x => (x.2, x.1)), ∃ i : Nat, i < c.1.length ∧ x.1 = (i : Int) := fun x hx => by
    obtain ⟨y, hy, rfl⟩ := List.mem_map.1 hx
    exact tsC_rng y hy
  have hTl : ((tsC c mv).map fun x => (x.2, x.1)).length = (tsC c mv).length := List.length_map ..
  generalize (tsC c mv).map (fun x => (x.2, x.1)) = T at *
  obtain ⟨xi, hxi, exi⟩ := rng _ hx
  refine W.loop (f := kit_PlanOf_l3 k c T r3 y6 y12 x17) (fun m y => ∃ j : Nat, y.2 = (j : Int) ∧ j ≤ T.length ∧ m = T.length - j ∧ (o < j → y.1 = true → ¬ ∃ s ∈ y6.2.2.2, s.1 = (o : Int))) ?_ T.length k (true, 0) (by omega) ⟨0, rfl, by omega, by omega, fun h => by omega⟩
  rintro fuel m ⟨b, y⟩ ⟨j, hj, hle, hm, hb⟩ ih
  simp only at hj hb
  subst hj
  have o1 : j < T.length → m - 1 < m ∧ m - 1 = T.length - (j + 1) ∧ j + 1 ≤ T.length := by clear hb ih; omega
  unfold kit_PlanOf_l3
  dsimp only
  refine W.ite (fun hlt => ?_) (fun hge => W.ret fun h => hb (by clear hb ih; omega) h)
  have hlt' : j < T.length := by clear hb ih; omega
  obtain ⟨x27, e27, i27⟩ := met_ok hk (y6 := y6) (y21 := (b, (j : Int))) hl
  obtain ⟨ti, hti, eti⟩ := rng _ (List.getElem_mem hlt')
  have next : ∀ bb : Bool, (bb = true → b = true ∧ (j = o → ¬ x27 = true)) → W ((some bb : Option Bool).bind fun x23 => (ck ((j : Int) + (1 : Int))).bind fun x52 => kit_PlanOf_l3 k c T r3 y6 y12 x17 fuel (x23, x52)) fun b => (b = true → ¬ ∃ s ∈ y6.2.2.2, s.1 = (o : Int)) := fun bb hbb => by
    rw [bs, ck_ok (by clear hb ih i27; omega) (by clear hb ih i27; omega), bs]
    refine ih (m - 1) (bb, (j : Int) + 1) (o1 hlt').1 ⟨j + 1, rfl, (o1 hlt').2.2, (o1 hlt').2.1, fun h1 h2 => ?_⟩
    obtain ⟨h3, h4⟩ := hbb h2
    by_cases hjo : j = o
    · subst hjo
      exact fun h => h4 rfl (i27.2 h)
    · exact hb (by clear hb ih i27; omega) h3
  rw [geti_W hlt', bs, e27, bs, geti_q h0 ho, bs]
  by_cases hjo : (j : Int) = (o : Int)
  · rw [if_pos hjo]
    cases b with
    | false => exact next false (fun h => by cases h)
    | true => exact next (!x27) (fun h => ⟨rfl, fun _ => by simpa using h⟩)
  · rw [if_neg hjo]
    have ga : geti c.1 x17.1 = some (c.1[xi]) := by rw [exi]; exact geti_W hxi
    have gb : geti c.1 T[j].1 = some (c.1[ti]) := by rw [eti]; exact geti_W hti
    obtain ⟨ra, ea, _⟩ := at_ok (k := k) (l := c.1[xi].1) (x := T[j].1) (by have := w4 _ (List.getElem_mem hxi); omega) (by have := w4 _ (List.getElem_mem hxi); omega)
    obtain ⟨rb, eb, _⟩ := at_ok (k := k) (l := c.1[ti].1) (x := x17.1) (by have := w4 _ (List.getElem_mem hti); omega) (by have := w4 _ (List.getElem_mem hti); omega)
    simp only [ga, gb, ea, eb, bs]
    have tot : ∀ X : Option Bool, (∃ z, X = some z) → W (((X.bind fun x38 => if b = true then (if x27 = true then (some true) else (some (!x38))) else (some false)) : Option Bool).bind fun x23 => (ck ((j : Int) + (1 : Int))).bind fun x52 => kit_PlanOf_l3 k c T r3 y6 y12 x17 fuel (x23, x52)) fun b => (b = true → ¬ ∃ s ∈ y6.2.2.2, s.1 = (o : Int)) := by
      rintro X ⟨z, rfl⟩
      rw [bs]
      have hno : j = o → False := fun h => hjo (by rw [h])
      cases b with
      | false => exact next false (fun h => by cases h)
      | true =>
        cases x27 with
        | true => exact next true (fun _ => ⟨rfl, fun h => (hno h).elim⟩)
        | false => exact next (!z) (fun _ => ⟨rfl, fun h => (hno h).elim⟩)
    refine tot _ ?_
    repeat' split
    all_goals exact ⟨_, rfl⟩

theorem pick_ok {k : Nat} (hk : 50 ≤ k) {n : Int} {c : dChange} {mv : List Bool} (hc : VC n c) (ht : (tsC c mv).length ≤ 4) {r3 : (List Int) × dLots} {y6 : (List Int) × Int × Int × (List dStep)} (hl : y6.2.2.2.length ≤ 8) (hrl : r3.1.length ≤ 8) (hr : ∀ x ∈ r3.1, 0 ≤ x ∧ x < ((tsC c mv).length : Int)) :
    W (kit_PlanOf_l2 k c ((tsC c mv).map fun x => (x.2, x.1)) r3 y6 k (-1, 0)) fun x => x < 0 ∨ (0 ≤ x ∧ x < (tsC c mv).length ∧ ¬ ∃ s ∈ y6.2.2.2, s.1 = x) := by
  refine W.loop (f := kit_PlanOf_l2 k c ((tsC c mv).map fun x => (x.2, x.1)) r3 y6) (fun m y => ∃ j : Nat, y.2 = (j : Int) ∧ j ≤ r3.1.length ∧ m = r3.1.length - j ∧ (y.1 < 0 ∨ (0 ≤ y.1 ∧ y.1 < (tsC c mv).length ∧ ¬ ∃ s ∈ y6.2.2.2, s.1 = y.1))) ?_ r3.1.length k (-1, 0) (by omega) ⟨0, rfl, by omega, by omega, .inl (by decide)⟩
  rintro fuel m ⟨x, y⟩ ⟨j, hj, hle, hm, hx⟩ ih
  simp only at hj hx
  subst hj
  have o1 : j < r3.1.length → m - 1 < m ∧ m - 1 = r3.1.length - (j + 1) ∧ j + 1 ≤ r3.1.length := by clear hx ih; omega
  unfold kit_PlanOf_l2
  dsimp only
  refine W.ite (fun hlt => ?_) (fun hge => W.ret hx)
  have hlt' : j < r3.1.length := by clear hx ih; omega
  obtain ⟨o0, o2⟩ := hr _ (List.getElem_mem hlt')
  have hol : r3.1[j].toNat < ((tsC c mv).map fun x => (x.2, x.1)).length := by rw [List.length_map]; clear hx ih; omega
  have e3 : r3.1[j]? = some ((r3.1[j].toNat : Nat) : Int) := by rw [List.getElem?_eq_getElem hlt']; congr 1; clear hx ih; omega
  obtain ⟨x19, e19, h19⟩ := free_ok hk hc ht (r3 := r3) (y6 := y6) (y12 := (x, (j : Int))) (o := r3.1[j].toNat) hl (by clear hx ih; show (0 : Int) ≤ (j : Int); omega) (by simpa using e3) (by rw [List.length_map] at hol; exact hol) (List.getElem_mem hol)
  have next : ∀ z : Int, (z < 0 ∨ (0 ≤ z ∧ z < (tsC c mv).length ∧ ¬ ∃ s ∈ y6.2.2.2, s.1 = z)) → W ((some z : Option Int).bind fun x14 => (ck ((j : Int) + (1 : Int))).bind fun x56 => kit_PlanOf_l2 k c ((tsC c mv).map fun x => (x.2, x.1)) r3 y6 fuel (x14, x56)) fun x => x < 0 ∨ (0 ≤ x ∧ x < (tsC c mv).length ∧ ¬ ∃ s ∈ y6.2.2.2, s.1 = x) := fun z hz => by
    rw [bs, ck_ok (by clear hx ih hz; omega) (by clear hx ih hz; omega), bs]
    exact ih (m - 1) (z, (j : Int) + 1) (o1 hlt').1 ⟨j + 1, rfl, (o1 hlt').2.2, (o1 hlt').2.1, hz⟩
  rw [geti_W hlt', bs, geti_at o0 hol, bs, e19, bs]
  cases x19 with
  | false => simp only [Bool.false_eq_true, if_false, bs]; exact (by have := next x hx; rw [bs] at this; exact this)
  | true =>
    simp only [if_true, bs]
    by_cases hx0 : x < 0
    · simp only [hx0, decide_true, if_true, bs]
      have hz : r3.1[j] < 0 ∨ (0 ≤ r3.1[j] ∧ r3.1[j] < (tsC c mv).length ∧ ¬ ∃ s ∈ y6.2.2.2, s.1 = r3.1[j]) := by
        refine .inr ⟨o0, o2, fun h => h19 rfl ?_⟩
        obtain ⟨s, hs, e⟩ := h
        exact ⟨s, hs, by rw [e]; clear hx ih; omega⟩
      have := next _ hz
      rw [bs] at this
      exact this
    · simp only [hx0, decide_false, Bool.false_eq_true, if_false, bs]
      exact (by have := next x hx; rw [bs] at this; exact this)

theorem dres_ok {k : Nat} (hk : 50 ≤ k) {n : Int} {c : dChange} {mv : List Bool} (hc : VC n c) {x10 d0 : Int} (h1 : 0 ≤ x10 ∧ x10 < (tsC c mv).length) (hd : 0 ≤ d0 ∧ d0 < c.2.1.length) :
    W (kit_PlanOf_l5 k c ((tsC c mv).map fun x => (x.2, x.1)) x10 k (d0, 0)) fun d => 0 ≤ d ∧ d < c.2.1.length := by
  have hdl := hc.dl
  obtain ⟨_, _, _, _, w5⟩ := hc.wl
  refine W.loop (f := kit_PlanOf_l5 k c ((tsC c mv).map fun x => (x.2, x.1)) x10) (fun m y => ∃ j : Nat, y.2 = (j : Int) ∧ j ≤ c.2.1.length ∧ m = c.2.1.length - j ∧ 0 ≤ y.1 ∧ y.1 < c.2.1.length) ?_ c.2.1.length k (d0, 0) (by omega) ⟨0, rfl, by omega, by omega, hd⟩
  rintro fuel m ⟨d, y⟩ ⟨j, hj, hle, hm, hd0, hd1⟩ ih
  simp only at hj hd0 hd1
  subst hj
  unfold kit_PlanOf_l5
  dsimp only
  refine W.ite (fun hlt => ?_) (fun hge => W.ret ⟨hd0, hd1⟩)
  have hml : x10.toNat < ((tsC c mv).map fun x => (x.2, x.1)).length := by rw [List.length_map]; omega
  obtain ⟨w, hw, ew⟩ := List.mem_map.1 (List.getElem_mem hml)
  obtain ⟨i, hi, ei⟩ := tsC_rng w hw
  have hdn : d.toNat < c.2.1.length := by omega
  have e1 : ((tsC c mv).map fun x => (x.2, x.1))[x10.toNat].1 = (i : Int) := by rw [← ew]; exact ei
  obtain ⟨r70, e70, _⟩ := at_ok (k := k) (l := c.2.1[d.toNat].1) (x := (i : Int)) (by have := w5 _ (List.getElem_mem hdn); omega) (by have := w5 _ (List.getElem_mem hdn); omega)
  rw [geti_at hd0 hdn, bs, geti_at h1.1 hml, bs]
  simp only [e1]
  rw [geti_W hi, bs]
  simp only [bs, e70, e1]
  have tot : ∀ X : Option Bool, (∃ z, X = some z) → W (X.bind fun x67 => if x67 = true then (some d) else ((ck (d + (1 : Int))).bind fun x71 =>
    (chkP ((c.2.1.length : Int) ≠ 0)).bind fun _ =>
    (ck ((j : Int) + (1 : Int))).bind fun x73 =>
    kit_PlanOf_l5 k c ((tsC c mv).map fun x => (x.2, x.1)) x10 fuel (Int.tmod x71 (c.2.1.length : Int), x73))) fun d => 0 ≤ d ∧ d < c.2.1.length := by
    rintro X ⟨z, rfl⟩
    rw [bs]
    cases z with
    | true => rw [if_pos rfl]; exact W.ret ⟨hd0, hd1⟩
    | false =>
      rw [if_neg (by simp), ck_ok (by omega) (by omega), bs, chk_ok (by omega), bs, ck_ok (by omega) (by omega), bs]
      have h2 : Int.tmod (d + 1) (c.2.1.length : Int) = (d + 1) % (c.2.1.length : Int) := Int.tmod_eq_emod_of_nonneg (by omega)
      have h3 := Int.emod_nonneg (d + 1) (show (c.2.1.length : Int) ≠ 0 by omega)
      have h4 := Int.emod_lt_of_pos (d + 1) (show (0 : Int) < (c.2.1.length : Int) by omega)
      rw [h2]
      exact ih (m - 1) (_, (j : Int) + 1) (by omega) ⟨j + 1, rfl, by omega, by omega, h3, h4⟩
  refine tot _ ?_
  repeat' split
  all_goals exact ⟨_, rfl⟩

/-- **The plan that is made of the lots.** -/
structure PlanOk (c : dChange) (ts : List (Bool × Int)) (p : List dStep) : Prop where
  len : p.length ≤ ts.length
  ok : ∀ s ∈ p, StepOk c ts s
  once : (p.map (·.1)).Nodup

theorem planOf_ok {k : Nat} (hk : 50 ≤ k) {n : Int} {c : dChange} {mv : List Bool} (hc : VC n c) (hF : Fix c mv) (ht : (tsC c mv).length ≤ 4) {l : dLots} {m : Int} (hl : Lo l m) (hm : 0 ≤ m ∧ m ≤ 900) :
    W (kit_PlanOf k l c) fun r => PlanOk c (tsC c mv) r.1 ∧ Lo r.2 (m + 20) := by
  have hdl := hc.dl
  unfold kit_PlanOf
  rw [tasksOf_eq hk hc hF, bs, List.length_map]
  obtain ⟨r3, e3, h3, h3l, h3x⟩ := mixed_ok hk (l := l) (m := m) (n := (tsC c mv).length) hl (by omega) (by omega)
  rw [show ((l.1, l.2.1, l.2.2) : dLots) = l from rfl, e3, bs]
  have key : W (kit_PlanOf_l1 k c ((tsC c mv).map fun x => (x.2, x.1)) r3 k (r3.2.1, r3.2.2.1, r3.2.2.2, ([] : List dStep))) fun r => match r with
      | .error e => PlanOk c (tsC c mv) e.1 ∧ Lo e.2 (m + 20)
      | .ok e => PlanOk c (tsC c mv) e.1 ∧ Lo (e.2.1, e.2.2.1, e.2.2.2) (m + 20) := by
    refine W.loop (f := kit_PlanOf_l1 k c ((tsC c mv).map fun x => (x.2, x.1)) r3) (fun q y => ∃ j : Nat, y.2.2.2.length = j ∧ q = (tsC c mv).length - j ∧ Lo (y.1, y.2.1, y.2.2.1) (m + 10 + j) ∧ PlanOk c (tsC c mv) y.2.2.2) ?_ (tsC c mv).length k _ (by omega)
      ⟨0, rfl, by omega, h3.mono (by omega), by simp, by simp, by simp⟩
    rintro fuel q ⟨nums, dr, s, out⟩ ⟨j, hj, hq, hlo, hP⟩ ih
    simp only at hj hlo hP
    have hPl := hP.len
    unfold kit_PlanOf_l1
    dsimp only
    rw [List.length_map]
    refine W.ite (fun hlt => ?_) (fun hge => W.ret ⟨hP, hlo.mono (by omega)⟩)
    obtain ⟨x10, e10, h10⟩ := pick_ok hk hc ht (r3 := r3) (y6 := (nums, dr, s, out)) (by show out.length ≤ 8; omega) (by omega) h3x
    simp only at h10
    rw [e10, bs]
    by_cases hx0 : x10 < 0
    · rw [if_pos hx0, bE_e]
      exact W.ret ⟨hP, hlo.mono (by omega)⟩
    · rw [if_neg hx0, ck_ok (by omega) (by omega), bs]
      obtain ⟨hxa, hxb, hxc⟩ := h10.resolve_left hx0
      obtain ⟨r58, e58, a58, b58, c58⟩ := upto_ok (k := k) (l := (nums, dr, s)) (n := (c.2.1.length : Int) - 1) hlo (by omega) (by omega)
      have b58 := b58 (by omega)
      obtain ⟨x59, e59, h59⟩ := dres_ok hk (mv := mv) hc (x10 := x10) (d0 := r58.1) ⟨hxa, hxb⟩ (by omega)
      rw [e58, bs, e59, bs, chk_ok (okLen_of (by simp only [List.length_cons, List.length_nil]; omega)), bs, bE_k]
      refine ih (q - 1) (_, _, _, out ++ [(x10, x59)]) (by omega) ⟨j + 1, by simp [hj], by omega, c58.mono (by omega), ?_, fun st hst => ?_, ?_⟩
      · simp only [List.length_append, List.length_cons, List.length_nil]; omega
      · rcases List.mem_append.1 hst with h | h
        · exact hP.ok st h
        · simp only [List.mem_singleton] at h
          subst h
          exact ⟨hxa, hxb, h59.1, h59.2⟩
      · simp only [List.map_append, List.map_cons, List.map_nil]
        refine List.nodup_append.2 ⟨hP.once, by simp, fun a ha b hb => ?_⟩
        simp only [List.mem_singleton] at hb
        subst hb
        obtain ⟨st, hst, rfl⟩ := List.mem_map.1 ha
        exact fun e => hxc ⟨st, hst, e⟩
  obtain ⟨r, er, hr⟩ := key
  rw [er]
  cases r with
  | error e => rw [bE_e]; exact W.ret hr
  | ok e => rw [bE_k]; exact W.ret hr

end Go.Proofs.YtfhdclhbdmhnmaaGreat

/- Plain law: the plans of a law that compares with the reference; what the program and the reference say of them. -/
namespace Go.Proofs.YtfhdclhbdmhnmaaGreat
open K Go Go.Proofs

theorem in_any {k : Nat} {l : dLots} {m a b : Int} (h : Lo l m) (hm : m ≤ 1000000000) (ha : -1000 ≤ a) (hab : a ≤ b) (hb : b ≤ 1000) : W (kit_Lots_In k l a b) fun r => Lo r.2 (m + 1) := by
  unfold kit_Lots_In
  refine W.ck (by omega) (by omega) (W.bind (upto_ok h hm (by omega)) fun r hr => ?_)
  have h0 := hr.1
  have := hr.2.1 (by omega)
  exact W.ck (by omega) (by omega) (W.ret hr.2.2)

theorem copySteps_ok {k : Nat} {l : List dStep} (h : l.length ≤ 1000) : kit_CopySteps k l = some l := by
  unfold kit_CopySteps
  rw [chk_ok (okLen_of (by simp only [List.length_nil]; omega)), bs, List.nil_append]

/-- **The plans of a law.** -/
theorem planned_ok {k : Nat} (hk : 50 ≤ k) {n : Int} {c : dChange} {mv : List Bool} (hc : VC n c) (hF : Fix c mv) (ht : (tsC c mv).length ≤ 4) {p : List dStep} (hp : p.length ≤ 20) {l : dLots} {m : Int} (hl : Lo l m) (hm : 0 ≤ m ∧ m ≤ 800) :
    W (law_planned k p c l) fun r => r.1.length = 4 ∧ ∀ x ∈ r.1, x.length ≤ 20 := by
  obtain ⟨r2, e2, hP, hlo⟩ := planOf_ok hk hc hF ht hl (by omega)
  have hpl := hP.len
  unfold law_planned
  rw [show ((l.1, l.2.1, l.2.2) : dLots) = l from rfl, e2, bs, copySteps_ok (by omega), bs]
  have fin : ∀ (x : (List dStep) × (List Int) × Int × Int), x.1.length ≤ 20 → W ((some x).bind fun x5 => some ([p, r2.1, x5.1, p], (x5.2.1, x5.2.2.1, x5.2.2.2))) fun r => r.1.length = 4 ∧ ∀ x ∈ r.1, x.length ≤ 20 := fun x hx => by
    refine W.ret ⟨rfl, fun y hy => ?_⟩
    simp only [List.mem_cons, List.not_mem_nil, or_false] at hy
    rcases hy with rfl | rfl | rfl | rfl
    · exact hp
    · omega
    · exact hx
    · exact hp
  by_cases h0 : (0 : Int) < (r2.1.length : Int)
  · rw [if_pos h0, ck_ok (by omega) (by omega), bs]
    obtain ⟨r8, e8, a8, b8, h8⟩ := upto_ok (k := k) (l := r2.2) (n := (r2.1.length : Int) - 1) hlo (by omega) (by omega)
    have b8 := b8 (by omega)
    rw [show kit_Lots_Upto k (r2.2.1, r2.2.2.1, r2.2.2.2) _ = some r8 from e8, bs]
    obtain ⟨r9, e9, _, _, h9⟩ := upto_ok (k := k) (l := r8.2) (n := 2) h8 (by omega) (by decide)
    rw [show kit_Lots_Upto k (r8.2.1, r8.2.2.1, r8.2.2.2) 2 = some r9 from e9, bs]
    have hgk : geti r2.1 r8.1 = some r2.1[r8.1.toNat] := geti_at a8 (by omega)
    have hg0 : geti r2.1 0 = some r2.1[0] := geti_W (i := 0) (by omega)
    by_cases c0 : r9.1 = 0
    · rw [if_pos c0]
      obtain ⟨r10, e10, _⟩ := in_any (k := k) (l := r9.2) (a := -1) (b := 3) h9 (by omega) (by decide) (by decide) (by decide)
      rw [show kit_Lots_In k (r9.2.1, r9.2.2.1, r9.2.2.2) (-1) 3 = some r10 from e10, bs, hgk, bs]
      exact fin _ (by simp only [List.length_set]; omega)
    · rw [if_neg c0]
      by_cases c1 : r9.1 = 1
      · rw [if_pos c1]
        obtain ⟨r10, e10, _⟩ := in_any (k := k) (l := r9.2) (a := -1) (b := (r2.1.length : Int)) h9 (by omega) (by decide) (by omega) (by omega)
        rw [show kit_Lots_In k (r9.2.1, r9.2.2.1, r9.2.2.2) (-1) (r2.1.length : Int) = some r10 from e10, bs, hgk, bs]
        exact fin _ (by simp only [List.length_set]; omega)
      · rw [if_neg c1]
        by_cases c2 : r9.1 = 2
        · rw [if_pos c2, hg0, bs, hgk, bs, bs, geti_at (Int.le_refl 0) (by simp only [List.length_set]; omega), bs]
          exact fin _ (by simp only [List.length_set]; omega)
        · rw [if_neg c2]
          exact fin _ (by omega)
  · rw [if_neg h0]
    exact fin _ (show r2.1.length ≤ 20 by omega)

end Go.Proofs.YtfhdclhbdmhnmaaGreat

/- Plain law: ChangeWearings. -/
namespace Go.Proofs.YtfhdclhbdmhnmaaGreat
open K Go Go.Proofs

theorem inb_set {l : List Bool} {a i : Nat} {b : Bool} (h : a < l.length) : In (l.set a b) i ↔ if i = a then b = true else In l i := by
  unfold In
  rw [List.getElem?_set]
  by_cases e : i = a
  · subst e
    rw [if_pos rfl, if_pos rfl, if_pos h]
    simp
  · rw [if_neg (fun h => e h.symm), if_neg e]

section
variable {k : Nat} {n : Int} {c : dChange} {mv : List Bool}

theorem rw1_ok (hk : 50 ≤ k) (hc : VC n c) : W (ref_Wearing_l1 k c k (List.replicate c.1.length false, 0)) fun r => r.length = c.1.length ∧ ∀ i : Nat, In r i ↔ (i : Int) ∈ c.2.2.1 := by
  obtain ⟨w1, w2, w3, _⟩ := hc.wl
  have hlen := hc.len
  refine W.loop (f := ref_Wearing_l1 k c) (fun m y => ∃ j : Nat, y.2 = (j : Int) ∧ j ≤ c.2.2.1.length ∧ m = c.2.2.1.length - j ∧ y.1.length = c.1.length ∧ ∀ i : Nat, In y.1 i ↔ (i : Int) ∈ c.2.2.1.take j) ?_ c.2.2.1.length k _ (by omega)
    ⟨0, rfl, by omega, by omega, by simp, fun i => by simp [In, List.getElem?_replicate]⟩
  rintro fuel m ⟨l, y⟩ ⟨j, hj, hle, hm, hl, hI⟩ ih
  simp only at hj hl hI
  subst hj
  unfold ref_Wearing_l1
  dsimp only
  refine W.ite (fun hlt => ?_) (fun hge => W.ret ⟨hl, fun i => by
    have : j = c.2.2.1.length := by omega
    subst this
    rw [hI, List.take_length]⟩)
  have hlt' : j < c.2.2.1.length := by omega
  have hr := hc.wears.2 _ (List.getElem_mem hlt')
  have hck : ck ((j : Int) + 1) = some ((j : Int) + 1) := ck_ok (by omega) (by omega)
  rw [geti_W hlt', bs, geti_at hr.1 (by omega), bs, hck, bs]
  refine ih (m - 1) (_, (j : Int) + 1) (by omega) ⟨j + 1, rfl, by omega, by omega, by simpa using hl, fun i => ?_⟩
  simp only
  rw [inb_set (by omega), List.take_add_one, List.getElem?_eq_getElem hlt', List.mem_append, hI]
  simp only [Option.toList_some, List.mem_singleton]
  by_cases e : i = (c.2.2.1[j]).toNat
  · rw [if_pos e]
    exact ⟨fun _ => .inr (by omega), fun _ => trivial⟩
  · rw [if_neg e]
    exact ⟨.inl, fun h => h.resolve_right fun h => e (by omega)⟩

theorem rw2_ok (hk : 50 ≤ k) (ht : (tsC c mv).length ≤ 4) {p : List dStep} (h0 : cpS c (tsC c mv) p = 0) {bar : Int} {l0 : List Bool} (hl0 : l0.length = c.1.length) :
    W (ref_Wearing_l2 k p bar ((tsC c mv).map fun x => (x.2, x.1)) (bgo c (tsC c mv) E0 (F0 c) p) k (l0, 0)) fun r => r.length = c.1.length ∧ ∀ i : Nat, In r i ↔ (In l0 i ∧ ¬ ∃ j s, p[j]? = some s ∧ tsk (tsC c mv) s.1 = (false, (i : Int)) ∧ bAt c (tsC c mv) p j s ≤ bar) := by
  obtain ⟨hl, hgo⟩ := cpS_ok h0
  have hs : ∀ s ∈ p, StepOk c (tsC c mv) s := fun s h => ((cpGo_ok hgo).1 s h).1
  refine W.loop (f := ref_Wearing_l2 k p bar ((tsC c mv).map fun x => (x.2, x.1)) (bgo c (tsC c mv) E0 (F0 c) p)) (fun m y => ∃ j : Nat, y.2 = (j : Int) ∧ j ≤ p.length ∧ m = p.length - j ∧ y.1.length = c.1.length ∧ ∀ i : Nat, In y.1 i ↔ (In l0 i ∧ ¬ ∃ t s, t < j ∧ p[t]? = some s ∧ tsk (tsC c mv) s.1 = (false, (i : Int)) ∧ bAt c (tsC c mv) p t s ≤ bar)) ?_ p.length k (l0, 0) (by omega)
    ⟨0, rfl, by omega, by omega, hl0, fun i => by simp⟩
  rintro fuel m ⟨l, y⟩ ⟨j, hj, hle, hm, hl, hI⟩ ih
  simp only at hj hl hI
  subst hj
  have o1 : j < p.length → m - 1 < m ∧ m - 1 = p.length - (j + 1) ∧ j + 1 ≤ p.length := by clear hI ih; omega
  unfold ref_Wearing_l2
  dsimp only
  refine W.ite (fun hlt => ?_) (fun hge => W.ret ⟨hl, fun i => by
    have : j = p.length := by clear hI ih; omega
    subst this
    rw [hI]
    refine and_congr Iff.rfl (not_congr ⟨fun ⟨t, s, _, h⟩ => ⟨t, s, h⟩, fun ⟨t, s, h⟩ => ⟨t, s, (List.getElem?_eq_some_iff.1 h.1).1, h⟩⟩)⟩)
  have hlt' : j < p.length := by clear hI ih; omega
  have hg := List.getElem?_eq_getElem hlt'
  have hS := hs _ (List.getElem_mem hlt')
  obtain ⟨i0, hi0, ei0⟩ := tsC_rng _ (tsk_mem hS)
  have hgb : geti (bgo c (tsC c mv) E0 (F0 c) p) (j : Int) = some (bAt c (tsC c mv) p j p[j]) := geti_q (by clear hI ih; omega) (by simpa using bgo_b hg)
  have hck : ck ((j : Int) + 1) = some ((j : Int) + 1) := ck_ok (by clear hI ih; omega) (by clear hI ih; omega)
  have hstep : ∀ i : Nat, (∃ t s, t < j + 1 ∧ p[t]? = some s ∧ tsk (tsC c mv) s.1 = (false, (i : Int)) ∧ bAt c (tsC c mv) p t s ≤ bar) ↔ (∃ t s, t < j ∧ p[t]? = some s ∧ tsk (tsC c mv) s.1 = (false, (i : Int)) ∧ bAt c (tsC c mv) p t s ≤ bar) ∨ (tsk (tsC c mv) p[j].1 = (false, (i : Int)) ∧ bAt c (tsC c mv) p j p[j] ≤ bar) := fun i => by
    constructor
    · rintro ⟨t, s, h1, h2, h3⟩
      by_cases e : t = j
      · subst e; rw [hg] at h2; cases h2; exact .inr h3
      · exact .inl ⟨t, s, by clear hI ih; omega, h2, h3⟩
    · rintro (⟨t, s, h1, h2⟩ | h3)
      · exact ⟨t, s, by clear hI ih; omega, h2⟩
      · exact ⟨j, _, by clear hI ih; omega, hg, h3⟩
  rw [geti_W hlt', bs, tsk_sw hS, bs, hgb]
  simp only [bs]
  generalize htk : tsk (tsC c mv) p[j].1 = w at *
  obtain ⟨wb, wv⟩ := w
  simp only at ei0
  subst ei0
  by_cases hh : wb = false ∧ bAt c (tsC c mv) p j p[j] ≤ bar
  · obtain ⟨rfl, hb⟩ := hh
    rw [if_pos (by simp), bs, decide_eq_true hb, if_pos rfl, geti_W (by clear hI ih; omega), bs, bs, hck, bs]
    refine ih (m - 1) (_, (j : Int) + 1) (o1 hlt').1 ⟨j + 1, rfl, (o1 hlt').2.2, (o1 hlt').2.1, by simpa using hl, fun i => ?_⟩
    simp only [Int.toNat_natCast]
    rw [inb_set (by clear hI ih; omega), hstep]
    by_cases e : i = i0
    · subst e
      simp [hb]
    · have e2 : ¬ (i0 : Int) = (i : Int) := by clear hI ih; omega
      rw [if_neg e, hI]
      simp [e2]
  · have hn : (if ¬ (wb = true) then some (decide (bAt c (tsC c mv) p j p[j] ≤ bar)) else some false) = some false := by
      cases wb with
      | false => rw [if_pos (by simp), decide_eq_false (fun h => hh ⟨rfl, h⟩)]
      | true => simp
    rw [hn, bs, if_neg (by decide), bs, hck, bs]
    refine ih (m - 1) (_, (j : Int) + 1) (o1 hlt').1 ⟨j + 1, rfl, (o1 hlt').2.2, (o1 hlt').2.1, hl, fun i => ?_⟩
    simp only
    rw [hI, hstep]
    have : ¬ ((wb, (i0 : Int)) = (false, (i : Int)) ∧ bAt c (tsC c mv) p j p[j] ≤ bar) := fun ⟨a, b⟩ => hh ⟨(Prod.mk.inj a).1, b⟩
    constructor
    · rintro ⟨a, b⟩; exact ⟨a, fun h => h.elim b this⟩
    · rintro ⟨a, b⟩; exact ⟨a, fun h => b (.inl h)⟩

theorem rw3_ok (hk : 50 ≤ k) (hc : VC n c) (ht : (tsC c mv).length ≤ 4) {p : List dStep} (h0 : cpS c (tsC c mv) p = 0) {bar : Int} {l0 : List Bool} (hl0 : l0.length = c.1.length) :
    W (ref_Wearing_l3 k c p bar ((tsC c mv).map fun x => (x.2, x.1)) (bgo c (tsC c mv) E0 (F0 c) p) k (l0, 0)) fun r => r.length = c.1.length ∧ ∀ i : Nat, In r i ↔ (In l0 i ∨ ∃ j s, p[j]? = some s ∧ tsk (tsC c mv) s.1 = (true, (i : Int)) ∧ eAt c (tsC c mv) p j s ≤ bar) := by
  obtain ⟨hl, hgo⟩ := cpS_ok h0
  have hs : ∀ s ∈ p, StepOk c (tsC c mv) s := fun s h => ((cpGo_ok hgo).1 s h).1
  refine W.loop (f := ref_Wearing_l3 k c p bar ((tsC c mv).map fun x => (x.2, x.1)) (bgo c (tsC c mv) E0 (F0 c) p)) (fun m y => ∃ j : Nat, y.2 = (j : Int) ∧ j ≤ p.length ∧ m = p.length - j ∧ y.1.length = c.1.length ∧ ∀ i : Nat, In y.1 i ↔ (In l0 i ∨ ∃ t s, t < j ∧ p[t]? = some s ∧ tsk (tsC c mv) s.1 = (true, (i : Int)) ∧ eAt c (tsC c mv) p t s ≤ bar)) ?_ p.length k (l0, 0) (by omega)
    ⟨0, rfl, by omega, by omega, hl0, fun i => by simp⟩
  rintro fuel m ⟨l, y⟩ ⟨j, hj, hle, hm, hl, hI⟩ ih
  simp only at hj hl hI
  subst hj
  have o1 : j < p.length → m - 1 < m ∧ m - 1 = p.length - (j + 1) ∧ j + 1 ≤ p.length := by clear hI ih; omega
  unfold ref_Wearing_l3
  dsimp only
  refine W.ite (fun hlt => ?_) (fun hge => W.ret ⟨hl, fun i => by
    have : j = p.length := by clear hI ih; omega
    subst this
    rw [hI]
    refine or_congr Iff.rfl ⟨fun ⟨t, s, _, h⟩ => ⟨t, s, h⟩, fun ⟨t, s, h⟩ => ⟨t, s, (List.getElem?_eq_some_iff.1 h.1).1, h⟩⟩⟩)
  have hlt' : j < p.length := by clear hI ih; omega
  have hg := List.getElem?_eq_getElem hlt'
  have hS := hs _ (List.getElem_mem hlt')
  obtain ⟨i0, hi0, ei0⟩ := tsC_rng _ (tsk_mem hS)
  have hB := bAt_bnd hc hs hg (by clear hI ih; omega)
  have hR := barsB_nonneg hc hS
  have hgb : geti (bgo c (tsC c mv) E0 (F0 c) p) (j : Int) = some (bAt c (tsC c mv) p j p[j]) := geti_q (by clear hI ih; omega) (by simpa using bgo_b hg)
  have hck : ck ((j : Int) + 1) = some ((j : Int) + 1) := ck_ok (by clear hI ih; omega) (by clear hI ih; omega)
  have hck2 : ck (bAt c (tsC c mv) p j p[j] + barsB c (tsk (tsC c mv) p[j].1)) = some (eAt c (tsC c mv) p j p[j]) := ck_ok (by clear hI ih; omega) (by clear hI ih; omega)
  have htk2 := rtakes_eq (k := k) (tsk_mem hS)
  have hstep : ∀ i : Nat, (∃ t s, t < j + 1 ∧ p[t]? = some s ∧ tsk (tsC c mv) s.1 = (true, (i : Int)) ∧ eAt c (tsC c mv) p t s ≤ bar) ↔ (∃ t s, t < j ∧ p[t]? = some s ∧ tsk (tsC c mv) s.1 = (true, (i : Int)) ∧ eAt c (tsC c mv) p t s ≤ bar) ∨ (tsk (tsC c mv) p[j].1 = (true, (i : Int)) ∧ eAt c (tsC c mv) p j p[j] ≤ bar) := fun i => by
    constructor
    · rintro ⟨t, s, h1, h2, h3⟩
      by_cases e : t = j
      · subst e; rw [hg] at h2; cases h2; exact .inr h3
      · exact .inl ⟨t, s, by clear hI ih; omega, h2, h3⟩
    · rintro (⟨t, s, h1, h2⟩ | h3)
      · exact ⟨t, s, by clear hI ih; omega, h2⟩
      · exact ⟨j, _, by clear hI ih; omega, hg, h3⟩
  rw [geti_W hlt', bs, tsk_sw hS, bs, hgb]
  simp only [bs, htk2, hck2]
  clear hck2 htk2 hR
  generalize htk : tsk (tsC c mv) p[j].1 = w at *
  obtain ⟨wb, wv⟩ := w
  simp only at ei0
  subst ei0
  by_cases hh : wb = true ∧ eAt c (tsC c mv) p j p[j] ≤ bar
  · obtain ⟨rfl, hb⟩ := hh
    rw [if_pos rfl, bs, decide_eq_true hb, if_pos rfl, geti_W (by clear hI ih; omega), bs, bs, hck, bs]
    refine ih (m - 1) (_, (j : Int) + 1) (o1 hlt').1 ⟨j + 1, rfl, (o1 hlt').2.2, (o1 hlt').2.1, by simpa using hl, fun i => ?_⟩
    simp only [Int.toNat_natCast]
    rw [inb_set (by clear hI ih; omega), hstep]
    by_cases e : i = i0
    · subst e
      simp [hb]
    · have e2 : ¬ (i0 : Int) = (i : Int) := by clear hI ih; omega
      rw [if_neg e, hI]
      simp [e2]
  · have hn : (if wb = true then some (decide (eAt c (tsC c mv) p j p[j] ≤ bar)) else some false) = some false := by
      cases wb with
      | true => rw [if_pos rfl, decide_eq_false (fun h => hh ⟨rfl, h⟩)]
      | false => simp
    rw [hn, bs, if_neg (by decide), bs, hck, bs]
    refine ih (m - 1) (_, (j : Int) + 1) (o1 hlt').1 ⟨j + 1, rfl, (o1 hlt').2.2, (o1 hlt').2.1, hl, fun i => ?_⟩
    simp only
    rw [hI, hstep]
    have : ¬ ((wb, (i0 : Int)) = (true, (i : Int)) ∧ eAt c (tsC c mv) p j p[j] ≤ bar) := fun ⟨a, b⟩ => hh ⟨(Prod.mk.inj a).1, b⟩
    constructor
    · rintro (a | a)
      · exact .inl a
      · exact .inr (.inl a)
    · rintro (a | a | a)
      · exact .inl a
      · exact .inr a
      · exact absurd a this

def inL (l : List Bool) (j : Nat) : List Int := ((List.range j).filter fun i => l[i]?.getD false).map fun (i : Nat) => (i : Int)
theorem inL_succ {l : List Bool} {j : Nat} (h : j < l.length) : inL l (j + 1) = inL l j ++ (if l[j] = true then [(j : Int)] else []) := by
  unfold inL
  rw [List.range_succ, List.filter_append, List.map_append]
  congr 1
  cases e : l[j] <;> simp [List.getElem?_eq_getElem h, e]
theorem inL_len {l : List Bool} {j : Nat} : (inL l j).length ≤ j := by
  unfold inL
  rw [List.length_map]
  exact Nat.le_trans (List.length_filter_le _ _) (by simp)

theorem rw4_ok (hk : 50 ≤ k) {l : List Bool} (hl : l.length ≤ 8) : ref_Wearing_l4 k l k ([], 0) = some (inL l l.length) := by
  have key : W (ref_Wearing_l4 k l k ([], 0)) fun r => r = inL l l.length := by
    refine W.loop (f := ref_Wearing_l4 k l) (fun m y => ∃ j : Nat, y.2 = (j : Int) ∧ j ≤ l.length ∧ m = l.length - j ∧ y.1 = inL l j) ?_ l.length k ([], 0) (by omega) ⟨0, rfl, by omega, by omega, rfl⟩
    rintro fuel m ⟨o, y⟩ ⟨j, hj, hle, hm, ho⟩ ih
    simp only at hj ho
    subst hj ho
    unfold ref_Wearing_l4
    dsimp only
    refine W.ite (fun hlt => ?_) (fun hge => W.ret (by
      have : j = l.length := by omega
      rw [this]))
    have hlt' : j < l.length := by omega
    have hol := inL_len (l := l) (j := j)
    have hck : ck ((j : Int) + 1) = some ((j : Int) + 1) := ck_ok (by omega) (by omega)
    rw [geti_W hlt', bs]
    by_cases hb : l[j] = true
    · rw [if_pos hb, chk_ok (okLen_of (by simp only [List.length_cons, List.length_nil]; omega)), bs, bs, hck, bs]
      exact ih (m - 1) (_, (j : Int) + 1) (by omega) ⟨j + 1, rfl, by omega, by omega, by rw [inL_succ hlt', if_pos hb]⟩
    · rw [if_neg hb, bs, hck, bs]
      exact ih (m - 1) (_, (j : Int) + 1) (by omega) ⟨j + 1, rfl, by omega, by omega, by rw [inL_succ hlt', if_neg hb, List.append_nil]⟩
  obtain ⟨r, e, rfl⟩ := key
  exact e

theorem wornP_lt (hc : VC n c) {p : List dStep} (h0 : cpS c (tsC c mv) p = 0) {bar : Int} {i : Nat} (h : wornP c (tsC c mv) p bar i) : i < c.1.length := by
  obtain ⟨hl, hgo⟩ := cpS_ok h0
  have hs : ∀ s ∈ p, StepOk c (tsC c mv) s := fun s h => ((cpGo_ok hgo).1 s h).1
  have hlen := hc.len
  rcases h with ⟨h, _⟩ | ⟨j, s, h1, h2, _⟩
  · have := hc.wears.2 _ h; omega
  · obtain ⟨i0, hi0, ei0⟩ := tsC_rng _ (tsk_mem (hs s (List.mem_of_getElem? h1)))
    rw [h2] at ei0
    simp only at ei0
    omega
end

/-- **What is worn at a bar.** -/
theorem wearing_said {k : Nat} (hk : 50 ≤ k) {c : dChange} (hs : Short c) {p : List dStep} (hp : p.length ≤ 20) (bar : Int) : ∃ r, chg_Wearing k c p bar = some r ∧ ref_Wearing k c p bar = some r ∧ r.1.length ≤ 20 := by
  rcases ask_cases hk hs with ⟨e, he, h1, h2⟩ | ⟨n, mv, q, hq, h1, h2⟩
  · refine ⟨([], e), ?_, ?_, by simp⟩
    · unfold chg_Wearing chg_asked
      rw [h1, bs, co_none, if_pos he, bs, co_none, if_pos he]
    · unfold ref_Wearing ref_checkPlan
      rw [h2, bs, if_pos he, bs, if_pos he]
  · have ht := hq.t4
    have hc := hq.vc
    obtain ⟨w1, w2, w3, _⟩ := hc.wl
    have hr := rplan_eq hk hc hq.fix ht h2 (p := p)
    by_cases h0 : cpS c (tsC c mv) p = 0
    · by_cases hb : bar < 0
      · refine ⟨([], 1), ?_, ?_, by simp⟩
        · unfold chg_Wearing
          rw [asked_eq hk hq h1 (by omega), bs, co_some, if_neg (by simp [h0]), if_pos hb]
        · unfold ref_Wearing
          rw [hr, bs, if_neg (by simp [h0]), if_pos hb]
      · obtain ⟨m, hm, hH, e⟩ := Wearing_ok hk hq h1 h0 (show 0 ≤ bar by omega)
        refine ⟨_, e, ?_, by have := bitsL_len (s := m) (j := 8); simp only; omega⟩
        unfold ref_Wearing
        rw [hr, bs, if_neg (by simp [h0]), if_neg hb, chk_ok ⟨by omega, okLen_of (by simp only [Int.toNat_natCast]; omega)⟩, bs]
        simp only [Int.toNat_natCast]
        obtain ⟨l1, e1, hl1, i1⟩ := rw1_ok hk hc
        rw [e1, bs, refTasks_eq hk hc hq.fix, bs, rbegins_eq hk hc hq.fix ht h0, bs]
        obtain ⟨l2, e2, hl2, i2⟩ := rw2_ok hk ht h0 (bar := bar) hl1
        rw [e2, bs]
        obtain ⟨l3, e3, hl3, i3⟩ := rw3_ok hk hc ht h0 (bar := bar) hl2
        rw [e3, bs, rw4_ok hk (by omega), bs]
        have hall : ∀ i : Nat, l3[i]?.getD false = decide (Has m i) := fun i => by
          have : In l3 i ↔ Has m i := by rw [i3, i2, i1, hH]; exact Iff.rfl
          cases hg : l3[i]? with
          | none =>
            symm
            simp only [Option.getD_none, decide_eq_false_iff_not]
            intro h
            have h' : l3[i]? = some true := this.2 h
            rw [hg] at h'; cases h'
          | some b =>
            cases b with
            | true => simp only [Option.getD_some]; exact (decide_eq_true (this.1 hg)).symm
            | false =>
              simp only [Option.getD_some]
              symm
              rw [decide_eq_false_iff_not]
              intro h
              have h' : l3[i]? = some true := this.2 h
              rw [hg] at h'; cases h'
        have : inL l3 l3.length = bitsL m 8 := by
          unfold inL bitsL
          rw [filter_range (n := l3.length) (fun i hi => by
            have := wornP_lt hc h0 ((hH i).1 (of_decide_eq_true hi))
            omega) 8 (by omega)]
          congr 1
          apply List.filter_congr
          intro i _
          exact hall i
        rw [this]
    · refine ⟨([], cpS c (tsC c mv) p), ?_, ?_, by simp⟩
      · unfold chg_Wearing
        rw [asked_eq hk hq h1 (by omega), bs, co_some, if_pos h0]
      · unfold ref_Wearing
        rw [hr, bs, if_pos h0]

/-- **The law.** -/
theorem wearings_law {k : Nat} (hk : 50 ≤ k) (hd : law_dressed k = some true) (a0 : dChange) (a1 : List dStep) (a2 : Int) (a3 : List Int) : law_ChangeWearings k a0 a1 a2 a3 = some true := by
  obtain ⟨b, eb, hb⟩ := long_ok hk (c := a0)
  unfold law_ChangeWearings
  rw [eb, bs]
  by_cases hx : b = true ∨ 20 < a1.length
  · have : (if b = true then some true else some (decide ((20 : Int) < (a1.length : Int)))) = some true := by
      rcases hx with rfl | h
      · simp
      · rw [decide_eq_true (show (20 : Int) < (a1.length : Int) by omega)]; simp
    rw [this, bs, if_pos rfl, hd, bs]
  · have hbf : b = false := by cases b <;> simp_all
    have hp : a1.length ≤ 20 := by omega
    subst hbf
    have hs := hb rfl
    rw [if_neg (by decide), bs, decide_eq_false (show ¬ (20 : Int) < (a1.length : Int) by omega), if_neg (by decide)]
    obtain ⟨⟨cs, l⟩, e, hlo, h4, hx, hg0, c1, hg1, n, mv, q, hc, _, hq⟩ := sets_ok2 hk hs (l := (a3, 0, 1)) (m := 0) newLots_ok (by decide)
    rw [show kit_NewLots k a3 = some (a3, 0, 1) from rfl, bs, e, bs]
    simp only at h4 hx hg0 hg1 hlo
    rw [geti_q (by decide) (show cs[(1 : Int).toNat]? = some c1 from hg1), bs]
    obtain ⟨⟨ps, l2⟩, e2, hp4, hpx⟩ := planned_ok hk hc hq.fix hq.t4 hp (l := l) (m := 310) (hlo.mono (by omega)) (by decide)
    simp only at hp4 hpx
    rw [show law_planned k a1 c1 (l.1, l.2.1, l.2.2) = some (ps, l2) from e2, bs]
    have key : law_ChangeWearings_l1 k a2 (cs, l) (ps, l2) k 0 = some (.ok ()) := for_all0 (N := 3) (by omega) (fun m j hj => by
      have hjp : j < ps.length := by omega
      have hjc : j < cs.length := by omega
      have hpj := hpx _ (List.getElem_mem hjp)
      have hS := hx _ (List.getElem_mem hjc)
      have hlt : (j : Int) < 3 := by omega
      have hck : ck ((j : Int) + 1) = some ((j : Int) + 1) := ck_ok (by omega) (by omega)
      have inner : law_ChangeWearings_l2 k a2 (cs, l) (ps, l2) (j : Int) cs[j] ps[j] k (-1) = some (.ok ()) := by
        have go : ∀ (d fuel : Nat) (y : Int), (13 - y).toNat = d → -1 ≤ y → y ≤ 13 → d < fuel → law_ChangeWearings_l2 k a2 (cs, l) (ps, l2) (j : Int) cs[j] ps[j] fuel y = some (.ok ()) := by
          intro d
          induction d with
          | zero =>
            intro fuel y h1 h2 h3 h4
            obtain ⟨fuel, rfl⟩ : ∃ f, fuel = f + 1 := ⟨fuel - 1, by omega⟩
            rw [law_ChangeWearings_l2, if_neg (by omega)]
          | succ d ih =>
            intro fuel y h1 h2 h3 h4
            obtain ⟨fuel, rfl⟩ : ∃ f, fuel = f + 1 := ⟨fuel - 1, by omega⟩
            rw [law_ChangeWearings_l2, if_pos (by omega)]
            obtain ⟨bar, hbar⟩ : ∃ bar, (if y < 0 then some a2 else some y) = some bar := by
              by_cases hy : y < 0
              · exact ⟨a2, if_pos hy⟩
              · exact ⟨y, if_neg hy⟩
            obtain ⟨r, g1, g2, l1⟩ := wearing_said hk hS hpj bar
            have hck2 : ck (y + 1) = some (y + 1) := ck_ok (by omega) (by omega)
            rw [hbar]
            simp only [bs, g1, geti_W hjc, geti_W hjp, g2, not_true_eq_false, if_false, sameInts_self (show r.1.length < k by omega) (show r.1.length ≤ 1000000 by omega), Bool.not_true, Bool.false_eq_true, hck2]
            exact ih fuel (y + 1) (by omega) (by omega) (by omega) (by omega)
        exact go 14 k (-1) (by decide) (by decide) (by decide) (by omega)
      simp only [law_ChangeWearings_l1, hlt, if_true, geti_W hjc, bs, copyF_short hk hS, geti_W hjp, copySteps_ok (show ps[j].length ≤ 1000 by omega), inner, bE_k, not_true_eq_false, if_false, sameChanges_self hk hS, sameSteps_self (show ps[j].length < k by omega) (show ps[j].length ≤ 1000000 by omega), Bool.not_true, Bool.false_eq_true, hck]) (fun m => by simp [law_ChangeWearings_l1])
    rw [key, bE_k, hd, bs]
end Go.Proofs.YtfhdclhbdmhnmaaGreat
