/- Plain law: what is changed. -/
import Derived.Test.YtfhdclhbdmhnmaaLaw11
namespace Go.Proofs.Ytfhdclhbdmhnmaa
open K Go Go.Proofs

theorem over_bool {k : Nat} (hk : 50 ≤ k) {n : Int} {c : dChange} {mv : List Bool} {l : dLots} {e : Int} (hc : VC n c) (ht : (tsC c mv).length ≤ 4) {i : Nat} :
    W (law_ChangeTasks_l2 k (c, l) ((tsC c mv).map (fun x => (x.2, x.1)), e) (i : Int) k (false, 0)) fun b => (b = true ↔ ∃ (q : Nat) (t : dThing), c.1[q]? = some t ∧ (i : Int) ∈ t.1 ∧ (((q : Int), false) ∈ (tsC c mv).map (fun x => (x.2, x.1)) ∨ ((q : Int), true) ∈ (tsC c mv).map (fun x => (x.2, x.1)))) := by
  obtain ⟨w1, w2, w3, w4, _⟩ := hc.wl
  refine W.loop (f := law_ChangeTasks_l2 k (c, l) ((tsC c mv).map (fun x => (x.2, x.1)), e) (i : Int)) (fun m y => ∃ j : Nat, y.2 = (j : Int) ∧ j ≤ c.1.length ∧ m = c.1.length - j ∧
    (y.1 = true ↔ ∃ (q : Nat) (t : dThing), q < j ∧ c.1[q]? = some t ∧ (i : Int) ∈ t.1 ∧ (((q : Int), false) ∈ (tsC c mv).map (fun x => (x.2, x.1)) ∨ ((q : Int), true) ∈ (tsC c mv).map (fun x => (x.2, x.1))))) ?_ c.1.length k (false, 0) (by omega) ⟨0, rfl, by omega, by omega, by simp⟩
  rintro fuel m ⟨b, y⟩ ⟨j, hj, hle, hq, hb⟩ ih
  simp only at hj hb
  subst hj
  unfold law_ChangeTasks_l2
  dsimp only
  have hTl : ((tsC c mv).map (fun x => (x.2, x.1))).length ≤ 4 := by rw [List.length_map]; exact ht
  have o1 : j < c.1.length → m - 1 < m ∧ m - 1 = c.1.length - (j + 1) ∧ j + 1 ≤ c.1.length := by clear hb ih; omega
  generalize (tsC c mv).map (fun x => (x.2, x.1)) = T at *
  refine W.ite (fun hlt => ?_) (fun hge => W.ret ?_)
  · have hlt' : j < c.1.length := by omega
    obtain ⟨r27, e27, i27⟩ := at_ok (k := k) (l := c.1[j].1) (x := (i : Int)) (by have := w4 _ (List.getElem_mem hlt'); omega) (by have := w4 _ (List.getElem_mem hlt'); omega)
    have next : ∀ bb : Bool, (bb = true ↔ b = true ∨ ((i : Int) ∈ c.1[j].1 ∧ (((j : Int), false) ∈ T ∨ ((j : Int), true) ∈ T))) → W ((some bb : Option Bool).bind fun x24 => (ck ((j : Int) + (1 : Int))).bind fun x30 => law_ChangeTasks_l2 k (c, l) (T, e) (i : Int) fuel (x24, x30)) fun b => (b = true ↔ ∃ (q : Nat) (t : dThing), c.1[q]? = some t ∧ (i : Int) ∈ t.1 ∧ (((q : Int), false) ∈ T ∨ ((q : Int), true) ∈ T)) := fun bb hbb => by
      rw [bs]
      refine W.ck (by omega) (by omega) (ih (m - 1) (bb, (j : Int) + 1) (o1 hlt').1 ⟨j + 1, rfl, (o1 hlt').2.2, (o1 hlt').2.1, ?_⟩)
      simp only
      rw [hbb, hb]
      constructor
      · rintro (⟨q, t, h1, h2⟩ | ⟨h1, h2⟩)
        · exact ⟨q, t, by omega, h2⟩
        · exact ⟨j, _, by omega, List.getElem?_eq_getElem hlt', h1, h2⟩
      · rintro ⟨q, t, h1, h2, h3⟩
        by_cases hqj : q < j
        · exact .inl ⟨q, t, hqj, h2, h3⟩
        · have : q = j := by omega
          subst this
          rw [List.getElem?_eq_getElem hlt'] at h2
          cases h2
          exact .inr h3
    by_cases hb1 : b = true
    · rw [if_pos hb1]; exact next true (by simp [hb1])
    · rw [if_neg hb1, geti_W hlt', bs, e27, bs]
      by_cases h27 : 0 ≤ r27
      · rw [if_pos h27, law_in_eq (by omega) (by omega), bs]
        by_cases hf : ((j : Int), false) ∈ T
        · rw [decide_eq_true hf, if_pos rfl]; exact next true ⟨fun _ => .inr ⟨i27.1 h27, .inl hf⟩, fun _ => rfl⟩
        · rw [decide_eq_false hf, if_neg (by simp), law_in_eq (by omega) (by omega), bs]; exact next _ (by rw [decide_eq_true_eq]; exact ⟨fun h => .inr ⟨i27.1 h27, .inr h⟩, fun h => h.elim (absurd · hb1) fun h => h.2.elim (absurd · hf) id⟩)
      · rw [if_neg h27]; exact next false ⟨fun h => (nomatch h), fun h => h.elim (absurd · hb1) fun h => absurd (i27.2 h.1) h27⟩
  · have : j = c.1.length := by omega
    subst this
    rw [hb]
    constructor
    · rintro ⟨q, t, _, h⟩; exact ⟨q, t, h⟩
    · rintro ⟨q, t, h, h'⟩; exact ⟨q, t, (List.getElem?_eq_some_iff.1 h).1, h, h'⟩

/-- **What is changed.** -/
theorem tasks_law {k : Nat} (hk : 50 ≤ k) (hd : law_dressed k = some true) (a0 : List Int) : law_ChangeTasks k a0 = some true := by
  unfold law_ChangeTasks
  rw [show kit_NewLots k a0 = some (a0, 0, 1) from rfl, bs]
  obtain ⟨⟨c, l⟩, e3, hlo, _, n, mv, q, hc, hb, hq⟩ := lots_ok hk (l := (a0, 0, 1)) (m := 0) newLots_ok (by decide)
  simp only at hc hb hq
  obtain ⟨w1, w2, w3, w4, _⟩ := hc.wl
  have ht := hq.t4
  have hTl : ((tsC c mv).map (fun x => (x.2, x.1))).length ≤ 4 := by rw [List.length_map]; exact ht
  rw [e3, bs, tasks_eq hk hq hb, bs]
  simp only [not_true_eq_false, if_false, tasksOf_eq hk hc hq.fix, bs, sameTasks_self (l := (tsC c mv).map fun x => (x.2, x.1)) (k := k) (by omega) (by omega), Bool.not_true, Bool.false_eq_true]
  have h1 : law_ChangeTasks_l1 k (c, l) ((tsC c mv).map (fun x => (x.2, x.1)), 0) k 0 = some (.ok ()) := by
    refine for_all 0 c.1.length (fun m i _ hi => ?_) (fun m i _ hi => by simp only [law_ChangeTasks_l1]; rw [if_neg (by omega)]) k (by omega)
    obtain ⟨r16, e16, i16⟩ := at_ok (k := k) (l := c.2.2.1) (x := (i : Int)) (by omega) (by omega)
    obtain ⟨r17, e17, i17⟩ := at_ok (k := k) (l := c.2.2.2) (x := (i : Int)) (by omega) (by omega)
    obtain ⟨x20, e20, i20⟩ := over_bool hk (l := l) (e := 0) (i := i) hc ht
    have hoff := mem_swap (c := c) (mv := mv) (i := i) (b := false)
    have hon := mem_swap (c := c) (mv := mv) (i := i) (b := true)
    have hlt : (i : Int) < (c.1.length : Int) := by omega
    have e18 := law_in_eq (k := k) (l := (tsC c mv).map (fun x => (x.2, x.1))) (x := (i : Int)) (b := false) (by omega) (by omega)
    have e19 := law_in_eq (k := k) (l := (tsC c mv).map (fun x => (x.2, x.1))) (x := (i : Int)) (b := true) (by omega) (by omega)
    rw [law_ChangeTasks_l1]
    simp only [hlt, if_true, e16, e17, e18, e19, e20, bs]
    have hx : (0 ≤ r16 → 0 ≤ r17 → (decide (((i : Int), false) ∈ (tsC c mv).map (fun x => (x.2, x.1))) = x20 ∧ decide (((i : Int), true) ∈ (tsC c mv).map (fun x => (x.2, x.1))) = x20)) := fun h1 h2 => by
      have hw := i16.1 h1
      have hv := i17.1 h2
      have hov : x20 = true ↔ In mv i := by
        rw [i20, fix_iff hq.fix hi]
        constructor
        · rintro ⟨q, t, a, b, h⟩
          refine .inr ⟨hw, hv, q, t, a, ?_, b⟩
          rcases h with h | h
          · exact (mem_swap.1 h).2.1
          · exact (mem_swap.1 h).2.1
        · rintro ((⟨_, h⟩ | ⟨h, _⟩) | ⟨_, _, q, t, a, b, d⟩)
          · exact absurd hv h
          · exact absurd hw h
          · refine ⟨q, t, a, d, ?_⟩
            have hql := fix_len hq.fix b
            rcases fix_ww hq.fix b with h | h
            · exact .inl (mem_swap.2 ⟨hql, b, h⟩)
            · exact .inr (mem_swap.2 ⟨hql, b, h⟩)
      have e1 : (decide (((i : Int), false) ∈ (tsC c mv).map (fun x => (x.2, x.1))) = true ↔ In mv i) := by
        rw [decide_eq_true_eq, hoff]; exact ⟨fun h => h.2.1, fun h => ⟨hi, h, by simpa using hw⟩⟩
      have e2 : (decide (((i : Int), true) ∈ (tsC c mv).map (fun x => (x.2, x.1))) = true ↔ In mv i) := by
        rw [decide_eq_true_eq, hon]; exact ⟨fun h => h.2.1, fun h => ⟨hi, h, by simpa using hv⟩⟩
      exact ⟨Bool.eq_iff_iff.2 (e1.trans hov.symm), Bool.eq_iff_iff.2 (e2.trans hov.symm)⟩
    have hy : ¬ (0 ≤ r16 ∧ 0 ≤ r17) → (decide (((i : Int), false) ∈ (tsC c mv).map (fun x => (x.2, x.1))) = decide (0 ≤ r16) ∧ decide (((i : Int), true) ∈ (tsC c mv).map (fun x => (x.2, x.1))) = decide (0 ≤ r17)) := fun h => by
      have hf : 0 ≤ r16 ∨ 0 ≤ r17 → In mv i := fun h' => by
        rw [fix_iff hq.fix hi]
        rcases h' with h' | h'
        · exact .inl (.inl ⟨i16.1 h', fun hv => h ⟨h', i17.2 hv⟩⟩)
        · exact .inl (.inr ⟨fun hw => h ⟨i16.2 hw, h'⟩, i17.1 h'⟩)
      refine ⟨decide_eq_decide.2 ?_, decide_eq_decide.2 ?_⟩
      · rw [hoff]; exact ⟨fun h => i16.2 (by simpa using h.2.2), fun h => ⟨hi, hf (.inl h), by simpa using i16.1 h⟩⟩
      · rw [hon]; exact ⟨fun h => i17.2 (by simpa using h.2.2), fun h => ⟨hi, hf (.inr h), by simpa using i17.1 h⟩⟩
    generalize decide (((i : Int), false) ∈ (tsC c mv).map (fun x => (x.2, x.1))) = off at *
    generalize decide (((i : Int), true) ∈ (tsC c mv).map (fun x => (x.2, x.1))) = on at *
    by_cases h1 : 0 ≤ r16 <;> by_cases h2 : 0 ≤ r17
    · obtain ⟨rfl, rfl⟩ := hx h1 h2
      simp (disch := omega) [h1, h2, bs, bE_k, ck_ok]
    · obtain ⟨rfl, rfl⟩ := hy (fun h => h2 h.2)
      simp (disch := omega) [h1, h2, bs, bE_k, ck_ok]
    · obtain ⟨rfl, rfl⟩ := hy (fun h => h1 h.1)
      simp (disch := omega) [h1, h2, bs, bE_k, ck_ok]
    · obtain ⟨rfl, rfl⟩ := hy (fun h => h1 h.1)
      simp (disch := omega) [h1, h2, bs, bE_k, ck_ok]
  have h3 : law_ChangeTasks_l3 k ((tsC c mv).map (fun x => (x.2, x.1)), 0) k 1 = some (.ok ()) := by
    have hpw := tsC_pw (c := c) (mv := mv)
    refine for_all 1 (tsC c mv).length (fun m j h1 hj => ?_) (fun m j _ hj => by simp only [law_ChangeTasks_l3, List.length_map]; rw [if_neg (by omega)]) k (by omega)
    have hj' : j < ((tsC c mv).map (fun x => (x.2, x.1))).length := by rw [List.length_map]; exact hj
    have hj1 : j - 1 < ((tsC c mv).map (fun x => (x.2, x.1))).length := by omega
    have ej : (j : Int) - 1 = ((j - 1 : Nat) : Int) := by omega
    have hlt : (j : Int) < (((tsC c mv).map (fun x => (x.2, x.1))).length : Int) := by omega
    have hp := List.pairwise_iff_getElem.1 hpw (j - 1) j (by omega) hj (by omega)
    rw [law_ChangeTasks_l3]
    simp (disch := omega) only [hlt, if_true, ck_ok, bs, ej, geti_W hj', geti_W hj1, List.getElem_map]
    generalize (tsC c mv)[j - 1] = x at hp
    generalize (tsC c mv)[j] = y at hp
    obtain ⟨xb, xv⟩ := x
    obtain ⟨yb, yv⟩ := y
    simp only at hp
    have hck : ck ((j : Int) + 1) = some ((j : Int) + 1) := ck_ok (by omega) (by omega)
    cases xb <;> cases yb
    · have : ¬ yv ≤ xv := by have := hp.2 rfl; omega
      simp [this, hck, bs]
    · simp [hck, bs]
    · have := hp.1 rfl; cases this
    · have : ¬ yv ≤ xv := by have := hp.2 rfl; omega
      simp [this, hck, bs]
  simp only [h1, h3, bE_k, hd, bs]
end Go.Proofs.Ytfhdclhbdmhnmaa
