/- Plain law: the plan that is made of the lots. -/
import Derived.Test.YtfhdclhbdmhnmaaLaw13
namespace Go.Proofs.Ytfhdclhbdmhnmaa
open K Go Go.Proofs

theorem mixed_ok {k : Nat} (hk : 50 ≤ k) {l : dLots} {m : Int} {n : Nat} (hl : Lo l m) (hm : 0 ≤ m ∧ m ≤ 1000) (hn : n ≤ 8) : W (kit_Lots_Mixed k l (n : Int)) fun r => Lo r.2 (m + 10) ∧ r.1.length = n ∧ ∀ x ∈ r.1, 0 ≤ x ∧ x < (n : Int) := by
  unfold kit_Lots_Mixed
  refine W.bind (R := fun r => Lo (r.2.1, r.2.2.1, r.2.2.2) (m + 10) ∧ r.1.length = n ∧ ∀ x ∈ r.1, 0 ≤ x ∧ x < (n : Int)) ?_ fun r h => W.ret h
  refine W.loop (f := kit_Lots_Mixed_l1 k (n : Int)) (fun q y => ∃ j : Nat, y.2.2.2.2 = (j : Int) ∧ j ≤ n ∧ q = n - j ∧ Lo (y.1, y.2.1, y.2.2.1) (m + j) ∧ y.2.2.2.1.length = j ∧ ∀ x ∈ y.2.2.2.1, 0 ≤ x ∧ x < (n : Int)) ?_ n k _ (by omega)
    ⟨0, rfl, by omega, by omega, by simpa using hl, rfl, by simp⟩
  rintro fuel q ⟨nums, d, s, o, y⟩ ⟨j, hj, hle, hq, hlo, hlen, hx⟩ ih
  simp only at hj hlo hlen hx
  subst hj
  unfold kit_Lots_Mixed_l1
  dsimp only
  refine W.ite (fun hlt => ?_) (fun hge => W.ret ⟨hlo.mono (by omega), by show o.length = n; omega, hx⟩)
  obtain ⟨r5, e5, a5, b5, c5⟩ := upto_ok (k := k) (n := (j : Int)) hlo (by omega) (by omega)
  have b5 := b5 (by omega)
  have ho : (o ++ [(j : Int)]).length = j + 1 := by simp [hlen]
  have hr5 : r5.1.toNat < (o ++ [(j : Int)]).length := by omega
  have hmem : ∀ x ∈ o ++ [(j : Int)], 0 ≤ x ∧ x < (n : Int) := fun x hx' => by
    rcases List.mem_append.1 hx' with h | h
    · exact hx x h
    · simp only [List.mem_singleton] at h; omega
  rw [e5, bs, chk_ok (okLen_of (by simp only [List.length_cons, List.length_nil]; omega)), bs, geti_at a5 hr5, bs, geti_W (by omega), bs]
  have hgs : geti (List.set (o ++ [(j : Int)]) (Int.toNat (j : Int)) (o ++ [(j : Int)])[r5.1.toNat]) r5.1 = some ((List.set (o ++ [(j : Int)]) (Int.toNat (j : Int)) (o ++ [(j : Int)])[r5.1.toNat])[r5.1.toNat]'(by rw [List.length_set]; exact hr5)) := geti_at a5 (by rw [List.length_set]; exact hr5)
  rw [hgs, bs, ck_ok (by omega) (by omega), bs]
  refine ih (q - 1) (_, _, _, _, (j : Int) + 1) (by omega) ⟨j + 1, by show (j : Int) + 1 = ((j + 1 : Nat) : Int); omega, by omega, by omega, c5.mono (by omega), by simp [hlen], fun x hx' => ?_⟩
  rcases List.mem_or_eq_of_mem_set hx' with h | h
  · rcases List.mem_or_eq_of_mem_set h with h | h
    · exact hmem x h
    · subst h; exact hmem _ (List.getElem_mem hr5)
  · subst h; omega

theorem met_ok {k : Nat} (hk : 50 ≤ k) {y6 : (List Int) × Int × Int × (List dStep)} {y21 : Bool × Int} (hl : y6.2.2.2.length ≤ 8) : W (kit_PlanOf_l4 k y6 y21 k (false, 0)) fun b => (b = true ↔ ∃ s ∈ y6.2.2.2, s.1 = y21.2) := by
  refine W.loop (f := kit_PlanOf_l4 k y6 y21) (fun m y => ∃ j : Nat, y.2 = (j : Int) ∧ j ≤ y6.2.2.2.length ∧ m = y6.2.2.2.length - j ∧ (y.1 = true ↔ ∃ s ∈ y6.2.2.2.take j, s.1 = y21.2)) ?_ y6.2.2.2.length k (false, 0) (by omega) ⟨0, rfl, by omega, by omega, by simp⟩
  rintro fuel m ⟨b, y⟩ ⟨j, hj, hle, hm, hb⟩ ih
  simp only at hj hb
  subst hj
  have o1 : j < y6.2.2.2.length → m - 1 < m ∧ m - 1 = y6.2.2.2.length - (j + 1) ∧ j + 1 ≤ y6.2.2.2.length := by clear hb ih; omega
  unfold kit_PlanOf_l4
  dsimp only
  refine W.ite (fun hlt => ?_) (fun hge => W.ret (by
    have : j = y6.2.2.2.length := by clear hb ih; omega
    subst this
    rw [List.take_length] at hb
    exact hb))
  have hlt' : j < y6.2.2.2.length := by clear hb ih; omega
  have hnew : (∃ s ∈ y6.2.2.2.take (j + 1), s.1 = y21.2) ↔ b = true ∨ y6.2.2.2[j].1 = y21.2 := by
    rw [hb, List.take_add_one, List.getElem?_eq_getElem hlt']
    simp only [Option.toList_some, List.mem_append, List.mem_singleton]
    constructor
    · rintro ⟨s, h | rfl, h'⟩
      · exact .inl ⟨s, h, h'⟩
      · exact .inr h'
    · rintro (⟨s, h, h'⟩ | h)
      · exact ⟨s, .inl h, h'⟩
      · exact ⟨_, .inr rfl, h⟩
  have next : ∀ bb : Bool, (bb = true ↔ b = true ∨ y6.2.2.2[j].1 = y21.2) → W ((some bb : Option Bool).bind fun x31 => (ck ((j : Int) + (1 : Int))).bind fun x34 => kit_PlanOf_l4 k y6 y21 fuel (x31, x34)) fun b => (b = true ↔ ∃ s ∈ y6.2.2.2, s.1 = y21.2) := fun bb hbb => by
    rw [bs, ck_ok (by clear hb ih hnew; omega) (by clear hb ih hnew; omega), bs]
    exact ih (m - 1) (bb, (j : Int) + 1) (o1 hlt').1 ⟨j + 1, rfl, (o1 hlt').2.2, (o1 hlt').2.1, by simp only; rw [hbb, hnew]⟩
  by_cases h1 : b = true
  · rw [if_pos h1]; exact next true ⟨fun _ => .inl h1, fun _ => rfl⟩
  · rw [if_neg h1, geti_W hlt', bs]; exact next _ (by rw [decide_eq_true_eq]; exact ⟨fun h => .inr h, fun h => h.elim (absurd · h1) id⟩)

/-- What comes first is looked at: it comes to an answer; a task that is met is not free. -/
theorem free_ok {k : Nat} (hk : 50 ≤ k) {n : Int} {c : dChange} {mv : List Bool} (hc : VC n c) (ht : (tsC c mv).length ≤ 4) {r3 : (List Int) × dLots} {y6 : (List Int) × Int × Int × (List dStep)} {y12 : Int × Int} {x17 : dTask} {o : Nat}
    (hl : y6.2.2.2.length ≤ 8) (h0 : 0 ≤ y12.2) (ho : r3.1[y12.2.toNat]? = some (o : Int)) (hol : o < (tsC c mv).length) (hx : x17 ∈ (tsC c mv).map fun x => (x.2, x.1)) :
    W (kit_PlanOf_l3 k c ((tsC c mv).map fun x => (x.2, x.1)) r3 y6 y12 x17 k (true, 0)) fun b => (b = true → ¬ ∃ s ∈ y6.2.2.2, s.1 = (o : Int)) := by
  obtain ⟨w1, w2, w3, w4, _⟩ := hc.wl
  have rng : ∀ x ∈ (tsC c mv).map (fun x => (x.2, x.1)), ∃ i : Nat, i < c.1.length ∧ x.1 = (i : Int) := fun x hx => by
    obtain ⟨y, hy, rfl⟩ := List.mem_map.1 hx
    exact tsC_rng y hy
  have hTl : ((tsC c mv).map fun x => (x.2, x.1)).length = (tsC c mv).length := List.length_map ..
  generalize (tsC c mv).map (fun x => (x.2, x.1)) = T at *
  obtain ⟨xi, hxi, exi⟩ := rng _ hx
  refine W.loop (f := kit_PlanOf_l3 k c T r3 y6 y12 x17) (fun m y => ∃ j : Nat, y.2 = (j : Int) ∧ j ≤ T.length ∧ m = T.length - j ∧ (o < j → y.1 = true → ¬ ∃ s ∈ y6.2.2.2, s.1 = (o : Int))) ?_ T.length k (true, 0) (by omega) ⟨0, rfl, by omega, by omega, fun h => by omega⟩
  rintro fuel m ⟨b, y⟩ ⟨j, hj, hle, hm, hb⟩ ih
  simp only at hj hb
  subst hj
  have o1 : j < T.length → m - 1 < m ∧ m - 1 = T.length - (j + 1) ∧ j + 1 ≤ T.length := by clear hb ih; omega
  unfold kit_PlanOf_l3
  dsimp only
  refine W.ite (fun hlt => ?_) (fun hge => W.ret fun h => hb (by clear hb ih; omega) h)
  have hlt' : j < T.length := by clear hb ih; omega
  obtain ⟨x27, e27, i27⟩ := met_ok hk (y6 := y6) (y21 := (b, (j : Int))) hl
  obtain ⟨ti, hti, eti⟩ := rng _ (List.getElem_mem hlt')
  have next : ∀ bb : Bool, (bb = true → b = true ∧ (j = o → ¬ x27 = true)) → W ((some bb : Option Bool).bind fun x23 => (ck ((j : Int) + (1 : Int))).bind fun x52 => kit_PlanOf_l3 k c T r3 y6 y12 x17 fuel (x23, x52)) fun b => (b = true → ¬ ∃ s ∈ y6.2.2.2, s.1 = (o : Int)) := fun bb hbb => by
    rw [bs, ck_ok (by clear hb ih i27; omega) (by clear hb ih i27; omega), bs]
    refine ih (m - 1) (bb, (j : Int) + 1) (o1 hlt').1 ⟨j + 1, rfl, (o1 hlt').2.2, (o1 hlt').2.1, fun h1 h2 => ?_⟩
    obtain ⟨h3, h4⟩ := hbb h2
    by_cases hjo : j = o
    · subst hjo
      exact fun h => h4 rfl (i27.2 h)
    · exact hb (by clear hb ih i27; omega) h3
  rw [geti_W hlt', bs, e27, bs, geti_q h0 ho, bs]
  by_cases hjo : (j : Int) = (o : Int)
  · rw [if_pos hjo]
    cases b with
    | false => exact next false (fun h => by cases h)
    | true => exact next (!x27) (fun h => ⟨rfl, fun _ => by simpa using h⟩)
  · rw [if_neg hjo]
    have ga : geti c.1 x17.1 = some (c.1[xi]) := by rw [exi]; exact geti_W hxi
    have gb : geti c.1 T[j].1 = some (c.1[ti]) := by rw [eti]; exact geti_W hti
    obtain ⟨ra, ea, _⟩ := at_ok (k := k) (l := c.1[xi].1) (x := T[j].1) (by have := w4 _ (List.getElem_mem hxi); omega) (by have := w4 _ (List.getElem_mem hxi); omega)
    obtain ⟨rb, eb, _⟩ := at_ok (k := k) (l := c.1[ti].1) (x := x17.1) (by have := w4 _ (List.getElem_mem hti); omega) (by have := w4 _ (List.getElem_mem hti); omega)
    simp only [ga, gb, ea, eb, bs]
    have tot : ∀ X : Option Bool, (∃ z, X = some z) → W (((X.bind fun x38 => if b = true then (if x27 = true then (some true) else (some (!x38))) else (some false)) : Option Bool).bind fun x23 => (ck ((j : Int) + (1 : Int))).bind fun x52 => kit_PlanOf_l3 k c T r3 y6 y12 x17 fuel (x23, x52)) fun b => (b = true → ¬ ∃ s ∈ y6.2.2.2, s.1 = (o : Int)) := by
      rintro X ⟨z, rfl⟩
      rw [bs]
      have hno : j = o → False := fun h => hjo (by rw [h])
      cases b with
      | false => exact next false (fun h => by cases h)
      | true =>
        cases x27 with
        | true => exact next true (fun _ => ⟨rfl, fun h => (hno h).elim⟩)
        | false => exact next (!z) (fun _ => ⟨rfl, fun h => (hno h).elim⟩)
    refine tot _ ?_
    repeat' split
    all_goals exact ⟨_, rfl⟩

theorem pick_ok {k : Nat} (hk : 50 ≤ k) {n : Int} {c : dChange} {mv : List Bool} (hc : VC n c) (ht : (tsC c mv).length ≤ 4) {r3 : (List Int) × dLots} {y6 : (List Int) × Int × Int × (List dStep)} (hl : y6.2.2.2.length ≤ 8) (hrl : r3.1.length ≤ 8) (hr : ∀ x ∈ r3.1, 0 ≤ x ∧ x < ((tsC c mv).length : Int)) :
    W (kit_PlanOf_l2 k c ((tsC c mv).map fun x => (x.2, x.1)) r3 y6 k (-1, 0)) fun x => x < 0 ∨ (0 ≤ x ∧ x < (tsC c mv).length ∧ ¬ ∃ s ∈ y6.2.2.2, s.1 = x) := by
  refine W.loop (f := kit_PlanOf_l2 k c ((tsC c mv).map fun x => (x.2, x.1)) r3 y6) (fun m y => ∃ j : Nat, y.2 = (j : Int) ∧ j ≤ r3.1.length ∧ m = r3.1.length - j ∧ (y.1 < 0 ∨ (0 ≤ y.1 ∧ y.1 < (tsC c mv).length ∧ ¬ ∃ s ∈ y6.2.2.2, s.1 = y.1))) ?_ r3.1.length k (-1, 0) (by omega) ⟨0, rfl, by omega, by omega, .inl (by decide)⟩
  rintro fuel m ⟨x, y⟩ ⟨j, hj, hle, hm, hx⟩ ih
  simp only at hj hx
  subst hj
  have o1 : j < r3.1.length → m - 1 < m ∧ m - 1 = r3.1.length - (j + 1) ∧ j + 1 ≤ r3.1.length := by clear hx ih; omega
  unfold kit_PlanOf_l2
  dsimp only
  refine W.ite (fun hlt => ?_) (fun hge => W.ret hx)
  have hlt' : j < r3.1.length := by clear hx ih; omega
  obtain ⟨o0, o2⟩ := hr _ (List.getElem_mem hlt')
  have hol : r3.1[j].toNat < ((tsC c mv).map fun x => (x.2, x.1)).length := by rw [List.length_map]; clear hx ih; omega
  have e3 : r3.1[j]? = some ((r3.1[j].toNat : Nat) : Int) := by rw [List.getElem?_eq_getElem hlt']; congr 1; clear hx ih; omega
  obtain ⟨x19, e19, h19⟩ := free_ok hk hc ht (r3 := r3) (y6 := y6) (y12 := (x, (j : Int))) (o := r3.1[j].toNat) hl (by clear hx ih; show (0 : Int) ≤ (j : Int); omega) (by simpa using e3) (by rw [List.length_map] at hol; exact hol) (List.getElem_mem hol)
  have next : ∀ z : Int, (z < 0 ∨ (0 ≤ z ∧ z < (tsC c mv).length ∧ ¬ ∃ s ∈ y6.2.2.2, s.1 = z)) → W ((some z : Option Int).bind fun x14 => (ck ((j : Int) + (1 : Int))).bind fun x56 => kit_PlanOf_l2 k c ((tsC c mv).map fun x => (x.2, x.1)) r3 y6 fuel (x14, x56)) fun x => x < 0 ∨ (0 ≤ x ∧ x < (tsC c mv).length ∧ ¬ ∃ s ∈ y6.2.2.2, s.1 = x) := fun z hz => by
    rw [bs, ck_ok (by clear hx ih hz; omega) (by clear hx ih hz; omega), bs]
    exact ih (m - 1) (z, (j : Int) + 1) (o1 hlt').1 ⟨j + 1, rfl, (o1 hlt').2.2, (o1 hlt').2.1, hz⟩
  rw [geti_W hlt', bs, geti_at o0 hol, bs, e19, bs]
  cases x19 with
  | false => simp only [Bool.false_eq_true, if_false, bs]; exact (by have := next x hx; rw [bs] at this; exact this)
  | true =>
    simp only [if_true, bs]
    by_cases hx0 : x < 0
    · simp only [hx0, decide_true, if_true, bs]
      have hz : r3.1[j] < 0 ∨ (0 ≤ r3.1[j] ∧ r3.1[j] < (tsC c mv).length ∧ ¬ ∃ s ∈ y6.2.2.2, s.1 = r3.1[j]) := by
        refine .inr ⟨o0, o2, fun h => h19 rfl ?_⟩
        obtain ⟨s, hs, e⟩ := h
        exact ⟨s, hs, by rw [e]; clear hx ih; omega⟩
      have := next _ hz
      rw [bs] at this
      exact this
    · simp only [hx0, decide_false, Bool.false_eq_true, if_false, bs]
      exact (by have := next x hx; rw [bs] at this; exact this)

theorem dres_ok {k : Nat} (hk : 50 ≤ k) {n : Int} {c : dChange} {mv : List Bool} (hc : VC n c) {x10 d0 : Int} (h1 : 0 ≤ x10 ∧ x10 < (tsC c mv).length) (hd : 0 ≤ d0 ∧ d0 < c.2.1.length) :
    W (kit_PlanOf_l5 k c ((tsC c mv).map fun x => (x.2, x.1)) x10 k (d0, 0)) fun d => 0 ≤ d ∧ d < c.2.1.length := by
  have hdl := hc.dl
  obtain ⟨_, _, _, _, w5⟩ := hc.wl
  refine W.loop (f := kit_PlanOf_l5 k c ((tsC c mv).map fun x => (x.2, x.1)) x10) (fun m y => ∃ j : Nat, y.2 = (j : Int) ∧ j ≤ c.2.1.length ∧ m = c.2.1.length - j ∧ 0 ≤ y.1 ∧ y.1 < c.2.1.length) ?_ c.2.1.length k (d0, 0) (by omega) ⟨0, rfl, by omega, by omega, hd⟩
  rintro fuel m ⟨d, y⟩ ⟨j, hj, hle, hm, hd0, hd1⟩ ih
  simp only at hj hd0 hd1
  subst hj
  unfold kit_PlanOf_l5
  dsimp only
  refine W.ite (fun hlt => ?_) (fun hge => W.ret ⟨hd0, hd1⟩)
  have hml : x10.toNat < ((tsC c mv).map fun x => (x.2, x.1)).length := by rw [List.length_map]; omega
  obtain ⟨w, hw, ew⟩ := List.mem_map.1 (List.getElem_mem hml)
  obtain ⟨i, hi, ei⟩ := tsC_rng w hw
  have hdn : d.toNat < c.2.1.length := by omega
  have e1 : ((tsC c mv).map fun x => (x.2, x.1))[x10.toNat].1 = (i : Int) := by rw [← ew]; exact ei
  obtain ⟨r70, e70, _⟩ := at_ok (k := k) (l := c.2.1[d.toNat].1) (x := (i : Int)) (by have := w5 _ (List.getElem_mem hdn); omega) (by have := w5 _ (List.getElem_mem hdn); omega)
  rw [geti_at hd0 hdn, bs, geti_at h1.1 hml, bs]
  simp only [e1]
  rw [geti_W hi, bs]
  simp only [bs, e70, e1]
  have tot : ∀ X : Option Bool, (∃ z, X = some z) → W (X.bind fun x67 => if x67 = true then (some d) else ((ck (d + (1 : Int))).bind fun x71 =>
    (chkP ((c.2.1.length : Int) ≠ 0)).bind fun _ =>
    (ck ((j : Int) + (1 : Int))).bind fun x73 =>
    kit_PlanOf_l5 k c ((tsC c mv).map fun x => (x.2, x.1)) x10 fuel (Int.tmod x71 (c.2.1.length : Int), x73))) fun d => 0 ≤ d ∧ d < c.2.1.length := by
    rintro X ⟨z, rfl⟩
    rw [bs]
    cases z with
    | true => rw [if_pos rfl]; exact W.ret ⟨hd0, hd1⟩
    | false =>
      rw [if_neg (by simp), ck_ok (by omega) (by omega), bs, chk_ok (by omega), bs, ck_ok (by omega) (by omega), bs]
      have h2 : Int.tmod (d + 1) (c.2.1.length : Int) = (d + 1) % (c.2.1.length : Int) := Int.tmod_eq_emod_of_nonneg (by omega)
      have h3 := Int.emod_nonneg (d + 1) (show (c.2.1.length : Int) ≠ 0 by omega)
      have h4 := Int.emod_lt_of_pos (d + 1) (show (0 : Int) < (c.2.1.length : Int) by omega)
      rw [h2]
      exact ih (m - 1) (_, (j : Int) + 1) (by omega) ⟨j + 1, rfl, by omega, by omega, h3, h4⟩
  refine tot _ ?_
  repeat' split
  all_goals exact ⟨_, rfl⟩

/-- **The plan that is made of the lots.** -/
structure PlanOk (c : dChange) (ts : List (Bool × Int)) (p : List dStep) : Prop where
  len : p.length ≤ ts.length
  ok : ∀ s ∈ p, StepOk c ts s
  once : (p.map (·.1)).Nodup

theorem planOf_ok {k : Nat} (hk : 50 ≤ k) {n : Int} {c : dChange} {mv : List Bool} (hc : VC n c) (hF : Fix c mv) (ht : (tsC c mv).length ≤ 4) {l : dLots} {m : Int} (hl : Lo l m) (hm : 0 ≤ m ∧ m ≤ 900) :
    W (kit_PlanOf k l c) fun r => PlanOk c (tsC c mv) r.1 ∧ Lo r.2 (m + 20) := by
  have hdl := hc.dl
  unfold kit_PlanOf
  rw [tasksOf_eq hk hc hF, bs, List.length_map]
  obtain ⟨r3, e3, h3, h3l, h3x⟩ := mixed_ok hk (l := l) (m := m) (n := (tsC c mv).length) hl (by omega) (by omega)
  rw [show ((l.1, l.2.1, l.2.2) : dLots) = l from rfl, e3, bs]
  have key : W (kit_PlanOf_l1 k c ((tsC c mv).map fun x => (x.2, x.1)) r3 k (r3.2.1, r3.2.2.1, r3.2.2.2, ([] : List dStep))) fun r => match r with
      | .error e => PlanOk c (tsC c mv) e.1 ∧ Lo e.2 (m + 20)
      | .ok e => PlanOk c (tsC c mv) e.1 ∧ Lo (e.2.1, e.2.2.1, e.2.2.2) (m + 20) := by
    refine W.loop (f := kit_PlanOf_l1 k c ((tsC c mv).map fun x => (x.2, x.1)) r3) (fun q y => ∃ j : Nat, y.2.2.2.length = j ∧ q = (tsC c mv).length - j ∧ Lo (y.1, y.2.1, y.2.2.1) (m + 10 + j) ∧ PlanOk c (tsC c mv) y.2.2.2) ?_ (tsC c mv).length k _ (by omega)
      ⟨0, rfl, by omega, h3.mono (by omega), by simp, by simp, by simp⟩
    rintro fuel q ⟨nums, dr, s, out⟩ ⟨j, hj, hq, hlo, hP⟩ ih
    simp only at hj hlo hP
    have hPl := hP.len
    unfold kit_PlanOf_l1
    dsimp only
    rw [List.length_map]
    refine W.ite (fun hlt => ?_) (fun hge => W.ret ⟨hP, hlo.mono (by omega)⟩)
    obtain ⟨x10, e10, h10⟩ := pick_ok hk hc ht (r3 := r3) (y6 := (nums, dr, s, out)) (by show out.length ≤ 8; omega) (by omega) h3x
    simp only at h10
    rw [e10, bs]
    by_cases hx0 : x10 < 0
    · rw [if_pos hx0, bE_e]
      exact W.ret ⟨hP, hlo.mono (by omega)⟩
    · rw [if_neg hx0, ck_ok (by omega) (by omega), bs]
      obtain ⟨hxa, hxb, hxc⟩ := h10.resolve_left hx0
      obtain ⟨r58, e58, a58, b58, c58⟩ := upto_ok (k := k) (l := (nums, dr, s)) (n := (c.2.1.length : Int) - 1) hlo (by omega) (by omega)
      have b58 := b58 (by omega)
      obtain ⟨x59, e59, h59⟩ := dres_ok hk (mv := mv) hc (x10 := x10) (d0 := r58.1) ⟨hxa, hxb⟩ (by omega)
      rw [e58, bs, e59, bs, chk_ok (okLen_of (by simp only [List.length_cons, List.length_nil]; omega)), bs, bE_k]
      refine ih (q - 1) (_, _, _, out ++ [(x10, x59)]) (by omega) ⟨j + 1, by simp [hj], by omega, c58.mono (by omega), ?_, fun st hst => ?_, ?_⟩
      · simp only [List.length_append, List.length_cons, List.length_nil]; omega
      · rcases List.mem_append.1 hst with h | h
        · exact hP.ok st h
        · simp only [List.mem_singleton] at h
          subst h
          exact ⟨hxa, hxb, h59.1, h59.2⟩
      · simp only [List.map_append, List.map_cons, List.map_nil]
        refine List.nodup_append.2 ⟨hP.once, by simp, fun a ha b hb => ?_⟩
        simp only [List.mem_singleton] at hb
        subst hb
        obtain ⟨st, hst, rfl⟩ := List.mem_map.1 ha
        exact fun e => hxc ⟨st, hst, e⟩
  obtain ⟨r, er, hr⟩ := key
  rw [er]
  cases r with
  | error e => rw [bE_e]; exact W.ret hr
  | ok e => rw [bE_k]; exact W.ret hr

/-- A plan of this kind has few errors. -/
theorem plan_err {c : dChange} {ts : List (Bool × Int)} {p : List dStep} (h : PlanOk c ts p) : cpS c ts p = 0 ∨ cpS c ts p = 8 ∨ cpS c ts p = 5 ∨ cpS c ts p = 7 := by
  have hl := h.len
  have key : ∀ (p : List dStep) (done : List Int), (∀ s ∈ p, StepOk c ts s ∧ s.1 ∉ done) → (p.map (·.1)).Nodup → cpGo c ts done p = 0 ∨ cpGo c ts done p = 8 ∨ cpGo c ts done p = 5 := by
    intro p
    induction p with
    | nil => intro done _ _; exact .inl rfl
    | cons s p ih =>
      intro done h1 h2
      obtain ⟨⟨a, b, d, e⟩, hd⟩ := h1 s (by simp)
      simp only [List.map_cons, List.nodup_cons] at h2
      have hr := ih (done ++ [s.1]) (fun x hx => ⟨(h1 x (by simp [hx])).1, fun hm => by
        rcases List.mem_append.1 hm with hm | hm
        · exact (h1 x (by simp [hx])).2 hm
        · simp only [List.mem_singleton] at hm
          exact h2.1 (List.mem_map.2 ⟨x, hx, hm⟩)⟩) h2.2
      rw [cpGo]
      have hs : stepErr c ts done s = 0 ∨ stepErr c ts done s = 8 ∨ stepErr c ts done s = 5 := by
        unfold stepErr
        rw [if_neg (by omega), if_neg hd, if_neg (by omega)]
        split
        · exact .inr (.inl rfl)
        · split
          · exact .inr (.inr rfl)
          · exact .inl rfl
      by_cases h0 : stepErr c ts done s = 0
      · rw [if_neg (by simp [h0])]; exact hr
      · rw [if_pos h0]; exact hs
  unfold cpS
  by_cases h1 : p.length < ts.length
  · rw [if_pos h1]; exact .inr (.inr (.inr rfl))
  · rw [if_neg h1, if_neg (by omega)]
    rcases key p [] (fun s hs => ⟨h.ok s hs, by simp⟩) h.once with h | h | h
    · exact .inl h
    · exact .inr (.inl h)
    · exact .inr (.inr (.inl h))
end Go.Proofs.Ytfhdclhbdmhnmaa
