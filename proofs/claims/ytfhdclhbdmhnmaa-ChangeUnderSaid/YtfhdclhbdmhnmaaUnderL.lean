/- Plain law: nothing under anything: the law. -/
import Derived.Test.YtfhdclhbdmhnmaaLawW
import Derived.Test.YtfhdclhbdmhnmaaLawT
import Derived.Test.YtfhdclhbdmhnmaaLaw16
import Derived.Test.YtfhdclhbdmhnmaaLawE
namespace Go.Proofs.Ytfhdclhbdmhnmaa
open K Go Go.Proofs

theorem pw_ext' : ∀ {l m : List Int}, l.Pairwise (· < ·) → m.Pairwise (· < ·) → (∀ x, x ∈ l ↔ x ∈ m) → l = m
  | [], [], _, _, _ => rfl
  | [], y :: m, _, _, h => by have := (h y).2 (by simp); simp at this
  | x :: l, [], _, _, h => by have := (h x).1 (by simp); simp at this
  | x :: l, y :: m, hl, hm, h => by
    obtain ⟨h1, h2⟩ := List.pairwise_cons.1 hl
    obtain ⟨h3, h4⟩ := List.pairwise_cons.1 hm
    have hxy : x = y := by
      have a := (h x).1 (by simp)
      have b := (h y).2 (by simp)
      rcases List.mem_cons.1 a with a | a
      · exact a
      · rcases List.mem_cons.1 b with b | b
        · exact b.symm
        · have := h3 x a
          have := h1 y b
          omega
    subst hxy
    congr 1
    refine pw_ext' h2 h4 fun z => ?_
    constructor
    · intro hz
      rcases List.mem_cons.1 ((h z).1 (List.mem_cons_of_mem _ hz)) with a | a
      · have := h1 z hz; omega
      · exact a
    · intro hz
      rcases List.mem_cons.1 ((h z).2 (List.mem_cons_of_mem _ hz)) with a | a
      · have := h3 z hz; omega
      · exact a
theorem bitsL_pw {s : Int} {n : Nat} : (bitsL s n).Pairwise (· < ·) := by
  unfold bitsL
  rw [List.pairwise_map]
  exact ((List.pairwise_lt_range (n := n)).filter _).imp fun {a b} h => by omega
theorem mem_bitsL {s : Int} {x : Int} {n : Nat} : x ∈ bitsL s n ↔ ∃ i : Nat, i < n ∧ Has s i ∧ x = (i : Int) := by
  unfold bitsL
  simp only [List.mem_map, List.mem_filter, List.mem_range, decide_eq_true_eq]
  constructor
  · rintro ⟨i, ⟨h1, h2⟩, rfl⟩; exact ⟨i, h1, h2, rfl⟩
  · rintro ⟨i, h1, h2, rfl⟩; exact ⟨i, ⟨h1, h2⟩, rfl⟩

theorem pg' : ∀ {l r : List Int}, l.Nodup → (∀ x ∈ l, x ∈ r) → l.length ≤ r.length
  | [], _, _, _ => by simp
  | x :: l, r, hn, hs => by
    obtain ⟨h1, h2⟩ := List.nodup_cons.1 hn
    have hx := hs x (by simp)
    have := pg' (l := l) (r := r.erase x) h2 fun y hy => (List.mem_erase_of_ne (fun e => h1 (by rw [← e]; exact hy))).2 (hs y (List.mem_cons_of_mem _ hy))
    rw [List.length_erase_of_mem hx] at this
    have : 0 < r.length := List.length_pos_of_mem hx
    simp only [List.length_cons]
    omega
theorem pg_all' {l : List Int} {n : Nat} (hn : l.Nodup) (hb : ∀ x ∈ l, 0 ≤ x ∧ x < (n : Int)) (hl : l.length = n) : ∀ x : Nat, x < n → (x : Int) ∈ l := fun x hx => by
  false_or_by_contra
  rename_i hm
  have hr : ∀ y ∈ l, y ∈ ((List.range n).map fun (x : Nat) => (x : Int)).erase (x : Int) := fun y hy => by
    refine (List.mem_erase_of_ne (fun e => hm (by rw [← e]; exact hy))).2 ?_
    have := hb y hy
    exact List.mem_map.2 ⟨y.toNat, by simp; omega, by omega⟩
  have := pg' hn hr
  rw [List.length_erase_of_mem (List.mem_map.2 ⟨x, by simp; omega, rfl⟩)] at this
  simp at this
  omega

/-- Each task has its step in a plan. -/
theorem plan_has {c : dChange} {ts : List (Bool × Int)} {p : List dStep} (hp : cpS c ts p = 0) {w : Bool × Int} (hw : w ∈ ts) : ∃ (j : Nat) (s : dStep), p[j]? = some s ∧ tsk ts s.1 = w := by
  obtain ⟨h1, h2⟩ := cpS_ok hp
  obtain ⟨h3, h4⟩ := cpGo_ok h2
  obtain ⟨t, ht, e⟩ := List.mem_iff_getElem.1 hw
  have hb : ∀ x ∈ p.map (·.1), 0 ≤ x ∧ x < (ts.length : Int) := fun x hx => by
    obtain ⟨s, hs, rfl⟩ := List.mem_map.1 hx
    have := (h3 s hs).1
    exact ⟨this.1, this.2.1⟩
  obtain ⟨s, hs, es⟩ := List.mem_map.1 (pg_all' h4 hb (by simp [h1]) t ht)
  obtain ⟨j, hj⟩ := List.mem_iff_getElem?.1 hs
  refine ⟨j, s, hj, ?_⟩
  rw [tsk, es, Int.toNat_natCast, List.getElem?_eq_getElem ht, e]; rfl

/-- What has to be done before has ended. -/
theorem bef_ended {n : Int} {c : dChange} {mv : List Bool} (hc : VC n c) {p : List dStep} (hp : cpS c (tsC c mv) p = 0) {i k : Nat} {s s' : dStep} (hi : p[i]? = some s) (hk : p[k]? = some s') (hb : befB c (tsk (tsC c mv) s'.1) (tsk (tsC c mv) s.1) = true) :
    eAt c (tsC c mv) p k s' ≤ bAt c (tsC c mv) p i s := by
  obtain ⟨h1, h2⟩ := cpS_ok hp
  obtain ⟨h3, h4⟩ := cpGo_ok h2
  have hS := (h3 s (List.mem_of_getElem? hi)).1
  have hS' := (h3 s' (List.mem_of_getElem? hk)).1
  have l1 : s.1.toNat < (tsC c mv).length := by have := hS.1; have := hS.2.1; omega
  have l2 : s'.1.toNat < (tsC c mv).length := by have := hS'.1; have := hS'.2.1; omega
  have hm : s'.1.toNat ∈ befL c (tsC c mv) s.1.toNat := by
    rw [mem_befL, bef, List.getElem?_eq_getElem l1, List.getElem?_eq_getElem l2]
    simp only
    simpa [tsk, List.getElem?_eq_getElem l1, List.getElem?_eq_getElem l2] using hb
  rcases cpGo_bef h2 hi _ hm with h | ⟨k', s2, hk', hks, e⟩
  · simp at h
  · have hs2 := (h3 s2 (List.mem_of_getElem? hks)).1
    have e1 : s2.1 = s'.1 := by have := hS'.1; omega
    have hkk : k' = k := by
      have a1 : (p.map (·.1))[k']? = some s'.1 := by rw [List.getElem?_map, hks, Option.map_some, e1]
      have a2 : (p.map (·.1))[k]? = some s'.1 := by rw [List.getElem?_map, hk]; rfl
      have hkl : k' < (p.map (·.1)).length := (List.getElem?_eq_some_iff.1 a1).1
      exact (List.getElem?_inj hkl h4).1 (a1.trans a2.symm)
    subst hkk
    have : s2 = s' := by rw [hks] at hk; exact Option.some.inj hk
    subst this
    exact ((bAt_le hc hp hi).1 (Int.le_refl _)).2.2 k' s2 hk' hks hm

/-- What is worn over a thing is changed as well. -/
theorem over_moved {n : Int} {c : dChange} {mv : List Bool} (hc : VC n c) (hF : Fix c mv) {y w : Nat} (hy : In mv y) (hw : (w : Int) ∈ (thg c (y : Int)).1) (hww : (w : Int) ∈ c.2.2.1) : In mv w := by
  have hyl := fix_len hF hy
  have hwl : w < c.1.length := by have := (hc.wears.2 _ hww).2; have := hc.len; omega
  rw [fix_iff hF hwl]
  by_cases hv : (w : Int) ∈ c.2.2.2
  · refine .inr ⟨hww, hv, y, _, List.getElem?_eq_getElem hyl, hy, ?_⟩
    rw [thg_some (List.getElem?_eq_getElem hyl)] at hw
    exact hw
  · exact .inl (.inl ⟨hww, hv⟩)

theorem befB_off {c : dChange} {w v : Int} {b : Bool} (h : w ∈ (thg c v).1) : befB c (false, w) (b, v) = true := by
  unfold befB; simp [h]
theorem befB_on {c : dChange} {w v : Int} {b : Bool} (h : w ∈ (thg c v).1) : befB c (b, v) (true, w) = true := by
  unfold befB; simp [h]

/-- **Nothing is worn over what is changed.** -/
theorem under_worn {n : Int} {c : dChange} {mv : List Bool} (hc : VC n c) (hF : Fix c mv) {p : List dStep} (hp : cpS c (tsC c mv) p = 0) {i : Nat} {s : dStep} (hi : p[i]? = some s) {bar : Int} (h1 : bAt c (tsC c mv) p i s ≤ bar) (h2 : bar < eAt c (tsC c mv) p i s)
    {w : Nat} (hw : wornP c (tsC c mv) p bar w) : (w : Int) ∉ (thg c (tsk (tsC c mv) s.1).2).1 := by
  intro ho
  obtain ⟨_, hgo⟩ := cpS_ok hp
  have hS := ((cpGo_ok hgo).1 s (List.mem_of_getElem? hi)).1
  obtain ⟨y, hy, ey, hm, _⟩ := mem_tsC.1 (tsk_mem hS)
  rcases hw with ⟨hww, hn⟩ | ⟨j, s', hj, ht, he⟩
  · rw [ey] at ho
    have hmw := over_moved hc hF hm ho hww
    obtain ⟨j, s', hj, ht⟩ := plan_has hp (w := (false, (w : Int))) (mem_tsC.2 ⟨w, fix_len hF hmw, rfl, hmw, by simpa using hww⟩)
    refine hn ⟨j, s', hj, ht, ?_⟩
    have := bef_ended hc hp hi hj (by rw [ht]; exact befB_off (v := (tsk (tsC c mv) s.1).2) (b := (tsk (tsC c mv) s.1).1) (by rw [ey]; exact ho))
    have hS' := ((cpGo_ok hgo).1 s' (List.mem_of_getElem? hj)).1
    have hb := (barsB_nonneg hc hS').1
    unfold eAt at this
    omega
  · have := bef_ended hc hp hj hi (by rw [ht]; exact befB_on ho)
    have hS' := ((cpGo_ok hgo).1 s' (List.mem_of_getElem? hj)).1
    have hb := (barsB_nonneg hc hS').1
    unfold eAt at this he h2
    omega
/-- Nor does anything over it come off, or is put on. -/
theorem under_done {n : Int} {c : dChange} {mv : List Bool} (hc : VC n c) {p : List dStep} (hp : cpS c (tsC c mv) p = 0) {i j : Nat} {s s' : dStep} (hi : p[i]? = some s) (hj : p[j]? = some s') {bar : Int} (h1 : bAt c (tsC c mv) p i s ≤ bar) (h2 : bar < eAt c (tsC c mv) p i s)
    (h3 : bAt c (tsC c mv) p j s' ≤ bar) (h4 : bar < eAt c (tsC c mv) p j s') : (tsk (tsC c mv) s'.1).2 ∉ (thg c (tsk (tsC c mv) s.1).2).1 := by
  intro ho
  generalize ht : tsk (tsC c mv) s'.1 = x at ho
  obtain ⟨b, w⟩ := x
  cases b with
  | false =>
    have := bef_ended hc hp hi hj (by rw [ht]; exact befB_off ho)
    omega
  | true =>
    have := bef_ended hc hp hj hi (by rw [ht]; exact befB_on ho)
    omega

theorem worn_lt {n : Int} {c : dChange} {mv : List Bool} (hc : VC n c) {p : List dStep} (hp : cpS c (tsC c mv) p = 0) {bar : Int} {w : Nat} (hw : wornP c (tsC c mv) p bar w) : w < c.1.length := by
  rcases hw with ⟨h, _⟩ | ⟨j, s, hj, ht, _⟩
  · have := (hc.wears.2 _ h).2; have := hc.len; omega
  · have hS := ((cpGo_ok (cpS_ok hp).2).1 s (List.mem_of_getElem? hj)).1
    obtain ⟨y, hy, ey⟩ := tsC_rng _ (tsk_mem hS)
    rw [ht] at ey
    simp only at ey
    omega

theorem bits_eq {n : Int} {c : dChange} {m : Int} {l : List Int} (hc : VC n c) (hl : Asc l n) (h : ∀ i, Has m i ↔ (i : Int) ∈ l) : bitsL m 8 = l := by
  refine pw_ext' bitsL_pw hl.1 fun x => ?_
  rw [mem_bitsL]
  constructor
  · rintro ⟨i, _, h1, rfl⟩; exact (h i).1 h1
  · intro hx
    have := hl.2 x hx
    have := hc.n4
    exact ⟨x.toNat, by omega, (h _).2 (by rw [show ((x.toNat : Nat) : Int) = x by omega]; exact hx), by omega⟩

/-- **Behind the change the singer wears what is wanted.** -/
theorem worn_end {n : Int} {c : dChange} {mv : List Bool} (hc : VC n c) (hF : Fix c mv) {p : List dStep} (hp : cpS c (tsC c mv) p = 0) {bar : Int} (hb : ∀ j s, p[j]? = some s → eAt c (tsC c mv) p j s ≤ bar) (w : Nat) : wornP c (tsC c mv) p bar w ↔ (w : Int) ∈ c.2.2.2 := by
  obtain ⟨_, hgo⟩ := cpS_ok hp
  have hbb : ∀ j s, p[j]? = some s → bAt c (tsC c mv) p j s ≤ bar := fun j s hj => by
    have := hb j s hj
    have := (barsB_nonneg hc ((cpGo_ok hgo).1 s (List.mem_of_getElem? hj)).1).1
    unfold eAt at *
    omega
  constructor
  · rintro (⟨h1, h2⟩ | ⟨j, s, hj, ht, _⟩)
    · false_or_by_contra
      rename_i hv
      have hwl : w < c.1.length := by have := (hc.wears.2 _ h1).2; have := hc.len; omega
      have hm : In mv w := (fix_iff hF hwl).2 (.inl (.inl ⟨h1, hv⟩))
      obtain ⟨j, s, hj, ht⟩ := plan_has hp (w := (false, (w : Int))) (mem_tsC.2 ⟨w, hwl, rfl, hm, by simpa using h1⟩)
      exact h2 ⟨j, s, hj, ht, hbb j s hj⟩
    · have hS := ((cpGo_ok hgo).1 s (List.mem_of_getElem? hj)).1
      obtain ⟨y, hy, ey, hm, hin⟩ := mem_tsC.1 (tsk_mem hS)
      rw [ht] at hin
      simpa using hin
  · intro hv
    have hwl : w < c.1.length := by have := (hc.wants.2 _ hv).2; have := hc.len; omega
    by_cases hm : In mv w
    · obtain ⟨j, s, hj, ht⟩ := plan_has hp (w := (true, (w : Int))) (mem_tsC.2 ⟨w, hwl, rfl, hm, by simpa using hv⟩)
      exact .inr ⟨j, s, hj, ht, hb j s hj⟩
    · have hw : (w : Int) ∈ c.2.2.1 := by
        false_or_by_contra
        rename_i hw
        exact hm ((fix_iff hF hwl).2 (.inl (.inr ⟨hw, hv⟩)))
      refine .inl ⟨hw, ?_⟩
      rintro ⟨j, s, hj, ht, _⟩
      have hS := ((cpGo_ok hgo).1 s (List.mem_of_getElem? hj)).1
      obtain ⟨y, hy, ey, hm', hin⟩ := mem_tsC.1 (tsk_mem hS)
      rw [ht] at ey
      simp only at ey
      have : w = y := by omega
      subst this
      exact hm hm'
/-- **Ahead of it the singer wears what was worn.** -/
theorem worn_start {n : Int} {c : dChange} {mv : List Bool} (hc : VC n c) {p : List dStep} (hp : cpS c (tsC c mv) p = 0) {bar : Int} (hb : ∀ j s, p[j]? = some s → bar < bAt c (tsC c mv) p j s) (w : Nat) : wornP c (tsC c mv) p bar w ↔ (w : Int) ∈ c.2.2.1 := by
  constructor
  · rintro (⟨h1, _⟩ | ⟨j, s, hj, _, he⟩)
    · exact h1
    · have := hb j s hj
      have := (barsB_nonneg hc ((cpGo_ok (cpS_ok hp).2).1 s (List.mem_of_getElem? hj)).1).1
      unfold eAt at he
      omega
  · intro h
    refine .inl ⟨h, ?_⟩
    rintro ⟨j, s, hj, _, he⟩
    have := hb j s hj
    omega

theorem lenS_le' {n : Int} {c : dChange} {mv : List Bool} (hc : VC n c) (ht : (tsC c mv).length ≤ 4) {p : List dStep} (hp : cpS c (tsC c mv) p = 0) : 0 ≤ lenS c (tsC c mv) p ∧ lenS c (tsC c mv) p ≤ 25 ∧ ∀ j s, p[j]? = some s → eAt c (tsC c mv) p j s ≤ lenS c (tsC c mv) p := by
  obtain ⟨h1, hgo⟩ := cpS_ok hp
  obtain ⟨h3, hn⟩ := cpGo_ok hgo
  have hs : ∀ s ∈ p, StepOk c (tsC c mv) s := fun s hs => (h3 s hs).1
  have hB := bge_bnd hc (mv := mv) (p := p) (E := E0) (F := F0 c) (b := 9) hs (fun i => by simp [E0]) (F0_bnd hc)
  have hE : ∀ j s, p[j]? = some s → bge c (tsC c mv) E0 (F0 c) p s.1.toNat = eAt c (tsC c mv) p j s := fun j s hj => by
    have hjl : j < p.length := (List.getElem?_eq_some_iff.1 hj).1
    have := bst_end (c := c) (ts := tsC c mv) (fun s h => (hs s h).1) hn hj (i := p.length) hjl (Nat.le_refl _)
    rw [List.take_length, bst_bge] at this
    exact this
  unfold lenS
  generalize bge c (tsC c mv) E0 (F0 c) p = E at *
  have b0 := hB 0; have b1 := hB 1; have b2 := hB 2; have b3 := hB 3
  unfold maxE
  refine ⟨by simp only [le_imax]; omega, by simp only [imax_le]; omega, fun j s hj => ?_⟩
  rw [← hE j s hj]
  have hS := hs s (List.mem_of_getElem? hj)
  have hx : s.1.toNat = 0 ∨ s.1.toNat = 1 ∨ s.1.toNat = 2 ∨ s.1.toNat = 3 := by have := hS.1; have := hS.2.1; omega
  simp only [le_imax]
  rcases hx with e | e | e | e <;> rw [e] <;> simp

theorem under3_eq {k : Nat} (hk : 50 ≤ k) {n : Int} {c : dChange} {l : dLots} {x27 : dTask} {r37 : (List Int) × Int} (hc : VC n c) {y : Nat} (hy : y < c.1.length) (ex : x27.1 = (y : Int)) (hl : r37.1.length ≤ 8) (h : ∀ w ∈ r37.1, w ∉ (thg c (y : Int)).1) :
    law_ChangeUnder_l3 k (c, l) x27 r37 k 0 = some (.ok ()) := by
  obtain ⟨w1, w2, w3, w4, _⟩ := hc.wl
  refine for_all 0 r37.1.length (fun m j _ hj => ?_) (fun m j _ hj => by rw [law_ChangeUnder_l3]; rw [if_neg (by omega)]) k (by omega)
  have hg := List.getElem?_eq_getElem hy
  have ho := h _ (List.getElem_mem hj)
  rw [thg_some hg] at ho
  obtain ⟨r44, e44, i44⟩ := at_ok (k := k) (l := c.1[y].1) (x := r37.1[j]) (by have := w4 _ (List.getElem_mem hy); omega) (by have := w4 _ (List.getElem_mem hy); omega)
  have hck : ck ((j : Int) + 1) = some ((j : Int) + 1) := ck_ok (by omega) (by omega)
  rw [law_ChangeUnder_l3, if_pos (by omega), ex, geti_W hy, bs, geti_W hj, bs, e44, bs, if_neg (fun h => ho (i44.1 h)), hck, bs]

theorem under4_eq {k : Nat} (hk : 50 ≤ k) {n : Int} {c : dChange} {mv : List Bool} {l l5 : dLots} (hc : VC n c) (ht : (tsC c mv).length ≤ 4) {p : List dStep} (hp : cpS c (tsC c mv) p = 0) {i : Nat} {s : dStep} (hi : p[i]? = some s) {bar : Int} (h1 : bAt c (tsC c mv) p i s ≤ bar) (h2 : bar < eAt c (tsC c mv) p i s) :
    law_ChangeUnder_l4 k (c, l) (p, l5) ((tsC c mv).map (fun x => (x.2, x.1)), 0) (bgo c (tsC c mv) E0 (F0 c) p, 0) (i : Int) ((tsk (tsC c mv) s.1).2, (tsk (tsC c mv) s.1).1) bar k 0 = some (.ok ()) := by
  obtain ⟨hl, hgo⟩ := cpS_ok hp
  have hcp := (cpGo_ok hgo).1
  obtain ⟨w1, w2, w3, w4, _⟩ := hc.wl
  refine for_all 0 p.length (fun m j _ hj => ?_) (fun m j _ hj => by rw [law_ChangeUnder_l4]; rw [if_neg (by simp only; omega)]) k (by omega)
  have hg := List.getElem?_eq_getElem hj
  have hS := (hcp _ (List.getElem_mem hj)).1
  have hSi := (hcp _ (List.mem_of_getElem? hi)).1
  obtain ⟨y, hy, ey⟩ := tsC_rng _ (tsk_mem hSi)
  have hgy := List.getElem?_eq_getElem hy
  have hgb : geti (bgo c (tsC c mv) E0 (F0 c) p) (j : Int) = some (bAt c (tsC c mv) p j p[j]) := geti_q (by omega) (by simpa using bgo_b hg)
  have hb := bAt_bnd hc (fun s hs => (hcp s hs).1) hg (by omega)
  have hbr := barsB_nonneg hc hS
  have hck : ck ((j : Int) + 1) = some ((j : Int) + 1) := ck_ok (by omega) (by omega)
  have hck2 : ck (bAt c (tsC c mv) p j p[j] + barsB c (tsk (tsC c mv) p[j].1)) = some (bAt c (tsC c mv) p j p[j] + barsB c (tsk (tsC c mv) p[j].1)) := ck_ok (by omega) (by omega)
  obtain ⟨r58, e58, i58⟩ := at_ok (k := k) (l := c.1[y].1) (x := (tsk (tsC c mv) p[j].1).2) (by have := w4 _ (List.getElem_mem hy); omega) (by have := w4 _ (List.getElem_mem hy); omega)
  have hgt : geti c.1 (tsk (tsC c mv) s.1).2 = some c.1[y] := by rw [ey]; exact geti_W hy
  rw [law_ChangeUnder_l4]
  simp only
  rw [if_pos (by omega), geti_W hj, bs, tsk_swap hS, bs, hgb, bs]
  simp only [bs, lasts_eq (tsk_mem hS), hck2, hgt, e58]
  have hx : (if ¬ (j : Int) = (i : Int) then (if bAt c (tsC c mv) p j p[j] ≤ bar then (if bar < bAt c (tsC c mv) p j p[j] + barsB c (tsk (tsC c mv) p[j].1) then some (decide ((0 : Int) ≤ r58)) else some false) else some false) else some false) = some false := by
    by_cases a1 : (j : Int) = (i : Int)
    · rw [if_neg (by simpa using a1)]
    · rw [if_pos a1]
      by_cases a2 : bAt c (tsC c mv) p j p[j] ≤ bar
      · rw [if_pos a2]
        by_cases a3 : bar < bAt c (tsC c mv) p j p[j] + barsB c (tsk (tsC c mv) p[j].1)
        · rw [if_pos a3]
          have := under_done hc hp hi hg h1 h2 a2 a3
          rw [ey, thg_some hgy] at this
          rw [decide_eq_false (fun h => this (i58.1 h))]
        · rw [if_neg a3]
      · rw [if_neg a2]
  rw [hx, bs, if_neg (by decide), hck, bs]

theorem under2_eq {k : Nat} (hk : 50 ≤ k) {n : Int} {c : dChange} {mv : List Bool} {q : dQuick} {l l5 : dLots} (hq : QV n c mv q) (hb : chg_begin k c = some (some q, 0)) {p : List dStep} (hp : cpS c (tsC c mv) p = 0) {i : Nat} {s : dStep} (hi : p[i]? = some s) :
    law_ChangeUnder_l2 k (c, l) (p, l5) ((tsC c mv).map (fun x => (x.2, x.1)), 0) (bgo c (tsC c mv) E0 (F0 c) p, 0) (i : Int) ((tsk (tsC c mv) s.1).2, (tsk (tsC c mv) s.1).1) k (bAt c (tsC c mv) p i s) = some (.ok ()) := by
  have hc := hq.vc
  have ht := hq.t4
  obtain ⟨hl, hgo⟩ := cpS_ok hp
  have hcp := (cpGo_ok hgo).1
  have hS := (hcp _ (List.mem_of_getElem? hi)).1
  have hbd := bAt_bnd hc (fun s hs => (hcp s hs).1) hi (by omega)
  have hbr := barsB_nonneg hc hS
  have hgb : geti (bgo c (tsC c mv) E0 (F0 c) p) (i : Int) = some (bAt c (tsC c mv) p i s) := geti_q (by omega) (by simpa using bgo_b hi)
  obtain ⟨y, hy, ey⟩ := tsC_rng _ (tsk_mem hS)
  have he : bAt c (tsC c mv) p i s + barsB c (tsk (tsC c mv) s.1) = eAt c (tsC c mv) p i s := rfl
  have hck2 : ck (bAt c (tsC c mv) p i s + barsB c (tsk (tsC c mv) s.1)) = some (eAt c (tsC c mv) p i s) := ck_ok (by omega) (by omega)
  have key : W (law_ChangeUnder_l2 k (c, l) (p, l5) ((tsC c mv).map (fun x => (x.2, x.1)), 0) (bgo c (tsC c mv) E0 (F0 c) p, 0) (i : Int) ((tsk (tsC c mv) s.1).2, (tsk (tsC c mv) s.1).1) k (bAt c (tsC c mv) p i s)) fun r => r = .ok () := by
    refine W.loop (f := law_ChangeUnder_l2 k (c, l) (p, l5) ((tsC c mv).map (fun x => (x.2, x.1)), 0) (bgo c (tsC c mv) E0 (F0 c) p, 0) (i : Int) ((tsk (tsC c mv) s.1).2, (tsk (tsC c mv) s.1).1)) (fun m y => bAt c (tsC c mv) p i s ≤ y ∧ y ≤ eAt c (tsC c mv) p i s ∧ m = (eAt c (tsC c mv) p i s - y).toNat) ?_ (eAt c (tsC c mv) p i s - bAt c (tsC c mv) p i s).toNat k _ (by omega) ⟨Int.le_refl _, by omega, rfl⟩
    rintro fuel m bar ⟨h1, h2, hm⟩ ih
    unfold law_ChangeUnder_l2
    simp only
    rw [hgb, bs, lasts_eq (tsk_mem hS), bs, hck2, bs]
    refine W.ite (fun hlt => ?_) (fun _ => W.ret rfl)
    obtain ⟨mk, hmk, hmw, ew⟩ := Wearing_ok hk hq hb hp (bar := bar) (by omega)
    rw [ew, bs]
    simp only [not_true_eq_false, if_false]
    rw [under3_eq hk hc hy ey (by have := bitsL_len (s := mk) (j := 8); simpa using this) (fun w hw => ?_), bE_k, under4_eq hk hc ht hp hi h1 hlt, bE_k, ck_ok (by omega) (by omega), bs]
    · exact ih (m - 1) (bar + 1) (by omega) ⟨by omega, by omega, by omega⟩
    · obtain ⟨w', _, hw', rfl⟩ := mem_bitsL.1 hw
      have := under_worn hc hq.fix hp hi h1 hlt ((hmw w').1 hw')
      rw [ey] at this
      exact this
  obtain ⟨r, e, rfl⟩ := key
  exact e

/-- **Nothing under anything.** -/
theorem under_law {k : Nat} (hk : 110 ≤ k) (hd : law_dressed k = some true) (a0 : List Int) : law_ChangeUnder k a0 = some true := by
  have hk5 : 50 ≤ k := by omega
  unfold law_ChangeUnder
  rw [show kit_NewLots k a0 = some (a0, 0, 1) from rfl, bs]
  obtain ⟨⟨c, l⟩, e3, hlo, _, n, mv, q, hc, hb, hq⟩ := lots_ok hk5 (l := (a0, 0, 1)) (m := 0) newLots_ok (by decide)
  simp only at hc hb hq hlo
  have ht := hq.t4
  obtain ⟨w1, w2, w3, w4, _⟩ := hc.wl
  obtain ⟨⟨p, l5⟩, e5, hP, _⟩ := planOf_ok hk5 hc hq.fix ht (l := l) (m := 300) (hlo.mono (by omega)) (by omega)
  simp only at hP
  have hpl := hP.len
  rw [e3, bs]
  simp only
  rw [show ((l.1, l.2.1, l.2.2) : dLots) = l from rfl, e5]
  simp only [bs]
  rw [tasks_eq hk5 hq hb, bs, Begins_eq hk5 hq hb (by omega), Bars_eq hk5 hq hb (by omega)]
  simp only [bs, not_true_eq_false, if_false]
  by_cases h0 : cpS c (tsC c mv) p = 0
  · obtain ⟨hl, hgo⟩ := cpS_ok h0
    have hcp := (cpGo_ok hgo).1
    obtain ⟨n1, n2, n3⟩ := lenS_le' hc ht h0
    have hTl : ((tsC c mv).map fun x => (x.2, x.1)).length = (tsC c mv).length := List.length_map ..
    have hst := sameTasks_self (l := (tsC c mv).map fun x => (x.2, x.1)) (k := k) (by omega) (by omega)
    have hBl : (bgo c (tsC c mv) E0 (F0 c) p).length = p.length := bgo_len'
    have hn1 : ¬ lenS c (tsC c mv) p < 0 := by omega
    have hn2 : ¬ 60 < lenS c (tsC c mv) p := by omega
    simp only [h0, if_true, not_true_eq_false, if_false, decide_true, Bool.not_true, bs, Bool.false_eq_true, hBl, hn1, hn2, tasksOf_eq hk5 hc hq.fix, hst]
    have l1 : law_ChangeUnder_l1 k (c, l) (p, l5) ((tsC c mv).map (fun x => (x.2, x.1)), 0) (bgo c (tsC c mv) E0 (F0 c) p, 0) k 0 = some (.ok ()) := by
      refine for_all 0 p.length (fun m i _ hi => ?_) (fun m i _ hi => by rw [law_ChangeUnder_l1]; rw [if_neg (by simp only; omega)]) k (by omega)
      have hg := List.getElem?_eq_getElem hi
      have hS := (hcp _ (List.getElem_mem hi)).1
      have hgb : geti (bgo c (tsC c mv) E0 (F0 c) p) (i : Int) = some (bAt c (tsC c mv) p i p[i]) := geti_q (by omega) (by simpa using bgo_b hg)
      rw [law_ChangeUnder_l1]
      simp only
      rw [if_pos (by omega), geti_W hi, bs, tsk_swap hS, bs, hgb, bs, under2_eq hk5 hq hb h0 hg, bE_k, ck_ok (by omega) (by omega), bs]
    rw [l1, bE_k]
    obtain ⟨mk, hmk, hmw, ew⟩ := Wearing_ok hk5 hq hb h0 (bar := lenS c (tsC c mv) p) n1
    have hwe : bitsL mk 8 = c.2.2.2 := bits_eq hc hc.wants fun i => (hmw i).trans (worn_end hc hq.fix h0 n3 i)
    rw [ew, hwe, bs]
    simp only [not_true_eq_false, if_false, bs, sameInts_self (l := c.2.2.2) (k := k) (by omega) (by omega), Bool.not_true, Bool.false_eq_true]
    have l5e : W (law_ChangeUnder_l5 k (bgo c (tsC c mv) E0 (F0 c) p, 0) k (100, 0)) fun x => 0 ≤ x ∧ x ≤ 100 ∧ ∀ j s, p[j]? = some s → x ≤ bAt c (tsC c mv) p j s := by
      refine W.loop (f := law_ChangeUnder_l5 k (bgo c (tsC c mv) E0 (F0 c) p, 0)) (fun m y => ∃ i : Nat, y.2 = (i : Int) ∧ i ≤ p.length ∧ m = p.length - i ∧ 0 ≤ y.1 ∧ y.1 ≤ 100 ∧ ∀ j s, j < i → p[j]? = some s → y.1 ≤ bAt c (tsC c mv) p j s) ?_ p.length k (100, 0) (by omega) ⟨0, rfl, by omega, by omega, by simp, by simp, fun j s hj => by omega⟩
      rintro fuel m ⟨x, y⟩ ⟨i, hi, hle, hm, hx0, hx1, hx⟩ ih
      simp only at hi hx0 hx1 hx
      subst hi
      unfold law_ChangeUnder_l5
      dsimp only
      refine W.ite (fun hlt => ?_) (fun hge => W.ret ⟨hx0, hx1, fun j s hj => hx j s (by have := (List.getElem?_eq_some_iff.1 hj).1; omega) hj⟩)
      have hlt' : i < p.length := by omega
      have hg := List.getElem?_eq_getElem hlt'
      have hgb : geti (bgo c (tsC c mv) E0 (F0 c) p) (i : Int) = some (bAt c (tsC c mv) p i p[i]) := geti_q (by omega) (by simpa using bgo_b hg)
      have hbd := bAt_bnd hc (fun s hs => (hcp s hs).1) hg (by omega)
      rw [hgb, bs, ck_ok (by omega) (by omega), bs]
      have him : imin x (bAt c (tsC c mv) p i p[i]) ≤ x ∧ imin x (bAt c (tsC c mv) p i p[i]) ≤ bAt c (tsC c mv) p i p[i] ∧ 0 ≤ imin x (bAt c (tsC c mv) p i p[i]) := by unfold imin; split <;> omega
      refine ih (m - 1) (_, (i : Int) + 1) (by omega) ⟨i + 1, rfl, by omega, by omega, him.2.2, by simp only; omega, fun j s hj hjs => ?_⟩
      by_cases hji : j = i
      · subst hji
        rw [hg] at hjs; cases hjs
        exact him.2.1
      · exact Int.le_trans him.1 (hx j s (by omega) hjs)
    obtain ⟨x66, e66, x0, x1, hx66⟩ := l5e
    rw [e66, bs]
    by_cases hx : 0 < x66
    · have him : 0 ≤ imin (x66 - 1) 50 ∧ ∀ j s, p[j]? = some s → imin (x66 - 1) 50 < bAt c (tsC c mv) p j s := by
        constructor
        · unfold imin; split <;> omega
        · intro j s hj
          have := hx66 j s hj
          unfold imin; split <;> omega
      obtain ⟨mk2, hmk2, hmw2, ew2⟩ := Wearing_ok hk5 hq hb h0 (bar := imin (x66 - 1) 50) him.1
      have hws : bitsL mk2 8 = c.2.2.1 := bits_eq hc hc.wears fun i => (hmw2 i).trans (worn_start hc h0 him.2 i)
      rw [if_pos hx, ck_ok (by omega) (by omega), bs, ew2, hws, bs]
      simp only [not_true_eq_false, if_false, bs, sameInts_self (l := c.2.2.1) (k := k) (by omega) (by omega), Bool.false_eq_true, bE_k, hd]
    · rw [if_neg hx, bE_k, hd, bs]
  · simp only [h0, if_false, not_false_eq_true, if_true, decide_true, Bool.not_true, Bool.false_eq_true]
    rcases plan_err hP with h | h | h | h
    · exact absurd h h0
    · simp [h, hd]
    · simp [h, hd]
    · simp [h, hd]
set_option maxRecDepth 100000 in
theorem dressed120 : law_dressed 120 = some true := by decide +kernel
end Go.Proofs.Ytfhdclhbdmhnmaa
