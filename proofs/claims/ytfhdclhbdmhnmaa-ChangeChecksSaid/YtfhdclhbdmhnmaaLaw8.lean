/- Plain law, part 8: what the program takes to be changed is what has to move. -/
import Derived.Test.YtfhdclhbdmhnmaaLaw7
namespace Go.Proofs.Ytfhdclhbdmhnmaa
open K Go Go.Proofs

/-- How many of the first n are in a set. -/
def cntS (s : Int) (n : Nat) : Nat := (List.range n).countP fun i => decide (Has s i)
theorem cntS_le {s : Int} {n : Nat} : cntS s n ≤ n := by
  have := List.countP_le_length (p := fun i => decide (Has s i)) (l := List.range n)
  simpa [cntS] using this
theorem cntS_mono {s s' : Int} {n : Nat} (h : ∀ i, Has s i → Has s' i) : cntS s n ≤ cntS s' n := by
  unfold cntS
  exact List.countP_mono_left fun i _ hi => decide_eq_true (h i (of_decide_eq_true hi))
theorem cntS_lt {s s' : Int} : ∀ {n : Nat}, (∀ i, Has s i → Has s' i) → (∃ i, i < n ∧ Has s' i ∧ ¬ Has s i) → cntS s n < cntS s' n
  | 0, _, ⟨i, hi, _⟩ => by omega
  | n + 1, h, ⟨i, hi, h1, h2⟩ => by
    have e : ∀ s : Int, cntS s (n + 1) = cntS s n + (if Has s n then 1 else 0) := fun s => by
      unfold cntS
      rw [List.range_succ, List.countP_append]
      by_cases hs : Has s n <;> simp [hs]
    rw [e, e]
    by_cases hin : i = n
    · subst hin
      rw [if_pos h1, if_neg h2]
      have := cntS_mono (n := i) h
      omega
    · have := cntS_lt (n := n) h ⟨i, by omega, h1, h2⟩
      by_cases hs : Has s n
      · rw [if_pos hs, if_pos (h n hs)]; omega
      · rw [if_neg hs]; omega

/-- The set holds what hangs on what it holds. -/
def Follows (c : dChange) (s s' : Int) (j : Nat) : Prop := ∀ (q : Nat) (t : dThing) (i : Nat), q < j → c.1[q]? = some t → Has s q → (i : Int) ∈ t.1 → (i : Int) ∈ c.2.2.1 → (i : Int) ∈ c.2.2.2 → Has s' i

structure Round (c : dChange) (s s' : Int) (j : Nat) : Prop where
  mask : Mask s'
  mono : ∀ i, Has s i → Has s' i
  sound : ∀ C, Shut c C → (∀ i, Has s i → C i) → ∀ i, Has s' i → C i
  follows : Follows c s s' j

/-- What is known of a thing of a valid change. -/
structure VT (n : Int) (i : Nat) (t : dThing) : Prop where
  over : Asc t.1 n
  irr : ¬ (i : Int) ∈ t.1
  off : 1 ≤ t.2.1 ∧ t.2.1 ≤ 4
  put : 1 ≤ t.2.2.1 ∧ t.2.2.1 ≤ 4
  side : 0 ≤ t.2.2.2.1 ∧ t.2.2.2.1 ≤ 2
  due : 0 ≤ t.2.2.2.2 ∧ t.2.2.2.2 ≤ 30

/-- **What is known of a valid change.** -/
structure VC (n : Int) (c : dChange) : Prop where
  n4 : 1 ≤ n ∧ n ≤ 4
  len : (c.1.length : Int) = n
  good : ∀ (j : Nat) t, c.1[j]? = some t → VT n j t
  wears : Asc c.2.2.1 n
  wants : Asc c.2.2.2 n
  dressers : ∀ x ∈ c.2.1, GoodD n x
  dl : 1 ≤ c.2.1.length ∧ c.2.1.length ≤ 3
  chk : ∀ k, 50 ≤ k → chg_Check k c = some 0

/-- A good change is valid, with whatever dressers. -/
theorem vc_of_good {up : Bool} {n : Int} {c : dChange} (hn : 1 ≤ n ∧ n ≤ 4) (hl : (c.1.length : Int) = n) (hg : ∀ (j : Nat) t, c.1[j]? = some t → GoodT up n j t)
    (hw : Asc c.2.2.1 n) (hv : Asc c.2.2.2 n) (hd : ∀ x ∈ c.2.1, GoodD n x) (hdl : 1 ≤ c.2.1.length ∧ c.2.1.length ≤ 3) : VC n c :=
  ⟨hn, hl, fun j t h => ⟨(hg j t h).over.1, fun hj => ((hg j t h).over.2 _ hj).2 rfl, (hg j t h).off, (hg j t h).put, (hg j t h).side, by have := (hg j t h).due; omega⟩, hw, hv, hd, hdl, fun _ hk => check_ok hk hn hl hg hw hv hd hdl⟩

theorem round_ok {k : Nat} (hk : 50 ≤ k) {n : Int} {c : dChange} (hc : VC n c) {r2 r3 s : Int} (h2 : Mask r2 ∧ ∀ i : Nat, Has r2 i ↔ (i : Int) ∈ c.2.2.1) (h3 : Mask r3 ∧ ∀ i : Nat, Has r3 i ↔ (i : Int) ∈ c.2.2.2) (hs : Mask s) :
    W (chg_changed_l2 k c r2 r3 k (s, 0)) fun s' => Round c s s' c.1.length := by
  have hn := hc.n4
  have hl := hc.len
  refine W.loop (f := chg_changed_l2 k c r2 r3) (fun q y => ∃ j : Nat, y.2 = (j : Int) ∧ j ≤ c.1.length ∧ q = c.1.length - j ∧ Round c s y.1 j) ?_ c.1.length k (s, 0) (by omega)
    ⟨0, rfl, by omega, by omega, hs, fun _ h => h, fun C hC h => h, fun q t i hq => by omega⟩
  rintro fuel q ⟨b, y⟩ ⟨j, hj, hle, hq, hR⟩ ih
  simp only at hj hR
  subst hj
  unfold chg_changed_l2
  dsimp only
  refine W.ite (fun hlt => ?_) (fun hge => W.ret (by have : j = c.1.length := by omega
                                                     subst this; exact hR))
  have hlt' : j < c.1.length := by omega
  have hget : c.1[j]? = some c.1[j] := List.getElem?_eq_getElem hlt'
  have hG := hc.good j _ hget
  refine W.bindEB (geti_W hlt') (W.bindEB (has_ok hR.mask (by omega)) (W.iteB (fun hh => ?_) (fun hh => ?_)))
  · have hHas := of_decide_eq_true hh
    have hol := hG.over.len (by omega)
    obtain ⟨r17, e17, m17, d17⟩ := of_set_ok (k := k) hk (l := c.1[j].1) (by omega) (fun x hx => by have := hG.over.2 x hx; omega)
    obtain ⟨m1, d1⟩ := iand_ok m17 h2.1
    obtain ⟨m2, d2⟩ := iand_ok m1 h3.1
    obtain ⟨m3, d3⟩ := ior_ok hR.mask m2
    have hnew : ∀ i, Has (ior .u8 b (iand .u8 (iand .u8 r17 r2) r3)) i ↔ Has b i ∨ ((i : Int) ∈ c.1[j].1 ∧ (i : Int) ∈ c.2.2.1 ∧ (i : Int) ∈ c.2.2.2) := fun i => by
      rw [d3, d2, d1, d17, h2.2, h3.2]
      constructor
      · rintro (h | ⟨⟨a, b⟩, d⟩)
        · exact .inl h
        · exact .inr ⟨a, b, d⟩
      · rintro (h | ⟨a, b, d⟩)
        · exact .inl h
        · exact .inr ⟨⟨a, b⟩, d⟩
    refine W.bindEB e17 (W.sb (W.ck (by omega) (by omega) (ih (q - 1) (_, (j : Int) + 1) (by omega) ⟨j + 1, ?_, by omega, by omega, m3, fun i hi => (hnew i).2 (.inl (hR.mono i hi)), fun C hC h0 i hi => ?_, fun q' t i hq' ht hs' ho hw hv => ?_⟩)))
    · show (j : Int) + 1 = ((j + 1 : Nat) : Int)
      omega
    · rcases (hnew i).1 hi with h | ⟨a, b', d⟩
      · exact hR.sound C hC h0 i h
      · have hin : i < c.1.length := by have := (hc.wears.2 _ b').2; omega
        exact hC i hin (.inr ⟨b', d, j, c.1[j], hget, hR.sound C hC h0 j hHas, a⟩)
    · refine (hnew i).2 ?_
      by_cases hqj : q' < j
      · exact .inl (hR.follows q' t i hqj ht hs' ho hw hv)
      · have : q' = j := by omega
        subst this
        have : t = c.1[q'] := Option.some.inj (ht.symm.trans hget)
        subst this
        exact .inr ⟨ho, hw, hv⟩
  · refine W.sb (W.ck (by omega) (by omega) (ih (q - 1) (b, (j : Int) + 1) (by omega) ⟨j + 1, ?_, by omega, by omega, hR.mask, hR.mono, hR.sound, fun q' t i hq' ht hs' ho hw hv => ?_⟩))
    · show (j : Int) + 1 = ((j + 1 : Nat) : Int)
      omega
    · by_cases hqj : q' < j
      · exact hR.follows q' t i hqj ht hs' ho hw hv
      · have : q' = j := by omega
        subst this
        exact absurd (decide_eq_true (hR.mono q' hs')) hh

/-- What is changed. -/
structure Chg (c : dChange) (s : Int) : Prop where
  mask : Mask s
  sound : ∀ C, Shut c C → ∀ i, Has s i → C i
  shut : Shut c (Has s)

theorem changed_ok {k : Nat} (hk : 50 ≤ k) {n : Int} {c : dChange} (hc : VC n c) : W (chg_changed k c) (Chg c) := by
  have hn := hc.n4
  have hl := hc.len
  have hwl := hc.wears.len (by omega)
  have hvl := hc.wants.len (by omega)
  obtain ⟨r2, e2, h2⟩ := of_set_ok (k := k) hk (l := c.2.2.1) (by omega) (fun x hx => by have := hc.wears.2 x hx; omega)
  obtain ⟨r3, e3, h3⟩ := of_set_ok (k := k) hk (l := c.2.2.2) (by omega) (fun x hx => by have := hc.wants.2 x hx; omega)
  obtain ⟨m0, d0⟩ := ixor_ok h2.1 h3.1
  have hx0 : ∀ i : Nat, Has (ixor .u8 r2 r3) i ↔ (((i : Int) ∈ c.2.2.1 ∧ ¬ (i : Int) ∈ c.2.2.2) ∨ (¬ (i : Int) ∈ c.2.2.1 ∧ (i : Int) ∈ c.2.2.2)) := fun i => by rw [d0, h2.2, h3.2]
  have small : ∀ i : Nat, (i : Int) ∈ c.2.2.1 ∨ (i : Int) ∈ c.2.2.2 → i < c.1.length := fun i h => by
    rcases h with h | h
    · have := (hc.wears.2 _ h).2; omega
    · have := (hc.wants.2 _ h).2; omega
  unfold chg_changed
  refine W.bindE e2 (W.bindE e3 (W.bind (R := Chg c) ?_ fun s h => W.ret h))
  refine W.loop (f := chg_changed_l1 k c r2 r3) (fun q y => ∃ j : Nat, y.2 = (j : Int) ∧ j ≤ c.1.length ∧ q = c.1.length - j ∧ Mask y.1 ∧ (∀ i, Has (ixor .u8 r2 r3) i → Has y.1 i) ∧ (∀ C, Shut c C → ∀ i, Has y.1 i → C i) ∧
      (Follows c y.1 y.1 c.1.length ∨ j + 1 ≤ cntS y.1 c.1.length)) ?_ c.1.length k _ (by omega)
    ⟨0, rfl, by omega, by omega, m0, fun _ h => h, fun C hC i hi => ?_, ?_⟩
  · rintro fuel q ⟨s, y⟩ ⟨j, hj, hle, hq, hm, hb, hsd, hor⟩ ih
    simp only at hj hm hb hsd hor
    subst hj
    unfold chg_changed_l1
    dsimp only
    refine W.ite (fun hlt => ?_) (fun hge => W.ret ⟨hm, hsd, fun i hi hF => ?_⟩)
    · refine W.bind (round_ok hk hc h2 h3 hm) fun s' hR => W.ck (by omega) (by omega) (ih (q - 1) (s', (j : Int) + 1) (by omega) ⟨j + 1, ?_, by omega, by omega, hR.mask, fun i hi => hR.mono i (hb i hi), fun C hC => hR.sound C hC (hsd C hC), ?_⟩)
      · show (j : Int) + 1 = ((j + 1 : Nat) : Int)
        omega
      · by_cases hsame : ∀ i, i < c.1.length → Has s' i → Has s i
        · -- nothing new: it is closed
          refine .inl fun q' t i hq' ht hs' ho hw hv => ?_
          have h1 := hsame q' hq' hs'
          exact hR.follows q' t i hq' ht h1 ho hw hv
        · have hex : ∃ i, i < c.1.length ∧ Has s' i ∧ ¬ Has s i := by
            false_or_by_contra
            rename_i hno
            refine hsame fun i hi hsi => ?_
            false_or_by_contra
            rename_i hns
            exact hno ⟨i, hi, hsi, hns⟩
          have hlt2 := cntS_lt hR.mono hex
          rcases hor with hcl | hcn
          · exfalso
            obtain ⟨i, hi, h1, h2'⟩ := hex
            refine h2' ?_
            -- s is closed, so all of s' is in s
            have hsh : Shut c (Has s) := fun i hi hF => by
              rcases hF with hF | ⟨a, b, q', t, ht, hq', ho⟩
              · exact hb i ((hx0 i).2 hF)
              · have hq'' : q' < c.1.length := by
                  rcases Nat.lt_or_ge q' c.1.length with h | h
                  · exact h
                  · rw [List.getElem?_eq_none h] at ht; cases ht
                exact hcl q' t i hq'' ht hq' ho a b
            exact hR.sound (Has s) hsh (fun _ h => h) i h1
          · exact .inr (by show j + 1 + 1 ≤ cntS s' c.1.length; omega)
    · have hj' : j = c.1.length := by omega
      subst hj'
      have hcl : Follows c s s c.1.length := by
        rcases hor with h | h
        · exact h
        · have := cntS_le (s := s) (n := c.1.length); omega
      rcases hF with hF | ⟨a, b, q', t, ht, hq', ho⟩
      · exact hb i ((hx0 i).2 hF)
      · have hq'' : q' < c.1.length := by
          rcases Nat.lt_or_ge q' c.1.length with h | h
          · exact h
          · rw [List.getElem?_eq_none h] at ht; cases ht
        exact hcl q' t i hq'' ht hq' ho a b
  · have h := (hx0 i).1 hi
    exact hC i (small i (h.elim (fun h => .inl h.1) (fun h => .inr h.2))) (.inl h)
  · by_cases he : ∃ i, Has (ixor .u8 r2 r3) i
    · obtain ⟨i, hi⟩ := he
      have hil := small i (((hx0 i).1 hi).elim (fun h => .inl h.1) (fun h => .inr h.2))
      refine .inr ?_
      show 0 + 1 ≤ cntS (ixor .u8 r2 r3) c.1.length
      have h0 : ∀ i, ¬ Has 0 i := fun i h => by simp [Has] at h
      have := cntS_lt (s := 0) (s' := ixor .u8 r2 r3) (n := c.1.length) (fun i h => absurd h (h0 i)) ⟨i, hil, hi, h0 i⟩
      omega
    · exact .inl fun q' t i hq' ht hs' _ _ _ => absurd ⟨q', hs'⟩ he

/-- Both ways of counting come to the same things. -/
theorem chg_fix {c : dChange} {s : Int} {mv : List Bool} (h : Chg c s) (hf : Fix c mv) (i : Nat) : Has s i ↔ In mv i :=
  ⟨fun hi => h.sound (In mv) hf.shut i hi, fun hi => hf.sound (Has s) h.shut i hi⟩
end Go.Proofs.Ytfhdclhbdmhnmaa
