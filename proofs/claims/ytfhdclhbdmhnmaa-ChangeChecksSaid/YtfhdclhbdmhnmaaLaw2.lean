/- Plain law, part 2: what is in a list; the tasks of a change, as the law's kit counts them. -/
import Derived.Test.YtfhdclhbdmhnmaaLaw1
namespace Go.Proofs.Ytfhdclhbdmhnmaa
open K Go Go.Proofs

theorem at_ok {k : Nat} {l : List Int} {x : Int} (hk : l.length < k) (hl : l.length ≤ 1000000) : W (kit_At k l x) fun r => (0 ≤ r ↔ x ∈ l) := by
  unfold kit_At
  have key := W.loop (f := kit_At_l1 k l x) (Q := fun r => match r with | .error e => 0 ≤ e ∧ x ∈ l | .ok _ => x ∉ l)
    (fun m y => 0 ≤ y ∧ y ≤ l.length ∧ m = l.length - y.toNat ∧ ∀ j : Nat, (j : Int) < y → l[j]? ≠ some x) (fun fuel m y hI ih => by
      obtain ⟨h0, h1, hm, hj⟩ := hI
      unfold kit_At_l1
      refine W.ite (fun hlt => W.at_ h0 hlt fun v hv => W.ite (fun e => W.ret ⟨h0, ?_⟩) (fun e => W.ck (by omega) (by omega) (ih (m - 1) _ (by omega) ⟨by omega, by omega, by omega, fun j hjy => ?_⟩))) (fun hge => W.ret ?_)
      · rw [← e]; exact List.mem_of_getElem? hv
      · by_cases hjy' : (j : Int) < y
        · exact hj j hjy'
        · have : j = y.toNat := by omega
          subst this
          rw [hv]
          exact fun h => e (Option.some.inj h)
      · intro hx
        obtain ⟨j, hj'⟩ := List.mem_iff_getElem?.1 hx
        have : j < l.length := by
          rcases Nat.lt_or_ge j l.length with h | h
          · exact h
          · rw [List.getElem?_eq_none h] at hj'; cases hj'
        exact hj j (by omega) hj')
  refine W.bEE (key l.length k 0 hk ⟨Int.le_refl 0, by omega, by simp, fun j hj => by omega⟩) (fun e he => W.ret ⟨fun _ => he.2, fun _ => he.1⟩) (fun _ ho => W.ret ⟨fun h => by omega, fun h => absurd h ho⟩)

/-- The thing i has to move, where those of M do. -/
def Forced (c : dChange) (M : Nat → Prop) (i : Nat) : Prop :=
  ((((i : Int) ∈ c.2.2.1) ∧ ¬ ((i : Int) ∈ c.2.2.2)) ∨ (¬ ((i : Int) ∈ c.2.2.1) ∧ ((i : Int) ∈ c.2.2.2))) ∨
  ((i : Int) ∈ c.2.2.1 ∧ (i : Int) ∈ c.2.2.2 ∧ ∃ (k : Nat) (t : dThing), c.1[k]? = some t ∧ M k ∧ (i : Int) ∈ t.1)

/-- Small enough for all that is done with it. -/
structure Small (c : dChange) : Prop where
  things : c.1.length ≤ 8
  over : ∀ t ∈ c.1, t.1.length ≤ 8
  wears : c.2.2.1.length ≤ 8
  wants : c.2.2.2.length ≤ 8

abbrev In (mv : List Bool) (i : Nat) : Prop := mv[i]? = some true

theorem due_ok {k : Nat} (hk : 50 ≤ k) {c : dChange} {mv : List Bool} {again : Bool} {i : Nat} (hs : Small c) (hmv : mv.length = c.1.length) {d0 : Bool} :
    W (kit_TasksOf_l3 k c (mv, again, (i : Int)) k (d0, 0)) fun d => (d = true ↔ d0 = true ∨ ((i : Int) ∈ c.2.2.1 ∧ (i : Int) ∈ c.2.2.2 ∧ ∃ (q : Nat) (t : dThing), c.1[q]? = some t ∧ In mv q ∧ (i : Int) ∈ t.1)) := by
  have h8 := hs.things
  refine W.loop (f := kit_TasksOf_l3 k c (mv, again, (i : Int))) (fun m y => 0 ≤ y.2 ∧ y.2 ≤ c.1.length ∧ m = c.1.length - y.2.toNat ∧
      (y.1 = true ↔ d0 = true ∨ ((i : Int) ∈ c.2.2.1 ∧ (i : Int) ∈ c.2.2.2 ∧ ∃ (q : Nat) (t : dThing), (q : Int) < y.2 ∧ c.1[q]? = some t ∧ In mv q ∧ (i : Int) ∈ t.1))) ?_ c.1.length k (d0, 0) (by omega)
    ⟨Int.le_refl 0, by simp, by simp, ⟨fun h => .inl h, fun h => h.elim id fun ⟨_, _, q, _, hq, _⟩ => by simp only at hq; omega⟩⟩
  rintro fuel m ⟨d, y⟩ ⟨h0, h1, hm, hd⟩ ih
  simp only at h0 h1 hm hd ih
  unfold kit_TasksOf_l3
  -- what ends the loop
  have fin : (¬ y < (c.1.length : Int) ∨ ¬ ((i : Int) ∈ c.2.2.1 ∧ (i : Int) ∈ c.2.2.2)) → (d = true ↔ d0 = true ∨ ((i : Int) ∈ c.2.2.1 ∧ (i : Int) ∈ c.2.2.2 ∧ ∃ (q : Nat) (t : dThing), c.1[q]? = some t ∧ In mv q ∧ (i : Int) ∈ t.1)) := by
    intro hc
    rw [hd]
    constructor
    · rintro (h | ⟨a, b, q, t, _, h2, h3, h4⟩)
      · exact .inl h
      · exact .inr ⟨a, b, q, t, h2, h3, h4⟩
    · rintro (h | ⟨a, b, q, t, h2, h3, h4⟩)
      · exact .inl h
      · refine .inr ⟨a, b, q, t, ?_, h2, h3, h4⟩
        have hq : q < c.1.length := by
          rcases Nat.lt_or_ge q c.1.length with h | h
          · exact h
          · rw [List.getElem?_eq_none h] at h2; cases h2
        rcases hc with hc | hc
        · omega
        · exact absurd ⟨a, b⟩ hc
  have goes : y < (c.1.length : Int) → (i : Int) ∈ c.2.2.1 → (i : Int) ∈ c.2.2.2 → W ((if d = true then some true else (geti mv y).bind fun x26 => if x26 = true then (geti c.1 y).bind fun x27 => (kit_At k x27.1 (i : Int)).bind fun r28 => some (decide (0 ≤ r28)) else some false).bind fun x24 =>
      (K.ck (y + 1)).bind fun x29 => kit_TasksOf_l3 k c (mv, again, (i : Int)) fuel (x24, x29)) fun d => (d = true ↔ d0 = true ∨ ((i : Int) ∈ c.2.2.1 ∧ (i : Int) ∈ c.2.2.2 ∧ ∃ (q : Nat) (t : dThing), c.1[q]? = some t ∧ In mv q ∧ (i : Int) ∈ t.1)) := by
    intro hlt hw hv
    have next : ∀ e : Bool, (e = true ↔ d = true ∨ ∃ t, c.1[y.toNat]? = some t ∧ In mv y.toNat ∧ (i : Int) ∈ t.1) → W ((K.ck (y + 1)).bind fun x29 => kit_TasksOf_l3 k c (mv, again, (i : Int)) fuel (e, x29)) fun d => (d = true ↔ d0 = true ∨ ((i : Int) ∈ c.2.2.1 ∧ (i : Int) ∈ c.2.2.2 ∧ ∃ (q : Nat) (t : dThing), c.1[q]? = some t ∧ In mv q ∧ (i : Int) ∈ t.1)) := by
      intro e he
      refine W.ck (by omega) (by omega) (ih (m - 1) (e, y + 1) (by omega) ⟨by simp only; omega, by simp only; omega, by simp only; omega, ?_⟩)
      simp only
      rw [he, hd]
      constructor
      · rintro ((h | ⟨a, b, q, t, h1, h2, h3, h4⟩) | ⟨t, h2, h3, h4⟩)
        · exact .inl h
        · exact .inr ⟨a, b, q, t, by omega, h2, h3, h4⟩
        · exact .inr ⟨hw, hv, y.toNat, t, by omega, h2, h3, h4⟩
      · rintro (h | ⟨a, b, q, t, h1, h2, h3, h4⟩)
        · exact .inl (.inl h)
        · by_cases hq : (q : Int) < y
          · exact .inl (.inr ⟨a, b, q, t, hq, h2, h3, h4⟩)
          · have : q = y.toNat := by omega
            subst this
            exact .inr ⟨t, h2, h3, h4⟩
    refine W.iteB (fun hdt => next true ⟨fun _ => .inl hdt, fun _ => rfl⟩) (fun hdf => ?_)
    cases hg : geti mv y with
    | none => exfalso; rw [geti, if_pos h0, List.getElem?_eq_getElem (by omega)] at hg; cases hg
    | some b =>
      have hb : mv[y.toNat]? = some b := by rw [geti, if_pos h0] at hg; exact hg
      show W ((if b = true then _ else _ : Option Bool).bind _) _
      refine W.iteB (fun hbt => ?_) (fun hbf => next false ⟨fun h => (by cases h), fun h => h.elim (fun h => absurd h hdf) fun ⟨t, _, h3, _⟩ => by have : some b = some true := hb.symm.trans h3; exact absurd (Option.some.inj this) hbf⟩)
      cases hc : geti c.1 y with
      | none => exfalso; rw [geti, if_pos h0, List.getElem?_eq_getElem (by omega)] at hc; cases hc
      | some t =>
        have ht : c.1[y.toNat]? = some t := by rw [geti, if_pos h0] at hc; exact hc
        have hto := hs.over t (List.mem_of_getElem? ht)
        obtain ⟨r, hr, hri⟩ := at_ok (k := k) (l := t.1) (x := (i : Int)) (by omega) (by omega)
        show W (((kit_At k t.1 (i : Int)).bind fun r28 => some (decide (0 ≤ r28))).bind _) _
        rw [hr]
        refine next (decide (0 ≤ r)) ⟨fun h => .inr ⟨t, ht, by rw [In, hb, hbt], hri.1 (of_decide_eq_true h)⟩, fun h => ?_⟩
        rcases h with h | ⟨t', ht', _, hi⟩
        · exact absurd h hdf
        · have : t = t' := Option.some.inj (ht.symm.trans ht')
          subst this
          exact decide_eq_true (hri.2 hi)
  obtain ⟨r1, e1, i1⟩ := at_ok (k := k) (l := c.2.2.1) (x := (i : Int)) (by have := hs.wears; omega) (by have := hs.wears; omega)
  obtain ⟨r2, e2, i2⟩ := at_ok (k := k) (l := c.2.2.2) (x := (i : Int)) (by have := hs.wants; omega) (by have := hs.wants; omega)
  refine W.iteB (fun hlt => ?_) (fun hge => ?_)
  · rw [e1]
    show W ((if 0 ≤ r1 then _ else _ : Option Bool).bind _) _
    refine W.iteB (fun hr1 => ?_) (fun hr1 => ?_)
    · rw [e2]
      show W (if decide (0 ≤ r2) = true then _ else _) _
      refine W.ite (fun hr2 => goes hlt (i1.1 hr1) (i2.1 (of_decide_eq_true hr2))) (fun hr2 => W.ret (fin (.inr fun h => hr2 (decide_eq_true (i2.2 h.2)))))
    · exact W.ret (fin (.inr fun h => hr1 (i1.2 h.1)))
  · exact W.ret (fin (.inl hge))
end Go.Proofs.Ytfhdclhbdmhnmaa
