/- Plain law, part 18: no thing lies over itself; the error of any change. -/
import Derived.Test.YtfhdclhbdmhnmaaLaw17
namespace Go.Proofs.Ytfhdclhbdmhnmaa
open K Go Go.Proofs

/-- One thing lies directly over the other one. -/
def Stp (c : dChange) (i j : Nat) : Prop := ∃ t, c.1[i]? = some t ∧ (j : Int) ∈ t.1
inductive Rch (c : dChange) : Nat → Nat → Prop where
  | one {i j : Nat} : Stp c i j → Rch c i j
  | cons {i k j : Nat} : Stp c i k → Rch c k j → Rch c i j
theorem Rch.lt {c : dChange} {i j : Nat} (h : Rch c i j) : i < c.1.length := by
  cases h with
  | one h => obtain ⟨t, h, _⟩ := h; exact (List.getElem?_eq_some_iff.1 h).1
  | cons h _ => obtain ⟨t, h, _⟩ := h; exact (List.getElem?_eq_some_iff.1 h).1
theorem Rch.snoc {c : dChange} {i k j : Nat} (h : Rch c i k) (h' : Stp c k j) : Rch c i j := by
  induction h with
  | one h => exact .cons h (.one h')
  | cons h _ ih => exact .cons h (ih h')

/-- What is known of the lists of things over things. -/
structure OverV (c : dChange) : Prop where
  n : 1 ≤ c.1.length ∧ c.1.length ≤ 4
  rng : ∀ t ∈ c.1, (∀ x ∈ t.1, 0 ≤ x ∧ x < (c.1.length : Int)) ∧ t.1.length ≤ 20

/-- What lies over things, so far. -/
structure Abo (c : dChange) (ab : List Int) : Prop where
  len : ab.length = 4
  mask : ∀ (i : Nat) s, ab[i]? = some s → Mask s
  sound : ∀ (i : Nat) s x, ab[i]? = some s → Has s x → Rch c i x

abbrev InA (ab : List Int) (i x : Nat) : Prop := ∃ s, ab[i]? = some s ∧ Has s x

theorem ab4_ok {k : Nat} (hk : 50 ≤ k) {c : dChange} (hV : OverV c) {i : Nat} {t : dThing} {ab0 abx : List Int} (hi : c.1[i]? = some t) (hA : Abo c ab0) :
    W (chg_checkThings_l4 k (abx, (i : Int)) t k (ab0, 0)) fun r => Abo c r ∧ (∀ a x, InA ab0 a x → InA r a x) ∧ ∀ o : Nat, (o : Int) ∈ t.1 → InA r i o ∧ ∀ x, InA ab0 o x → InA r i x := by
  obtain ⟨hrng, hl20⟩ := hV.rng t (List.mem_of_getElem? hi)
  have hn := hV.n
  have hil : i < c.1.length := (List.getElem?_eq_some_iff.1 hi).1
  refine W.loop (f := chg_checkThings_l4 k (abx, (i : Int)) t) (fun q y => ∃ j : Nat, y.2 = (j : Int) ∧ j ≤ t.1.length ∧ q = t.1.length - j ∧ Abo c y.1 ∧ (∀ a x, InA ab0 a x → InA y.1 a x) ∧ ∀ o : Nat, (o : Int) ∈ t.1.take j → InA y.1 i o ∧ ∀ x, InA ab0 o x → InA y.1 i x) ?_ t.1.length k (ab0, 0) (by omega)
    ⟨0, rfl, by omega, by omega, hA, fun _ _ h => h, fun o h => by simp at h⟩
  rintro fuel q ⟨b, y⟩ ⟨j, hj, hle, hq, hB, hmono, hdone⟩ ih
  simp only at hj hB hmono hdone
  subst hj
  unfold chg_checkThings_l4
  dsimp only
  refine W.ite (fun hlt => ?_) (fun hge => W.ret (by
    have : j = t.1.length := by omega
    subst this
    rw [List.take_length] at hdone
    exact ⟨hB, hmono, hdone⟩))
  have hlt' : j < t.1.length := by omega
  have hx := hrng t.1[j] (List.getElem_mem hlt')
  obtain ⟨o, ho⟩ : ∃ o : Nat, t.1[j] = (o : Int) := ⟨t.1[j].toNat, by omega⟩
  have hib : i < b.length := by rw [hB.len]; omega
  have hob : o < b.length := by rw [hB.len]; omega
  have hst : Stp c i o := ⟨t, hi, by rw [← ho]; exact List.getElem_mem hlt'⟩
  have mi := hB.mask i _ (List.getElem?_eq_getElem hib)
  have mo := hB.mask o _ (List.getElem?_eq_getElem hob)
  obtain ⟨s, es, m3, d3⟩ := of_set_ok (k := k) hk (l := [(o : Int)]) (by simp) (fun x h => by simp only [List.mem_singleton] at h; subst h; omega)
  obtain ⟨m4, d4⟩ := ior_ok mo m3
  obtain ⟨m5, d5⟩ := ior_ok mi m4
  rw [geti_W hlt', bs, ho, chk_ok (by omega), bs, geti_W hib, bs, chk_ok (by omega), bs, geti_W hob, bs, es, bs, bs, ck_ok (by omega) (by omega), bs, Int.toNat_natCast]
  have hnew : ∀ x, Has (ior .u8 b[i] (ior .u8 b[o] s)) x ↔ Has b[i] x ∨ Has b[o] x ∨ x = o := fun x => by
    rw [d5, d4, d3]
    simp only [List.mem_singleton]
    constructor
    · rintro (h | h | h)
      · exact .inl h
      · exact .inr (.inl h)
      · exact .inr (.inr (by omega))
    · rintro (h | h | h)
      · exact .inl h
      · exact .inr (.inl h)
      · exact .inr (.inr (by omega))
  have hin : ∀ a x, InA (b.set i (ior .u8 b[i] (ior .u8 b[o] s))) a x ↔ InA b a x ∨ (a = i ∧ (Has b[o] x ∨ x = o)) := fun a x => by
    unfold InA
    rw [List.getElem?_set]
    by_cases hai : i = a
    · subst hai
      rw [if_pos rfl, if_pos hib]
      constructor
      · rintro ⟨s', e, h⟩
        cases e
        rcases (hnew x).1 h with h | h
        · exact .inl ⟨_, List.getElem?_eq_getElem hib, h⟩
        · exact .inr ⟨rfl, h⟩
      · rintro (⟨s', e, h⟩ | ⟨_, h⟩)
        · rw [List.getElem?_eq_getElem hib] at e
          cases e
          exact ⟨_, rfl, (hnew x).2 (.inl h)⟩
        · exact ⟨_, rfl, (hnew x).2 (.inr h)⟩
    · rw [if_neg hai]
      exact ⟨.inl, fun h => h.elim id fun h => absurd h.1.symm hai⟩
  refine ih (q - 1) (_, (j : Int) + 1) (by omega) ⟨j + 1, rfl, by omega, by omega, ⟨by simpa using hB.len, fun a s' h => ?_, fun a s' x h hx' => ?_⟩, fun a x h => (hin a x).2 (.inl (hmono a x h)), fun o' ho' => ?_⟩
  · rw [List.getElem?_set] at h
    by_cases hai : i = a
    · rw [if_pos hai, if_pos hib] at h; cases h; exact m5
    · rw [if_neg hai] at h; exact hB.mask a s' h
  · rcases (hin a x).1 ⟨s', h, hx'⟩ with ⟨s2, h2, h3⟩ | ⟨rfl, h2 | h2⟩
    · exact hB.sound a s2 x h2 h3
    · exact .cons hst (hB.sound o _ x (List.getElem?_eq_getElem hob) h2)
    · subst h2; exact .one hst
  · rw [List.take_add_one, List.getElem?_eq_getElem hlt', Option.toList_some, List.mem_append, List.mem_singleton, ho] at ho'
    rcases ho' with ho' | ho'
    · obtain ⟨h1, h2⟩ := hdone o' ho'
      exact ⟨(hin i o').2 (.inl h1), fun x h => (hin i x).2 (.inl (h2 x h))⟩
    · have : o' = o := by omega
      subst this
      refine ⟨(hin i o').2 (.inr ⟨rfl, .inr rfl⟩), fun x h => ?_⟩
      obtain ⟨s', e, h⟩ := hmono o' x h
      rw [List.getElem?_eq_getElem hob] at e
      cases e
      exact (hin i x).2 (.inr ⟨rfl, .inl h⟩)

theorem ab3_ok {k : Nat} (hk : 50 ≤ k) {c : dChange} (hV : OverV c) {ab0 : List Int} (hA : Abo c ab0) :
    W (chg_checkThings_l3 k c k (ab0, 0)) fun r => Abo c r ∧ (∀ a x, InA ab0 a x → InA r a x) ∧ ∀ i o, Stp c i o → InA r i o ∧ ∀ x, InA ab0 o x → InA r i x := by
  have hn := hV.n
  refine W.loop (f := chg_checkThings_l3 k c) (fun q y => ∃ j : Nat, y.2 = (j : Int) ∧ j ≤ c.1.length ∧ q = c.1.length - j ∧ Abo c y.1 ∧ (∀ a x, InA ab0 a x → InA y.1 a x) ∧ ∀ i o, i < j → Stp c i o → InA y.1 i o ∧ ∀ x, InA ab0 o x → InA y.1 i x) ?_ c.1.length k (ab0, 0) (by omega)
    ⟨0, rfl, by omega, by omega, hA, fun _ _ h => h, fun i o h => by omega⟩
  rintro fuel q ⟨b, y⟩ ⟨j, hj, hle, hq, hB, hmono, hdone⟩ ih
  simp only at hj hB hmono hdone
  subst hj
  unfold chg_checkThings_l3
  dsimp only
  refine W.ite (fun hlt => ?_) (fun hge => W.ret ⟨hB, hmono, fun i o h => hdone i o (by obtain ⟨t, h, _⟩ := h; have := (List.getElem?_eq_some_iff.1 h).1; omega) h⟩)
  have hlt' : j < c.1.length := by omega
  obtain ⟨r, er, hR, hrm, hrd⟩ := ab4_ok hk hV (abx := b) (List.getElem?_eq_getElem hlt') hB
  rw [geti_W hlt', bs, er, bs, ck_ok (by omega) (by omega), bs]
  refine ih (q - 1) (r, (j : Int) + 1) (by omega) ⟨j + 1, rfl, by omega, by omega, hR, fun a x h => hrm a x (hmono a x h), fun i o hi h => ?_⟩
  by_cases hij : i = j
  · subst hij
    obtain ⟨t, ht, ho⟩ := h
    rw [List.getElem?_eq_getElem hlt'] at ht
    cases ht
    obtain ⟨h1, h2⟩ := hrd o ho
    exact ⟨h1, fun x hx => h2 x (hmono o x hx)⟩
  · obtain ⟨h1, h2⟩ := hdone i o (by omega) h
    exact ⟨hrm i o h1, fun x hx => hrm i x (h2 x hx)⟩

/-- How many of the first n things have x over them. -/
def cntA (ab : List Int) (x n : Nat) : Nat := (List.range n).countP fun i => match ab[i]? with | some s => decide (Has s x) | none => false
theorem cntA_lt {ab ab' : List Int} {x : Nat} (h : ∀ i, InA ab i x → InA ab' i x) : ∀ {n : Nat}, cntA ab x n ≤ cntA ab' x n ∧ ((∃ i, i < n ∧ InA ab' i x ∧ ¬ InA ab i x) → cntA ab x n < cntA ab' x n)
  | 0 => ⟨by simp [cntA], fun ⟨i, hi, _⟩ => by omega⟩
  | n + 1 => by
    obtain ⟨h1, h2⟩ := cntA_lt h (n := n)
    have e : ∀ ab : List Int, cntA ab x (n + 1) = cntA ab x n + (if (match ab[n]? with | some s => decide (Has s x) | none => false) = true then 1 else 0) := fun ab => by
      unfold cntA
      rw [List.range_succ, List.countP_append, List.countP_singleton]
    have hin : ∀ ab : List Int, (match ab[n]? with | some s => decide (Has s x) | none => false) = true ↔ InA ab n x := fun ab => by
      unfold InA
      cases ab[n]? with
      | none => simp
      | some s => simp
    have hm := h n
    rw [e, e]
    by_cases a : InA ab n x
    · rw [if_pos ((hin ab).2 a), if_pos ((hin ab').2 (hm a))]
      refine ⟨by omega, fun ⟨i, hi, b, d⟩ => ?_⟩
      by_cases hin' : i = n
      · subst hin'; exact absurd a d
      · have := h2 ⟨i, by omega, b, d⟩; omega
    · rw [if_neg (fun h => a ((hin ab).1 h))]
      by_cases a' : InA ab' n x
      · rw [if_pos ((hin ab').2 a')]
        exact ⟨by omega, fun _ => by omega⟩
      · rw [if_neg (fun h => a' ((hin ab').1 h))]
        refine ⟨by omega, fun ⟨i, hi, b, d⟩ => ?_⟩
        by_cases hin' : i = n
        · subst hin'; exact absurd b a'
        · have := h2 ⟨i, by omega, b, d⟩; omega
theorem cntA_full {ab : List Int} {x : Nat} : ∀ {n : Nat}, cntA ab x n ≤ n ∧ (n ≤ cntA ab x n → ∀ i, i < n → InA ab i x)
  | 0 => ⟨by simp [cntA], fun _ i hi => by omega⟩
  | n + 1 => by
    obtain ⟨h1, h2⟩ := cntA_full (ab := ab) (x := x) (n := n)
    have e : cntA ab x (n + 1) = cntA ab x n + (if (match ab[n]? with | some s => decide (Has s x) | none => false) = true then 1 else 0) := by
      unfold cntA
      rw [List.range_succ, List.countP_append, List.countP_singleton]
    have hin : (match ab[n]? with | some s => decide (Has s x) | none => false) = true ↔ InA ab n x := by
      unfold InA
      cases ab[n]? with
      | none => simp
      | some s => simp
    rw [e]
    by_cases a : InA ab n x
    · rw [if_pos (hin.2 a)]
      refine ⟨by omega, fun h i hi => ?_⟩
      by_cases hi' : i = n
      · subst hi'; exact a
      · exact h2 (by omega) i (by omega)
    · rw [if_neg (fun h => a (hin.1 h))]
      exact ⟨by omega, fun h => by omega⟩

/-- What lies over things, in the end. -/
theorem ab2_ok {k : Nat} (hk : 50 ≤ k) {c : dChange} (hV : OverV c) : W (chg_checkThings_l2 k c k ([0, 0, 0, 0], 0)) fun r => Abo c r ∧ ∀ i x, Rch c i x → InA r i x := by
  have hn := hV.n
  have h0 : Abo c [0, 0, 0, 0] := ⟨rfl, fun i s h => by
    have := List.mem_of_getElem? h
    simp only [List.mem_cons, List.not_mem_nil, or_false, or_self] at this
    subst this
    exact ⟨by decide, by decide⟩, fun i s x h hx => by
    have := List.mem_of_getElem? h
    simp only [List.mem_cons, List.not_mem_nil, or_false, or_self] at this
    subst this
    simp [Has] at hx⟩
  refine W.loop (f := chg_checkThings_l2 k c) (fun q y => ∃ j : Nat, y.2 = (j : Int) ∧ j ≤ c.1.length ∧ q = c.1.length - j ∧ Abo c y.1 ∧ ∀ x, (∀ i, Rch c i x → InA y.1 i x) ∨ j ≤ cntA y.1 x c.1.length) ?_ c.1.length k _ (by omega)
    ⟨0, rfl, by omega, by omega, h0, fun x => .inr (by omega)⟩
  rintro fuel q ⟨b, y⟩ ⟨j, hj, hle, hq, hB, hor⟩ ih
  simp only at hj hB hor
  subst hj
  unfold chg_checkThings_l2
  dsimp only
  refine W.ite (fun hlt => ?_) (fun hge => W.ret ⟨hB, fun i x h => ?_⟩)
  · obtain ⟨r, er, hR, hrm, hrd⟩ := ab3_ok hk hV hB
    rw [er, bs, ck_ok (by omega) (by omega), bs]
    refine ih (q - 1) (r, (j : Int) + 1) (by omega) ⟨j + 1, rfl, by omega, by omega, hR, fun x => ?_⟩
    simp only
    rcases hor x with h | h
    · exact .inl fun i hi => hrm i x (h i hi)
    · by_cases hnew : ∃ i, i < c.1.length ∧ InA r i x ∧ ¬ InA b i x
      · have := (cntA_lt (n := c.1.length) (fun i => hrm i x)).2 hnew
        exact .inr (by omega)
      · -- nothing new: all of it
        have hsame : ∀ i, i < c.1.length → InA r i x → InA b i x := fun i hi h => by
          false_or_by_contra
          rename_i hb
          exact hnew ⟨i, hi, h, hb⟩
        refine .inl fun i hi => ?_
        have key : ∀ {i z : Nat}, Rch c i z → z = x → InA r i x := fun {i z} hr => by
          induction hr with
          | one hst => intro e; rw [← e]; exact (hrd _ _ hst).1
          | cons hst h' ih' => intro e; exact (hrd _ _ hst).2 x (hsame _ (Rch.lt h') (ih' e))
        exact key hi rfl
  · have hjn : j = c.1.length := by omega
    subst hjn
    rcases hor x with h' | h'
    · exact h' i h
    · exact cntA_full.2 h' i h.lt

theorem ab5_ok {k : Nat} (hk : 50 ≤ k) {c : dChange} (hV : OverV c) {ab : List Int} (hA : Abo c ab) (hc : ∀ i x, Rch c i x → InA ab i x) {b : Bool} (hb : b = true ↔ ∃ i, Rch c i i) : chg_checkThings_l5 k c ab k 0 = some (if b = true then .error 9 else .ok ()) := by
  have hn := hV.n
  have step : ∀ m (j : Nat), j < c.1.length → (Rch c j j → chg_checkThings_l5 k c ab (m + 1) (j : Int) = some (.error 9)) ∧ (¬ Rch c j j → chg_checkThings_l5 k c ab (m + 1) (j : Int) = chg_checkThings_l5 k c ab m ((j : Int) + 1)) := fun m j hj => by
    have hjb : j < ab.length := by rw [hA.len]; omega
    have hg := List.getElem?_eq_getElem hjb
    have hm := hA.mask j _ hg
    have hiff : Has ab[j] j ↔ Rch c j j := ⟨fun h => hA.sound j _ j hg h, fun h => by
      obtain ⟨s, e, h⟩ := hc j j h
      rw [hg] at e; cases e; exact h⟩
    rw [chg_checkThings_l5, if_pos (by omega), chk_ok (by omega), bs, geti_W hjb, bs, has_ok hm (by omega), bs]
    constructor
    · intro h; rw [decide_eq_true (hiff.2 h), if_pos rfl]
    · intro h; rw [decide_eq_false (fun h' => h (hiff.1 h')), if_neg (by decide), ck_ok (by omega) (by omega), bs]
  cases b with
  | true =>
    obtain ⟨i, hi⟩ := hb.1 rfl
    obtain ⟨m, hm, hmin⟩ : ∃ m, Rch c m m ∧ ∀ j, j < m → ¬ Rch c j j := by
      have : ∀ i, Rch c i i → ∃ m, Rch c m m ∧ ∀ j, j < m → ¬ Rch c j j := by
        intro i
        induction i using Nat.strongRecOn with
        | _ i ih =>
          intro hi
          by_cases h : ∃ j, j < i ∧ Rch c j j
          · obtain ⟨j, h1, h2⟩ := h; exact ih j h1 h2
          · exact ⟨i, hi, fun j h1 h2 => h ⟨j, h1, h2⟩⟩
      exact this i hi
    rw [if_pos rfl]
    exact for_find c.1.length m hm.lt (fun n j hj => (step n j (by have := hm.lt; omega)).2 (hmin j hj)) (fun n => (step n m hm.lt).1 hm) k (by omega)
  | false =>
    rw [if_neg (by decide)]
    exact for_all 0 c.1.length (fun n j _ hj => (step n j hj).2 fun h => by have := hb.2 ⟨j, h⟩; cases this) (fun n j _ hj => by rw [chg_checkThings_l5, if_neg (by omega)]) k (by omega)

/-! The reference's way. -/
theorem rg3_ok {k : Nat} (hk : 50 ≤ k) {c : dChange} (hV : OverV c) {a i : Nat} {t : dThing} {ov0 ovx : List Bool} (hi : c.1[i]? = some t) (hl : ov0.length = c.1.length) (hs : ∀ j, In ov0 j → Rch c a j) (hai : i = a ∨ In ov0 i) :
    W (ref_ring_l3 k c (ovx, (i : Int)) k (ov0, 0)) fun r => r.length = c.1.length ∧ (∀ j, In r j → Rch c a j) ∧ (∀ j, In ov0 j → In r j) ∧ ∀ o, Stp c i o → In r o := by
  obtain ⟨hrng, hl20⟩ := hV.rng t (List.mem_of_getElem? hi)
  have hil : i < c.1.length := (List.getElem?_eq_some_iff.1 hi).1
  have hg : geti c.1 (i : Int) = some t := geti_q (by omega) (by simpa using hi)
  have hrch : ∀ o : Nat, (o : Int) ∈ t.1 → Rch c a o := fun o ho => by
    rcases hai with rfl | h
    · exact .one ⟨t, hi, ho⟩
    · exact (hs i h).snoc ⟨t, hi, ho⟩
  refine W.loop (f := ref_ring_l3 k c (ovx, (i : Int))) (fun q y => ∃ j : Nat, y.2 = (j : Int) ∧ j ≤ t.1.length ∧ q = t.1.length - j ∧ y.1.length = c.1.length ∧ (∀ j, In y.1 j → Rch c a j) ∧ (∀ j, In ov0 j → In y.1 j) ∧ ∀ o : Nat, (o : Int) ∈ t.1.take j → In y.1 o) ?_ t.1.length k (ov0, 0) (by omega)
    ⟨0, rfl, by omega, by omega, hl, hs, fun _ h => h, fun o h => by simp at h⟩
  rintro fuel q ⟨b, y⟩ ⟨j, hj, hle, hq, hbl, hbs, hbm, hbd⟩ ih
  simp only at hj hbl hbs hbm hbd
  subst hj
  unfold ref_ring_l3
  dsimp only
  rw [hg, bs]
  refine W.ite (fun hlt => ?_) (fun hge => W.ret (by
    have : j = t.1.length := by omega
    subst this
    rw [List.take_length] at hbd
    exact ⟨hbl, hbs, hbm, fun o ⟨t', h1, h2⟩ => by rw [hi] at h1; cases h1; exact hbd o h2⟩))
  have hlt' : j < t.1.length := by omega
  have hx := hrng t.1[j] (List.getElem_mem hlt')
  obtain ⟨o, ho⟩ : ∃ o : Nat, t.1[j] = (o : Int) := ⟨t.1[j].toNat, by omega⟩
  have hob : o < b.length := by omega
  rw [bs, geti_W hlt', bs, ho, geti_W hob, bs, ck_ok (by omega) (by omega), bs, Int.toNat_natCast]
  refine ih (q - 1) (_, (j : Int) + 1) (by omega) ⟨j + 1, rfl, by omega, by omega, by simpa using hbl, fun x hx' => ?_, fun x h => (in_set hob).2 (.inr (hbm x h)), fun o' ho' => ?_⟩
  · rcases (in_set hob).1 hx' with rfl | h
    · exact hrch _ (by rw [← ho]; exact List.getElem_mem hlt')
    · exact hbs x h
  · rw [List.take_add_one, List.getElem?_eq_getElem hlt', Option.toList_some, List.mem_append, List.mem_singleton, ho] at ho'
    rcases ho' with h | h
    · exact (in_set hob).2 (.inr (hbd o' h))
    · exact (in_set hob).2 (.inl (by omega))

theorem rg2_ok {k : Nat} (hk : 50 ≤ k) {c : dChange} (hV : OverV c) {a : Nat} {ov0 : List Bool} (hl : ov0.length = c.1.length) (hs : ∀ j, In ov0 j → Rch c a j) :
    W (ref_ring_l2 k c (a : Int) k (ov0, 0)) fun r => r.length = c.1.length ∧ (∀ j, In r j → Rch c a j) ∧ (∀ j, In ov0 j → In r j) ∧ ∀ i o, i = a ∨ In ov0 i → Stp c i o → In r o := by
  have hn := hV.n
  refine W.loop (f := ref_ring_l2 k c (a : Int)) (fun q y => ∃ j : Nat, y.2 = (j : Int) ∧ j ≤ c.1.length ∧ q = c.1.length - j ∧ y.1.length = c.1.length ∧ (∀ j, In y.1 j → Rch c a j) ∧ (∀ j, In ov0 j → In y.1 j) ∧ ∀ i o, i < j → i = a ∨ In ov0 i → Stp c i o → In y.1 o) ?_ c.1.length k (ov0, 0) (by omega)
    ⟨0, rfl, by omega, by omega, hl, hs, fun _ h => h, fun i o h => by omega⟩
  rintro fuel q ⟨b, y⟩ ⟨j, hj, hle, hq, hbl, hbs, hbm, hbd⟩ ih
  simp only at hj hbl hbs hbm hbd
  subst hj
  unfold ref_ring_l2
  dsimp only
  refine W.ite (fun hlt => ?_) (fun hge => W.ret ⟨hbl, hbs, hbm, fun i o h1 h2 => hbd i o (by obtain ⟨t, h, _⟩ := h2; have := (List.getElem?_eq_some_iff.1 h).1; omega) h1 h2⟩)
  have hlt' : j < c.1.length := by omega
  have hjb : j < b.length := by omega
  have hck : ck ((j : Int) + 1) = some ((j : Int) + 1) := ck_ok (by omega) (by omega)
  have hIn : In b j ↔ b[j] = true := by unfold In; rw [List.getElem?_eq_getElem hjb]; simp
  have go : (j = a ∨ In b j) → W (((ref_ring_l3 k c (b, (j : Int)) k (b, (0 : Int))) : Option (List Bool)).bind fun x12 => (ck ((j : Int) + (1 : Int))).bind fun x24 => ref_ring_l2 k c (a : Int) fuel (x12, x24)) fun r => r.length = c.1.length ∧ (∀ j, In r j → Rch c a j) ∧ (∀ j, In ov0 j → In r j) ∧ ∀ i o, i = a ∨ In ov0 i → Stp c i o → In r o := fun hja => by
    obtain ⟨r, er, r1, r2, r3, r4⟩ := rg3_ok hk hV (ovx := b) (List.getElem?_eq_getElem hlt') hbl hbs hja
    rw [er, bs, hck, bs]
    refine ih (q - 1) (r, (j : Int) + 1) (by omega) ⟨j + 1, rfl, by omega, by omega, r1, r2, fun x h => r3 x (hbm x h), fun i o h1 h2 h3 => ?_⟩
    by_cases hij : i = j
    · subst hij; exact r4 o h3
    · exact r3 o (hbd i o (by omega) h2 h3)
  have skip : ¬ (j = a ∨ In b j) → W ((some b : Option (List Bool)).bind fun x12 => (ck ((j : Int) + (1 : Int))).bind fun x24 => ref_ring_l2 k c (a : Int) fuel (x12, x24)) fun r => r.length = c.1.length ∧ (∀ j, In r j → Rch c a j) ∧ (∀ j, In ov0 j → In r j) ∧ ∀ i o, i = a ∨ In ov0 i → Stp c i o → In r o := fun hja => by
    rw [bs, hck, bs]
    refine ih (q - 1) (b, (j : Int) + 1) (by omega) ⟨j + 1, rfl, by omega, by omega, hbl, hbs, hbm, fun i o h1 h2 h3 => ?_⟩
    by_cases hij : i = j
    · subst hij; exact absurd (h2.imp id (hbm i)) hja
    · exact hbd i o (by omega) h2 h3
  by_cases hja : j = a
  · rw [if_neg (by simp [hja]), bs, if_neg (by decide)]; exact go (.inl hja)
  · rw [if_pos (by omega), geti_W hjb, bs, bs]
    by_cases hb : b[j] = true
    · rw [hb, if_neg (by decide)]; exact go (.inr (hIn.2 hb))
    · rw [if_pos (by simpa using hb)]; exact skip (fun h => h.elim hja fun h => hb (hIn.1 h))

theorem cntT_lt {l l' : List Bool} : l.length = l'.length → (∀ j, In l j → In l' j) → cntT l ≤ cntT l' ∧ ((∃ j, In l' j ∧ ¬ In l j) → cntT l < cntT l') := by
  induction l generalizing l' with
  | nil =>
    intro hl _
    cases l' with
    | nil => exact ⟨Nat.le_refl _, fun ⟨j, h, _⟩ => by simp [In] at h⟩
    | cons => simp at hl
  | cons x l ih =>
    intro hl hm
    cases l' with
    | nil => simp at hl
    | cons y l' =>
      obtain ⟨h1, h2⟩ := ih (l' := l') (by simpa using hl) (fun j h => by have := hm (j + 1) (by simpa [In] using h); simpa [In] using this)
      have h0 : x = true → y = true := fun h => by have := hm 0 (by simp [In, h]); simpa [In] using this
      simp only [cntT, List.count_cons] at h1 h2 ⊢
      cases x <;> cases y
      · refine ⟨by simpa using h1, fun ⟨j, a, b⟩ => ?_⟩
        cases j with
        | zero => simp [In] at a
        | succ j => have := h2 ⟨j, by simpa [In] using a, by simpa [In] using b⟩; simpa using this
      · exact ⟨by simp; omega, fun _ => by simp; omega⟩
      · have := h0 rfl; cases this
      · refine ⟨by simpa using h1, fun ⟨j, a, b⟩ => ?_⟩
        cases j with
        | zero => simp [In] at b
        | succ j => have := h2 ⟨j, by simpa [In] using a, by simpa [In] using b⟩; simpa using this
theorem cntT_full {l : List Bool} (h : l.length ≤ cntT l) : ∀ j, j < l.length → In l j := by
  induction l with
  | nil => intro j hj; simp at hj
  | cons x l ih =>
    have hle : cntT l ≤ l.length := List.count_le_length
    simp only [cntT, List.count_cons, List.length_cons] at h hle ih
    cases x with
    | false => simp at h; omega
    | true =>
      intro j hj
      cases j with
      | zero => simp [In]
      | succ j => have := ih (by simp at h; omega) j (by simpa using hj); simpa [In] using this

theorem ring_ok {k : Nat} (hk : 50 ≤ k) {c : dChange} (hV : OverV c) {a : Nat} (ha : a < c.1.length) : W (ref_ring k c (a : Int)) fun r => (r = true ↔ Rch c a a) := by
  have hn := hV.n
  unfold ref_ring
  rw [chk_ok ⟨by omega, okLen_of (by omega)⟩, bs, Int.toNat_natCast]
  have key : W (ref_ring_l1 k c (a : Int) k (List.replicate c.1.length false, (0 : Int))) fun r => r.length = c.1.length ∧ ∀ j, In r j ↔ Rch c a j := by
    refine W.loop (f := ref_ring_l1 k c (a : Int)) (fun q y => ∃ j : Nat, y.2 = (j : Int) ∧ j ≤ c.1.length ∧ q = c.1.length - j ∧ y.1.length = c.1.length ∧ (∀ x, In y.1 x → Rch c a x) ∧ ((∀ x, x < c.1.length → Rch c a x → In y.1 x) ∨ j ≤ cntT y.1)) ?_ c.1.length k _ (by omega)
      ⟨0, rfl, by omega, by omega, by simp, fun x h => (by
        exfalso
        have h : (List.replicate c.1.length false)[x]? = some true := h
        rw [List.getElem?_replicate] at h
        split at h <;> cases h), .inr (by omega)⟩
    rintro fuel q ⟨b, y⟩ ⟨j, hj, hle, hq, hbl, hbs, hor⟩ ih
    simp only at hj hbl hbs hor
    subst hj
    have hlt : ∀ x, Rch c a x → x < c.1.length := fun x h => by
      have key : ∀ {i z : Nat}, Rch c i z → z < c.1.length := fun {i z} hr => by
        induction hr with
        | one h =>
          obtain ⟨t, h1, h2⟩ := h
          have := (hV.rng t (List.mem_of_getElem? h1)).1 _ h2
          omega
        | cons _ _ ih => exact ih
      exact key h
    unfold ref_ring_l1
    dsimp only
    refine W.ite (fun hlt2 => ?_) (fun hge => W.ret ⟨hbl, fun x => ⟨hbs x, fun h => ?_⟩⟩)
    · obtain ⟨r, er, r1, r2, r3, r4⟩ := rg2_ok hk hV hbl hbs
      rw [er, bs, ck_ok (by omega) (by omega), bs]
      refine ih (q - 1) (r, (j : Int) + 1) (by omega) ⟨j + 1, rfl, by omega, by omega, r1, r2, ?_⟩
      simp only
      rcases hor with h | h
      · exact .inl fun x hx hr => r3 x (h x hx hr)
      · by_cases hnew : ∃ x, In r x ∧ ¬ In b x
        · have := (cntT_lt (by rw [hbl, r1]) r3).2 hnew
          exact .inr (by omega)
        · have hsame : ∀ x, In r x → In b x := fun x h => by
            false_or_by_contra
            rename_i hb
            exact hnew ⟨x, h, hb⟩
          refine .inl fun x _ hr => ?_
          have key : ∀ {i z : Nat}, Rch c i z → (i = a ∨ In b i) → In r z := fun {i z} hr => by
            induction hr with
            | one h => intro hi; exact r4 _ _ hi h
            | cons h _ ih' => intro hi; exact ih' (.inr (hsame _ (r4 _ _ hi h)))
          exact key hr (.inl rfl)
    · have hjn : j = c.1.length := by omega
      rcases hor with h' | h'
      · exact h' x (hlt x h) h
      · exact cntT_full (by omega) x (by have := hlt x h; omega)
  obtain ⟨r, er, r1, r2⟩ := key
  have hal : a < r.length := by omega
  rw [er, bs, geti_W hal, bs]
  refine W.ret ?_
  rw [← r2 a]
  unfold In
  rw [List.getElem?_eq_getElem hal]
  simp

theorem rg_ok {k : Nat} (hk : 50 ≤ k) {c : dChange} (hV : OverV c) {b : Bool} (hb : b = true ↔ ∃ i, Rch c i i) : ref_Check_l2 k c k 0 = some (if b = true then .error 9 else .ok ()) := by
  have hn := hV.n
  have step : ∀ m (j : Nat), j < c.1.length → (Rch c j j → ref_Check_l2 k c (m + 1) (j : Int) = some (.error 9)) ∧ (¬ Rch c j j → ref_Check_l2 k c (m + 1) (j : Int) = ref_Check_l2 k c m ((j : Int) + 1)) := fun m j hj => by
    obtain ⟨r, er, hr⟩ := ring_ok hk hV hj
    rw [ref_Check_l2, if_pos (by omega), er, bs]
    constructor
    · intro h; rw [if_pos (hr.2 h)]
    · intro h; rw [if_neg (fun h' => h (hr.1 h')), ck_ok (by omega) (by omega), bs]
  cases b with
  | true =>
    obtain ⟨i, hi⟩ := hb.1 rfl
    obtain ⟨m, hm, hmin⟩ : ∃ m, Rch c m m ∧ ∀ j, j < m → ¬ Rch c j j := by
      have : ∀ i, Rch c i i → ∃ m, Rch c m m ∧ ∀ j, j < m → ¬ Rch c j j := by
        intro i
        induction i using Nat.strongRecOn with
        | _ i ih =>
          intro hi
          by_cases h : ∃ j, j < i ∧ Rch c j j
          · obtain ⟨j, h1, h2⟩ := h; exact ih j h1 h2
          · exact ⟨i, hi, fun j h1 h2 => h ⟨j, h1, h2⟩⟩
      exact this i hi
    rw [if_pos rfl]
    exact for_find c.1.length m hm.lt (fun n j hj => (step n j (by have := hm.lt; omega)).2 (hmin j hj)) (fun n => (step n m hm.lt).1 hm) k (by omega)
  | false =>
    rw [if_neg (by decide)]
    exact for_all 0 c.1.length (fun n j _ hj => (step n j hj).2 fun h => by have := hb.2 ⟨j, h⟩; cases this) (fun n j _ hj => by rw [ref_Check_l2, if_neg (by omega)]) k (by omega)

/-- How many there may be. -/
def szE (n m : Nat) : Int := if n = 0 then 7 else if m < n then 6 else 0
/-- **The error of a change.** -/
def chkS (c : dChange) (ring : Bool) : Int :=
  if ¬ szE c.1.length 4 = 0 then szE c.1.length 4 else if ¬ fstE (thE (c.1.length : Int)) 0 c.1 = 0 then fstE (thE (c.1.length : Int)) 0 c.1 else if ring = true then 9
  else if ¬ szE c.2.1.length 3 = 0 then szE c.2.1.length 3 else if ¬ fstE (drE (c.1.length : Int)) 0 c.2.1 = 0 then fstE (drE (c.1.length : Int)) 0 c.2.1
  else if ¬ lstE (c.1.length : Int) (-1) none c.2.2.1 = 0 then lstE (c.1.length : Int) (-1) none c.2.2.1 else lstE (c.1.length : Int) (-1) none c.2.2.2

theorem sized_eq {k n m : Nat} : chg_sized k (n : Int) (m : Int) = some (szE n m) := by
  unfold chg_sized szE
  by_cases h : n = 0
  · subst h; simp
  · rw [if_neg (by omega), if_neg h]
    by_cases h2 : m < n
    · rw [if_pos (by omega), if_pos h2]
    · rw [if_neg (by omega), if_neg h2]
theorem rsized_eq {k n m : Nat} : ref_sized k (n : Int) (m : Int) = some (szE n m) := by
  unfold ref_sized szE
  by_cases h : n = 0
  · subst h; simp
  · rw [if_neg (by omega), if_neg h]
    by_cases h2 : m < n
    · rw [if_pos (by omega), if_pos h2]
    · rw [if_neg (by omega), if_neg h2]
theorem szE_zero {n m : Nat} : szE n m = 0 ↔ 1 ≤ n ∧ n ≤ m := by
  unfold szE
  split
  · simp; omega
  · split
    · simp; omega
    · simp; omega

theorem overV_of {c : dChange} (hs : Short c) (h1 : szE c.1.length 4 = 0) (h2 : fstE (thE (c.1.length : Int)) 0 c.1 = 0) : OverV c := by
  refine ⟨szE_zero.1 h1, fun t ht => ⟨fun x hx => ?_, hs.over t ht⟩⟩
  obtain ⟨i, hi⟩ := List.mem_iff_getElem?.1 ht
  have := fstE_zero.1 h2 i t hi
  unfold thE at this
  by_cases a1 : lstE (c.1.length : Int) ((0 + i : Nat) : Int) none t.1 = 0
  · have := (lstE_zero.1 a1).1 x hx
    exact ⟨this.1, this.2.1⟩
  · rw [if_pos a1] at this
    exact absurd this a1

theorem chgCheck_eq {k : Nat} (hk : 50 ≤ k) {c : dChange} (hs : Short c) {b : Bool} (hb : b = true ↔ ∃ i, Rch c i i) : chg_Check k c = some (chkS c b) := by
  have h1 := hs.things
  unfold chg_Check chg_checkThings chkS
  rw [show (4 : Int) = ((4 : Nat) : Int) from rfl, show (3 : Int) = ((3 : Nat) : Int) from rfl]
  simp only [sized_eq, bs, chgTh_eq hk hs, chgDr_eq hk hs, checkList_eq hk hs.wears (n := (c.1.length : Int)) (but := -1) (by omega), checkList_eq hk hs.wants (n := (c.1.length : Int)) (but := -1) (by omega)]
  by_cases z1 : szE c.1.length 4 = 0
  · by_cases z2 : fstE (thE (c.1.length : Int)) 0 c.1 = 0
    · have hV := overV_of hs z1 z2
      obtain ⟨ab, eab, hA, hc⟩ := ab2_ok hk hV
      simp only [z1, z2, not_true_eq_false, if_false, if_true, bE_k, eab, bs, ab5_ok hk hV hA hc hb]
      cases b with
      | true => simp [bE_e]
      | false =>
        simp only [Bool.false_eq_true, if_false, bE_k, bs, not_true_eq_false]
        by_cases z3 : szE c.2.1.length 3 = 0
        · by_cases z4 : fstE (drE (c.1.length : Int)) 0 c.2.1 = 0
          · simp only [z3, z4, not_true_eq_false, if_false, if_true, bE_k]
            by_cases z5 : lstE (c.1.length : Int) (-1) none c.2.2.1 = 0 <;> simp [z5]
          · simp only [z3, z4, not_true_eq_false, not_false_eq_true, if_false, if_true, bE_e]
        · simp [z3]
    · simp only [z1, z2, not_true_eq_false, not_false_eq_true, if_false, if_true, bE_e, bs]
  · simp [z1, bs]
theorem refCheck_eq {k : Nat} (hk : 50 ≤ k) {c : dChange} (hs : Short c) {b : Bool} (hb : b = true ↔ ∃ i, Rch c i i) : ref_Check k c = some (chkS c b) := by
  have h1 := hs.things
  unfold ref_Check chkS
  rw [show (4 : Int) = ((4 : Nat) : Int) from rfl, show (3 : Int) = ((3 : Nat) : Int) from rfl]
  simp only [rsized_eq, bs, refTh_eq hk hs, refDr_eq hk hs, things_eq hk hs.wears (c := c) (but := -1) (by omega), things_eq hk hs.wants (c := c) (but := -1) (by omega)]
  by_cases z1 : szE c.1.length 4 = 0
  · by_cases z2 : fstE (thE (c.1.length : Int)) 0 c.1 = 0
    · have hV := overV_of hs z1 z2
      simp only [z1, z2, not_true_eq_false, if_false, if_true, bE_k, bs, rg_ok hk hV hb]
      cases b with
      | true => simp [bE_e]
      | false =>
        simp only [Bool.false_eq_true, if_false, bE_k]
        by_cases z3 : szE c.2.1.length 3 = 0
        · by_cases z4 : fstE (drE (c.1.length : Int)) 0 c.2.1 = 0
          · simp only [z3, z4, not_true_eq_false, if_false, if_true, bE_k]
            by_cases z5 : lstE (c.1.length : Int) (-1) none c.2.2.1 = 0 <;> simp [z5]
          · simp only [z3, z4, not_true_eq_false, not_false_eq_true, if_false, if_true, bE_e]
        · simp [z3]
    · simp only [z1, z2, not_true_eq_false, not_false_eq_true, if_false, if_true, bE_e]
  · simp [z1]

/-- A change without an error is valid. -/
theorem vc_of_chk {c : dChange} (hs : Short c) {b : Bool} (hb : b = true ↔ ∃ i, Rch c i i) (h : chkS c b = 0) : VC (c.1.length : Int) c := by
  have hchk : ∀ k, 50 ≤ k → chg_Check k c = some 0 := fun k hk => by rw [chgCheck_eq hk hs hb, h]
  unfold chkS at h
  by_cases z1 : szE c.1.length 4 = 0
  · rw [if_neg (by simp [z1])] at h
    by_cases z2 : fstE (thE (c.1.length : Int)) 0 c.1 = 0
    · rw [if_neg (by simp [z2])] at h
      cases b with
      | true => rw [if_pos rfl] at h; cases h
      | false =>
        rw [if_neg (by decide)] at h
        by_cases z3 : szE c.2.1.length 3 = 0
        · rw [if_neg (by simp [z3])] at h
          by_cases z4 : fstE (drE (c.1.length : Int)) 0 c.2.1 = 0
          · rw [if_neg (by simp [z4])] at h
            by_cases z5 : lstE (c.1.length : Int) (-1) none c.2.2.1 = 0
            · rw [if_neg (by simp [z5])] at h
              have hz1 := szE_zero.1 z1
              have asc : ∀ {l : List Int} {but : Int}, lstE (c.1.length : Int) but none l = 0 → Asc l (c.1.length : Int) := fun h => by
                obtain ⟨a, b, _⟩ := lstE_zero.1 h
                exact ⟨b, fun x hx => ⟨(a x hx).1, (a x hx).2.1⟩⟩
              refine ⟨by omega, rfl, fun j t ht => ?_, asc z5, asc h, fun x hx => ?_, szE_zero.1 z3, hchk⟩
              · have := fstE_zero.1 z2 j t ht
                unfold thE at this
                rw [Nat.zero_add] at this
                by_cases a1 : lstE (c.1.length : Int) (j : Int) none t.1 = 0
                · rw [if_neg (by simp [a1])] at this
                  by_cases a2 : ¬ (1 ≤ t.2.1 ∧ t.2.1 ≤ 4) ∨ ¬ (1 ≤ t.2.2.1 ∧ t.2.2.1 ≤ 4)
                  · rw [if_pos a2] at this; cases this
                  · rw [if_neg a2] at this
                    by_cases a3 : ¬ (0 ≤ t.2.2.2.1 ∧ t.2.2.2.1 ≤ 2)
                    · rw [if_pos a3] at this; cases this
                    · rw [if_neg a3] at this
                      by_cases a4 : ¬ (0 ≤ t.2.2.2.2 ∧ t.2.2.2.2 ≤ 30)
                      · rw [if_pos a4] at this; cases this
                      · exact ⟨asc a1, fun hj => ((lstE_zero.1 a1).1 _ hj).2.2 rfl, by omega, by omega, by omega, by omega⟩
                · rw [if_pos a1] at this; exact absurd this a1
              · obtain ⟨j, hj⟩ := List.mem_iff_getElem?.1 hx
                have := fstE_zero.1 z4 j x hj
                unfold drE at this
                by_cases a1 : lstE (c.1.length : Int) (-1) none x.1 = 0
                · rw [if_neg (by simp [a1])] at this
                  by_cases a3 : ¬ (0 ≤ x.2.1 ∧ x.2.1 ≤ 2)
                  · rw [if_pos a3] at this; cases this
                  · rw [if_neg a3] at this
                    by_cases a4 : ¬ (0 ≤ x.2.2 ∧ x.2.2 ≤ 9)
                    · rw [if_pos a4] at this; cases this
                    · exact ⟨asc a1, by omega, by omega⟩
                · rw [if_pos a1] at this; exact absurd this a1
            · rw [if_pos z5] at h; exact absurd h z5
          · rw [if_pos z4] at h; exact absurd h z4
        · rw [if_pos z3] at h; exact absurd h z3
    · rw [if_pos z2] at h; exact absurd h z2
  · rw [if_pos z1] at h; exact absurd h z1
end Go.Proofs.Ytfhdclhbdmhnmaa
