/- Plain law, part 18: no thing lies over itself; the error of any change. -/
import Derived.Test.YtfhdclhbdmhnmaaGreatB5
namespace Go.Proofs.YtfhdclhbdmhnmaaGreat
open K Go Go.Proofs

/-- One thing lies directly over the other one. -/
def Stp (c : dChange) (i j : Nat) : Prop := ∃ t, c.1[i]? = some t ∧ (j : Int) ∈ t.1
inductive Rch (c : dChange) : Nat → Nat → Prop where
 | one {i j : Nat} : Stp c i j → Rch c i j
 | cons {i k j : Nat} : Stp c i k → Rch c k j → Rch c i j
theorem Rch.lt {c : dChange} {i j : Nat} (h : Rch c i j) : i < c.1.length := by
 cases h with
 | one h => obtain ⟨t, h, _⟩ := h; exact (List.getElem?_eq_some_iff.1 h).1
 | cons h _ => obtain ⟨t, h, _⟩ := h; exact (List.getElem?_eq_some_iff.1 h).1
theorem Rch.snoc {c : dChange} {i k j : Nat} (h : Rch c i k) (h' : Stp c k j) : Rch c i j := by
 induction h with
 | one h => exact .cons h (.one h')
 | cons h _ ih => exact .cons h (ih h')

/-- What is known of the lists of things over things. -/
structure OverV (c : dChange) : Prop where
 n : 1 ≤ c.1.length ∧ c.1.length ≤ 4
 rng : ∀ t ∈ c.1, (∀ x ∈ t.1, 0 ≤ x ∧ x < (c.1.length : Int)) ∧ t.1.length ≤ 20

/-- What lies over things, so far. -/
structure Abo (c : dChange) (ab : List Int) : Prop where
 len : ab.length = 4
 mask : ∀ (i : Nat) s, ab[i]? = some s → Mask s
 sound : ∀ (i : Nat) s x, ab[i]? = some s → Has s x → Rch c i x

abbrev InA (ab : List Int) (i x : Nat) : Prop := ∃ s, ab[i]? = some s ∧ Has s x

theorem ab4_ok {k : Nat} (hk : 50 ≤ k) {c : dChange} (hV : OverV c) {i : Nat} {t : dThing} {ab0 abx : List Int} (hi : c.1[i]? = some t) (hA : Abo c ab0) :
 W (chg_checkThings_l4 k (abx, (i : Int)) t k (ab0, 0)) fun r => Abo c r ∧ (∀ a x, InA ab0 a x → InA r a x) ∧ ∀ o : Nat, (o : Int) ∈ t.1 → InA r i o ∧ ∀ x, InA ab0 o x → InA r i x := by
 obtain ⟨hrng, hl20⟩ := hV.rng t (List.mem_of_getElem? hi);have hn := hV.n;have hil : i < c.1.length := (List.getElem?_eq_some_iff.1 hi).1
 refine W.loop (f := chg_checkThings_l4 k (abx, (i : Int)) t) (fun q y => ∃ j : Nat, y.2 = (j : Int) ∧ j ≤ t.1.length ∧ q = t.1.length - j ∧ Abo c y.1 ∧ (∀ a x, InA ab0 a x → InA y.1 a x) ∧ ∀ o : Nat, (o : Int) ∈ t.1.take j → InA y.1 i o ∧ ∀ x, InA ab0 o x → InA y.1 i x) ?_ t.1.length k (ab0, 0) (by omega)
  ⟨0, rfl, by omega, by omega, hA, fun _ _ h => h, fun o h => by simp at h⟩
 rintro fuel q ⟨b, y⟩ ⟨j, hj, hle, hq, hB, hmono, hdone⟩ ih;simp only at hj hB hmono hdone;subst hj;unfold chg_checkThings_l4;dsimp only
 refine W.ite (fun hlt => ?_) (fun hge => W.ret (by
  have : j = t.1.length := by omega
  subst this;rw [List.take_length] at hdone;exact ⟨hB, hmono, hdone⟩))
 have hlt' : j < t.1.length := by omega
 have hx := hrng t.1[j] (List.getElem_mem hlt');obtain ⟨o, ho⟩ : ∃ o : Nat, t.1[j] = (o : Int) := ⟨t.1[j].toNat, by omega⟩;have hib : i < b.length := by rw [hB.len]; omega
 have hob : o < b.length := by rw [hB.len]; omega
 have hst : Stp c i o := ⟨t, hi, by rw [← ho]; exact List.getElem_mem hlt'⟩;have mi := hB.mask i _ (List.getElem?_eq_getElem hib);have mo := hB.mask o _ (List.getElem?_eq_getElem hob);obtain ⟨s, es, m3, d3⟩ := of_set_ok (k := k) hk (l := [(o : Int)]) (by simp) (fun x h => by simp only [List.mem_singleton] at h; subst h; omega);obtain ⟨m4, d4⟩ := ior_ok mo m3;obtain ⟨m5, d5⟩ := ior_ok mi m4;rw [geti_W hlt', bs, ho, chk_ok (by omega), bs, geti_W hib, bs, chk_ok (by omega), bs, geti_W hob, bs, es, bs, bs, ck_ok (by omega) (by omega), bs, Int.toNat_natCast]
 have hnew : ∀ x, Has (ior .u8 b[i] (ior .u8 b[o] s)) x ↔ Has b[i] x ∨ Has b[o] x ∨ x = o := fun x => by
  rw [d5, d4, d3];simp only [List.mem_singleton];constructor
  ·rintro (h | h | h)
   ·exact .inl h
   ·exact .inr (.inl h)
   ·exact .inr (.inr (by omega))
  ·rintro (h | h | h)
   ·exact .inl h
   ·exact .inr (.inl h)
   ·exact .inr (.inr (by omega))
 have hin : ∀ a x, InA (b.set i (ior .u8 b[i] (ior .u8 b[o] s))) a x ↔ InA b a x ∨ (a = i ∧ (Has b[o] x ∨ x = o)) := fun a x => by
  unfold InA;rw [List.getElem?_set];by_cases hai : i = a
  ·subst hai;rw [if_pos rfl, if_pos hib];constructor
   ·rintro ⟨s', e, h⟩;cases e;rcases (hnew x).1 h with h | h
    ·exact .inl ⟨_, List.getElem?_eq_getElem hib, h⟩
    ·exact .inr ⟨rfl, h⟩
   ·rintro (⟨s', e, h⟩ | ⟨_, h⟩)
    ·rw [List.getElem?_eq_getElem hib] at e;cases e;exact ⟨_, rfl, (hnew x).2 (.inl h)⟩
    ·exact ⟨_, rfl, (hnew x).2 (.inr h)⟩
  ·rw [if_neg hai];exact ⟨.inl, fun h => h.elim id fun h => absurd h.1.symm hai⟩
 refine ih (q - 1) (_, (j : Int) + 1) (by omega) ⟨j + 1, rfl, by omega, by omega, ⟨by simpa using hB.len, fun a s' h => ?_, fun a s' x h hx' => ?_⟩, fun a x h => (hin a x).2 (.inl (hmono a x h)), fun o' ho' => ?_⟩
 ·rw [List.getElem?_set] at h;by_cases hai : i = a
  ·rw [if_pos hai, if_pos hib] at h; cases h; exact m5
  ·rw [if_neg hai] at h; exact hB.mask a s' h
 ·rcases (hin a x).1 ⟨s', h, hx'⟩ with ⟨s2, h2, h3⟩ | ⟨rfl, h2 | h2⟩
  ·exact hB.sound a s2 x h2 h3
  ·exact .cons hst (hB.sound o _ x (List.getElem?_eq_getElem hob) h2)
  ·subst h2; exact .one hst
 ·rw [List.take_add_one, List.getElem?_eq_getElem hlt', Option.toList_some, List.mem_append, List.mem_singleton, ho] at ho';rcases ho' with ho' | ho'
  ·obtain ⟨h1, h2⟩ := hdone o' ho';exact ⟨(hin i o').2 (.inl h1), fun x h => (hin i x).2 (.inl (h2 x h))⟩
  ·have : o' = o := by omega
   subst this;refine ⟨(hin i o').2 (.inr ⟨rfl, .inr rfl⟩), fun x h => ?_⟩;obtain ⟨s', e, h⟩ := hmono o' x h;rw [List.getElem?_eq_getElem hob] at e;cases e;exact (hin i x).2 (.inr ⟨rfl, .inl h⟩)

theorem ab3_ok {k : Nat} (hk : 50 ≤ k) {c : dChange} (hV : OverV c) {ab0 : List Int} (hA : Abo c ab0) :
 W (chg_checkThings_l3 k c k (ab0, 0)) fun r => Abo c r ∧ (∀ a x, InA ab0 a x → InA r a x) ∧ ∀ i o, Stp c i o → InA r i o ∧ ∀ x, InA ab0 o x → InA r i x := by
 have hn := hV.n
 refine W.loop (f := chg_checkThings_l3 k c) (fun q y => ∃ j : Nat, y.2 = (j : Int) ∧ j ≤ c.1.length ∧ q = c.1.length - j ∧ Abo c y.1 ∧ (∀ a x, InA ab0 a x → InA y.1 a x) ∧ ∀ i o, i < j → Stp c i o → InA y.1 i o ∧ ∀ x, InA ab0 o x → InA y.1 i x) ?_ c.1.length k (ab0, 0) (by omega)
  ⟨0, rfl, by omega, by omega, hA, fun _ _ h => h, fun i o h => by omega⟩
 rintro fuel q ⟨b, y⟩ ⟨j, hj, hle, hq, hB, hmono, hdone⟩ ih;simp only at hj hB hmono hdone;subst hj;unfold chg_checkThings_l3;dsimp only;refine W.ite (fun hlt => ?_) (fun hge => W.ret ⟨hB, hmono, fun i o h => hdone i o (by obtain ⟨t, h, _⟩ := h; have := (List.getElem?_eq_some_iff.1 h).1; omega) h⟩);have hlt' : j < c.1.length := by omega
 obtain ⟨r, er, hR, hrm, hrd⟩ := ab4_ok hk hV (abx := b) (List.getElem?_eq_getElem hlt') hB;rw [geti_W hlt', bs, er, bs, ck_ok (by omega) (by omega), bs];refine ih (q - 1) (r, (j : Int) + 1) (by omega) ⟨j + 1, rfl, by omega, by omega, hR, fun a x h => hrm a x (hmono a x h), fun i o hi h => ?_⟩;by_cases hij : i = j
 ·subst hij;obtain ⟨t, ht, ho⟩ := h;rw [List.getElem?_eq_getElem hlt'] at ht;cases ht;obtain ⟨h1, h2⟩ := hrd o ho;exact ⟨h1, fun x hx => h2 x (hmono o x hx)⟩
 ·obtain ⟨h1, h2⟩ := hdone i o (by omega) h;exact ⟨hrm i o h1, fun x hx => hrm i x (h2 x hx)⟩

/-- How many of the first n things have x over them. -/
def cntA (ab : List Int) (x n : Nat) : Nat := (List.range n).countP fun i => match ab[i]? with | some s => decide (Has s x) | none => false
theorem cntA_lt {ab ab' : List Int} {x : Nat} (h : ∀ i, InA ab i x → InA ab' i x) : ∀ {n : Nat}, cntA ab x n ≤ cntA ab' x n ∧ ((∃ i, i < n ∧ InA ab' i x ∧ ¬ InA ab i x) → cntA ab x n < cntA ab' x n)
 | 0 => ⟨by simp [cntA], fun ⟨i, hi, _⟩ => by omega⟩
 | n + 1 => by
  obtain ⟨h1, h2⟩ := cntA_lt h (n := n)
  have e : ∀ ab : List Int, cntA ab x (n + 1) = cntA ab x n + (if (match ab[n]? with | some s => decide (Has s x) | none => false) = true then 1 else 0) := fun ab => by
   unfold cntA
   rw [List.range_succ, List.countP_append, List.countP_singleton]
  have hin : ∀ ab : List Int, (match ab[n]? with | some s => decide (Has s x) | none => false) = true ↔ InA ab n x := fun ab => by
   unfold InA
   cases ab[n]? with
   | none => simp
   | some s => simp
  have hm := h n
  rw [e, e]
  by_cases a : InA ab n x
  ·
   rw [if_pos ((hin ab).2 a), if_pos ((hin ab').2 (hm a))]
   refine ⟨by omega, fun ⟨i, hi, b, d⟩ => ?_⟩
   by_cases hin' : i = n
   ·
    subst hin'; exact absurd a d
   ·
    have := h2 ⟨i, by omega, b, d⟩; omega
  ·
   rw [if_neg (fun h => a ((hin ab).1 h))]
   by_cases a' : InA ab' n x
   ·
    rw [if_pos ((hin ab').2 a')]
    exact ⟨by omega, fun _ => by omega⟩
   ·
    rw [if_neg (fun h => a' ((hin ab').1 h))]
    refine ⟨by omega, fun ⟨i, hi, b, d⟩ => ?_⟩
    by_cases hin' : i = n
    ·
     subst hin'; exact absurd b a'
    ·
     have := h2 ⟨i, by omega, b, d⟩; omega
theorem cntA_full {ab : List Int} {x : Nat} : ∀ {n : Nat}, cntA ab x n ≤ n ∧ (n ≤ cntA ab x n → ∀ i, i < n → InA ab i x)
 | 0 => ⟨by simp [cntA], fun _ i hi => by omega⟩
 | n + 1 => by
  obtain ⟨h1, h2⟩ := cntA_full (ab := ab) (x := x) (n := n)
  have e : cntA ab x (n + 1) = cntA ab x n + (if (match ab[n]? with | some s => decide (Has s x) | none => false) = true then 1 else 0) := by
   unfold cntA;rw [List.range_succ, List.countP_append, List.countP_singleton]
  have hin : (match ab[n]? with | some s => decide (Has s x) | none => false) = true ↔ InA ab n x := by
   unfold InA;cases ab[n]? with
   | none => simp
   | some s => simp
  rw [e];by_cases a : InA ab n x
  ·rw [if_pos (hin.2 a)];refine ⟨by omega, fun h i hi => ?_⟩;by_cases hi' : i = n
   ·subst hi'; exact a
   ·exact h2 (by omega) i (by omega)
  ·rw [if_neg (fun h => a (hin.1 h))];exact ⟨by omega, fun h => by omega⟩

/-- What lies over things, in the end. -/
theorem ab2_ok {k : Nat} (hk : 50 ≤ k) {c : dChange} (hV : OverV c) : W (chg_checkThings_l2 k c k ([0, 0, 0, 0], 0)) fun r => Abo c r ∧ ∀ i x, Rch c i x → InA r i x := by
 have hn := hV.n
 have h0 : Abo c [0, 0, 0, 0] := ⟨rfl, fun i s h => by
  have := List.mem_of_getElem? h;simp only [List.mem_cons, List.not_mem_nil, or_false, or_self] at this;subst this;exact ⟨by decide, by decide⟩, fun i s x h hx => by
  have := List.mem_of_getElem? h;simp only [List.mem_cons, List.not_mem_nil, or_false, or_self] at this;subst this;simp [Has] at hx⟩
 refine W.loop (f := chg_checkThings_l2 k c) (fun q y => ∃ j : Nat, y.2 = (j : Int) ∧ j ≤ c.1.length ∧ q = c.1.length - j ∧ Abo c y.1 ∧ ∀ x, (∀ i, Rch c i x → InA y.1 i x) ∨ j ≤ cntA y.1 x c.1.length) ?_ c.1.length k _ (by omega)
  ⟨0, rfl, by omega, by omega, h0, fun x => .inr (by omega)⟩
 rintro fuel q ⟨b, y⟩ ⟨j, hj, hle, hq, hB, hor⟩ ih;simp only at hj hB hor;subst hj;unfold chg_checkThings_l2;dsimp only;refine W.ite (fun hlt => ?_) (fun hge => W.ret ⟨hB, fun i x h => ?_⟩)
 ·obtain ⟨r, er, hR, hrm, hrd⟩ := ab3_ok hk hV hB;rw [er, bs, ck_ok (by omega) (by omega), bs];refine ih (q - 1) (r, (j : Int) + 1) (by omega) ⟨j + 1, rfl, by omega, by omega, hR, fun x => ?_⟩;simp only;rcases hor x with h | h
  ·exact .inl fun i hi => hrm i x (h i hi)
  ·by_cases hnew : ∃ i, i < c.1.length ∧ InA r i x ∧ ¬ InA b i x
   ·have := (cntA_lt (n := c.1.length) (fun i => hrm i x)).2 hnew;exact .inr (by omega)
   ·have hsame : ∀ i, i < c.1.length → InA r i x → InA b i x := fun i hi h => by
     false_or_by_contra;rename_i hb;exact hnew ⟨i, hi, h, hb⟩
    refine .inl fun i hi => ?_
    have key : ∀ {i z : Nat}, Rch c i z → z = x → InA r i x := fun {i z} hr => by
     induction hr with
     | one hst => intro e; rw [← e]; exact (hrd _ _ hst).1
     | cons hst h' ih' => intro e; exact (hrd _ _ hst).2 x (hsame _ (Rch.lt h') (ih' e))
    exact key hi rfl
 ·have hjn : j = c.1.length := by omega
  subst hjn;rcases hor x with h' | h'
  ·exact h' i h
  ·exact cntA_full.2 h' i h.lt

theorem ab5_ok {k : Nat} (hk : 50 ≤ k) {c : dChange} (hV : OverV c) {ab : List Int} (hA : Abo c ab) (hc : ∀ i x, Rch c i x → InA ab i x) {b : Bool} (hb : b = true ↔ ∃ i, Rch c i i) : chg_checkThings_l5 k c ab k 0 = some (if b = true then .error 9 else .ok ()) := by
 have hn := hV.n
 have step : ∀ m (j : Nat), j < c.1.length → (Rch c j j → chg_checkThings_l5 k c ab (m + 1) (j : Int) = some (.error 9)) ∧ (¬ Rch c j j → chg_checkThings_l5 k c ab (m + 1) (j : Int) = chg_checkThings_l5 k c ab m ((j : Int) + 1)) := fun m j hj => by
  have hjb : j < ab.length := by rw [hA.len]; omega
  have hg := List.getElem?_eq_getElem hjb;have hm := hA.mask j _ hg
  have hiff : Has ab[j] j ↔ Rch c j j := ⟨fun h => hA.sound j _ j hg h, fun h => by
   obtain ⟨s, e, h⟩ := hc j j h;rw [hg] at e; cases e; exact h⟩
  rw [chg_checkThings_l5, if_pos (by omega), chk_ok (by omega), bs, geti_W hjb, bs, has_ok hm (by omega), bs];constructor
  ·intro h; rw [decide_eq_true (hiff.2 h), if_pos rfl]
  ·intro h; rw [decide_eq_false (fun h' => h (hiff.1 h')), if_neg (by decide), ck_ok (by omega) (by omega), bs]
 cases b with
 | true =>
  obtain ⟨i, hi⟩ := hb.1 rfl
  obtain ⟨m, hm, hmin⟩ : ∃ m, Rch c m m ∧ ∀ j, j < m → ¬ Rch c j j := by
   have : ∀ i, Rch c i i → ∃ m, Rch c m m ∧ ∀ j, j < m → ¬ Rch c j j := by
    intro i
    induction i using Nat.strongRecOn with
    | _ i ih =>
     intro hi;by_cases h : ∃ j, j < i ∧ Rch c j j
     ·obtain ⟨j, h1, h2⟩ := h; exact ih j h1 h2
     ·exact ⟨i, hi, fun j h1 h2 => h ⟨j, h1, h2⟩⟩
   exact this i hi
  rw [if_pos rfl];exact for_find c.1.length m hm.lt (fun n j hj => (step n j (by have := hm.lt; omega)).2 (hmin j hj)) (fun n => (step n m hm.lt).1 hm) k (by omega)
 | false =>
  rw [if_neg (by decide)];exact for_all 0 c.1.length (fun n j _ hj => (step n j hj).2 fun h => by have := hb.2 ⟨j, h⟩; cases this) (fun n j _ hj => by rw [chg_checkThings_l5, if_neg (by omega)]) k (by omega)

/-! The reference's way. -/
theorem rg3_ok {k : Nat} (hk : 50 ≤ k) {c : dChange} (hV : OverV c) {a i : Nat} {t : dThing} {ov0 ovx : List Bool} (hi : c.1[i]? = some t) (hl : ov0.length = c.1.length) (hs : ∀ j, In ov0 j → Rch c a j) (hai : i = a ∨ In ov0 i) :
 W (ref_ring_l3 k c (ovx, (i : Int)) k (ov0, 0)) fun r => r.length = c.1.length ∧ (∀ j, In r j → Rch c a j) ∧ (∀ j, In ov0 j → In r j) ∧ ∀ o, Stp c i o → In r o := by
 obtain ⟨hrng, hl20⟩ := hV.rng t (List.mem_of_getElem? hi);have hil : i < c.1.length := (List.getElem?_eq_some_iff.1 hi).1;have hg : geti c.1 (i : Int) = some t := geti_q (by omega) (by simpa using hi)
 have hrch : ∀ o : Nat, (o : Int) ∈ t.1 → Rch c a o := fun o ho => by
  rcases hai with rfl | h
  ·exact .one ⟨t, hi, ho⟩
  ·exact (hs i h).snoc ⟨t, hi, ho⟩
 refine W.loop (f := ref_ring_l3 k c (ovx, (i : Int))) (fun q y => ∃ j : Nat, y.2 = (j : Int) ∧ j ≤ t.1.length ∧ q = t.1.length - j ∧ y.1.length = c.1.length ∧ (∀ j, In y.1 j → Rch c a j) ∧ (∀ j, In ov0 j → In y.1 j) ∧ ∀ o : Nat, (o : Int) ∈ t.1.take j → In y.1 o) ?_ t.1.length k (ov0, 0) (by omega)
  ⟨0, rfl, by omega, by omega, hl, hs, fun _ h => h, fun o h => by simp at h⟩
 rintro fuel q ⟨b, y⟩ ⟨j, hj, hle, hq, hbl, hbs, hbm, hbd⟩ ih;simp only at hj hbl hbs hbm hbd;subst hj;unfold ref_ring_l3;dsimp only;rw [hg, bs]
 refine W.ite (fun hlt => ?_) (fun hge => W.ret (by
  have : j = t.1.length := by omega
  subst this;rw [List.take_length] at hbd;exact ⟨hbl, hbs, hbm, fun o ⟨t', h1, h2⟩ => by rw [hi] at h1; cases h1; exact hbd o h2⟩))
 have hlt' : j < t.1.length := by omega
 have hx := hrng t.1[j] (List.getElem_mem hlt');obtain ⟨o, ho⟩ : ∃ o : Nat, t.1[j] = (o : Int) := ⟨t.1[j].toNat, by omega⟩;have hob : o < b.length := by omega
 rw [bs, geti_W hlt', bs, ho, geti_W hob, bs, ck_ok (by omega) (by omega), bs, Int.toNat_natCast];refine ih (q - 1) (_, (j : Int) + 1) (by omega) ⟨j + 1, rfl, by omega, by omega, by simpa using hbl, fun x hx' => ?_, fun x h => (in_set hob).2 (.inr (hbm x h)), fun o' ho' => ?_⟩
 ·rcases (in_set hob).1 hx' with rfl | h
  ·exact hrch _ (by rw [← ho]; exact List.getElem_mem hlt')
  ·exact hbs x h
 ·rw [List.take_add_one, List.getElem?_eq_getElem hlt', Option.toList_some, List.mem_append, List.mem_singleton, ho] at ho';rcases ho' with h | h
  ·exact (in_set hob).2 (.inr (hbd o' h))
  ·exact (in_set hob).2 (.inl (by omega))

theorem rg2_ok {k : Nat} (hk : 50 ≤ k) {c : dChange} (hV : OverV c) {a : Nat} {ov0 : List Bool} (hl : ov0.length = c.1.length) (hs : ∀ j, In ov0 j → Rch c a j) :
 W (ref_ring_l2 k c (a : Int) k (ov0, 0)) fun r => r.length = c.1.length ∧ (∀ j, In r j → Rch c a j) ∧ (∀ j, In ov0 j → In r j) ∧ ∀ i o, i = a ∨ In ov0 i → Stp c i o → In r o := by
 have hn := hV.n
 refine W.loop (f := ref_ring_l2 k c (a : Int)) (fun q y => ∃ j : Nat, y.2 = (j : Int) ∧ j ≤ c.1.length ∧ q = c.1.length - j ∧ y.1.length = c.1.length ∧ (∀ j, In y.1 j → Rch c a j) ∧ (∀ j, In ov0 j → In y.1 j) ∧ ∀ i o, i < j → i = a ∨ In ov0 i → Stp c i o → In y.1 o) ?_ c.1.length k (ov0, 0) (by omega)
  ⟨0, rfl, by omega, by omega, hl, hs, fun _ h => h, fun i o h => by omega⟩
 rintro fuel q ⟨b, y⟩ ⟨j, hj, hle, hq, hbl, hbs, hbm, hbd⟩ ih;simp only at hj hbl hbs hbm hbd;subst hj;unfold ref_ring_l2;dsimp only;refine W.ite (fun hlt => ?_) (fun hge => W.ret ⟨hbl, hbs, hbm, fun i o h1 h2 => hbd i o (by obtain ⟨t, h, _⟩ := h2; have := (List.getElem?_eq_some_iff.1 h).1; omega) h1 h2⟩);have hlt' : j < c.1.length := by omega
 have hjb : j < b.length := by omega
 have hck : ck ((j : Int) + 1) = some ((j : Int) + 1) := ck_ok (by omega) (by omega);have hIn : In b j ↔ b[j] = true := by unfold In; rw [List.getElem?_eq_getElem hjb]; simp
 have go : (j = a ∨ In b j) → W (((ref_ring_l3 k c (b, (j : Int)) k (b, (0 : Int))) : Option (List Bool)).bind fun x12 => (ck ((j : Int) + (1 : Int))).bind fun x24 => ref_ring_l2 k c (a : Int) fuel (x12, x24)) fun r => r.length = c.1.length ∧ (∀ j, In r j → Rch c a j) ∧ (∀ j, In ov0 j → In r j) ∧ ∀ i o, i = a ∨ In ov0 i → Stp c i o → In r o := fun hja => by
  obtain ⟨r, er, r1, r2, r3, r4⟩ := rg3_ok hk hV (ovx := b) (List.getElem?_eq_getElem hlt') hbl hbs hja;rw [er, bs, hck, bs];refine ih (q - 1) (r, (j : Int) + 1) (by omega) ⟨j + 1, rfl, by omega, by omega, r1, r2, fun x h => r3 x (hbm x h), fun i o h1 h2 h3 => ?_⟩;by_cases hij : i = j
  ·subst hij; exact r4 o h3
  ·exact r3 o (hbd i o (by omega) h2 h3)
 have skip : ¬ (j = a ∨ In b j) → W ((some b : Option (List Bool)).bind fun x12 => (ck ((j : Int) + (1 : Int))).bind fun x24 => ref_ring_l2 k c (a : Int) fuel (x12, x24)) fun r => r.length = c.1.length ∧ (∀ j, In r j → Rch c a j) ∧ (∀ j, In ov0 j → In r j) ∧ ∀ i o, i = a ∨ In ov0 i → Stp c i o → In r o := fun hja => by
  rw [bs, hck, bs];refine ih (q - 1) (b, (j : Int) + 1) (by omega) ⟨j + 1, rfl, by omega, by omega, hbl, hbs, hbm, fun i o h1 h2 h3 => ?_⟩;by_cases hij : i = j
  ·subst hij; exact absurd (h2.imp id (hbm i)) hja
  ·exact hbd i o (by omega) h2 h3
 by_cases hja : j = a
 ·rw [if_neg (by simp [hja]), bs, if_neg (by decide)]; exact go (.inl hja)
 ·rw [if_pos (by omega), geti_W hjb, bs, bs];by_cases hb : b[j] = true
  ·rw [hb, if_neg (by decide)]; exact go (.inr (hIn.2 hb))
  ·rw [if_pos (by simpa using hb)]; exact skip (fun h => h.elim hja fun h => hb (hIn.1 h))

theorem cntT_lt {l l' : List Bool} : l.length = l'.length → (∀ j, In l j → In l' j) → cntT l ≤ cntT l' ∧ ((∃ j, In l' j ∧ ¬ In l j) → cntT l < cntT l') := by
 induction l generalizing l' with
 | nil =>
  intro hl _;cases l' with
  | nil => exact ⟨Nat.le_refl _, fun ⟨j, h, _⟩ => by simp [In] at h⟩
  | cons => simp at hl
 | cons x l ih =>
  intro hl hm;cases l' with
  | nil => simp at hl
  | cons y l' =>
   obtain ⟨h1, h2⟩ := ih (l' := l') (by simpa using hl) (fun j h => by have := hm (j + 1) (by simpa [In] using h); simpa [In] using this);have h0 : x = true → y = true := fun h => by have := hm 0 (by simp [In, h]); simpa [In] using this
   simp only [cntT, List.count_cons] at h1 h2 ⊢;cases x <;> cases y
   ·refine ⟨by simpa using h1, fun ⟨j, a, b⟩ => ?_⟩;cases j with
    | zero => simp [In] at a
    | succ j => have := h2 ⟨j, by simpa [In] using a, by simpa [In] using b⟩; simpa using this
   ·exact ⟨by simp; omega, fun _ => by simp; omega⟩
   ·have := h0 rfl; cases this
   ·refine ⟨by simpa using h1, fun ⟨j, a, b⟩ => ?_⟩;cases j with
    | zero => simp [In] at b
    | succ j => have := h2 ⟨j, by simpa [In] using a, by simpa [In] using b⟩; simpa using this
theorem cntT_full {l : List Bool} (h : l.length ≤ cntT l) : ∀ j, j < l.length → In l j := by
 induction l with
 | nil => intro j hj; simp at hj
 | cons x l ih =>
  have hle : cntT l ≤ l.length := List.count_le_length;simp only [cntT, List.count_cons, List.length_cons] at h hle ih;cases x with
  | false => simp at h; omega
  | true =>
   intro j hj;cases j with
   | zero => simp [In]
   | succ j => have := ih (by simp at h; omega) j (by simpa using hj); simpa [In] using this

theorem ring_ok {k : Nat} (hk : 50 ≤ k) {c : dChange} (hV : OverV c) {a : Nat} (ha : a < c.1.length) : W (ref_ring k c (a : Int)) fun r => (r = true ↔ Rch c a a) := by
 have hn := hV.n;unfold ref_ring;rw [chk_ok ⟨by omega, okLen_of (by omega)⟩, bs, Int.toNat_natCast]
 have key : W (ref_ring_l1 k c (a : Int) k (List.replicate c.1.length false, (0 : Int))) fun r => r.length = c.1.length ∧ ∀ j, In r j ↔ Rch c a j := by
  refine W.loop (f := ref_ring_l1 k c (a : Int)) (fun q y => ∃ j : Nat, y.2 = (j : Int) ∧ j ≤ c.1.length ∧ q = c.1.length - j ∧ y.1.length = c.1.length ∧ (∀ x, In y.1 x → Rch c a x) ∧ ((∀ x, x < c.1.length → Rch c a x → In y.1 x) ∨ j ≤ cntT y.1)) ?_ c.1.length k _ (by omega)
   ⟨0, rfl, by omega, by omega, by simp, fun x h => (by
    exfalso;have h : (List.replicate c.1.length false)[x]? = some true := h;rw [List.getElem?_replicate] at h;split at h <;> cases h), .inr (by omega)⟩
  rintro fuel q ⟨b, y⟩ ⟨j, hj, hle, hq, hbl, hbs, hor⟩ ih;simp only at hj hbl hbs hor;subst hj
  have hlt : ∀ x, Rch c a x → x < c.1.length := fun x h => by
   have key : ∀ {i z : Nat}, Rch c i z → z < c.1.length := fun {i z} hr => by
    induction hr with
    | one h =>
     obtain ⟨t, h1, h2⟩ := h;have := (hV.rng t (List.mem_of_getElem? h1)).1 _ h2;omega
    | cons _ _ ih => exact ih
   exact key h
  unfold ref_ring_l1;dsimp only;refine W.ite (fun hlt2 => ?_) (fun hge => W.ret ⟨hbl, fun x => ⟨hbs x, fun h => ?_⟩⟩)
  ·obtain ⟨r, er, r1, r2, r3, r4⟩ := rg2_ok hk hV hbl hbs;rw [er, bs, ck_ok (by omega) (by omega), bs];refine ih (q - 1) (r, (j : Int) + 1) (by omega) ⟨j + 1, rfl, by omega, by omega, r1, r2, ?_⟩;simp only;rcases hor with h | h
   ·exact .inl fun x hx hr => r3 x (h x hx hr)
   ·by_cases hnew : ∃ x, In r x ∧ ¬ In b x
    ·have := (cntT_lt (by rw [hbl, r1]) r3).2 hnew;exact .inr (by omega)
    ·have hsame : ∀ x, In r x → In b x := fun x h => by
      false_or_by_contra;rename_i hb;exact hnew ⟨x, h, hb⟩
     refine .inl fun x _ hr => ?_
     have key : ∀ {i z : Nat}, Rch c i z → (i = a ∨ In b i) → In r z := fun {i z} hr => by
      induction hr with
      | one h => intro hi; exact r4 _ _ hi h
      | cons h _ ih' => intro hi; exact ih' (.inr (hsame _ (r4 _ _ hi h)))
     exact key hr (.inl rfl)
  ·have hjn : j = c.1.length := by omega
   rcases hor with h' | h'
   ·exact h' x (hlt x h) h
   ·exact cntT_full (by omega) x (by have := hlt x h; omega)
 obtain ⟨r, er, r1, r2⟩ := key;have hal : a < r.length := by omega
 rw [er, bs, geti_W hal, bs];refine W.ret ?_;rw [← r2 a];unfold In;rw [List.getElem?_eq_getElem hal];simp

theorem rg_ok {k : Nat} (hk : 50 ≤ k) {c : dChange} (hV : OverV c) {b : Bool} (hb : b = true ↔ ∃ i, Rch c i i) : ref_Check_l2 k c k 0 = some (if b = true then .error 9 else .ok ()) := by
 have hn := hV.n
 have step : ∀ m (j : Nat), j < c.1.length → (Rch c j j → ref_Check_l2 k c (m + 1) (j : Int) = some (.error 9)) ∧ (¬ Rch c j j → ref_Check_l2 k c (m + 1) (j : Int) = ref_Check_l2 k c m ((j : Int) + 1)) := fun m j hj => by
  obtain ⟨r, er, hr⟩ := ring_ok hk hV hj;rw [ref_Check_l2, if_pos (by omega), er, bs];constructor
  ·intro h; rw [if_pos (hr.2 h)]
  ·intro h; rw [if_neg (fun h' => h (hr.1 h')), ck_ok (by omega) (by omega), bs]
 cases b with
 | true =>
  obtain ⟨i, hi⟩ := hb.1 rfl
  obtain ⟨m, hm, hmin⟩ : ∃ m, Rch c m m ∧ ∀ j, j < m → ¬ Rch c j j := by
   have : ∀ i, Rch c i i → ∃ m, Rch c m m ∧ ∀ j, j < m → ¬ Rch c j j := by
    intro i
    induction i using Nat.strongRecOn with
    | _ i ih =>
     intro hi;by_cases h : ∃ j, j < i ∧ Rch c j j
     ·obtain ⟨j, h1, h2⟩ := h; exact ih j h1 h2
     ·exact ⟨i, hi, fun j h1 h2 => h ⟨j, h1, h2⟩⟩
   exact this i hi
  rw [if_pos rfl];exact for_find c.1.length m hm.lt (fun n j hj => (step n j (by have := hm.lt; omega)).2 (hmin j hj)) (fun n => (step n m hm.lt).1 hm) k (by omega)
 | false =>
  rw [if_neg (by decide)];exact for_all 0 c.1.length (fun n j _ hj => (step n j hj).2 fun h => by have := hb.2 ⟨j, h⟩; cases this) (fun n j _ hj => by rw [ref_Check_l2, if_neg (by omega)]) k (by omega)

/-- How many there may be. -/
def szE (n m : Nat) : Int := if n = 0 then 7 else if m < n then 6 else 0
/-- **The error of a change.** -/
def chkS (c : dChange) (ring : Bool) : Int :=
 if ¬ szE c.1.length 4 = 0 then szE c.1.length 4 else if ¬ fstE (thE (c.1.length : Int)) 0 c.1 = 0 then fstE (thE (c.1.length : Int)) 0 c.1 else if ring = true then 9
 else if ¬ szE c.2.1.length 3 = 0 then szE c.2.1.length 3 else if ¬ fstE (drE (c.1.length : Int)) 0 c.2.1 = 0 then fstE (drE (c.1.length : Int)) 0 c.2.1
 else if ¬ lstE (c.1.length : Int) (-1) none c.2.2.1 = 0 then lstE (c.1.length : Int) (-1) none c.2.2.1 else lstE (c.1.length : Int) (-1) none c.2.2.2

theorem sized_eq {k n m : Nat} : chg_sized k (n : Int) (m : Int) = some (szE n m) := by
 unfold chg_sized szE;by_cases h : n = 0
 ·subst h; simp
 ·rw [if_neg (by omega), if_neg h];by_cases h2 : m < n
  ·rw [if_pos (by omega), if_pos h2]
  ·rw [if_neg (by omega), if_neg h2]
theorem rsized_eq {k n m : Nat} : ref_sized k (n : Int) (m : Int) = some (szE n m) := by
 unfold ref_sized szE;by_cases h : n = 0
 ·subst h; simp
 ·rw [if_neg (by omega), if_neg h];by_cases h2 : m < n
  ·rw [if_pos (by omega), if_pos h2]
  ·rw [if_neg (by omega), if_neg h2]
theorem szE_zero {n m : Nat} : szE n m = 0 ↔ 1 ≤ n ∧ n ≤ m := by
 unfold szE;split
 ·simp; omega
 ·split
  ·simp; omega
  ·simp; omega

theorem overV_of {c : dChange} (hs : Short c) (h1 : szE c.1.length 4 = 0) (h2 : fstE (thE (c.1.length : Int)) 0 c.1 = 0) : OverV c := by
 refine ⟨szE_zero.1 h1, fun t ht => ⟨fun x hx => ?_, hs.over t ht⟩⟩;obtain ⟨i, hi⟩ := List.mem_iff_getElem?.1 ht;have := fstE_zero.1 h2 i t hi;unfold thE at this;by_cases a1 : lstE (c.1.length : Int) ((0 + i : Nat) : Int) none t.1 = 0
 ·have := (lstE_zero.1 a1).1 x hx;exact ⟨this.1, this.2.1⟩
 ·rw [if_pos a1] at this;exact absurd this a1

theorem chgCheck_eq {k : Nat} (hk : 50 ≤ k) {c : dChange} (hs : Short c) {b : Bool} (hb : b = true ↔ ∃ i, Rch c i i) : chg_Check k c = some (chkS c b) := by
 have h1 := hs.things;unfold chg_Check chg_checkThings chkS;rw [show (4 : Int) = ((4 : Nat) : Int) from rfl, show (3 : Int) = ((3 : Nat) : Int) from rfl];simp only [sized_eq, bs, chgTh_eq hk hs, chgDr_eq hk hs, checkList_eq hk hs.wears (n := (c.1.length : Int)) (but := -1) (by omega), checkList_eq hk hs.wants (n := (c.1.length : Int)) (but := -1) (by omega)];by_cases z1 : szE c.1.length 4 = 0
 ·by_cases z2 : fstE (thE (c.1.length : Int)) 0 c.1 = 0
  ·have hV := overV_of hs z1 z2;obtain ⟨ab, eab, hA, hc⟩ := ab2_ok hk hV;simp only [z1, z2, not_true_eq_false, if_false, if_true, bE_k, eab, bs, ab5_ok hk hV hA hc hb];cases b with
   | true => simp [bE_e]
   | false =>
    simp only [Bool.false_eq_true, if_false, bE_k, bs, not_true_eq_false];by_cases z3 : szE c.2.1.length 3 = 0
    ·by_cases z4 : fstE (drE (c.1.length : Int)) 0 c.2.1 = 0
     ·simp only [z3, z4, not_true_eq_false, if_false, if_true, bE_k];by_cases z5 : lstE (c.1.length : Int) (-1) none c.2.2.1 = 0 <;> simp [z5]
     ·simp only [z3, z4, not_true_eq_false, not_false_eq_true, if_false, if_true, bE_e]
    ·simp [z3]
  ·simp only [z1, z2, not_true_eq_false, not_false_eq_true, if_false, if_true, bE_e, bs]
 ·simp [z1, bs]
theorem refCheck_eq {k : Nat} (hk : 50 ≤ k) {c : dChange} (hs : Short c) {b : Bool} (hb : b = true ↔ ∃ i, Rch c i i) : ref_Check k c = some (chkS c b) := by
 have h1 := hs.things;unfold ref_Check chkS;rw [show (4 : Int) = ((4 : Nat) : Int) from rfl, show (3 : Int) = ((3 : Nat) : Int) from rfl];simp only [rsized_eq, bs, refTh_eq hk hs, refDr_eq hk hs, things_eq hk hs.wears (c := c) (but := -1) (by omega), things_eq hk hs.wants (c := c) (but := -1) (by omega)];by_cases z1 : szE c.1.length 4 = 0
 ·by_cases z2 : fstE (thE (c.1.length : Int)) 0 c.1 = 0
  ·have hV := overV_of hs z1 z2;simp only [z1, z2, not_true_eq_false, if_false, if_true, bE_k, bs, rg_ok hk hV hb];cases b with
   | true => simp [bE_e]
   | false =>
    simp only [Bool.false_eq_true, if_false, bE_k];by_cases z3 : szE c.2.1.length 3 = 0
    ·by_cases z4 : fstE (drE (c.1.length : Int)) 0 c.2.1 = 0
     ·simp only [z3, z4, not_true_eq_false, if_false, if_true, bE_k];by_cases z5 : lstE (c.1.length : Int) (-1) none c.2.2.1 = 0 <;> simp [z5]
     ·simp only [z3, z4, not_true_eq_false, not_false_eq_true, if_false, if_true, bE_e]
    ·simp [z3]
  ·simp only [z1, z2, not_true_eq_false, not_false_eq_true, if_false, if_true, bE_e]
 ·simp [z1]

/-- A change without an error is valid. -/
theorem vc_of_chk {c : dChange} (hs : Short c) {b : Bool} (hb : b = true ↔ ∃ i, Rch c i i) (h : chkS c b = 0) : VC (c.1.length : Int) c := by
 have hchk : ∀ k, 50 ≤ k → chg_Check k c = some 0 := fun k hk => by rw [chgCheck_eq hk hs hb, h]
 unfold chkS at h;by_cases z1 : szE c.1.length 4 = 0
 ·rw [if_neg (by simp [z1])] at h;by_cases z2 : fstE (thE (c.1.length : Int)) 0 c.1 = 0
  ·rw [if_neg (by simp [z2])] at h;cases b with
   | true => rw [if_pos rfl] at h; cases h
   | false =>
    rw [if_neg (by decide)] at h;by_cases z3 : szE c.2.1.length 3 = 0
    ·rw [if_neg (by simp [z3])] at h;by_cases z4 : fstE (drE (c.1.length : Int)) 0 c.2.1 = 0
     ·rw [if_neg (by simp [z4])] at h;by_cases z5 : lstE (c.1.length : Int) (-1) none c.2.2.1 = 0
      ·rw [if_neg (by simp [z5])] at h;have hz1 := szE_zero.1 z1
       have asc : ∀ {l : List Int} {but : Int}, lstE (c.1.length : Int) but none l = 0 → Asc l (c.1.length : Int) := fun h => by
        obtain ⟨a, b, _⟩ := lstE_zero.1 h;exact ⟨b, fun x hx => ⟨(a x hx).1, (a x hx).2.1⟩⟩
       refine ⟨by omega, rfl, fun j t ht => ?_, asc z5, asc h, fun x hx => ?_, szE_zero.1 z3, hchk⟩
       ·have := fstE_zero.1 z2 j t ht;unfold thE at this;rw [Nat.zero_add] at this;by_cases a1 : lstE (c.1.length : Int) (j : Int) none t.1 = 0
        ·rw [if_neg (by simp [a1])] at this;by_cases a2 : ¬ (1 ≤ t.2.1 ∧ t.2.1 ≤ 4) ∨ ¬ (1 ≤ t.2.2.1 ∧ t.2.2.1 ≤ 4)
         ·rw [if_pos a2] at this; cases this
         ·rw [if_neg a2] at this;by_cases a3 : ¬ (0 ≤ t.2.2.2.1 ∧ t.2.2.2.1 ≤ 2)
          ·rw [if_pos a3] at this; cases this
          ·rw [if_neg a3] at this;by_cases a4 : ¬ (0 ≤ t.2.2.2.2 ∧ t.2.2.2.2 ≤ 30)
           ·rw [if_pos a4] at this; cases this
           ·exact ⟨asc a1, fun hj => ((lstE_zero.1 a1).1 _ hj).2.2 rfl, by omega, by omega, by omega, by omega⟩
        ·rw [if_pos a1] at this; exact absurd this a1
       ·obtain ⟨j, hj⟩ := List.mem_iff_getElem?.1 hx;have := fstE_zero.1 z4 j x hj;unfold drE at this;by_cases a1 : lstE (c.1.length : Int) (-1) none x.1 = 0
        ·rw [if_neg (by simp [a1])] at this;by_cases a3 : ¬ (0 ≤ x.2.1 ∧ x.2.1 ≤ 2)
         ·rw [if_pos a3] at this; cases this
         ·rw [if_neg a3] at this;by_cases a4 : ¬ (0 ≤ x.2.2 ∧ x.2.2 ≤ 9)
          ·rw [if_pos a4] at this; cases this
          ·exact ⟨asc a1, by omega, by omega⟩
        ·rw [if_pos a1] at this; exact absurd this a1
      ·rw [if_pos z5] at h; exact absurd h z5
     ·rw [if_pos z4] at h; exact absurd h z4
    ·rw [if_pos z3] at h; exact absurd h z3
  ·rw [if_pos z2] at h; exact absurd h z2
 ·rw [if_pos z1] at h; exact absurd h z1
end Go.Proofs.YtfhdclhbdmhnmaaGreat

/- Plain law, part 12: who can do what, what comes first, the error of a plan. -/
namespace Go.Proofs.YtfhdclhbdmhnmaaGreat
open K Go Go.Proofs

theorem iandn_ok {a b : Int} (ha : Mask a) (hb : Mask b) : (iandn .u8 a b = 0 ↔ ∀ i, Has a i → Has b i) := by
 obtain ⟨n, hn, rfl⟩ := mask_nat ha;obtain ⟨m, hm, rfl⟩ := mask_nat hb
 have h1 : ((BitVec.ofInt IntKind.u8.bits (n : Int)) &&& ~~~ (BitVec.ofInt IntKind.u8.bits (m : Int))).toNat = n &&& (255 - m) := by
  show ((BitVec.ofInt 8 (n : Int)) &&& ~~~ (BitVec.ofInt 8 (m : Int))).toNat = n &&& (255 - m);have e1 : (BitVec.ofInt 8 (n : Int)).toNat = n := ofInt8 hn;have e2 : (BitVec.ofInt 8 (m : Int)).toNat = m := ofInt8 hm;rw [BitVec.toNat_and, BitVec.toNat_not, e1, e2]
 have e : iandn .u8 (n : Int) (m : Int) = ((n &&& (255 - m) : Nat) : Int) := by
  unfold iandn;rw [h1];exact wrap_u8 (lt_and8 hn)
 rw [e];have h2 : ((n &&& (255 - m) : Nat) : Int) = 0 ↔ n &&& (255 - m) = 0 := by omega
 have h3 : ∀ i, i < 8 → (255 - m).testBit i = !m.testBit i := fun i hi => by
  have := Nat.testBit_two_pow_sub_succ (n := 8) (x := m) hm i;have e : 2 ^ 8 - (m + 1) = 255 - m := by omega
  rw [e] at this;simp [this, hi]
 rw [h2];constructor
 ·intro h i hi;have hi' : n.testBit i = true := by simpa [Has] using hi
  have h8 : i < 8 := by
   false_or_by_contra;have := Nat.testBit_lt_two_pow (x := n) (i := i) (Nat.lt_of_lt_of_le hn (Nat.pow_le_pow_right (by decide) (by omega) : 2 ^ 8 ≤ 2 ^ i));rw [this] at hi'; cases hi'
  have := congrArg (fun x => Nat.testBit x i) h;simp only [Nat.testBit_and, h3 i h8, hi', Nat.zero_testBit, Bool.true_and] at this;show (m : Int).toNat.testBit i = true;simpa using this
 ·intro h;apply Nat.eq_of_testBit_eq;intro i;simp only [Nat.testBit_and, Nat.zero_testBit];by_cases h8 : i < 8
  ·cases hb : n.testBit i with
   | false => rfl
   | true =>
    have := h i (by simpa [Has] using hb);have : m.testBit i = true := by simpa [Has] using this
    rw [h3 i h8, this]; rfl
  ·have := Nat.testBit_lt_two_pow (x := n) (i := i) (Nat.lt_of_lt_of_le hn (Nat.pow_le_pow_right (by decide) (by omega) : 2 ^ 8 ≤ 2 ^ i));rw [this]; rfl

/-- A thing of a change. -/
def thg (c : dChange) (x : Int) : dThing := c.1[x.toNat]?.getD ([], 0, 0, 0, 0)
def drs (c : dChange) (d : Int) : dDresser := c.2.1[d.toNat]?.getD ([], 0, 0)
/-- Can a dresser do a task? -/
def canB (c : dChange) (d : Int) (w : Bool × Int) : Bool := decide (w.2 ∈ (drs c d).1) && (decide ((thg c w.2).2.2.2.1 = 0) || decide ((drs c d).2.1 = 0) || decide ((drs c d).2.1 = (thg c w.2).2.2.2.1))
def barsB (c : dChange) (w : Bool × Int) : Int := if w.1 = true then (thg c w.2).2.2.1 else (thg c w.2).2.1
/-- Has a task to be done before another one? -/
def befB (c : dChange) (x y : Bool × Int) : Bool := (decide (x.2 = y.2) && !x.1 && y.1) || (decide (x.2 ∈ (thg c y.2).1) && !x.1) || (decide (y.2 ∈ (thg c x.2).1) && y.1)
def bef (c : dChange) (ts : List (Bool × Int)) (a b : Nat) : Bool := match ts[a]?, ts[b]? with
 | some x, some y => befB c x y
 | _, _ => false
def befL (c : dChange) (ts : List (Bool × Int)) (b : Nat) : List Nat := (List.range ts.length).filter fun a => bef c ts a b

theorem thg_some {c : dChange} {i : Nat} {t : dThing} (h : c.1[i]? = some t) : thg c (i : Int) = t := by simp [thg, h]
theorem geti_thg {c : dChange} {x : Int} (h0 : 0 ≤ x) (h : x.toNat < c.1.length) : geti c.1 x = some (thg c x) := by
 rw [geti_at h0 h, thg, List.getElem?_eq_getElem h]; rfl
theorem geti_drs {c : dChange} {d : Int} (h0 : 0 ≤ d) (h : d < c.2.1.length) : geti c.2.1 d = some (drs c d) := by
 have : d.toNat < c.2.1.length := by omega
 rw [geti_at h0 this, drs, List.getElem?_eq_getElem this]; rfl

theorem befT_iff {c : dChange} {x y : Bool × Int} (hx : ∃ i : Nat, i < c.1.length ∧ x.2 = (i : Int)) (hy : ∃ i : Nat, i < c.1.length ∧ y.2 = (i : Int)) : BefT c x y ↔ befB c x y = true := by
 obtain ⟨i, hi, ei⟩ := hx;obtain ⟨j, hj, ej⟩ := hy;obtain ⟨xb, xv⟩ := x;obtain ⟨yb, yv⟩ := y;simp only at ei ej;subst ei ej;have hgi := List.getElem?_eq_getElem hi;have hgj := List.getElem?_eq_getElem hj;simp only [BefT, befB, Bool.or_eq_true, Bool.and_eq_true, decide_eq_true_eq, Bool.not_eq_true', thg_some hgi, thg_some hgj];constructor
 ·rintro (⟨a, b, d⟩ | ⟨i', t, a, b, d, e⟩ | ⟨i', t, a, b, d, e⟩)
  ·exact .inl (.inl ⟨⟨a, b⟩, d⟩)
  ·have : j = i' := by omega
   subst this;rw [hgj] at a; cases a;exact .inl (.inr ⟨d, e⟩)
  ·have : i = i' := by omega
   subst this;rw [hgi] at a; cases a;exact .inr ⟨d, e⟩
 ·rintro ((⟨⟨a, b⟩, d⟩ | ⟨a, b⟩) | ⟨a, b⟩)
  ·exact .inl ⟨a, b, d⟩
  ·exact .inr (.inl ⟨j, _, hgj, rfl, a, b⟩)
  ·exact .inr (.inr ⟨i, _, hgi, rfl, a, b⟩)

theorem QV.mask {n : Int} {c : dChange} {mv : List Bool} {q : dQuick} (h : QV n c mv q) {b : Nat} (hb : b < 8) : ∃ m, q.2.2[b]? = some m ∧ Mask m ∧ (∀ a : Nat, Has m a ↔ bef c (tsC c mv) a b = true) ∧ bitsL m 8 = (befL c (tsC c mv) b).map fun (a : Nat) => (a : Int) := by
 have hl : b < q.2.2.length := by rw [h.len]; exact hb
 obtain ⟨h1, h2⟩ := h.masks b _ (List.getElem?_eq_getElem hl)
 have h3 : ∀ a : Nat, Has q.2.2[b] a ↔ bef c (tsC c mv) a b = true := fun a => by
  rw [h2];unfold bef;constructor
  ·rintro ⟨x, y, e1, e2, hb⟩;rw [e1, e2];exact (befT_iff (tsC_rng _ (List.mem_of_getElem? e1)) (tsC_rng _ (List.mem_of_getElem? e2))).1 hb
  ·intro hm;cases e1 : (tsC c mv)[a]? with
   | none => rw [e1] at hm; simp at hm
   | some x => cases e2 : (tsC c mv)[b]? with
    | none => rw [e1, e2] at hm; simp at hm
    | some y =>
     rw [e1, e2] at hm;exact ⟨x, y, rfl, rfl, (befT_iff (tsC_rng _ (List.mem_of_getElem? e1)) (tsC_rng _ (List.mem_of_getElem? e2))).2 hm⟩
 refine ⟨_, List.getElem?_eq_getElem hl, h1, h3, ?_⟩;unfold bitsL befL
 have hf : ∀ i, decide (Has q.2.2[b] i) = true → i < (tsC c mv).length := fun i hi => by
  have := (h3 i).1 (of_decide_eq_true hi);unfold bef at this;cases e1 : (tsC c mv)[i]? with
  | none => rw [e1] at this; simp at this
  | some x => exact (List.getElem?_eq_some_iff.1 e1).1
 rw [filter_range hf 8 (by have := h.t4; omega)];congr 1;apply List.filter_congr;intro i _;rw [Bool.eq_iff_iff, decide_eq_true_eq];exact h3 i

theorem contains_eq {k : Nat} {l : List Int} {x : Int} (h : l.length < k) (hk : l.length ≤ 1000000) : slc_Contains_int k l x = some (decide (x ∈ l)) := by
 have key := for_foldE (f := slc_Index_int_l1 k l x) l (fun (_ : Unit) j => j) (fun _ j y => if decide (x = y) then Except.error (j : Int) else .ok ()) (fun _ _ => True) (fun r => some r)
  (fun n s j h _ => by
   simp (disch := omega) only [slc_Index_int_l1, Int.ofNat_lt, h, if_true, geti_W h, bs, ck_ok];by_cases hx : x = l[j] <;> simp [hx]) (fun n s _ => by simp [slc_Index_int_l1]) (n := k) (s0 := ()) h trivial
 unfold slc_Contains_int slc_Index_int;rw [show slc_Index_int_l1 k l x k 0 = _ from key, foldE_find (fun y => decide (x = y))];cases hf : l.findIdx? (fun y => decide (x = y)) with
 | none =>
  simp only [bE_k, bs];rw [List.findIdx?_eq_none_iff] at hf;have : x ∉ l := fun hm => by have := hf x hm; simp at this
  simp [this]
 | some i =>
  simp only [bE_e, bs];rw [List.findIdx?_eq_some_iff_getElem] at hf;obtain ⟨hi, h1, _⟩ := hf;have h1 := of_decide_eq_true h1;have : x ∈ l := by rw [h1]; exact List.getElem_mem hi
  simp [this]

theorem work_thing {k : Nat} {w : Bool × Int} : cond w.1 (chg_on_thing k w.2) (chg_off_thing k w.2) = some w.2 := by
 obtain ⟨b, v⟩ := w;cases b <;> rfl

theorem can_eq {k : Nat} (hk : 50 ≤ k) {n : Int} {c : dChange} {mv : List Bool} {q : dQuick} (h : QV n c mv q) {d : Int} {w : Bool × Int} (hd : 0 ≤ d ∧ d < c.2.1.length) (hw : w ∈ tsC c mv) : chg_quick_can k q d w = some (canB c d w) := by
 obtain ⟨i, hi, ei⟩ := tsC_rng w hw;obtain ⟨_, _, _, _, w5⟩ := h.vc.wl
 have hl : (drs c d).1.length ≤ 4 := by
  have hdl : d.toNat < c.2.1.length := by omega
  rw [drs, List.getElem?_eq_getElem hdl];exact w5 _ (List.getElem_mem hdl)
 unfold chg_quick_can;rw [h.eq, geti_drs hd.1 hd.2, bs, work_thing, bs, geti_thg (by omega) (by omega), bs, bs, contains_eq (by omega) (by omega), bs];unfold canB;by_cases h1 : w.2 ∈ (drs c d).1
 ·by_cases h2 : (thg c w.2).2.2.2.1 = 0
  ·simp [h1, h2]
  ·by_cases h3 : (drs c d).2.1 = 0
   ·simp [h1, h3]
   ·simp [h1, h2, h3]
 ·simp [h1]

theorem bars_eq {k : Nat} {n : Int} {c : dChange} {mv : List Bool} {q : dQuick} (h : QV n c mv q) {w : Bool × Int} (hw : w ∈ tsC c mv) : chg_quick_bars k q w = some (barsB c w) := by
 obtain ⟨i, hi, ei⟩ := tsC_rng w hw;unfold chg_quick_bars barsB;rw [work_thing, bs, h.eq, geti_thg (by omega) (by omega), bs];by_cases hb : w.1 = true <;> simp [hb]

theorem barsB_rng {n : Int} {c : dChange} {mv : List Bool} (hc : VC n c) {w : Bool × Int} (hw : w ∈ tsC c mv) : 1 ≤ barsB c w ∧ barsB c w ≤ 4 := by
 obtain ⟨i, hi, ei⟩ := tsC_rng w hw;have hg := List.getElem?_eq_getElem hi;have hG := hc.good i _ hg;unfold barsB;rw [ei, thg_some hg];split
 ·exact hG.put
 ·exact hG.off

/-- The error of a step, where some tasks are done. -/
def stepErr (c : dChange) (ts : List (Bool × Int)) (done : List Int) (s : dStep) : Int :=
 if ¬ (0 ≤ s.1 ∧ s.1 < ts.length) then 3
 else if s.1 ∈ done then 4
 else if ¬ (0 ≤ s.2 ∧ s.2 < c.2.1.length) then 3
 else if canB c s.2 (ts[s.1.toNat]?.getD (false, 0)) = false then 8
 else if ¬ (∀ a ∈ befL c ts s.1.toNat, (a : Int) ∈ done) then 5
 else 0
def cpGo (c : dChange) (ts : List (Bool × Int)) : List Int → List dStep → Int
 | _, [] => 0
 | done, s :: p => if ¬ stepErr c ts done s = 0 then stepErr c ts done s else cpGo c ts (done ++ [s.1]) p
/-- The error of a plan. -/
def cpS (c : dChange) (ts : List (Bool × Int)) (p : List dStep) : Int := if p.length < ts.length then 7 else if ts.length < p.length then 6 else cpGo c ts [] p

theorem outside_eq {k : Nat} {x a b : Int} : chg_outside k x a b = some (decide (¬ (a ≤ x ∧ x ≤ b))) := by
 unfold chg_outside;by_cases h : x < a
 ·rw [if_pos h, bs, decide_eq_true (by omega)]
 ·rw [if_neg h, bs];congr 1;rw [decide_eq_decide];omega

theorem mem_befL {c : dChange} {ts : List (Bool × Int)} {a b : Nat} : a ∈ befL c ts b ↔ bef c ts a b = true := by
 unfold befL;simp only [List.mem_filter, List.mem_range];refine ⟨fun h => h.2, fun h => ⟨?_, h⟩⟩;unfold bef at h;cases e1 : ts[a]? with
 | none => rw [e1] at h; simp at h
 | some x => exact (List.getElem?_eq_some_iff.1 e1).1

end Go.Proofs.YtfhdclhbdmhnmaaGreat

/- Plain law: the reference's tasks, and its pairs of what comes first. -/
namespace Go.Proofs.YtfhdclhbdmhnmaaGreat
open K Go Go.Proofs

theorem ref_has_eq {k : Nat} {l : List Int} {x : Int} (h : l.length < k) (hk : l.length ≤ 1000000) : ref_has k l x = some (decide (x ∈ l)) := by
 have key := for_foldE (f := ref_has_l1 k l x) l (fun (_ : Unit) j => j) (fun _ _ y => if y = x then Except.error true else .ok ()) (fun _ _ => True) (fun r => some r)
  (fun n s j h _ => by
   simp (disch := omega) only [ref_has_l1, Int.ofNat_lt, h, if_true, geti_W h, bs, ck_ok];by_cases hx : l[j] = x <;> simp [hx]) (fun n s _ => by simp [ref_has_l1]) (n := k) (s0 := ()) h trivial
 unfold ref_has;rw [show ref_has_l1 k l x k 0 = _ from key]
 have : ∀ (l : List Int) (j : Nat), foldE (fun (_ : Unit) _ y => if y = x then Except.error true else .ok ()) j l () = if x ∈ l then .error true else .ok () := by
  intro l
  induction l with
  | nil => intro j; simp [foldE]
  | cons y l ih =>
   intro j;by_cases hy : y = x
   ·simp [foldE, hy]
   ·rw [foldE, if_neg hy];simp only;rw [ih (j + 1)];simp [List.mem_cons, Ne.symm hy]
 rw [this];by_cases hm : x ∈ l
 ·rw [if_pos hm, bE_e, decide_eq_true hm]
 ·rw [if_neg hm, bE_k, decide_eq_false hm]

/-- What a round of the reference leaves. -/
structure RPass (c : dChange) (mv0 mv : List Bool) : Prop where
 len : mv.length = c.1.length
 mono : ∀ i, In mv0 i → In mv i
 sound : ∀ C, Shut c C → (∀ i, In mv0 i → C i) → ∀ i, In mv i → C i

theorem rch3_ok {k : Nat} (hk : 50 ≤ k) {n : Int} {c : dChange} (hc : VC n c) {mv0 mvx : List Bool} {i : Nat} (hi : i < c.1.length) {b1 b2 : Bool} (h1 : b1 = true ↔ (i : Int) ∈ c.2.2.1) (h2 : b2 = true ↔ (i : Int) ∈ c.2.2.2) (hl : mv0.length = c.1.length) :
 W (ref_changed_l3 k c (mvx, (i : Int)) b1 b2 k (mv0, 0)) fun r => RPass c mv0 r ∧ (((i : Int) ∈ c.2.2.1 ∧ (i : Int) ∈ c.2.2.2 ∧ ∃ (q : Nat) (t : dThing), c.1[q]? = some t ∧ In mv0 q ∧ (i : Int) ∈ t.1) → In r i) := by
 obtain ⟨w1, w2, w3, w4, _⟩ := hc.wl
 refine W.loop (f := ref_changed_l3 k c (mvx, (i : Int)) b1 b2) (fun m y => ∃ j : Nat, y.2 = (j : Int) ∧ j ≤ c.1.length ∧ m = c.1.length - j ∧ RPass c mv0 y.1 ∧ (((i : Int) ∈ c.2.2.1 ∧ (i : Int) ∈ c.2.2.2 ∧ ∃ (q : Nat) (t : dThing), q < j ∧ c.1[q]? = some t ∧ In mv0 q ∧ (i : Int) ∈ t.1) → In y.1 i)) ?_ c.1.length k (mv0, 0) (by omega)
  ⟨0, rfl, by omega, by omega, ⟨hl, fun _ h => h, fun _ _ h => h⟩, fun ⟨_, _, q, t, h, _⟩ => by omega⟩
 rintro fuel m ⟨mv, y⟩ ⟨j, hj, hle, hm, hP, hd⟩ ih;simp only at hj hP hd;subst hj;have o1 : j < c.1.length → m - 1 < m ∧ m - 1 = c.1.length - (j + 1) ∧ j + 1 ≤ c.1.length := by clear hd ih; omega
 have hck : ck ((j : Int) + 1) = some ((j : Int) + 1) := ck_ok (by clear hd ih; omega) (by clear hd ih; omega);unfold ref_changed_l3;dsimp only
 have fin : ¬ ((j : Int) < (c.1.length : Int) ∧ (i : Int) ∈ c.2.2.1 ∧ (i : Int) ∈ c.2.2.2) → W (some mv) fun r => RPass c mv0 r ∧ (((i : Int) ∈ c.2.2.1 ∧ (i : Int) ∈ c.2.2.2 ∧ ∃ (q : Nat) (t : dThing), c.1[q]? = some t ∧ In mv0 q ∧ (i : Int) ∈ t.1) → In r i) := fun hn =>
  W.ret ⟨hP, fun ⟨a, b, q, t, h3, h4, h5⟩ => hd ⟨a, b, q, t, by
   have := (List.getElem?_eq_some_iff.1 h3).1;false_or_by_contra;exact hn ⟨by clear hd ih; omega, a, b⟩, h3, h4, h5⟩⟩
 by_cases hlt : (j : Int) < (c.1.length : Int)
 ·rw [if_pos hlt];by_cases hw : (i : Int) ∈ c.2.2.1
  ·rw [if_pos (h1.2 hw), bs];by_cases hv : (i : Int) ∈ c.2.2.2
   ·rw [if_pos (h2.2 hv)];have hlt' : j < c.1.length := by clear hd ih; omega
    have hjm : j < mv.length := by rw [hP.len]; exact hlt'
    have him : i < mv.length := by rw [hP.len]; exact hi
    have hIn : In mv j ↔ mv[j] = true := by unfold In; rw [List.getElem?_eq_getElem hjm]; simp
    have hb : ((geti mv (j : Int)).bind fun x27 => if x27 = true then ((geti c.1 (j : Int)).bind fun x28 => (ref_has k x28.1 (i : Int)).bind fun r29 => some r29) else (some false)) = some (decide (In mv j ∧ (i : Int) ∈ c.1[j].1)) := by
     rw [geti_W hjm, bs];by_cases hmj : mv[j] = true
     ·have hl4 := w4 _ (List.getElem_mem hlt');rw [if_pos hmj, geti_W hlt', bs, ref_has_eq (by clear hd ih; omega) (by clear hd ih; omega), bs];have e : decide ((i : Int) ∈ c.1[j].1) = decide (In mv j ∧ (i : Int) ∈ c.1[j].1) := decide_eq_decide.2 ⟨fun h => ⟨hIn.2 hmj, h⟩, fun h => h.2⟩;rw [e]
     ·rw [if_neg hmj, decide_eq_false (fun h => hmj (hIn.1 h.1))]
    rw [hb, bs];by_cases hx : In mv j ∧ (i : Int) ∈ c.1[j].1
    ·rw [decide_eq_true hx, if_pos rfl, geti_W him, bs, bs, hck, bs, Int.toNat_natCast];refine ih (m - 1) (_, (j : Int) + 1) (o1 hlt').1 ⟨j + 1, rfl, (o1 hlt').2.2, (o1 hlt').2.1, ⟨by simpa using hP.len, fun x h => (in_set him).2 (.inr (hP.mono x h)), fun C hC h0 x h => ?_⟩, fun _ => (in_set him).2 (.inl rfl)⟩;rcases (in_set him).1 h with rfl | h
     ·exact hC _ hi (.inr ⟨hw, hv, j, _, List.getElem?_eq_getElem hlt', hP.sound C hC h0 j hx.1, hx.2⟩)
     ·exact hP.sound C hC h0 x h
    ·rw [decide_eq_false hx, if_neg (by decide), bs, hck, bs];refine ih (m - 1) (mv, (j : Int) + 1) (o1 hlt').1 ⟨j + 1, rfl, (o1 hlt').2.2, (o1 hlt').2.1, hP, fun ⟨a, b, q, t, g1, g2, g3, g4⟩ => ?_⟩;by_cases hqj : q = j
     ·subst hqj;rw [List.getElem?_eq_getElem hlt'] at g2;cases g2;exact absurd ⟨hP.mono _ g3, g4⟩ hx
     ·exact hd ⟨a, b, q, t, by clear hd ih; omega, g2, g3, g4⟩
   ·rw [if_neg (fun h => hv (h2.1 h))]; exact fin (fun h => hv h.2.2)
  ·rw [if_neg (fun h => hw (h1.1 h)), bs, if_neg (by decide)]; exact fin (fun h => hw h.2.1)
 ·rw [if_neg hlt, bs, if_neg (by decide)]; exact fin (fun h => hlt h.1)

theorem rch2_ok {k : Nat} (hk : 50 ≤ k) {n : Int} {c : dChange} (hc : VC n c) {mv0 : List Bool} (hl : mv0.length = c.1.length) : W (ref_changed_l2 k c k (mv0, 0)) fun r => RPass c mv0 r ∧ ∀ i, i < c.1.length → Forced c (In mv0) i → In r i := by
 obtain ⟨w1, w2, w3, w4, _⟩ := hc.wl
 refine W.loop (f := ref_changed_l2 k c) (fun m y => ∃ j : Nat, y.2 = (j : Int) ∧ j ≤ c.1.length ∧ m = c.1.length - j ∧ RPass c mv0 y.1 ∧ ∀ i, i < j → Forced c (In mv0) i → In y.1 i) ?_ c.1.length k (mv0, 0) (by omega)
  ⟨0, rfl, by omega, by omega, ⟨hl, fun _ h => h, fun _ _ h => h⟩, fun i h => by omega⟩
 rintro fuel m ⟨mv, y⟩ ⟨j, hj, hle, hm, hP, hd⟩ ih;simp only at hj hP hd;subst hj;unfold ref_changed_l2;dsimp only;refine W.ite (fun hlt => ?_) (fun hge => W.ret ⟨hP, fun i hi => hd i (by omega)⟩);have hlt' : j < c.1.length := by omega
 have hjm : j < mv.length := by rw [hP.len]; exact hlt'
 rw [ref_has_eq (by omega) (by omega), bs, ref_has_eq (by omega) (by omega), bs]
 have hx : ∃ mv1, (if ¬ decide ((j : Int) ∈ c.2.2.1) = decide ((j : Int) ∈ c.2.2.2) then ((geti mv (j : Int)).bind fun x18 => some (List.set mv (Int.toNat (j : Int)) true)) else (some mv)) = some mv1 ∧ RPass c mv0 mv1 ∧ (∀ i, In mv i → In mv1 i) ∧
  ((((j : Int) ∈ c.2.2.1 ∧ ¬ (j : Int) ∈ c.2.2.2) ∨ (¬ (j : Int) ∈ c.2.2.1 ∧ (j : Int) ∈ c.2.2.2)) → In mv1 j) := by
  by_cases h : (decide ((j : Int) ∈ c.2.2.1)) = (decide ((j : Int) ∈ c.2.2.2))
  ·refine ⟨mv, by rw [if_neg (by simpa using h)], hP, fun _ h => h, fun h' => ?_⟩;rw [decide_eq_decide] at h;rcases h' with ⟨a, b⟩ | ⟨a, b⟩
   ·exact absurd (h.1 a) b
   ·exact absurd (h.2 b) a
  ·have hor : ((j : Int) ∈ c.2.2.1 ∧ ¬ (j : Int) ∈ c.2.2.2) ∨ (¬ (j : Int) ∈ c.2.2.1 ∧ (j : Int) ∈ c.2.2.2) := by
    by_cases a : (j : Int) ∈ c.2.2.1 <;> by_cases b : (j : Int) ∈ c.2.2.2
    ·exact absurd (by simp [a, b]) h
    ·exact .inl ⟨a, b⟩
    ·exact .inr ⟨a, b⟩
    ·exact absurd (by simp [a, b]) h
   refine ⟨_, by rw [if_pos h, geti_W hjm, bs, Int.toNat_natCast], ⟨by simpa using hP.len, fun i hi => (in_set hjm).2 (.inr (hP.mono i hi)), fun C hC h0 i hi => ?_⟩, fun i hi => (in_set hjm).2 (.inr hi), fun _ => (in_set hjm).2 (.inl rfl)⟩;rcases (in_set hjm).1 hi with rfl | hi
   ·exact hC _ hlt' (.inl hor)
   ·exact hP.sound C hC h0 i hi
 obtain ⟨mv1, e1, hP1, hm1, hd1⟩ := hx;rw [e1, bs];obtain ⟨r, er, hR, hRd⟩ := rch3_ok hk hc (mv0 := mv1) (mvx := mv) hlt' (b1 := decide ((j : Int) ∈ c.2.2.1)) (b2 := decide ((j : Int) ∈ c.2.2.2)) (by simp) (by simp) hP1.len;rw [er, bs, ck_ok (by omega) (by omega), bs];refine ih (m - 1) (r, (j : Int) + 1) (by omega) ⟨j + 1, rfl, by omega, by omega, ⟨hR.len, fun i h => hR.mono i (hP1.mono i h), fun C hC h0 i h => hR.sound C hC (hP1.sound C hC h0) i h⟩, fun i hi hF => ?_⟩;by_cases hij : i = j
 ·subst hij;rcases hF with hF | ⟨a, b, q, t, h3, h4, h5⟩
  ·exact hR.mono _ (hd1 hF)
  ·exact hRd ⟨a, b, q, t, h3, hP1.mono q h4, h5⟩
 ·exact hR.mono i (hm1 i (hd i (by omega) hF))

theorem rch_ok {k : Nat} (hk : 50 ≤ k) {n : Int} {c : dChange} (hc : VC n c) : W (ref_changed k c) (Fix c) := by
 obtain ⟨w1, w2, w3, w4, _⟩ := hc.wl;unfold ref_changed;rw [chk_ok ⟨by omega, okLen_of (by omega)⟩, bs, Int.toNat_natCast];refine W.bind (R := Fix c) ?_ fun r h => W.ret h
 refine W.loop (f := ref_changed_l1 k c) (fun m y => ∃ j : Nat, y.2 = (j : Int) ∧ j ≤ c.1.length + 1 ∧ m = c.1.length + 1 - j ∧ y.1.length = c.1.length ∧ (∀ C, Shut c C → ∀ i, In y.1 i → C i) ∧ (Shut c (In y.1) ∨ j ≤ cntT y.1)) ?_ (c.1.length + 1) k _ (by omega)
  ⟨0, rfl, by omega, by omega, by simp, fun C _ i h => (by
   exfalso;have h : (List.replicate c.1.length false)[i]? = some true := h;rw [List.getElem?_replicate] at h;split at h <;> cases h), .inr (by omega)⟩
 rintro fuel m ⟨mv, y⟩ ⟨j, hj, hle, hm, hl, hs, hor⟩ ih;simp only at hj hl hs hor;subst hj;unfold ref_changed_l1;dsimp only;refine W.ite (fun hlt => ?_) (fun hge => W.ret ⟨hl, hs, ?_⟩)
 ·obtain ⟨r, er, hR, hRd⟩ := rch2_ok hk hc hl;rw [er, bs, ck_ok (by omega) (by omega), bs];refine ih (m - 1) (r, (j : Int) + 1) (by omega) ⟨j + 1, rfl, by omega, by omega, hR.len, fun C hC => hR.sound C hC (hs C hC), ?_⟩;simp only;rcases hor with h | h
  ·refine .inl fun i hi hF => hR.mono i (h i hi (hF.mono fun x hx => hR.sound (In mv) h (fun _ h => h) x hx))
  ·by_cases hnew : ∃ x, In r x ∧ ¬ In mv x
   ·have := (cntT_lt (by rw [hl, hR.len]) hR.mono).2 hnew;exact .inr (by omega)
   ·refine .inl fun i hi hF => hRd i hi (hF.mono fun x hx => ?_);false_or_by_contra;rename_i hb;exact hnew ⟨x, hx, hb⟩
 ·have hjn : j = c.1.length + 1 := by omega
  rcases hor with h | h
  ·exact h
  ·have : cntT mv ≤ mv.length := List.count_le_length;omega

theorem rsel_ok {k : Nat} (hk : 50 ≤ k) {n : Int} {c : dChange} (hc : VC n c) {mv : List Bool} (hl : mv.length = c.1.length) {o : List dTask} (ho : o.length ≤ 20) :
 ref_tasks_l1 k c mv k (o, 0) = some (o ++ sel mv c.2.2.1 false c.1.length) ∧ ref_tasks_l2 k c mv k (o, 0) = some (o ++ sel mv c.2.2.2 true c.1.length) := by
 obtain ⟨w1, w2, w3, w4, _⟩ := hc.wl;constructor
 ·have key : W (ref_tasks_l1 k c mv k (o, 0)) fun r => r = o ++ sel mv c.2.2.1 false c.1.length := by
   refine W.loop (f := ref_tasks_l1 k c mv) (fun m y => ∃ j : Nat, y.2 = (j : Int) ∧ j ≤ mv.length ∧ m = mv.length - j ∧ y.1 = o ++ sel mv c.2.2.1 false j) ?_ mv.length k (o, 0) (by omega) ⟨0, rfl, by omega, by omega, by simp [sel]⟩;rintro fuel m ⟨r, y⟩ ⟨j, hj, hle, hm, hr⟩ ih;simp only at hj hr;subst hj hr;unfold ref_tasks_l1;dsimp only
   refine W.ite (fun hlt => ?_) (fun hge => W.ret (by
    have : j = c.1.length := by omega
    subst this; rfl))
   have hlt' : j < mv.length := by omega
   have hsl := sel_len (mv := mv) (ws := c.2.2.1) (b := false) (j := j)
   have hb : ((geti mv (j : Int)).bind fun x11 => if x11 = true then ((ref_has k c.2.2.1 (j : Int)).bind fun r12 => some r12) else (some false)) = some (decide (In mv j ∧ (j : Int) ∈ c.2.2.1)) := by
    have hIn : In mv j ↔ mv[j] = true := by unfold In; rw [List.getElem?_eq_getElem hlt']; simp
    rw [geti_W hlt', bs];by_cases hmj : mv[j] = true
    ·rw [if_pos hmj, ref_has_eq (by omega) (by omega), bs];congr 1;rw [decide_eq_decide, hIn];exact ⟨fun h => ⟨hmj, h⟩, fun h => h.2⟩
    ·rw [if_neg hmj, decide_eq_false (fun h => hmj (hIn.1 h.1))]
   rw [hb, bs]
   have next : ∀ r', r' = o ++ sel mv c.2.2.1 false (j + 1) → W ((some r' : Option (List dTask)).bind fun x7 => (ck ((j : Int) + (1 : Int))).bind fun x15 => ref_tasks_l1 k c mv fuel (x7, x15)) fun r => r = o ++ sel mv c.2.2.1 false c.1.length := fun r' hr' => by
    rw [bs, ck_ok (by omega) (by omega), bs];exact ih (m - 1) (r', (j : Int) + 1) (by omega) ⟨j + 1, rfl, by omega, by omega, hr'⟩
   by_cases hx : In mv j ∧ (j : Int) ∈ c.2.2.1
   ·rw [decide_eq_true hx, if_pos rfl, chk_ok (okLen_of (by simp only [List.length_append, List.length_cons, List.length_nil]; omega)), bs];exact next _ (by rw [sel_succ, if_pos hx, List.append_assoc])
   ·rw [decide_eq_false hx, if_neg (by decide)];exact next _ (by rw [sel_succ, if_neg hx, List.append_nil])
  obtain ⟨r, e, rfl⟩ := key;exact e
 ·have key : W (ref_tasks_l2 k c mv k (o, 0)) fun r => r = o ++ sel mv c.2.2.2 true c.1.length := by
   refine W.loop (f := ref_tasks_l2 k c mv) (fun m y => ∃ j : Nat, y.2 = (j : Int) ∧ j ≤ mv.length ∧ m = mv.length - j ∧ y.1 = o ++ sel mv c.2.2.2 true j) ?_ mv.length k (o, 0) (by omega) ⟨0, rfl, by omega, by omega, by simp [sel]⟩;rintro fuel m ⟨r, y⟩ ⟨j, hj, hle, hm, hr⟩ ih;simp only at hj hr;subst hj hr;unfold ref_tasks_l2;dsimp only
   refine W.ite (fun hlt => ?_) (fun hge => W.ret (by
    have : j = c.1.length := by omega
    subst this; rfl))
   have hlt' : j < mv.length := by omega
   have hsl := sel_len (mv := mv) (ws := c.2.2.2) (b := true) (j := j)
   have hb : ((geti mv (j : Int)).bind fun x24 => if x24 = true then ((ref_has k c.2.2.2 (j : Int)).bind fun r25 => some r25) else (some false)) = some (decide (In mv j ∧ (j : Int) ∈ c.2.2.2)) := by
    have hIn : In mv j ↔ mv[j] = true := by unfold In; rw [List.getElem?_eq_getElem hlt']; simp
    rw [geti_W hlt', bs];by_cases hmj : mv[j] = true
    ·rw [if_pos hmj, ref_has_eq (by omega) (by omega), bs];congr 1;rw [decide_eq_decide, hIn];exact ⟨fun h => ⟨hmj, h⟩, fun h => h.2⟩
    ·rw [if_neg hmj, decide_eq_false (fun h => hmj (hIn.1 h.1))]
   rw [hb, bs]
   have next : ∀ r', r' = o ++ sel mv c.2.2.2 true (j + 1) → W ((some r' : Option (List dTask)).bind fun x20 => (ck ((j : Int) + (1 : Int))).bind fun x28 => ref_tasks_l2 k c mv fuel (x20, x28)) fun r => r = o ++ sel mv c.2.2.2 true c.1.length := fun r' hr' => by
    rw [bs, ck_ok (by omega) (by omega), bs];exact ih (m - 1) (r', (j : Int) + 1) (by omega) ⟨j + 1, rfl, by omega, by omega, hr'⟩
   by_cases hx : In mv j ∧ (j : Int) ∈ c.2.2.2
   ·rw [decide_eq_true hx, if_pos rfl, chk_ok (okLen_of (by simp only [List.length_append, List.length_cons, List.length_nil]; omega)), bs];exact next _ (by rw [sel_succ, if_pos hx, List.append_assoc])
   ·rw [decide_eq_false hx, if_neg (by decide)];exact next _ (by rw [sel_succ, if_neg hx, List.append_nil])
  obtain ⟨r, e, rfl⟩ := key;exact e

/-- **The reference's tasks.** -/
theorem refTasks_eq {k : Nat} (hk : 50 ≤ k) {n : Int} {c : dChange} {mv : List Bool} (hc : VC n c) (hF : Fix c mv) : ref_tasks k c = some ((tsC c mv).map fun x => (x.2, x.1)) := by
 obtain ⟨mv', e, hF'⟩ := rch_ok hk hc;have := fix_unique hF' hF;subst this;obtain ⟨w1, w2, w3, w4, _⟩ := hc.wl;have hsl := sel_len (mv := mv') (ws := c.2.2.1) (b := false) (j := c.1.length);unfold ref_tasks;rw [e, bs, (rsel_ok hk hc hF.len (o := []) (by simp)).1, bs, (rsel_ok hk hc hF.len (o := [] ++ sel mv' c.2.2.1 false c.1.length) (by simp; omega)).2, bs, ← tsC_sel, List.nil_append]

theorem refAsked_eq {k : Nat} (hk : 50 ≤ k) {c : dChange} {mv : List Bool} (hs : Short c) {b : Bool} (hb : b = true ↔ ∃ i, Rch c i i) (hF : chkS c b = 0 → Fix c mv) : ref_asked k c = some (if ¬ chkS c b = 0 then chkS c b else if 4 < (tsC c mv).length then 6 else 0) := by
 unfold ref_asked;rw [refCheck_eq hk hs hb, bs];by_cases h : chkS c b = 0
 ·have hc := vc_of_chk hs hb h;rw [if_neg (by simp [h]), if_neg (by simp [h]), refTasks_eq hk hc (hF h), bs, List.length_map];by_cases h4 : 4 < (tsC c mv).length
  ·rw [if_pos (by omega), if_pos h4]
  ·rw [if_neg (by omega), if_neg h4]
 ·rw [if_pos h, if_pos h]

theorem refBefore_eq {k : Nat} (hk : 50 ≤ k) {n : Int} {c : dChange} {mv : List Bool} (hc : VC n c) {x y : Bool × Int} (hx : x ∈ tsC c mv) (hy : y ∈ tsC c mv) : ref_before k c (x.2, x.1) (y.2, y.1) = some (befB c x y) := by
 obtain ⟨w1, w2, w3, w4, _⟩ := hc.wl;obtain ⟨i, hi, ei⟩ := tsC_rng x hx;obtain ⟨j, hj, ej⟩ := tsC_rng y hy;obtain ⟨xb, xv⟩ := x;obtain ⟨yb, yv⟩ := y;simp only at ei ej;subst ei ej;have gi := List.getElem?_eq_getElem hi;have gj := List.getElem?_eq_getElem hj;have li := w4 _ (List.getElem_mem hi);have lj := w4 _ (List.getElem_mem hj);unfold ref_before befB;simp only [thg_some gi, thg_some gj];by_cases hij : (i : Int) = (j : Int)
 ·have : i = j := by omega
  subst this;have hirr := (hc.good i _ gi).irr;rw [if_pos rfl];cases xb <;> cases yb <;> simp [hirr, bs]
 ·rw [if_neg hij, geti_W hj, bs, ref_has_eq (by omega) (by omega), bs, geti_W hi, bs, ref_has_eq (by omega) (by omega), bs];by_cases a : (i : Int) ∈ c.1[j].1 <;> by_cases b : (j : Int) ∈ c.1[i].1 <;> cases xb <;> cases yb <;> simp [a, b, hij, bs]

end Go.Proofs.YtfhdclhbdmhnmaaGreat

/- Plain law, part 13: when the steps of a plan begin. -/
namespace Go.Proofs.YtfhdclhbdmhnmaaGreat
open K Go Go.Proofs

def upd (f : Nat → Int) (i : Nat) (v : Int) : Nat → Int := fun j => if j = i then v else f j
/-- The task of a step. -/
def tsk (ts : List (Bool × Int)) (t : Int) : Bool × Int := ts[t.toNat]?.getD (false, 0)
/-- When a step begins: E the ends of the tasks, F when the dressers are free. -/
def bgAt (c : dChange) (ts : List (Bool × Int)) (E F : Nat → Int) (s : dStep) : Int := (befL c ts s.1.toNat).foldl (fun m a => imax m (E a)) (F s.2.toNat)
def bgEnd (c : dChange) (ts : List (Bool × Int)) (E F : Nat → Int) (s : dStep) : Int := bgAt c ts E F s + barsB c (tsk ts s.1)
def bgo (c : dChange) (ts : List (Bool × Int)) : (Nat → Int) → (Nat → Int) → List dStep → List Int
 | _, _, [] => []
 | E, F, s :: p => bgAt c ts E F s :: bgo c ts (upd E s.1.toNat (bgEnd c ts E F s)) (upd F s.2.toNat (bgEnd c ts E F s)) p
/-- The ends of all tasks, in the end. -/
def bge (c : dChange) (ts : List (Bool × Int)) : (Nat → Int) → (Nat → Int) → List dStep → Nat → Int
 | E, _, [] => E
 | E, F, s :: p => bge c ts (upd E s.1.toNat (bgEnd c ts E F s)) (upd F s.2.toNat (bgEnd c ts E F s)) p
def F0 (c : dChange) : Nat → Int := fun d => (drs c (d : Int)).2.2
def E0 : Nat → Int := fun _ => 0
/-- A list of the values of a function. -/
def Vals (l : List Int) (f : Nat → Int) (n : Nat) : Prop := l.length = n ∧ ∀ i, i < n → l[i]? = some (f i)
def Bnd (f : Nat → Int) (b : Int) : Prop := ∀ i, 0 ≤ f i ∧ f i ≤ b

theorem Vals.set {l : List Int} {f : Nat → Int} {n i : Nat} {v : Int} (h : Vals l f n) : Vals (l.set i v) (upd f i v) n := by
 refine ⟨by rw [List.length_set]; exact h.1, fun j hj => ?_⟩;rw [List.getElem?_set];unfold upd;by_cases hij : i = j
 ·subst hij; rw [if_pos rfl, if_pos rfl, if_pos (by rw [h.1]; exact hj)]
 ·rw [if_neg hij, if_neg (Ne.symm hij)]; exact h.2 j hj
theorem Vals.get {l : List Int} {f : Nat → Int} {n : Nat} {i : Int} (h : Vals l f n) (h0 : 0 ≤ i) (hi : i < n) : geti l i = some (f i.toNat) := geti_q h0 (h.2 _ (by omega))
theorem Bnd.upd {f : Nat → Int} {b v : Int} {i : Nat} (h : Bnd f b) (hv : 0 ≤ v ∧ v ≤ b) : Bnd (upd f i v) b := fun j => by
 unfold Go.Proofs.YtfhdclhbdmhnmaaGreat.upd
 split
 ·
  exact hv
 ·
  exact h j
theorem Bnd.mono {f : Nat → Int} {b b' : Int} (h : Bnd f b) (hb : b ≤ b') : Bnd f b' := fun j => ⟨(h j).1, by have := (h j).2; omega⟩

theorem imax_le {a b x : Int} : imax a b ≤ x ↔ a ≤ x ∧ b ≤ x := by unfold imax; split <;> omega
theorem le_imax {a b x : Int} : x ≤ imax a b ↔ x ≤ a ∨ x ≤ b := by unfold imax; split <;> omega
theorem foldmax_le {α : Type} {E : α → Int} {x : Int} : ∀ {l : List α} {m : Int}, l.foldl (fun m a => imax m (E a)) m ≤ x ↔ m ≤ x ∧ ∀ a ∈ l, E a ≤ x
 | [], m => by simp
 | a :: l, m => by
  rw [List.foldl_cons, foldmax_le, imax_le]
  simp only [List.mem_cons, forall_eq_or_imp]
  exact and_assoc
theorem le_foldmax {α : Type} {E : α → Int} {l : List α} {m : Int} : m ≤ l.foldl (fun m a => imax m (E a)) m ∧ ∀ a ∈ l, E a ≤ l.foldl (fun m a => imax m (E a)) m := foldmax_le.1 (Int.le_refl _)

theorem bgAt_bnd {c : dChange} {ts : List (Bool × Int)} {E F : Nat → Int} {s : dStep} {b : Int} (hE : Bnd E b) (hF : Bnd F b) : 0 ≤ bgAt c ts E F s ∧ bgAt c ts E F s ≤ b := by
 unfold bgAt;refine ⟨?_, foldmax_le.2 ⟨(hF _).2, fun a _ => (hE a).2⟩⟩;have := (le_foldmax (E := E) (l := befL c ts s.1.toNat) (m := F s.2.toNat)).1;have := (hF s.2.toNat).1;omega

theorem F0_bnd {n : Int} {c : dChange} (hc : VC n c) : Bnd (F0 c) 9 := fun d => by
 unfold F0 drs
 simp only [Int.toNat_natCast]
 cases h : c.2.1[d]? with
 | none => simp
 | some x =>
  have := (hc.dressers x (List.mem_of_getElem? h)).start
  simpa using this

/-- Steps that can be taken. -/
def StepOk (c : dChange) (ts : List (Bool × Int)) (s : dStep) : Prop := 0 ≤ s.1 ∧ s.1 < ts.length ∧ 0 ≤ s.2 ∧ s.2 < c.2.1.length

theorem tsk_mem {c : dChange} {ts : List (Bool × Int)} {s : dStep} (h : StepOk c ts s) : tsk ts s.1 ∈ ts := by
 have hl : s.1.toNat < ts.length := by have := h.1; have := h.2.1; omega
 rw [tsk, List.getElem?_eq_getElem hl];exact List.getElem_mem hl
theorem geti_tsk {c : dChange} {ts : List (Bool × Int)} {s : dStep} (h : StepOk c ts s) : geti ts s.1 = some (tsk ts s.1) := by
 have hl : s.1.toNat < ts.length := by have := h.1; have := h.2.1; omega
 rw [geti_at h.1 hl, tsk, List.getElem?_eq_getElem hl]; rfl

theorem begins3_eq {k : Nat} (hk : 50 ≤ k) {y14 : (List Int) × (List Int) × (List Int) × Int} {E : Nat → Int} {l : List Nat} {m : Int} (hE : Vals y14.2.1 E 4) (hl : ∀ a ∈ l, a < 4) (hn : l.length ≤ 8) :
 chg_quick_begins_l3 k y14 (l.map fun (a : Nat) => (a : Int)) k (m, 0) = some (l.foldl (fun m a => imax m (E a)) m) := by
 have key := for_fold (f := chg_quick_begins_l3 k y14 (l.map fun (a : Nat) => (a : Int))) l (fun s j => (s, j)) (fun s _ a => imax s (E a)) (fun _ _ => True) (fun s => some s)
  (fun n s j h _ => ⟨by
   have hm : j < (l.map fun (a : Nat) => (a : Int)).length := by simpa using h
   have ha := hl l[j] (List.getElem_mem h);have hlt : (j : Int) < ((l.map fun (a : Nat) => (a : Int)).length : Int) := by omega
   simp only [chg_quick_begins_l3, hlt, if_true, geti_W hm, bs, List.getElem_map];rw [chk_ok (by omega), bs, hE.get (by omega) (by omega), bs, ck_ok (by omega) (by omega), bs];simp, trivial⟩)
  (fun n s _ => by simp [chg_quick_begins_l3]) (n := k) (s0 := m) (by omega) trivial
 rw [key.1]
 have : ∀ (l : List Nat) (j : Nat) (m : Int), foldI (fun (s : Int) _ a => imax s (E a)) j l m = l.foldl (fun m a => imax m (E a)) m := by
  intro l
  induction l with
  | nil => intro j m; rfl
  | cons a l ih => intro j m; simp only [foldI, List.foldl_cons]; exact ih _ _
 rw [this]

theorem begins1_eq {k : Nat} (hk : 50 ≤ k) {q : dQuick} (h3 : q.1.2.1.length ≤ 3) : W (chg_quick_begins_l1 k q k ([0, 0, 0], 0)) fun r => r.length = 3 ∧ ∀ i, i < q.1.2.1.length → r[i]? = some (F0 q.1 i) := by
 refine W.loop (f := chg_quick_begins_l1 k q) (fun m y => ∃ j : Nat, y.2 = (j : Int) ∧ j ≤ q.1.2.1.length ∧ m = q.1.2.1.length - j ∧ y.1.length = 3 ∧ ∀ i, i < j → y.1[i]? = some (F0 q.1 i)) ?_ q.1.2.1.length k ([0, 0, 0], 0) (by omega) ⟨0, rfl, by omega, by omega, rfl, fun i hi => by omega⟩;rintro fuel m ⟨l, y⟩ ⟨j, hj, hle, hm, hl, hv⟩ ih;simp only at hj hl hv;subst hj;unfold chg_quick_begins_l1;dsimp only;refine W.ite (fun hlt => ?_) (fun hge => W.ret ⟨hl, fun i hi => hv i (by omega)⟩);have hlt' : j < q.1.2.1.length := by omega
 rw [geti_W hlt', bs, chk_ok (by omega), bs, ck_ok (by omega) (by omega), bs];refine ih (m - 1) (_, (j : Int) + 1) (by omega) ⟨j + 1, by show (j : Int) + 1 = ((j + 1 : Nat) : Int); omega, by omega, by omega, by simpa using hl, fun i hi => ?_⟩;simp only [Int.toNat_natCast, List.getElem?_set];by_cases hij : j = i
 ·subst hij;rw [if_pos rfl, if_pos (by omega)];simp [F0, drs, List.getElem?_eq_getElem hlt']
 ·rw [if_neg hij]; exact hv i (by omega)

theorem befL_lt {c : dChange} {ts : List (Bool × Int)} {b : Nat} : ∀ a ∈ befL c ts b, a < ts.length := fun a ha => by
 unfold befL at ha
 simpa using (List.mem_filter.1 ha).1
theorem befL_len {c : dChange} {ts : List (Bool × Int)} {b : Nat} : (befL c ts b).length ≤ ts.length := by
 unfold befL;exact Nat.le_trans (List.length_filter_le _ _) (by simp)

theorem upd_F {D : Nat} {r : List Int} {F : Nat → Int} (hl : r.length = 3) (hv : ∀ i, i < D → r[i]? = some (F i)) {d : Nat} {v : Int} (hd : d < 3) : (r.set d v).length = 3 ∧ ∀ i, i < D → (r.set d v)[i]? = some (upd F d v i) := by
 refine ⟨by rw [List.length_set]; exact hl, fun i hi => ?_⟩;rw [List.getElem?_set];unfold upd;by_cases hij : d = i
 ·subst hij; rw [if_pos rfl, if_pos rfl, if_pos (by omega)]
 ·rw [if_neg hij, if_neg (Ne.symm hij)]; exact hv i hi

theorem begins2_eq {k : Nat} (hk : 50 ≤ k) {n : Int} {c : dChange} {mv : List Bool} {q : dQuick} (h : QV n c mv q) {p : List dStep} (hp : p.length ≤ 30) (hs : ∀ s ∈ p, StepOk c (tsC c mv) s) {l4 : List Int}
 (hl4 : l4.length = 3 ∧ ∀ i, i < c.2.1.length → l4[i]? = some (F0 c i)) : W (chg_quick_begins_l2 k q p k ([], [0, 0, 0, 0], l4, 0)) fun r => r.1 = bgo c (tsC c mv) E0 (F0 c) p ∧ Vals r.2 (bge c (tsC c mv) E0 (F0 c) p) 4 := by
 have ht := h.t4;have hdl := h.vc.dl
 refine W.loop (f := chg_quick_begins_l2 k q p) (fun m y => ∃ (j : Nat) (E F : Nat → Int), y.2.2.2 = (j : Int) ∧ j ≤ p.length ∧ m = p.length - j ∧ y.1.length = j ∧ Vals y.2.1 E 4 ∧ (y.2.2.1.length = 3 ∧ ∀ i, i < c.2.1.length → y.2.2.1[i]? = some (F i)) ∧
  Bnd E (9 + 4 * j) ∧ Bnd F (9 + 4 * j) ∧ bgo c (tsC c mv) E0 (F0 c) p = y.1 ++ bgo c (tsC c mv) E F (p.drop j) ∧ bge c (tsC c mv) E0 (F0 c) p = bge c (tsC c mv) E F (p.drop j)) ?_ p.length k _ (by omega)
  ⟨0, E0, F0 c, rfl, by omega, by omega, rfl, ⟨rfl, fun i hi => by
   match i, hi with
   | 0, _ => rfl
   | 1, _ => rfl
   | 2, _ => rfl
   | 3, _ => rfl⟩, hl4, fun i => by simp [E0], by simpa using F0_bnd h.vc, by simp, by simp⟩
 rintro fuel m ⟨out, el, fl, y⟩ ⟨j, E, F, hj, hle, hm, ho, hE, hF, bE, bF, e1, e2⟩ ih;simp only at hj ho hE hF e1 e2;subst hj;unfold chg_quick_begins_l2;dsimp only
 refine W.ite (fun hlt => ?_) (fun hge => W.ret (by
  have : j = p.length := by omega
  subst this;rw [List.drop_length] at e1 e2;rw [e1, e2];exact ⟨by simp [bgo], hE⟩))
 have hlt' : j < p.length := by omega
 have hdr : p.drop j = p[j] :: p.drop (j + 1) := List.drop_eq_getElem_cons hlt';have hS := hs p[j] (List.getElem_mem hlt');rw [hdr] at e1 e2;rw [geti_W hlt', bs];generalize p[j] = s at *;obtain ⟨h1, h2, h3, h4⟩ := hS;have hS : StepOk c (tsC c mv) s := ⟨h1, h2, h3, h4⟩;have hb := barsB_rng h.vc (tsk_mem hS);have hat := bgAt_bnd (c := c) (ts := tsC c mv) (s := s) bE bF;obtain ⟨mk, em, hmk, hmb, hbl⟩ := h.mask (b := s.1.toNat) (by omega);have hF' : geti fl s.2 = some (F s.2.toNat) := geti_q h3 (hF.2 _ (by omega));have hcq : (((q.1.1, q.1.2.1, q.1.2.2.1, q.1.2.2.2), tsC c mv, q.2.2) : dQuick) = q := by rw [← h.tasks]
 rw [chk_ok (by omega), bs, hF', bs, chk_ok (by omega), bs, geti_q h1 em, bs, set_list_ok hk hmk, bs, hbl];rw [begins3_eq hk (y14 := (out, el, fl, (j : Int))) hE (fun a ha => by have := befL_lt a ha; omega) (by have := befL_len (c := c) (ts := tsC c mv) (b := s.1.toNat); omega), bs, h.tasks, geti_tsk hS, bs, hcq, bars_eq h (tsk_mem hS), bs];have hen : bgAt c (tsC c mv) E F s + barsB c (tsk (tsC c mv) s.1) = bgEnd c (tsC c mv) E F s := rfl;show W ((((ck (bgAt c (tsC c mv) E F s + barsB c (tsk (tsC c mv) s.1))).bind _ : Option _).bind _)) _;rw [ck_ok (by omega) (by omega), bs, chk_ok (okLen_of (by simp only [List.length_cons, List.length_nil]; omega)), bs, chk_ok (by omega), bs, bs, bs, ck_ok (by omega) (by omega), bs, hen];have bV : 0 ≤ bgEnd c (tsC c mv) E F s ∧ bgEnd c (tsC c mv) E F s ≤ 9 + 4 * (j + 1 : Nat) := by unfold bgEnd; omega
 refine ih (m - 1) (_, _, _, (j : Int) + 1) (by omega) ⟨j + 1, upd E s.1.toNat (bgEnd c (tsC c mv) E F s), upd F s.2.toNat (bgEnd c (tsC c mv) E F s), by show (j : Int) + 1 = ((j + 1 : Nat) : Int); omega, by omega, by omega, by simp [ho],
  hE.set, upd_F hF.1 hF.2 (by omega), (bE.mono (by omega)).upd bV, (bF.mono (by omega)).upd bV, ?_, e2⟩
 simp only;rw [e1, bgo, List.append_assoc];rfl

theorem begins_eq {k : Nat} (hk : 50 ≤ k) {n : Int} {c : dChange} {mv : List Bool} {q : dQuick} (h : QV n c mv q) {p : List dStep} (hp : p.length ≤ 30) (hs : ∀ s ∈ p, StepOk c (tsC c mv) s) :
 ∃ el, chg_quick_begins k q p = some (bgo c (tsC c mv) E0 (F0 c) p, el) ∧ Vals el (bge c (tsC c mv) E0 (F0 c) p) 4 := by
 obtain ⟨l4, e1, h1⟩ := begins1_eq hk (q := q) (by rw [h.eq]; exact h.vc.dl.2);rw [h.eq] at h1;obtain ⟨⟨a, b⟩, e2, h2, h3⟩ := begins2_eq hk h hp hs h1;simp only at h2 h3;subst h2;refine ⟨b, ?_, h3⟩;unfold chg_quick_begins;rw [e1, bs, e2, bs]

/-- A plan without an error. -/
theorem cpGo_ok {c : dChange} {ts : List (Bool × Int)} : ∀ {p : List dStep} {done : List Int}, cpGo c ts done p = 0 → (∀ s ∈ p, StepOk c ts s ∧ canB c s.2 (tsk ts s.1) = true ∧ s.1 ∉ done) ∧ (p.map (·.1)).Nodup
 | [], _, _ => by simp
 | s :: p, done, h => by
  rw [cpGo] at h
  by_cases h0 : stepErr c ts done s = 0
  ·
   rw [if_neg (by simp [h0])] at h
   obtain ⟨h1, h2⟩ := cpGo_ok h
   unfold stepErr at h0
   by_cases a1 : 0 ≤ s.1 ∧ s.1 < ts.length
   ·
    rw [if_neg (by simpa using a1)] at h0
    by_cases a2 : s.1 ∈ done
    ·
     rw [if_pos a2] at h0; cases h0
    ·
     rw [if_neg a2] at h0
     by_cases a3 : 0 ≤ s.2 ∧ s.2 < c.2.1.length
     ·
      rw [if_neg (by simpa using a3)] at h0
      by_cases a4 : canB c s.2 (ts[s.1.toNat]?.getD (false, 0)) = false
      ·
       rw [if_pos a4] at h0; cases h0
      ·
       refine ⟨fun x hx => ?_, ?_⟩
       ·
        rcases List.mem_cons.1 hx with rfl | hx
        ·
         exact ⟨⟨a1.1, a1.2, a3.1, a3.2⟩, by simpa [tsk] using a4, a2⟩
        ·
         obtain ⟨b1, b2, b3⟩ := h1 x hx
         exact ⟨b1, b2, fun hd => b3 (List.mem_append_left _ hd)⟩
       ·
        simp only [List.map_cons, List.nodup_cons, List.mem_map]
        refine ⟨?_, h2⟩
        rintro ⟨x, hx, e⟩
        exact (h1 x hx).2.2 (by rw [e]; simp)
     ·
      rw [if_pos (by simpa using a3)] at h0; cases h0
   ·
    rw [if_pos (by simpa using a1)] at h0; cases h0
  ·
   rw [if_pos h0] at h
   exact absurd h h0

theorem cpS_ok {c : dChange} {ts : List (Bool × Int)} {p : List dStep} (h : cpS c ts p = 0) : p.length = ts.length ∧ cpGo c ts [] p = 0 := by
 unfold cpS at h;by_cases h1 : p.length < ts.length
 ·rw [if_pos h1] at h; cases h
 ·rw [if_neg h1] at h;by_cases h2 : ts.length < p.length
  ·rw [if_pos h2] at h; cases h
  ·rw [if_neg h2] at h;exact ⟨by omega, h⟩

end Go.Proofs.YtfhdclhbdmhnmaaGreat

/- Plain law, part 14: all plans, in order; the plan with the fewest bars. -/
namespace Go.Proofs.YtfhdclhbdmhnmaaGreat
open K Go Go.Proofs

/-- Can a task be begun, where these are done? -/
def mayB (c : dChange) (ts : List (Bool × Int)) (done : List Int) (t : Nat) : Bool := decide ((t : Int) ∉ done) && (befL c ts t).all fun a => decide ((a : Int) ∈ done)
/-- Who can do a task, from some dresser on. -/
def whoL (c : dChange) (ts : List (Bool × Int)) (t d : Nat) : List dStep := ((List.range' d (c.2.1.length - d)).filter fun (d : Nat) => canB c (d : Int) (tsk ts (t : Int))).map fun (d : Nat) => ((t : Int), (d : Int))
/-- The steps that can be next, from some task on. -/
def extL (c : dChange) (ts : List (Bool × Int)) (done : List Int) (t : Nat) : List dStep := (List.range' t (ts.length - t)).flatMap fun t => if mayB c ts done t = true then whoL c ts t 0 else []
/-- All plans that go on from some steps. -/
def gen (c : dChange) (ts : List (Bool × Int)) : Nat → List Int → List dStep → List (List dStep)
 | 0, _, p => [p]
 | r + 1, done, p => (extL c ts done 0).flatMap fun s => gen c ts r (done ++ [s.1]) (p ++ [s])

section
variable {σ : Type}
/-- Handing over one after the other, as long as more are wanted. -/
def runY (Y : σ → List dStep → Option (σ × Bool)) : σ → List (List dStep) → Option (σ × Bool)
 | s, [] => some (s, true)
 | s, p :: l => (Y s p).bind fun r => if r.2 = true then runY Y r.1 l else some r
theorem runY_append {Y : σ → List dStep → Option (σ × Bool)} : ∀ {l m : List (List dStep)} {s : σ}, runY Y s (l ++ m) = (runY Y s l).bind fun r => if r.2 = true then runY Y r.1 m else some r
 | [], m, s => by simp [runY]
 | p :: l, m, s => by
  simp only [List.cons_append, runY]
  cases hY : Y s p with
  | none => simp
  | some r =>
   simp only [Option.bind_some]
   by_cases hr : r.2 = true
   ·
    rw [if_pos hr, if_pos hr]; exact runY_append
   ·
    rw [if_neg hr, if_neg hr]; simp [hr]

def resY (p : List dStep) (r : σ × Bool) : Except (Bool × List dStep × σ) (List dStep × σ) := if r.2 = true then .ok (p, r.1) else .error (false, p, r.1)

theorem range'_cons {a n : Nat} (h : a < n) : List.range' a (n - a) = a :: List.range' (a + 1) (n - (a + 1)) := by
 have : n - a = (n - (a + 1)) + 1 := by omega
 rw [this, List.range'_succ]

theorem plans2_eq {k : Nat} (hk : 50 ≤ k) {n : Int} {c : dChange} {mv : List Bool} {q : dQuick} (h : QV n c mv q) {Y : σ → List dStep → Option (σ × Bool)} {self : Int → (List dStep) → σ → Option (Bool × (List dStep) × σ)}
 {mask : Int} {done : List Int} {p : List dStep} {r t : Nat} {y6 : (List dStep) × Int × σ} (hp : p.length ≤ 8) (ht : t < (tsC c mv).length) (hy6 : y6.2.1 = (t : Int))
 (hself : ∀ (m' : Int) (d : Nat) (s : σ), (∃ r24, chg_of k [(t : Int)] = some r24 ∧ m' = ior .u8 mask r24) → d < c.2.1.length → self m' (p ++ [((t : Int), (d : Int))]) s = (runY Y s (gen c (tsC c mv) r (done ++ [(t : Int)]) (p ++ [((t : Int), (d : Int))]))).bind fun r => some (r.2, p ++ [((t : Int), (d : Int))], r.1)) :
 ∀ (m d fuel : Nat) (s : σ), c.2.1.length - d = m → d ≤ c.2.1.length → m < fuel → chg_quick_plans_1_1_l2 k mask q self y6 (tsk (tsC c mv) (t : Int)) fuel (p, (d : Int), s) =
  (runY Y s ((whoL c (tsC c mv) t d).flatMap fun s => gen c (tsC c mv) r (done ++ [s.1]) (p ++ [s]))).bind fun r => some (resY p r) := by
 have hdl := h.vc.dl;have ht4 := h.t4;intro m
 induction m with
 | zero =>
  intro d fuel s h1 h2 h3;obtain ⟨fuel, rfl⟩ : ∃ f, fuel = f + 1 := ⟨fuel - 1, by omega⟩;have : d = c.2.1.length := by omega
  subst this;rw [chg_quick_plans_1_1_l2, if_neg (by rw [h.eq]; simp)];simp [whoL, runY, resY]
 | succ m ih =>
  intro d fuel s h1 h2 h3;obtain ⟨fuel, rfl⟩ : ∃ f, fuel = f + 1 := ⟨fuel - 1, by omega⟩;have hd : d < c.2.1.length := by omega
  have hS : StepOk c (tsC c mv) ((t : Int), (d : Int)) := ⟨by simp, by simp only; omega, by simp, by simp only; omega⟩;have hcq : (((q.1.1, q.1.2.1, q.1.2.2.1, q.1.2.2.2), q.2.1, q.2.2) : dQuick) = q := rfl;have hck : ck ((d : Int) + 1) = some ((d : Int) + 1) := ck_ok (by omega) (by omega);have ih' := fun s => ih (d + 1) fuel s (by omega) (by omega) (by omega);have ed : ((d + 1 : Nat) : Int) = (d : Int) + 1 := by omega
  rw [ed] at ih';rw [chg_quick_plans_1_1_l2];dsimp only;rw [if_pos (by rw [h.eq]; omega), hcq, can_eq hk h ⟨by omega, by omega⟩ (tsk_mem hS), bs]
  have hw : whoL c (tsC c mv) t d = (if canB c (d : Int) (tsk (tsC c mv) (t : Int)) = true then [((t : Int), (d : Int))] else []) ++ whoL c (tsC c mv) t (d + 1) := by
   unfold whoL;rw [range'_cons hd, List.filter_cons];split <;> simp
  rw [hw];by_cases hc : canB c (d : Int) (tsk (tsC c mv) (t : Int)) = true
  ·rw [if_neg (by simp [hc]), if_pos hc];simp only [hy6];obtain ⟨r24, e24, m24, d24⟩ := of_set_ok (k := k) hk (l := [(t : Int)]) (by simp) (fun x hx => by simp only [List.mem_singleton] at hx; subst hx; omega);rw [chk_ok (okLen_of (by simp only [List.length_cons, List.length_nil]; omega)), bs, e24, bs, hself _ d s ⟨r24, e24, rfl⟩ hd];simp only [List.cons_append, List.nil_append, List.flatMap_cons];rw [runY_append];cases hR : runY Y s (gen c (tsC c mv) r (done ++ [(t : Int)]) (p ++ [((t : Int), (d : Int))])) with
   | none => simp [K.bE]
   | some x =>
    obtain ⟨s', b⟩ := x;simp only [bs];have hl : ((p ++ [((t : Int), (d : Int))]).length : Int) - 1 = (p.length : Int) := by simp
    rw [hl, ck_ok (by omega) (by omega), bs, chk_ok ⟨by omega, by simp; omega⟩, bs];have htk : List.take (Int.toNat (p.length : Int)) (p ++ [((t : Int), (d : Int))]) = p := by simp
    rw [htk];cases b with
    | false => simp only [Bool.false_eq_true, not_false_eq_true, if_true, if_false, bE_e, bs, resY]
    | true =>
     simp only [not_true_eq_false, if_false, if_true, bE_k, hck, bs];exact ih' s'
  ·rw [if_pos (by simpa using hc), if_neg hc];simp only [bE_k, hck, bs, List.nil_append];exact ih' s

theorem plans1_eq {k : Nat} (hk : 50 ≤ k) {n : Int} {c : dChange} {mv : List Bool} {q : dQuick} (h : QV n c mv q) {Y : σ → List dStep → Option (σ × Bool)} {self : Int → (List dStep) → σ → Option (Bool × (List dStep) × σ)}
 {mask : Int} {done : List Int} {p : List dStep} {r : Nat} (hp : p.length ≤ 8) (hM : Mask mask) (hH : ∀ a : Nat, Has mask a ↔ (a : Int) ∈ done)
 (hself : ∀ (m' : Int) (t d : Nat) (s : σ), (∃ r24, chg_of k [(t : Int)] = some r24 ∧ m' = ior .u8 mask r24) → t < (tsC c mv).length → d < c.2.1.length → self m' (p ++ [((t : Int), (d : Int))]) s = (runY Y s (gen c (tsC c mv) r (done ++ [(t : Int)]) (p ++ [((t : Int), (d : Int))]))).bind fun r => some (r.2, p ++ [((t : Int), (d : Int))], r.1)) :
 ∀ (m t fuel : Nat) (s : σ), (tsC c mv).length - t = m → t ≤ (tsC c mv).length → m < fuel → chg_quick_plans_1_1_l1 k mask q self fuel (p, (t : Int), s) =
  (runY Y s ((extL c (tsC c mv) done t).flatMap fun s => gen c (tsC c mv) r (done ++ [s.1]) (p ++ [s]))).bind fun r => some (resY p r) := by
 have hdl := h.vc.dl;have ht4 := h.t4;intro m
 induction m with
 | zero =>
  intro t fuel s h1 h2 h3;obtain ⟨fuel, rfl⟩ : ∃ f, fuel = f + 1 := ⟨fuel - 1, by omega⟩;have : t = (tsC c mv).length := by omega
  subst this;rw [chg_quick_plans_1_1_l1, if_neg (by rw [h.tasks]; simp)];simp [extL, runY, resY]
 | succ m ih =>
  intro t fuel s h1 h2 h3;obtain ⟨fuel, rfl⟩ : ∃ f, fuel = f + 1 := ⟨fuel - 1, by omega⟩;have ht : t < (tsC c mv).length := by omega
  have hck : ck ((t : Int) + 1) = some ((t : Int) + 1) := ck_ok (by omega) (by omega);have ih' := fun s => ih (t + 1) fuel s (by omega) (by omega) (by omega);have ed : ((t + 1 : Nat) : Int) = (t : Int) + 1 := by omega
  rw [ed] at ih';rw [chg_quick_plans_1_1_l1];dsimp only;have hgt : (tsC c mv)[t] = tsk (tsC c mv) (t : Int) := by simp [tsk, List.getElem?_eq_getElem ht]
  rw [h.tasks, if_pos (by omega), geti_W ht, bs, has_ok hM (by omega), bs, hgt];obtain ⟨mk, em, hmk, hmb, _⟩ := h.mask (b := t) (by omega);rw [chk_ok (by omega), bs, geti_q (by omega) (by simpa using em), bs]
  have hcond : (if decide (Has mask t) = true then (some (true, s)) else (some (!decide ((iandn .u8 mk mask) = (0 : Int)), s))) = some (!mayB c (tsC c mv) done t, s) := by
   unfold mayB;by_cases h1 : (t : Int) ∈ done
   ·rw [decide_eq_true ((hH t).2 h1)]; simp [h1]
   ·rw [decide_eq_false (fun h => h1 ((hH t).1 h))]
    have e : decide ((iandn .u8 mk mask) = (0 : Int)) = (befL c (tsC c mv) t).all fun a => decide ((a : Int) ∈ done) := by
     rw [Bool.eq_iff_iff, decide_eq_true_eq, iandn_ok hmk hM, List.all_eq_true];constructor
     ·intro hh a ha; exact decide_eq_true ((hH a).1 (hh a ((hmb a).2 (mem_befL.1 ha))))
     ·intro hh a ha; exact (hH a).2 (of_decide_eq_true (hh a (mem_befL.2 ((hmb a).1 ha))))
    rw [e];simp [h1]
  rw [hcond, bs]
  have hw : extL c (tsC c mv) done t = (if mayB c (tsC c mv) done t = true then whoL c (tsC c mv) t 0 else []) ++ extL c (tsC c mv) done (t + 1) := by
   unfold extL;rw [range'_cons ht, List.flatMap_cons]
  rw [hw, List.flatMap_append, runY_append];by_cases hc : mayB c (tsC c mv) done t = true
  ·have := plans2_eq hk h (Y := Y) (self := self) (mask := mask) (done := done) (p := p) (r := r) (t := t) (y6 := (p, (t : Int), s)) hp ht rfl (fun m' d s hm hd => hself m' t d s hm ht hd) c.2.1.length 0 k s (by omega) (by omega) (by omega);simp only [hc, Bool.not_true, Bool.false_eq_true, if_false, if_true];rw [show ((0 : Nat) : Int) = 0 from rfl] at this;rw [this];cases hR : runY Y s ((whoL c (tsC c mv) t 0).flatMap fun s => gen c (tsC c mv) r (done ++ [s.1]) (p ++ [s])) with
   | none => simp [K.bE]
   | some x =>
    obtain ⟨s', b⟩ := x;cases b with
    | false => simp only [bs, resY, Bool.false_eq_true, if_false, bE_e]
    | true =>
     simp only [bs, resY, if_true, bE_k, hck];exact ih' s'
  ·simp only [hc];have hc' : mayB c (tsC c mv) done t = false := by simpa using hc
   simp only [Bool.not_false, if_true, bE_k, hck, bs];exact ih' s

theorem plans_eq {k : Nat} (hk : 50 ≤ k) {n : Int} {c : dChange} {mv : List Bool} {q : dQuick} (h : QV n c mv q) {Y : σ → List dStep → Option (σ × Bool)} : ∀ (r fuel : Nat) {mask : Int} {done : List Int} {p : List dStep} {s : σ}, p.length + r = (tsC c mv).length → r < fuel → Mask mask → (∀ a : Nat, Has mask a ↔ (a : Int) ∈ done) →
 chg_quick_plans_1_1 k Y q fuel mask p s = (runY Y s (gen c (tsC c mv) r done p)).bind fun r => some (r.2, p, r.1) := by
 have ht4 := h.t4;intro r
 induction r with
 | zero =>
  intro fuel mask done p s h1 h2 hM hH;obtain ⟨fuel, rfl⟩ : ∃ f, fuel = f + 1 := ⟨fuel - 1, by omega⟩;rw [chg_quick_plans_1_1, if_pos (by rw [h.tasks]; omega)];unfold slc_Clone_Step;rw [chk_ok (okLen_of (by omega)), bs, bs];simp only [gen, runY];cases Y s p with
  | none => simp
  | some x =>
   obtain ⟨x1, x2⟩ := x;cases x2 <;> simp
 | succ r ih =>
  intro fuel mask done p s h1 h2 hM hH;obtain ⟨fuel, rfl⟩ : ∃ f, fuel = f + 1 := ⟨fuel - 1, by omega⟩;rw [chg_quick_plans_1_1, if_neg (by rw [h.tasks]; omega)]
  have := plans1_eq hk h (Y := Y) (self := chg_quick_plans_1_1 k Y q fuel) (mask := mask) (done := done) (p := p) (r := r) (by omega) hM hH (fun m' t d s hm ht hd => by
   obtain ⟨r24, e24, rfl⟩ := hm;obtain ⟨r24', e24', m24, d24⟩ := of_set_ok (k := k) hk (l := [(t : Int)]) (by simp) (fun x hx => by simp only [List.mem_singleton] at hx; subst hx; omega);have : r24' = r24 := Option.some.inj (e24'.symm.trans e24);subst this;obtain ⟨m5, d5⟩ := ior_ok hM m24;exact ih fuel (by simp; omega) (by omega) m5 (fun a => by rw [d5, hH, d24, List.mem_append])) (tsC c mv).length 0 k s (by omega) (by omega) (by omega)
  rw [show ((0 : Nat) : Int) = 0 from rfl] at this;rw [this];simp only [gen];cases hR : runY Y s ((extL c (tsC c mv) done 0).flatMap fun s => gen c (tsC c mv) r (done ++ [s.1]) (p ++ [s])) with
  | none => simp [K.bE]
  | some x =>
   obtain ⟨s', b⟩ := x;cases b with
   | false => simp only [bs, resY, Bool.false_eq_true, if_false, bE_e]
   | true => simp only [bs, resY, if_true, bE_k]
end

/-- All plans. -/
def plansS (c : dChange) (ts : List (Bool × Int)) : List (List dStep) := gen c ts ts.length [] []

theorem mem_whoL {c : dChange} {ts : List (Bool × Int)} {t : Nat} {s : dStep} : s ∈ whoL c ts t 0 ↔ s.1 = (t : Int) ∧ 0 ≤ s.2 ∧ s.2 < c.2.1.length ∧ canB c s.2 (tsk ts s.1) = true := by
 unfold whoL;simp only [List.mem_map, List.mem_filter, List.mem_range'_1];constructor
 ·rintro ⟨d, ⟨h1, h2⟩, rfl⟩;exact ⟨rfl, by simp, by simp only; omega, h2⟩
 ·rintro ⟨h1, h2, h3, h4⟩;obtain ⟨a, b⟩ := s;simp only at h1 h2 h3 h4;subst h1;have e : ((b.toNat : Nat) : Int) = b := by omega
  exact ⟨b.toNat, ⟨by omega, by rw [e]; exact h4⟩, by rw [e]⟩
theorem mayB_iff {c : dChange} {ts : List (Bool × Int)} {done : List Int} {t : Nat} : mayB c ts done t = true ↔ (t : Int) ∉ done ∧ ∀ a ∈ befL c ts t, (a : Int) ∈ done := by
 unfold mayB;simp only [Bool.and_eq_true, decide_eq_true_eq, List.all_eq_true]
/-- The steps that can be next are those without an error. -/
theorem mem_extL {c : dChange} {ts : List (Bool × Int)} {done : List Int} {s : dStep} : s ∈ extL c ts done 0 ↔ stepErr c ts done s = 0 := by
 unfold extL stepErr;simp only [List.mem_flatMap, List.mem_range'_1];constructor
 ·rintro ⟨t, h1, h2⟩;by_cases hm : mayB c ts done t = true
  ·rw [if_pos hm] at h2;obtain ⟨e1, e2, e3, e4⟩ := mem_whoL.1 h2;obtain ⟨m1, m2⟩ := mayB_iff.1 hm;rw [if_neg (by omega), if_neg (by rw [e1]; exact m1), if_neg (by omega), if_neg (by show ¬ canB c s.2 (tsk ts s.1) = false; rw [e4]; decide), if_neg (by rw [e1]; simpa using m2)]
  ·rw [if_neg hm] at h2; cases h2
 ·intro h;by_cases a1 : 0 ≤ s.1 ∧ s.1 < ts.length
  ·rw [if_neg (by simpa using a1)] at h;by_cases a2 : s.1 ∈ done
   ·rw [if_pos a2] at h; cases h
   ·rw [if_neg a2] at h;by_cases a3 : 0 ≤ s.2 ∧ s.2 < c.2.1.length
    ·rw [if_neg (by simpa using a3)] at h;by_cases a4 : canB c s.2 (ts[s.1.toNat]?.getD (false, 0)) = false
     ·rw [if_pos a4] at h; cases h
     ·rw [if_neg a4] at h;by_cases a5 : ∀ a ∈ befL c ts s.1.toNat, (a : Int) ∈ done
      ·have e1 : ((s.1.toNat : Nat) : Int) = s.1 := by omega
       refine ⟨s.1.toNat, by omega, ?_⟩;rw [if_pos (mayB_iff.2 ⟨by rw [e1]; exact a2, a5⟩)];exact mem_whoL.2 ⟨e1.symm, a3.1, a3.2, by simpa [tsk] using a4⟩
      ·rw [if_pos a5] at h; cases h
    ·rw [if_pos (by simpa using a3)] at h; cases h
  ·rw [if_pos (by simpa using a1)] at h; cases h

theorem mem_gen {c : dChange} {ts : List (Bool × Int)} : ∀ {r : Nat} {done : List Int} {p x : List dStep}, x ∈ gen c ts r done p ↔ ∃ y, x = p ++ y ∧ y.length = r ∧ cpGo c ts done y = 0
 | 0, done, p, x => by
  simp only [gen, List.mem_singleton]
  constructor
  ·
   intro h; exact ⟨[], by simp [h], rfl, rfl⟩
  ·
   rintro ⟨y, rfl, h, _⟩
   rw [List.length_eq_zero_iff.1 h, List.append_nil]
 | r + 1, done, p, x => by
  simp only [gen, List.mem_flatMap]
  constructor
  ·
   rintro ⟨s, hs, hx⟩
   obtain ⟨y, rfl, h1, h2⟩ := mem_gen.1 hx
   refine ⟨s :: y, by simp, by simp [h1], ?_⟩
   rw [cpGo, if_neg (by simp [mem_extL.1 hs]), h2]
  ·
   rintro ⟨y, rfl, h1, h2⟩
   cases y with
   | nil => simp at h1
   | cons s y =>
    rw [cpGo] at h2
    by_cases h0 : stepErr c ts done s = 0
    ·
     rw [if_neg (by simp [h0])] at h2
     exact ⟨s, mem_extL.2 h0, mem_gen.2 ⟨y, by simp, by simpa using h1, h2⟩⟩
    ·
     rw [if_pos h0] at h2; exact absurd h2 h0
/-- **All plans are the lists of steps without an error.** -/
theorem mem_plansS {c : dChange} {ts : List (Bool × Int)} {p : List dStep} : p ∈ plansS c ts ↔ cpS c ts p = 0 := by
 unfold plansS;rw [mem_gen];constructor
 ·rintro ⟨y, rfl, h1, h2⟩;unfold cpS;rw [if_neg (by omega), if_neg (by omega), h2]
 ·intro h;obtain ⟨h1, h2⟩ := cpS_ok h;exact ⟨p, rfl, h1, h2⟩

def maxE (E : Nat → Int) : Int := imax (imax (imax (E 0) (E 1)) (E 2)) (E 3)
/-- The bars of a plan. -/
def lenS (c : dChange) (ts : List (Bool × Int)) (p : List dStep) : Int := maxE (bge c ts E0 (F0 c) p)

theorem keyOf_eq {k : Nat} (hk : 50 ≤ k) {p : List dStep} (hp : p.length ≤ 4) : chg_keyOf k p = some (keyL p) := by
 have key : chg_keyOf_l1 k k ([((0 : Int), (0 : Int)), ((0 : Int), (0 : Int)), ((0 : Int), (0 : Int)), ((0 : Int), (0 : Int))], (0 : Int)) = some [(-1, -1), (-1, -1), (-1, -1), (-1, -1)] := by
  obtain ⟨k', e⟩ : ∃ k', k = k' + 5 := ⟨k - 5, by omega⟩;rw [show chg_keyOf_l1 k k = chg_keyOf_l1 k (k' + 5) by rw [← e]];rw [chg_keyOf_l1, if_pos (by decide), chk_ok (by decide), bs, ck_ok (by decide) (by decide), bs];rw [chg_keyOf_l1, if_pos (by decide), chk_ok (by decide), bs, ck_ok (by decide) (by decide), bs];rw [chg_keyOf_l1, if_pos (by decide), chk_ok (by decide), bs, ck_ok (by decide) (by decide), bs];rw [chg_keyOf_l1, if_pos (by decide), chk_ok (by decide), bs, ck_ok (by decide) (by decide), bs];rw [chg_keyOf_l1, if_neg (by decide)];rfl
 unfold chg_keyOf;rw [key, bs];unfold keyL;congr 1;match p, hp with
 | [], _ => rfl
 | [a], _ => rfl
 | [a, b], _ => rfl
 | [a, b, d], _ => rfl
 | [a, b, d, e], _ => rfl

theorem length_eq {k : Nat} (hk : 50 ≤ k) {n : Int} {c : dChange} {mv : List Bool} {q : dQuick} (h : QV n c mv q) {p : List dStep} (hp : cpS c (tsC c mv) p = 0) : chg_quick_length k q p = some (lenS c (tsC c mv) p) := by
 obtain ⟨h1, h2⟩ := cpS_ok hp;have h3 := (cpGo_ok h2).1;have ht := h.t4;have hdl := h.vc.dl;have hs : ∀ s ∈ p, StepOk c (tsC c mv) s := fun s hs => (h3 s hs).1;obtain ⟨el, e1, hE⟩ := begins_eq hk h (by omega) hs;unfold chg_quick_length
 have hg : lenGuard q p := ⟨by rw [h.tasks]; exact h1, by omega, fun s hs' => by
  obtain ⟨a, b, d, e⟩ := hs s hs';exact ⟨a, by omega, d, by omega⟩⟩
 rw [chk_ok hg, bs, keyOf_eq hk (by omega), bs, chk_ok rfl, bs, keyOf_eq hk (by simp), bs, chk_ok rfl, bs];by_cases h0 : p = []
 ·subst h0;rw [if_pos rfl];rfl
 ·rw [if_neg h0, e1, bs];obtain ⟨hl, hv⟩ := hE;have v0 := hv 0 (by omega);have v1 := hv 1 (by omega);have v2 := hv 2 (by omega);have v3 := hv 3 (by omega);unfold lenS;generalize bge c (tsC c mv) E0 (F0 c) p = E at *;match el, hl with
  | [a, b, d, e], _ =>
   simp only [List.getElem?_cons_zero, List.getElem?_cons_succ, Option.some.injEq] at v0 v1 v2 v3;subst v0 v1 v2 v3
   have key : slc_Max_int k [E 0, E 1, E 2, E 3] = some (maxE E) := by
    unfold slc_Max_int;rw [if_neg (by simp)];obtain ⟨k', e⟩ : ∃ k', k = k' + 5 := ⟨k - 5, by omega⟩;rw [show slc_Max_int_l1 k [E 0, E 1, E 2, E 3] k = slc_Max_int_l1 k [E 0, E 1, E 2, E 3] (k' + 5) by rw [← e]];rw [show geti [E 0, E 1, E 2, E 3] 0 = some (E 0) from rfl, bs];rw [slc_Max_int_l1, if_pos (by simp), show geti [E 0, E 1, E 2, E 3] 1 = some (E 1) from rfl, bs, ck_ok (by simp) (by simp), bs];rw [slc_Max_int_l1, if_pos (by simp)];simp only [show (1 : Int) + 1 = 2 from rfl];rw [show geti [E 0, E 1, E 2, E 3] 2 = some (E 2) from rfl, bs, ck_ok (by simp) (by simp), bs];rw [slc_Max_int_l1, if_pos (by simp)];simp only [show (2 : Int) + 1 = 3 from rfl];rw [show geti [E 0, E 1, E 2, E 3] 3 = some (E 3) from rfl, bs, ck_ok (by simp) (by simp), bs];rw [slc_Max_int_l1, if_neg (by simp), bs];rfl
   rw [key, bs]

/-- The first of the least. -/
def minL (f : List dStep → Int) : Bool × Int × List dStep → List (List dStep) → Bool × Int × List dStep
 | b, [] => b
 | b, p :: l => minL f (if b.1 = false ∨ f p < b.2.1 then (true, f p, p) else b) l

theorem least_eq {k : Nat} (hk : 50 ≤ k) {n : Int} {c : dChange} {mv : List Bool} {q : dQuick} (h : QV n c mv q) :
 chg_least k q = some ((minL (lenS c (tsC c mv)) (false, 0, []) (plansS c (tsC c mv))).2.2, (minL (lenS c (tsC c mv)) (false, 0, []) (plansS c (tsC c mv))).2.1, (minL (lenS c (tsC c mv)) (false, 0, []) (plansS c (tsC c mv))).1) := by
 have ht := h.t4;have hcq : (((q.1.1, q.1.2.1, q.1.2.2.1, q.1.2.2.2), q.2.1, q.2.2) : dQuick) = q := rfl;unfold chg_least chg_quick_plans_1;simp only [hcq];rw [plans_eq hk h (tsC c mv).length k (done := []) (by simp) (by omega) ⟨by decide, by decide⟩ (fun a => by simp [Has])]
 have key : ∀ (l : List (List dStep)) (b : Bool × Int × List dStep), (∀ p ∈ l, cpS c (tsC c mv) p = 0) → runY (stopY (fun (y5 : Bool × Int × (List dStep)) (p7 : (List dStep)) =>
  (chg_quick_length k q p7).bind fun r9 =>
  ((if ¬ (y5.1 = true) then (some true) else (some (decide (r9 < y5.2.1)))) : Option (Bool)).bind fun x10 =>
  if x10 = true then (some ((true, r9, p7), true)) else (some ((y5.1, y5.2.1, y5.2.2), true)))) (b, false) l = some ((minL (lenS c (tsC c mv)) b l, false), true) := by
  intro l
  induction l with
  | nil => intro b _; rfl
  | cons p l ih =>
   intro b hp;have hl := length_eq hk h (hp p (by simp));have ih' := fun b => ih b (fun x hx => hp x (by simp [hx]));rw [runY, stopY];simp only [hl, bs];obtain ⟨b1, b2, b3⟩ := b;cases b1 with
   | false =>
    simp only [Bool.false_eq_true, not_false_eq_true, if_true, bs, Bool.not_true];rw [ih', minL];simp
   | true =>
    by_cases hlt : lenS c (tsC c mv) p < b2
    ·simp only [not_true_eq_false, if_false, hlt, decide_true, if_true, bs, Bool.not_true];rw [ih', minL];simp [hlt]
    ·simp only [not_true_eq_false, if_false, hlt, decide_false, Bool.false_eq_true, bs, if_true, Bool.not_true];rw [ih', minL];simp [hlt]
 have := key (plansS c (tsC c mv)) (false, 0, []) (fun p hp => mem_plansS.1 hp);unfold plansS at this ⊢;rw [this];simp only [bs, Bool.false_eq_true, if_false]

/-- What the fewest bars are: the plan, the bars, and whether there is a plan. -/
def fewS (c : dChange) (ts : List (Bool × Int)) : Bool × Int × List dStep := minL (lenS c ts) (false, 0, []) (plansS c ts)

theorem minL_spec {f : List dStep → Int} : ∀ {l : List (List dStep)} {b : Bool × Int × List dStep}, b.1 = true → (minL f b l).1 = true ∧ (minL f b l).2.1 ≤ b.2.1 ∧ (∀ p ∈ l, (minL f b l).2.1 ≤ f p) ∧ ((minL f b l) = b ∨ ∃ p ∈ l, minL f b l = (true, f p, p))
 | [], b, h => ⟨h, Int.le_refl _, by simp, .inl rfl⟩
 | p :: l, b, h => by
  rw [minL]
  by_cases hp : f p < b.2.1
  ·
   rw [if_pos (.inr hp)]
   obtain ⟨h1, h2, h3, h4⟩ := minL_spec (f := f) (l := l) (b := (true, f p, p)) rfl
   simp only at h2
   refine ⟨h1, by omega, fun x hx => ?_, ?_⟩
   ·
    rcases List.mem_cons.1 hx with rfl | hx
    ·
     exact h2
    ·
     exact h3 x hx
   ·
    rcases h4 with h4 | ⟨x, hx, h4⟩
    ·
     exact .inr ⟨p, by simp, h4⟩
    ·
     exact .inr ⟨x, by simp [hx], h4⟩
  ·
   rw [if_neg (by rw [h]; simp [hp])]
   obtain ⟨h1, h2, h3, h4⟩ := minL_spec (f := f) (l := l) h
   refine ⟨h1, h2, fun x hx => ?_, ?_⟩
   ·
    rcases List.mem_cons.1 hx with rfl | hx
    ·
     omega
    ·
     exact h3 x hx
   ·
    rcases h4 with h4 | ⟨x, hx, h4⟩
    ·
     exact .inl h4
    ·
     exact .inr ⟨x, by simp [hx], h4⟩

/-- **The fewest bars.** -/
theorem fewS_spec {c : dChange} {ts : List (Bool × Int)} : ((fewS c ts).1 = false ∧ (fewS c ts).2 = (0, []) ∧ ∀ p, cpS c ts p ≠ 0) ∨
 ((fewS c ts).1 = true ∧ cpS c ts (fewS c ts).2.2 = 0 ∧ (fewS c ts).2.1 = lenS c ts (fewS c ts).2.2 ∧ ∀ p, cpS c ts p = 0 → (fewS c ts).2.1 ≤ lenS c ts p) := by
 unfold fewS;cases hl : plansS c ts with
 | nil =>
  refine .inl ⟨rfl, rfl, fun p hp => ?_⟩;have := mem_plansS.2 hp;rw [hl] at this;simp at this
 | cons p l =>
  rw [minL, if_pos (.inl rfl)];obtain ⟨h1, h2, h3, h4⟩ := minL_spec (f := lenS c ts) (l := l) (b := (true, lenS c ts p, p)) rfl;have hm : ∀ x, cpS c ts x = 0 ↔ x = p ∨ x ∈ l := fun x => by rw [← mem_plansS, hl]; simp
  refine .inr ⟨h1, ?_, ?_, fun x hx => ?_⟩
  ·rcases h4 with h4 | ⟨x, hx, h4⟩
   ·rw [h4]; exact (hm _).2 (.inl rfl)
   ·rw [h4]; exact (hm _).2 (.inr hx)
  ·rcases h4 with h4 | ⟨x, hx, h4⟩
   ·rw [h4]
   ·rw [h4]
  ·rcases (hm x).1 hx with rfl | hx
   ·exact h2
   ·exact h3 x hx

theorem fewestF_eq {k : Nat} (hk : 50 ≤ k) {n : Int} {c : dChange} {mv : List Bool} {q : dQuick} {a0 : dquick} {ds : List dDresser} (hc : (a0.1.1, ds, a0.1.2.2) = c) (h : QV n c mv q) (hb : chg_begin k c = some (some q, 0)) :
 chg_quick_fewestF k a0 ds = some ((fewS c (tsC c mv)).2.1, (fewS c (tsC c mv)).1) := by
 have hcq : (((q.1.1, q.1.2.1, q.1.2.2.1, q.1.2.2.2), q.2.1, q.2.2) : dQuick) = q := rfl;unfold chg_quick_fewestF;rw [hc, hb, bs, co_some, if_neg (by simp), hcq, least_eq hk h, bs];rfl
end Go.Proofs.YtfhdclhbdmhnmaaGreat

/- Plain law: the bars of a plan. -/
namespace Go.Proofs.YtfhdclhbdmhnmaaGreat
open K Go Go.Proofs

end Go.Proofs.YtfhdclhbdmhnmaaGreat

/- Plain law, part 16: when steps begin and end, and what is worn. -/
namespace Go.Proofs.YtfhdclhbdmhnmaaGreat
open K Go Go.Proofs

/-- How it stands behind some steps: the ends of tasks, and when dressers are free. -/
def bst (c : dChange) (ts : List (Bool × Int)) : (Nat → Int) × (Nat → Int) → List dStep → (Nat → Int) × (Nat → Int)
 | x, [] => x
 | x, s :: p => bst c ts (upd x.1 s.1.toNat (bgEnd c ts x.1 x.2 s), upd x.2 s.2.toNat (bgEnd c ts x.1 x.2 s)) p
theorem bst_bge {c : dChange} {ts : List (Bool × Int)} : ∀ {p : List dStep} {E F : Nat → Int}, (bst c ts (E, F) p).1 = bge c ts E F p
 | [], _, _ => rfl
 | s :: p, E, F => by rw [bst, bge]; exact bst_bge
theorem bst_app {c : dChange} {ts : List (Bool × Int)} : ∀ {p r : List dStep} {x : (Nat → Int) × (Nat → Int)}, bst c ts x (p ++ r) = bst c ts (bst c ts x p) r
 | [], _, _ => rfl
 | s :: p, r, x => by rw [List.cons_append, bst, bst]; exact bst_app
theorem bgo_at {c : dChange} {ts : List (Bool × Int)} : ∀ {p : List dStep} {E F : Nat → Int} {i : Nat} {s : dStep}, p[i]? = some s → (bgo c ts E F p)[i]? = some (bgAt c ts (bst c ts (E, F) (p.take i)).1 (bst c ts (E, F) (p.take i)).2 s)
 | [], _, _, _, _, h => by simp at h
 | x :: p, E, F, 0, s, h => by
  simp only [List.getElem?_cons_zero, Option.some.injEq] at h
  subst h
  simp [bgo, bst]
 | x :: p, E, F, i + 1, s, h => by
  simp only [List.getElem?_cons_succ] at h
  rw [bgo, List.getElem?_cons_succ, bgo_at h, List.take_succ_cons, bst]
theorem bgo_len' {c : dChange} {ts : List (Bool × Int)} : ∀ {p : List dStep} {E F : Nat → Int}, (bgo c ts E F p).length = p.length
 | [], _, _ => rfl
 | s :: p, _, _ => by simp [bgo, bgo_len' (p := p)]
theorem bge_not' {c : dChange} {ts : List (Bool × Int)} {i : Nat} : ∀ {p : List dStep} {E F : Nat → Int}, (∀ s ∈ p, s.1.toNat ≠ i) → bge c ts E F p i = E i
 | [], _, _, _ => rfl
 | s :: p, E, F, h => by
  rw [bge, bge_not' fun x hx => h x (List.mem_cons_of_mem _ hx)]
  unfold upd
  rw [if_neg (Ne.symm (h s (by simp)))]

/-- When step i begins and ends. -/
def bAt (c : dChange) (ts : List (Bool × Int)) (p : List dStep) (i : Nat) (s : dStep) : Int := bgAt c ts (bst c ts (E0, F0 c) (p.take i)).1 (bst c ts (E0, F0 c) (p.take i)).2 s
def eAt (c : dChange) (ts : List (Bool × Int)) (p : List dStep) (i : Nat) (s : dStep) : Int := bAt c ts p i s + barsB c (tsk ts s.1)
theorem bgo_b {c : dChange} {ts : List (Bool × Int)} {p : List dStep} {i : Nat} {s : dStep} (h : p[i]? = some s) : (bgo c ts E0 (F0 c) p)[i]? = some (bAt c ts p i s) := bgo_at h

theorem take_get {p : List dStep} {i : Nat} {s : dStep} (h : p[i]? = some s) : p.take (i + 1) = p.take i ++ [s] := by rw [List.take_add_one, h]; rfl

/-- Behind step k the task of step k ends when it ends. -/
theorem bst_end {c : dChange} {ts : List (Bool × Int)} {p : List dStep} (h0 : ∀ s ∈ p, 0 ≤ s.1) (hn : (p.map (·.1)).Nodup) {k : Nat} {s : dStep} (hk : p[k]? = some s) : ∀ {i : Nat}, k < i → i ≤ p.length → (bst c ts (E0, F0 c) (p.take i)).1 s.1.toNat = eAt c ts p k s
 | 0, h, _ => by omega
 | i + 1, h, hl => by
  have hi : i < p.length := by omega
  have hg := List.getElem?_eq_getElem hi
  rw [take_get hg, bst_app, bst, bst]
  simp only
  unfold upd
  by_cases hki : k = i
  ·
   subst hki
   rw [hk] at hg
   cases hg
   rw [if_pos rfl]
   rfl
  ·
   have hne : s.1.toNat ≠ p[i].1.toNat := fun e => by
    have h1 := h0 s (List.mem_of_getElem? hk)
    have h2 := h0 p[i] (List.getElem_mem hi)
    have e1 : (p.map (·.1))[k]? = some s.1 := by rw [List.getElem?_map, hk]; rfl
    have e2 : (p.map (·.1))[i]? = some s.1 := by rw [List.getElem?_map, hg]; simp only [Option.map_some, Option.some.injEq]; omega
    have hkl : k < (p.map (·.1)).length := (List.getElem?_eq_some_iff.1 e1).1
    exact hki ((List.getElem?_inj hkl hn).1 (e1.trans e2.symm))
   rw [if_neg hne]
   exact bst_end h0 hn hk (by omega) (by omega)

theorem barsB_nonneg {n : Int} {c : dChange} {mv : List Bool} (hc : VC n c) {s : dStep} (h : StepOk c (tsC c mv) s) : 1 ≤ barsB c (tsk (tsC c mv) s.1) ∧ barsB c (tsk (tsC c mv) s.1) ≤ 4 := barsB_rng hc (tsk_mem h)

/-- A dresser is free when all steps before have ended. -/
theorem bst_free {n : Int} {c : dChange} {mv : List Bool} (hc : VC n c) {p : List dStep} (hs : ∀ s ∈ p, StepOk c (tsC c mv) s) {d : Nat} {x : Int} : ∀ {i : Nat}, i ≤ p.length →
 ((bst c (tsC c mv) (E0, F0 c) (p.take i)).2 d ≤ x ↔ F0 c d ≤ x ∧ ∀ k s, k < i → p[k]? = some s → s.2.toNat = d → eAt c (tsC c mv) p k s ≤ x)
 | 0, _ => by simp [bst]
 | i + 1, hl => by
  have hi : i < p.length := by omega
  have hg := List.getElem?_eq_getElem hi
  have hS := hs p[i] (List.getElem_mem hi)
  have ih := bst_free hc hs (d := d) (x := x) (i := i) (by omega)
  rw [take_get hg, bst_app, bst, bst]
  simp only
  unfold upd
  have he : bgEnd c (tsC c mv) (bst c (tsC c mv) (E0, F0 c) (p.take i)).1 (bst c (tsC c mv) (E0, F0 c) (p.take i)).2 p[i] = eAt c (tsC c mv) p i p[i] := rfl
  rw [he]
  by_cases hd : d = p[i].2.toNat
  ·
   rw [if_pos hd]
   have hge : (bst c (tsC c mv) (E0, F0 c) (p.take i)).2 d ≤ eAt c (tsC c mv) p i p[i] := by
    have h1 := (le_foldmax (E := (bst c (tsC c mv) (E0, F0 c) (p.take i)).1) (l := befL c (tsC c mv) p[i].1.toNat) (m := (bst c (tsC c mv) (E0, F0 c) (p.take i)).2 p[i].2.toNat)).1;have h2 := (barsB_nonneg hc hS).1;rw [hd];unfold eAt bAt bgAt;omega
   constructor
   ·intro h;obtain ⟨h1, h2⟩ := ih.1 (Int.le_trans hge h);refine ⟨h1, fun k s hk hks hsd => ?_⟩;by_cases hki : k = i
    ·subst hki;rw [hg] at hks; cases hks;exact h
    ·exact h2 k s (by omega) hks hsd
   ·rintro ⟨_, h2⟩;exact h2 i _ (by omega) hg hd.symm
  ·rw [if_neg hd, ih];constructor
   ·rintro ⟨h1, h2⟩;refine ⟨h1, fun k s hk hks hsd => ?_⟩;by_cases hki : k = i
    ·subst hki;rw [hg] at hks; cases hks;exact absurd hsd.symm hd
    ·exact h2 k s (by omega) hks hsd
   ·rintro ⟨h1, h2⟩;exact ⟨h1, fun k s hk => h2 k s (by omega)⟩

/-- In a plan, what has to be done before stands before. -/
theorem cpGo_bef {c : dChange} {ts : List (Bool × Int)} : ∀ {p : List dStep} {done : List Int} {i : Nat} {s : dStep}, cpGo c ts done p = 0 → p[i]? = some s → ∀ a ∈ befL c ts s.1.toNat, (a : Int) ∈ done ∨ ∃ k s', k < i ∧ p[k]? = some s' ∧ s'.1 = (a : Int)
 | [], _, _, _, _, h => by simp at h
 | x :: p, done, i, s, hc, h => by
  rw [cpGo] at hc
  by_cases h0 : stepErr c ts done x = 0
  ·
   rw [if_neg (by simp [h0])] at hc
   intro a ha
   cases i with
   | zero =>
    simp only [List.getElem?_cons_zero, Option.some.injEq] at h
    subst h
    have hx := mem_extL.2 h0
    unfold extL at hx
    simp only [List.mem_flatMap] at hx
    obtain ⟨t, _, hx⟩ := hx
    split at hx
    ·
     rename_i hm
     have e1 := (mem_whoL.1 hx).1
     have e2 : x.1.toNat = t := by omega
     rw [e2] at ha
     exact .inl ((mayB_iff.1 hm).2 a ha)
    ·
     cases hx
   | succ i =>
    simp only [List.getElem?_cons_succ] at h
    rcases cpGo_bef hc h a ha with h1 | ⟨k, s', h1, h2, h3⟩
    ·
     rcases List.mem_append.1 h1 with h1 | h1
     ·
      exact .inl h1
     ·
      simp only [List.mem_singleton] at h1
      exact .inr ⟨0, x, by omega, rfl, h1.symm⟩
    ·
     exact .inr ⟨k + 1, s', by omega, by simpa using h2, h3⟩
  ·
   rw [if_pos h0] at hc; exact absurd hc h0

/-- **When a step begins.** -/
theorem bAt_le {n : Int} {c : dChange} {mv : List Bool} (hc : VC n c) {p : List dStep} (hp : cpS c (tsC c mv) p = 0) {i : Nat} {s : dStep} (hi : p[i]? = some s) {x : Int} :
 bAt c (tsC c mv) p i s ≤ x ↔ F0 c s.2.toNat ≤ x ∧ (∀ k s', k < i → p[k]? = some s' → s'.2.toNat = s.2.toNat → eAt c (tsC c mv) p k s' ≤ x) ∧ (∀ k s', k < i → p[k]? = some s' → s'.1.toNat ∈ befL c (tsC c mv) s.1.toNat → eAt c (tsC c mv) p k s' ≤ x) := by
 obtain ⟨_, hgo⟩ := cpS_ok hp;obtain ⟨h3, hn⟩ := cpGo_ok hgo;have hs : ∀ s ∈ p, StepOk c (tsC c mv) s := fun s hs => (h3 s hs).1;have hil : i < p.length := (List.getElem?_eq_some_iff.1 hi).1;have h0 : ∀ s ∈ p, 0 ≤ s.1 := fun s h => (hs s h).1;unfold bAt bgAt;rw [foldmax_le, bst_free hc hs (by omega)];constructor
 ·rintro ⟨⟨h1, h2⟩, h4⟩;refine ⟨h1, h2, fun k s' hk hks hb => ?_⟩;rw [← bst_end h0 hn hks hk (by omega)];exact h4 _ hb
 ·rintro ⟨h1, h2, h4⟩;refine ⟨⟨h1, h2⟩, fun a ha => ?_⟩;rcases cpGo_bef hgo hi a ha with h | ⟨k, s', hk, hks, e⟩
  ·simp at h
  ·have e2 : a = s'.1.toNat := by omega
   rw [e2, bst_end h0 hn hks hk (by omega)];exact h4 k s' hk hks (by rw [← e2]; exact ha)

theorem bAt_bnd {n : Int} {c : dChange} {mv : List Bool} (hc : VC n c) {p : List dStep} (hs : ∀ s ∈ p, StepOk c (tsC c mv) s) {i : Nat} {s : dStep} (hi : p[i]? = some s) (hp : p.length ≤ 4) : 0 ≤ bAt c (tsC c mv) p i s ∧ bAt c (tsC c mv) p i s ≤ 25 := by
 have key : ∀ (r : List dStep) (x : (Nat → Int) × (Nat → Int)) (b : Int), (∀ s ∈ r, StepOk c (tsC c mv) s) → Bnd x.1 b → Bnd x.2 b → Bnd (bst c (tsC c mv) x r).1 (b + 4 * r.length) ∧ Bnd (bst c (tsC c mv) x r).2 (b + 4 * r.length) := by
  intro r
  induction r with
  | nil => intro x b _ h1 h2; rw [bst]; exact ⟨h1.mono (by simp), h2.mono (by simp)⟩
  | cons s r ih =>
   intro x b hs h1 h2;have hb := barsB_rng hc (tsk_mem (hs s (by simp)));have hat := bgAt_bnd (c := c) (ts := tsC c mv) (s := s) h1 h2;have hv : 0 ≤ bgEnd c (tsC c mv) x.1 x.2 s ∧ bgEnd c (tsC c mv) x.1 x.2 s ≤ b + 4 := by unfold bgEnd; omega
   rw [bst];have := ih (upd x.1 s.1.toNat (bgEnd c (tsC c mv) x.1 x.2 s), upd x.2 s.2.toNat (bgEnd c (tsC c mv) x.1 x.2 s)) (b + 4) (fun y hy => hs y (List.mem_cons_of_mem _ hy)) ((h1.mono (b' := b + 4) (by omega)).upd hv) ((h2.mono (b' := b + 4) (by omega)).upd hv);exact ⟨this.1.mono (by simp only [List.length_cons]; omega), this.2.mono (by simp only [List.length_cons]; omega)⟩
 have hil : i < p.length := (List.getElem?_eq_some_iff.1 hi).1;obtain ⟨h1, h2⟩ := key (p.take i) (E0, F0 c) 9 (fun s h => hs s (List.mem_of_mem_take h)) (fun i => by simp [E0]) (F0_bnd hc);have := bgAt_bnd (c := c) (ts := tsC c mv) (s := s) h1 h2;rw [List.length_take] at this;unfold bAt;omega

end Go.Proofs.YtfhdclhbdmhnmaaGreat

/- Plain law: a change with other dressers. -/
namespace Go.Proofs.YtfhdclhbdmhnmaaGreat
open K Go Go.Proofs

/-- A change with other dressers. -/
abbrev wD (c : dChange) (ds : List dDresser) : dChange := (c.1, ds, c.2.2.1, c.2.2.2)

theorem fix_with {c : dChange} {ds : List dDresser} {mv : List Bool} (h : Fix c mv) : Fix (wD c ds) mv := ⟨h.len, h.sound, h.shut⟩

/-- The bars of a plan are not many. -/
theorem bge_bnd {n : Int} {c : dChange} {mv : List Bool} (hc : VC n c) : ∀ {p : List dStep} {E F : Nat → Int} {b : Int}, (∀ s ∈ p, StepOk c (tsC c mv) s) → Bnd E b → Bnd F b → Bnd (bge c (tsC c mv) E F p) (b + 4 * p.length)
 | [], E, F, b, _, hE, _ => by rw [bge]; exact hE.mono (by simp)
 | s :: p, E, F, b, hs, hE, hF => by
  have hb := barsB_rng hc (tsk_mem (hs s (by simp)))
  have hat := bgAt_bnd (c := c) (ts := tsC c mv) (s := s) hE hF
  have hv : 0 ≤ bgEnd c (tsC c mv) E F s ∧ bgEnd c (tsC c mv) E F s ≤ b + 4 := by unfold bgEnd; omega
  have := bge_bnd hc (p := p) (E := upd E s.1.toNat (bgEnd c (tsC c mv) E F s)) (F := upd F s.2.toNat (bgEnd c (tsC c mv) E F s)) (b := b + 4) (fun x hx => hs x (List.mem_cons_of_mem _ hx)) ((hE.mono (b' := b + 4) (by omega)).upd hv) ((hF.mono (b' := b + 4) (by omega)).upd hv)
  rw [bge]
  exact this.mono (by simp only [List.length_cons]; omega)
theorem few_bnd {n : Int} {c : dChange} {mv : List Bool} (hc : VC n c) (ht : (tsC c mv).length ≤ 4) : 0 ≤ (fewS c (tsC c mv)).2.1 ∧ (fewS c (tsC c mv)).2.1 ≤ 25 := by
 rcases fewS_spec (c := c) (ts := tsC c mv) with ⟨_, h, _⟩ | ⟨_, h1, h2, _⟩
 ·rw [h]; exact ⟨Int.le_refl 0, by decide⟩
 ·rw [h2];obtain ⟨a, b⟩ := cpS_ok h1;have := bge_bnd hc (mv := mv) (p := (fewS c (tsC c mv)).2.2) (E := E0) (F := F0 c) (b := 9) (fun s hs => ((cpGo_ok b).1 s hs).1) (fun i => ⟨Int.le_refl 0, by unfold E0; decide⟩) (F0_bnd hc);unfold lenS maxE;generalize bge c (tsC c mv) E0 (F0 c) (fewS c (tsC c mv)).2.2 = E at *;have h0 := this 0; have h1 := this 1; have h2 := this 2; have h3 := this 3;simp only [imax_le, le_imax];omega

end Go.Proofs.YtfhdclhbdmhnmaaGreat

/- Plain law: the reference's plans: what is wrong with a step, with a plan; when steps begin; the bars. -/
namespace Go.Proofs.YtfhdclhbdmhnmaaGreat
open K Go Go.Proofs

theorem foldE_ex {α ε : Type} (P : Nat → Bool) (e : ε) : ∀ (l : List α) (j : Nat), foldE (fun (_ : Unit) j (_ : α) => if P j = true then Except.error e else .ok ()) j l () = if (List.range' j l.length).any P = true then .error e else .ok ()
 | [], j => by simp [foldE]
 | x :: l, j => by
  rw [foldE, List.length_cons, List.range'_succ, List.any_cons]
  cases h : P j with
  | true => simp
  | false => simp only [Bool.false_eq_true, if_false, Bool.false_or]; exact foldE_ex P e l (j + 1)

theorem rdone_ok {k : Nat} {p : List dStep} {t : Int} (h : p.length < k) (hl : p.length ≤ 1000000) : W (ref_done k p t) fun r => -1 ≤ r ∧ (0 ≤ r ↔ t ∈ p.map (·.1)) := by
 have key := for_foldE (f := ref_done_l1 k p t) p (fun (_ : Unit) j => j) (fun _ (j : Nat) (s : dStep) => if (fun s : dStep => decide (s.1 = t)) s = true then Except.error (j : Int) else .ok ()) (fun _ _ => True) (fun r => some r)
  (fun n s j h _ => by
   have hck : ck ((j : Int) + 1) = some ((j : Int) + 1) := ck_ok (by omega) (by omega);simp only [ref_done_l1, Int.ofNat_lt, h, if_true, geti_W h, bs, hck];by_cases hx : p[j].1 = t <;> simp [hx]) (fun n s _ => by simp [ref_done_l1]) (n := k) (s0 := ()) h trivial
 unfold ref_done;rw [show ref_done_l1 k p t k 0 = _ from key, foldE_find];cases hf : p.findIdx? (fun s => decide (s.1 = t)) with
 | none =>
  rw [bE_k];refine W.ret ⟨Int.le_refl _, ⟨fun h => by omega, fun hm => ?_⟩⟩;obtain ⟨s, hs, rfl⟩ := List.mem_map.1 hm;have := List.findIdx?_eq_none_iff.1 hf s hs;simp at this
 | some i =>
  rw [bE_e];obtain ⟨hi, h1, _⟩ := List.findIdx?_eq_some_iff_getElem.1 hf;refine W.ret ⟨by omega, ⟨fun _ => ?_, fun _ => by omega⟩⟩;rw [← of_decide_eq_true h1];exact List.mem_map_of_mem (List.getElem_mem hi)

section
variable {k : Nat} {n : Int} {c : dChange} {mv : List Bool}

theorem tsk_sw {s : dStep} (h : StepOk c (tsC c mv) s) : geti ((tsC c mv).map fun x => (x.2, x.1)) s.1 = some ((tsk (tsC c mv) s.1).2, (tsk (tsC c mv) s.1).1) := by
 have hl : s.1.toNat < (tsC c mv).length := by have := h.1; have := h.2.1; omega
 rw [geti_at h.1 (by rw [List.length_map]; exact hl), List.getElem_map, tsk, List.getElem?_eq_getElem hl];rfl

theorem rcan_eq (hc : VC n c) {d : Int} {w : Bool × Int} (hk : 50 ≤ k) (hd : 0 ≤ d ∧ d < c.2.1.length) (hw : w ∈ tsC c mv) : ref_can k c (drs c d) (w.2, w.1) = some (canB c d w) := by
 obtain ⟨w1, w2, w3, w4, w5⟩ := hc.wl;obtain ⟨i, hi, ei⟩ := tsC_rng w hw;obtain ⟨wb, wv⟩ := w;simp only at ei;subst ei;have gi := List.getElem?_eq_getElem hi
 have hdl : (drs c d).1.length ≤ 4 := by
  have := geti_drs hd.1 hd.2;unfold geti at this;rw [if_pos hd.1] at this;exact w5 _ (List.mem_of_getElem? this)
 unfold ref_can canB;simp only [thg_some gi];rw [geti_W hi, bs, ref_has_eq (by omega) (by omega), bs];by_cases a : (i : Int) ∈ (drs c d).1
 ·simp only [a, decide_true, if_true, Bool.true_and];by_cases b : c.1[i].2.2.2.1 = 0
  ·simp [b]
  ·simp only [b, if_false, decide_false, Bool.false_or];by_cases b2 : (drs c d).2.1 = 0
   ·simp [b2]
   ·simp only [b2, if_false, decide_false, Bool.false_or, bs];congr 1;rw [decide_eq_decide];exact eq_comm
 ·simp [a]

theorem rtakes_eq {w : Bool × Int} (hw : w ∈ tsC c mv) : ref_takes k c (w.2, w.1) = some (barsB c w) := by
 obtain ⟨i, hi, ei⟩ := tsC_rng w hw;obtain ⟨wb, wv⟩ := w;simp only at ei;subst ei;have gi := List.getElem?_eq_getElem hi;unfold ref_takes barsB;simp only [thg_some gi, geti_W hi, bs];cases wb <;> simp

/-- **What is wrong with a step.** -/
theorem rstep_eq (hk : 50 ≤ k) (hc : VC n c) (hF : Fix c mv) (ht : (tsC c mv).length ≤ 4) {p : List dStep} (hp : p.length ≤ 40) {s : dStep} : ref_checkStep k c p s = some (stepErr c (tsC c mv) (p.map (·.1)) s) := by
 have hdl := hc.dl;obtain ⟨t, d⟩ := s;unfold ref_checkStep stepErr;rw [refTasks_eq hk hc hF, bs, List.length_map, ck_ok (by omega) (by omega), bs, inside_eq, bs];simp only;by_cases h1 : 0 ≤ t ∧ t < (tsC c mv).length
 ·rw [decide_eq_true (show 0 ≤ t ∧ t ≤ ((tsC c mv).length : Int) - 1 by omega), if_neg (by simp), if_neg (by omega)];obtain ⟨r, er, _, hr⟩ := rdone_ok (k := k) (p := p) (t := t) (by omega) (by omega);rw [er, bs];by_cases h2 : t ∈ p.map (·.1)
  ·rw [if_pos (hr.2 h2), if_pos h2]
  ·rw [if_neg (fun h => h2 (hr.1 h)), if_neg h2, ck_ok (by omega) (by omega), bs, inside_eq, bs];by_cases h3 : 0 ≤ d ∧ d < c.2.1.length
   ·rw [decide_eq_true (show 0 ≤ d ∧ d ≤ (c.2.1.length : Int) - 1 by omega), if_neg (by simp), if_neg (by omega), geti_drs h3.1 h3.2, bs];have hS : StepOk c (tsC c mv) (t, d) := ⟨h1.1, h1.2, h3.1, h3.2⟩;have htm := tsk_mem hS;rw [tsk_sw hS, bs, rcan_eq hc hk h3 htm, bs];have htk : tsk (tsC c mv) t = (tsC c mv)[t.toNat]?.getD (false, 0) := rfl;rw [← htk];by_cases h4 : canB c d (tsk (tsC c mv) t) = true
    ·rw [h4, if_neg (by simp), if_neg (by simp)]
     have key := for_foldE (f := ref_checkStep_l1 k c p (t, d) ((tsC c mv).map fun x => (x.2, x.1))) (tsC c mv) (fun (_ : Unit) j => j) (fun _ (j : Nat) _ => if (fun (j : Nat) => bef c (tsC c mv) j t.toNat && !decide ((j : Int) ∈ p.map (·.1))) j = true then Except.error (5 : Int) else .ok ()) (fun _ _ => True) (fun r => some r)
      (fun m _ j h _ => by
       have hck : ck ((j : Int) + 1) = some ((j : Int) + 1) := ck_ok (by omega) (by omega);obtain ⟨r, er, h0, hr⟩ := rdone_ok (k := k) (p := p) (t := (j : Int)) (by omega) (by omega);have hjm : j < ((tsC c mv).map fun x => (x.2, x.1)).length := by rw [List.length_map]; exact h
       have hlt : (j : Int) < (((tsC c mv).map fun x => (x.2, x.1)).length : Int) := by omega
       have hbe : bef c (tsC c mv) j t.toNat = befB c (tsC c mv)[j] (tsk (tsC c mv) t) := by
        have hl : t.toNat < (tsC c mv).length := by omega
        unfold bef;rw [List.getElem?_eq_getElem h, List.getElem?_eq_getElem hl];simp only [tsk, List.getElem?_eq_getElem hl];rfl
       simp only [ref_checkStep_l1, hlt, if_true, geti_W hjm, List.getElem_map, bs, tsk_sw hS, refBefore_eq hk hc (List.getElem_mem h) htm, ← hbe, er, hck]
       have hd2 : decide (r < 0) = !decide ((j : Int) ∈ p.map (·.1)) := by
        by_cases hm : (j : Int) ∈ p.map (·.1)
        ·rw [decide_eq_true hm, decide_eq_false (by have := hr.2 hm; omega)]; rfl
        ·rw [decide_eq_false hm, decide_eq_true (by have := mt hr.1 hm; omega)]; rfl
       rw [hd2];by_cases hb : bef c (tsC c mv) j t.toNat = true <;> by_cases hm : (j : Int) ∈ p.map (·.1) <;> simp only [hb, hm] <;> simp) (fun m s _ => by simp [ref_checkStep_l1]) (n := k) (s0 := ()) (by omega) trivial
     rw [show ref_checkStep_l1 k c p (t, d) _ k 0 = _ from key, foldE_ex (fun (j : Nat) => bef c (tsC c mv) j t.toNat && !decide ((j : Int) ∈ p.map (·.1))) (5 : Int) (tsC c mv) 0]
     have hiff : (List.range' 0 (tsC c mv).length).any (fun (j : Nat) => bef c (tsC c mv) j t.toNat && !decide ((j : Int) ∈ p.map (·.1))) = true ↔ ¬ ∀ a ∈ befL c (tsC c mv) t.toNat, (a : Int) ∈ p.map (·.1) := by
      rw [List.any_eq_true];constructor
      ·rintro ⟨j, _, hj⟩ hall;simp only [Bool.and_eq_true, Bool.not_eq_true', decide_eq_false_iff_not] at hj;exact hj.2 (hall j (mem_befL.2 hj.1))
      ·intro hn;simp only [Classical.not_forall] at hn;obtain ⟨a, ha, hna⟩ := hn;have hb := befL_lt a ha;exact ⟨a, by simp only [List.mem_range'_1]; omega, by simp only [Bool.and_eq_true, Bool.not_eq_true', decide_eq_false_iff_not]; exact ⟨mem_befL.1 ha, hna⟩⟩
     by_cases h5 : ∀ a ∈ befL c (tsC c mv) t.toNat, (a : Int) ∈ p.map (·.1)
     ·rw [if_neg (fun h => hiff.1 h h5), bE_k, if_neg (fun h => h h5)]
     ·rw [if_pos (hiff.2 h5), bE_e, if_pos h5]
    ·have h4 : canB c d (tsk (tsC c mv) t) = false := by simpa using h4
     rw [h4, if_pos (by simp), if_pos rfl]
   ·rw [decide_eq_false (show ¬ (0 ≤ d ∧ d ≤ (c.2.1.length : Int) - 1) by omega), if_pos (by simp), if_pos (by omega)]
 ·rw [decide_eq_false (show ¬ (0 ≤ t ∧ t ≤ ((tsC c mv).length : Int) - 1) by omega), if_pos (by simp), if_pos (by omega)]

end
end Go.Proofs.YtfhdclhbdmhnmaaGreat

/- Plain law, part 15: the order of plans; the bars; the first plan that keeps all. -/
namespace Go.Proofs.YtfhdclhbdmhnmaaGreat
open K Go Go.Proofs

/-! The order of plans. -/
end Go.Proofs.YtfhdclhbdmhnmaaGreat

/- Plain law: the reference's plans: when steps begin, the bars, all plans, the fewest bars. -/
namespace Go.Proofs.YtfhdclhbdmhnmaaGreat
open K Go Go.Proofs

section
variable {k : Nat} {n : Int} {c : dChange} {mv : List Bool}

theorem bef_tsk {s s' : dStep} (h : StepOk c (tsC c mv) s) (h' : StepOk c (tsC c mv) s') : befB c (tsk (tsC c mv) s'.1) (tsk (tsC c mv) s.1) = true ↔ s'.1.toNat ∈ befL c (tsC c mv) s.1.toNat := by
 have l1 : s.1.toNat < (tsC c mv).length := by have := h.1; have := h.2.1; omega
 have l2 : s'.1.toNat < (tsC c mv).length := by have := h'.1; have := h'.2.1; omega
 rw [mem_befL];unfold bef;rw [List.getElem?_eq_getElem l1, List.getElem?_eq_getElem l2];unfold tsk;rw [List.getElem?_eq_getElem l1, List.getElem?_eq_getElem l2];exact Iff.rfl

/-- **When the steps of a plan begin.** -/
theorem rbegins_eq (hk : 50 ≤ k) (hc : VC n c) (hF : Fix c mv) (ht : (tsC c mv).length ≤ 4) {p : List dStep} (h0 : cpS c (tsC c mv) p = 0) : ref_begins k c p = some (bgo c (tsC c mv) E0 (F0 c) p) := by
 obtain ⟨hl, hgo⟩ := cpS_ok h0;have hs : ∀ s ∈ p, StepOk c (tsC c mv) s := fun s h => ((cpGo_ok hgo).1 s h).1;have hBl : (bgo c (tsC c mv) E0 (F0 c) p).length = p.length := bgo_len';have hbd : ∀ (i : Nat) (hi : i < p.length), 0 ≤ bAt c (tsC c mv) p i p[i] ∧ bAt c (tsC c mv) p i p[i] ≤ 25 := fun i hi => bAt_bnd hc hs (List.getElem?_eq_getElem hi) (by omega);have hbr : ∀ (i : Nat) (hi : i < p.length), 1 ≤ barsB c (tsk (tsC c mv) p[i].1) ∧ barsB c (tsk (tsC c mv) p[i].1) ≤ 4 := fun i hi => barsB_nonneg hc (hs _ (List.getElem_mem hi))
 have due : ∀ (o : List Int) (i : Nat) (hi : i < p.length) (x : dDresser), o = (bgo c (tsC c mv) E0 (F0 c) p).take i → x.2.2 = F0 c p[i].2.toNat →
  ref_begins_l2 k c p ((tsC c mv).map fun x => (x.2, x.1)) (o, (i : Int)) ((tsk (tsC c mv) p[i].1).2, (tsk (tsC c mv) p[i].1).1) k (x.2.2, 0) = some (bAt c (tsC c mv) p i p[i]) := fun o i hi x ho hx => by
  subst ho
  have key : W (ref_begins_l2 k c p ((tsC c mv).map fun x => (x.2, x.1)) ((bgo c (tsC c mv) E0 (F0 c) p).take i, (i : Int)) ((tsk (tsC c mv) p[i].1).2, (tsk (tsC c mv) p[i].1).1) k (x.2.2, 0)) fun r => ∀ x, r ≤ x ↔ bAt c (tsC c mv) p i p[i] ≤ x := by
   refine W.loop (f := ref_begins_l2 k c p ((tsC c mv).map fun x => (x.2, x.1)) ((bgo c (tsC c mv) E0 (F0 c) p).take i, (i : Int)) ((tsk (tsC c mv) p[i].1).2, (tsk (tsC c mv) p[i].1).1)) (fun m y => ∃ j : Nat, y.2 = (j : Int) ∧ j ≤ i ∧ m = i - j ∧ ∀ x, y.1 ≤ x ↔ F0 c p[i].2.toNat ≤ x ∧ ∀ t s', t < j → p[t]? = some s' → (s'.2.toNat = p[i].2.toNat ∨ s'.1.toNat ∈ befL c (tsC c mv) p[i].1.toNat) → eAt c (tsC c mv) p t s' ≤ x) ?_ i k (x.2.2, 0) (by omega)
    ⟨0, rfl, by omega, by omega, fun z => by simp only [hx]; simp⟩
   rintro fuel m ⟨r, y⟩ ⟨j, hj, hle, hm, hr⟩ ih;simp only at hj hr;subst hj;have o1 : j < i → m - 1 < m ∧ m - 1 = i - (j + 1) ∧ j + 1 ≤ i := by clear hr ih; omega
   unfold ref_begins_l2;dsimp only
   refine W.ite (fun hlt => ?_) (fun hge => W.ret fun x => by
    have hji : j = i := by clear hr ih; omega
    subst hji;rw [hr, bAt_le hc h0 (List.getElem?_eq_getElem hi)];constructor
    ·rintro ⟨a, b⟩;exact ⟨a, fun t s' h1 h2 h3 => b t s' h1 h2 (.inl h3), fun t s' h1 h2 h3 => b t s' h1 h2 (.inr h3)⟩
    ·rintro ⟨a, b, d⟩;exact ⟨a, fun t s' h1 h2 h3 => h3.elim (b t s' h1 h2) (d t s' h1 h2)⟩)
   have hji : j < i := by clear hr ih; omega
   have hjl : j < p.length := by clear hr ih; omega
   have hS := hs _ (List.getElem_mem hjl);have hSi := hs _ (List.getElem_mem hi)
   have hgb : geti ((bgo c (tsC c mv) E0 (F0 c) p).take i) (j : Int) = some (bAt c (tsC c mv) p j p[j]) := geti_q (by clear hr ih; omega) (by
    rw [Int.toNat_natCast, List.getElem?_take, if_pos hji];exact bgo_b (List.getElem?_eq_getElem hjl))
   have hB := hbd j hjl;have hR := hbr j hjl;have hck : ck ((j : Int) + 1) = some ((j : Int) + 1) := ck_ok (by clear hr ih; omega) (by clear hr ih; omega);have hck2 : ck (bAt c (tsC c mv) p j p[j] + barsB c (tsk (tsC c mv) p[j].1)) = some (eAt c (tsC c mv) p j p[j]) := ck_ok (by clear hr ih; omega) (by clear hr ih; omega)
   have hneed : (if p[j].2 = p[i].2 then some true else some (befB c (tsk (tsC c mv) p[j].1) (tsk (tsC c mv) p[i].1))) = some (decide (p[j].2.toNat = p[i].2.toNat ∨ p[j].1.toNat ∈ befL c (tsC c mv) p[i].1.toNat)) := by
    have a1 : p[j].2 = p[i].2 ↔ p[j].2.toNat = p[i].2.toNat := by have := hS.2.2.1; have := hSi.2.2.1; clear hr ih; omega
    by_cases e : p[j].2 = p[i].2
    ·rw [if_pos e, decide_eq_true (.inl (a1.1 e))]
    ·rw [if_neg e];refine congrArg some ?_;rw [Bool.eq_iff_iff, bef_tsk hSi hS, decide_eq_true_eq];exact ⟨.inr, fun h => h.resolve_left fun h => e (a1.2 h)⟩
   have hstep : ∀ x, (∀ t s', t < j + 1 → p[t]? = some s' → (s'.2.toNat = p[i].2.toNat ∨ s'.1.toNat ∈ befL c (tsC c mv) p[i].1.toNat) → eAt c (tsC c mv) p t s' ≤ x) ↔ (∀ t s', t < j → p[t]? = some s' → (s'.2.toNat = p[i].2.toNat ∨ s'.1.toNat ∈ befL c (tsC c mv) p[i].1.toNat) → eAt c (tsC c mv) p t s' ≤ x) ∧ ((p[j].2.toNat = p[i].2.toNat ∨ p[j].1.toNat ∈ befL c (tsC c mv) p[i].1.toNat) → eAt c (tsC c mv) p j p[j] ≤ x) := fun x => by
    constructor
    ·intro h;exact ⟨fun t s' h1 => h t s' (by clear hr ih; omega), h j _ (by clear hr ih; omega) (List.getElem?_eq_getElem hjl)⟩
    ·rintro ⟨h1, h2⟩ t s' h3 h4 h5;by_cases htj : t = j
     ·subst htj;rw [List.getElem?_eq_getElem hjl] at h4;cases h4;exact h2 h5
     ·exact h1 t s' (by clear hr ih; omega) h4 h5
   simp only [hgb, bs, geti_W hjl, geti_W hi, tsk_sw hS, rtakes_eq (tsk_mem hS), hck2, refBefore_eq hk hc (tsk_mem hS) (tsk_mem hSi), hneed];by_cases hnd : p[j].2.toNat = p[i].2.toNat ∨ p[j].1.toNat ∈ befL c (tsC c mv) p[i].1.toNat
   ·rw [decide_eq_true hnd, if_pos rfl, bs, hck, bs];refine ih (m - 1) (_, (j : Int) + 1) (o1 hji).1 ⟨j + 1, rfl, (o1 hji).2.2, (o1 hji).2.1, fun x => ?_⟩;simp only;rw [imax_le, hr, hstep, and_assoc];constructor
    ·rintro ⟨a, b, d⟩; exact ⟨a, b, fun _ => d⟩
    ·rintro ⟨a, b, d⟩; exact ⟨a, b, d hnd⟩
   ·rw [decide_eq_false hnd, if_neg (by simp), bs, hck, bs];refine ih (m - 1) (_, (j : Int) + 1) (o1 hji).1 ⟨j + 1, rfl, (o1 hji).2.2, (o1 hji).2.1, fun x => ?_⟩;simp only;rw [hr, hstep];constructor
    ·rintro ⟨a, b⟩; exact ⟨a, b, fun h => absurd h hnd⟩
    ·rintro ⟨a, b, _⟩; exact ⟨a, b⟩
  obtain ⟨r, e, hr⟩ := key
  have : r = bAt c (tsC c mv) p i p[i] := by
   have a := (hr r).1 (Int.le_refl _);have b := (hr (bAt c (tsC c mv) p i p[i])).2 (Int.le_refl _);omega
  rw [e, this]
 unfold ref_begins;rw [refTasks_eq hk hc hF, bs]
 have key : W (ref_begins_l1 k c p ((tsC c mv).map fun x => (x.2, x.1)) k ([], 0)) fun r => r = bgo c (tsC c mv) E0 (F0 c) p := by
  refine W.loop (f := ref_begins_l1 k c p ((tsC c mv).map fun x => (x.2, x.1))) (fun m y => ∃ i : Nat, y.2 = (i : Int) ∧ i ≤ p.length ∧ m = p.length - i ∧ y.1 = (bgo c (tsC c mv) E0 (F0 c) p).take i) ?_ p.length k ([], 0) (by omega) ⟨0, rfl, by omega, by omega, by simp⟩;rintro fuel m ⟨o, y⟩ ⟨i, hi, hle, hm, ho⟩ ih;simp only at hi ho;subst hi ho;unfold ref_begins_l1;dsimp only
  refine W.ite (fun hlt => ?_) (fun hge => W.ret (by
   have : i = p.length := by omega
   subst this;rw [← hBl, List.take_length]))
  have hlt' : i < p.length := by omega
  have hS := hs _ (List.getElem_mem hlt');have hF' : (drs c p[i].2).2.2 = F0 c p[i].2.toNat := by unfold F0; rw [show ((p[i].2.toNat : Nat) : Int) = p[i].2 by have := hS.2.2.1; omega]
  rw [geti_W hlt', bs, tsk_sw hS, bs, bs, geti_drs hS.2.2.1 hS.2.2.2, bs, due _ i hlt' _ rfl hF', bs, chk_ok (okLen_of (by simp only [List.length_take, List.length_cons, List.length_nil]; omega)), bs, bs, ck_ok (by omega) (by omega), bs];refine ih (m - 1) (_, (i : Int) + 1) (by omega) ⟨i + 1, rfl, by omega, by omega, ?_⟩;simp only;rw [List.take_add_one, bgo_b (List.getElem?_eq_getElem hlt')];rfl
 obtain ⟨r, e, rfl⟩ := key;rw [e, bs]

/-- The bars of a plan, as the greatest end. -/
theorem lenS_le (hc : VC n c) {p : List dStep} (h0 : cpS c (tsC c mv) p = 0) (ht : (tsC c mv).length ≤ 4) (x : Int) : lenS c (tsC c mv) p ≤ x ↔ 0 ≤ x ∧ ∀ t s', p[t]? = some s' → eAt c (tsC c mv) p t s' ≤ x := by
 obtain ⟨hl, hgo⟩ := cpS_ok h0;have hs : ∀ s ∈ p, StepOk c (tsC c mv) s := fun s h => ((cpGo_ok hgo).1 s h).1;have hn := (cpGo_ok hgo).2
 have hE : ∀ j s, p[j]? = some s → bge c (tsC c mv) E0 (F0 c) p s.1.toNat = eAt c (tsC c mv) p j s := fun j s hj => by
  have hjl : j < p.length := (List.getElem?_eq_some_iff.1 hj).1;have := bst_end (c := c) (ts := tsC c mv) (fun s h => (hs s h).1) hn hj (i := p.length) hjl (Nat.le_refl _);rw [List.take_length, bst_bge] at this;exact this
 have hB := bge_bnd hc (mv := mv) (p := p) (E := E0) (F := F0 c) (b := 9) hs (fun i => by simp [E0]) (F0_bnd hc)
 have hiff : lenS c (tsC c mv) p ≤ x ↔ ((bge c (tsC c mv) E0 (F0 c) p 0 ≤ x ∧ bge c (tsC c mv) E0 (F0 c) p 1 ≤ x) ∧ bge c (tsC c mv) E0 (F0 c) p 2 ≤ x) ∧ bge c (tsC c mv) E0 (F0 c) p 3 ≤ x := by
  unfold lenS maxE; simp only [imax_le]
 rw [hiff];constructor
 ·rintro ⟨⟨⟨a, b⟩, d⟩, e⟩;refine ⟨Int.le_trans (hB 0).1 a, fun t s' h1 => ?_⟩;rw [← hE t s' h1];have hS := hs s' (List.mem_of_getElem? h1);have hx : s'.1.toNat = 0 ∨ s'.1.toNat = 1 ∨ s'.1.toNat = 2 ∨ s'.1.toNat = 3 := by have := hS.1; have := hS.2.1; omega
  rcases hx with e' | e' | e' | e' <;> rw [e'] <;> assumption
 ·rintro ⟨a, b⟩
  have hall : ∀ i, bge c (tsC c mv) E0 (F0 c) p i ≤ x := fun i => by
   by_cases hx : ∃ s' ∈ p, s'.1.toNat = i
   ·obtain ⟨s', hs', e⟩ := hx;obtain ⟨t, ht'⟩ := List.mem_iff_getElem?.1 hs';rw [← e, hE t s' ht'];exact b t s' ht'
   ·rw [bge_not' fun s hs' e => hx ⟨s, hs', e⟩];exact a
  exact ⟨⟨⟨hall 0, hall 1⟩, hall 2⟩, hall 3⟩

/-- **The bars of a plan.** -/
theorem rbars_eq (hk : 50 ≤ k) (hc : VC n c) (hF : Fix c mv) (ht : (tsC c mv).length ≤ 4) {p : List dStep} (h0 : cpS c (tsC c mv) p = 0) : ref_bars k c p = some (lenS c (tsC c mv) p) := by
 obtain ⟨hl, hgo⟩ := cpS_ok h0;have hs : ∀ s ∈ p, StepOk c (tsC c mv) s := fun s h => ((cpGo_ok hgo).1 s h).1;unfold ref_bars;rw [refTasks_eq hk hc hF, bs, rbegins_eq hk hc hF ht h0, bs]
 have key : W (ref_bars_l1 k c p ((tsC c mv).map fun x => (x.2, x.1)) (bgo c (tsC c mv) E0 (F0 c) p) k (0, 0)) fun r => ∀ x, r ≤ x ↔ lenS c (tsC c mv) p ≤ x := by
  refine W.loop (f := ref_bars_l1 k c p ((tsC c mv).map fun x => (x.2, x.1)) (bgo c (tsC c mv) E0 (F0 c) p)) (fun m y => ∃ i : Nat, y.2 = (i : Int) ∧ i ≤ p.length ∧ m = p.length - i ∧ ∀ x, y.1 ≤ x ↔ 0 ≤ x ∧ ∀ t s', t < i → p[t]? = some s' → eAt c (tsC c mv) p t s' ≤ x) ?_ p.length k (0, 0) (by omega) ⟨0, rfl, by omega, by omega, fun x => by simp⟩;rintro fuel m ⟨r, y⟩ ⟨i, hi, hle, hm, hr⟩ ih;simp only at hi hr;subst hi;have o1 : i < p.length → m - 1 < m ∧ m - 1 = p.length - (i + 1) ∧ i + 1 ≤ p.length := by clear hr ih; omega
  unfold ref_bars_l1;dsimp only
  refine W.ite (fun hlt => ?_) (fun hge => W.ret fun x => by
   rw [hr, lenS_le hc h0 ht];refine and_congr Iff.rfl ⟨fun h t s' h1 => h t s' ?_ h1, fun h t s' _ h1 => h t s' h1⟩;have := (List.getElem?_eq_some_iff.1 h1).1;clear hr ih; omega)
  have hlt' : i < p.length := by clear hr ih; omega
  have hS := hs _ (List.getElem_mem hlt');have hB := bAt_bnd hc hs (List.getElem?_eq_getElem hlt') (by clear hr ih; omega);have hR := barsB_nonneg hc hS;have hgb : geti (bgo c (tsC c mv) E0 (F0 c) p) (i : Int) = some (bAt c (tsC c mv) p i p[i]) := geti_q (by clear hr ih; omega) (by simpa using bgo_b (List.getElem?_eq_getElem hlt'));have hck : ck ((i : Int) + 1) = some ((i : Int) + 1) := ck_ok (by clear hr ih; omega) (by clear hr ih; omega);have hck2 : ck (bAt c (tsC c mv) p i p[i] + barsB c (tsk (tsC c mv) p[i].1)) = some (eAt c (tsC c mv) p i p[i]) := ck_ok (by clear hr ih; omega) (by clear hr ih; omega);rw [hgb, bs, geti_W hlt', bs, tsk_sw hS, bs, rtakes_eq (tsk_mem hS), bs, hck2, bs, hck, bs];refine ih (m - 1) (_, (i : Int) + 1) (o1 hlt').1 ⟨i + 1, rfl, (o1 hlt').2.2, (o1 hlt').2.1, fun x => ?_⟩;simp only;rw [imax_le, hr, and_assoc];refine and_congr Iff.rfl ?_;constructor
  ·rintro ⟨a, b⟩ t s' h1 h2;by_cases hti : t = i
   ·subst hti;rw [List.getElem?_eq_getElem hlt'] at h2;cases h2;exact b
   ·exact a t s' (by clear hr ih; omega) h2
  ·intro h;exact ⟨fun t s' h1 => h t s' (by clear hr ih; omega), h i _ (by clear hr ih; omega) (List.getElem?_eq_getElem hlt')⟩
 obtain ⟨r, e, hr⟩ := key
 have : r = lenS c (tsC c mv) p := by
  have a := (hr r).1 (Int.le_refl _);have b := (hr (lenS c (tsC c mv) p)).2 (Int.le_refl _);omega
 rw [e, bs, this]
end
end Go.Proofs.YtfhdclhbdmhnmaaGreat
