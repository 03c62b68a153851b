/- Plain law: as soon as can be. -/
import Derived.Test.YtfhdclhbdmhnmaaLawW
import Derived.Test.YtfhdclhbdmhnmaaLawT
import Derived.Test.YtfhdclhbdmhnmaaLaw16
import Derived.Test.YtfhdclhbdmhnmaaLawE
namespace Go.Proofs.Ytfhdclhbdmhnmaa
open K Go Go.Proofs

theorem sameInts_eq {k : Nat} {a b : List Int} (h : a.length < k) (hk : a.length ≤ 1000000) : kit_SameInts k a b = some (decide (a = b)) := by
  unfold kit_SameInts
  by_cases hl : a.length = b.length
  · rw [if_neg (by simp [hl])]
    have key := for_foldE (f := kit_SameInts_l1 k a b) a (fun (_ : Unit) j => j) (fun _ j x => if x = b[j]?.getD 0 then .ok () else Except.error false) (fun _ _ => True) (fun r => some r)
      (fun n s j hj _ => by
        have hjb : j < b.length := by omega
        have hb : b[j]?.getD 0 = b[j] := by simp [List.getElem?_eq_getElem hjb]
        have hck : ck ((j : Int) + 1) = some ((j : Int) + 1) := ck_ok (by omega) (by omega)
        rw [hb]
        simp only [kit_SameInts_l1, Int.ofNat_lt, hj, if_true, geti_W hj, geti_W hjb, bs]
        by_cases e : a[j] = b[j] <;> simp [e, hck])
      (fun n s _ => by simp [kit_SameInts_l1]) (n := k) (s0 := ()) h trivial
    rw [show kit_SameInts_l1 k a b k 0 = _ from key]
    have : ∀ (a : List Int) (j : Nat), a.length + j = b.length → foldE (fun (_ : Unit) j x => if x = b[j]?.getD 0 then .ok () else Except.error false) j a () = if a = b.drop j then .ok () else .error false := by
      intro a
      induction a with
      | nil =>
        intro j hj
        have : b.drop j = [] := List.drop_eq_nil_of_le (by simp only [List.length_nil] at hj; omega)
        rw [this]
        simp [foldE]
      | cons x a ih =>
        intro j hj
        simp only [List.length_cons] at hj
        have hjb : j < b.length := by omega
        have hd : b.drop j = b[j] :: b.drop (j + 1) := List.drop_eq_getElem_cons hjb
        have hb : b[j]?.getD 0 = b[j] := by simp [List.getElem?_eq_getElem hjb]
        rw [foldE, hb, hd]
        by_cases e : x = b[j]
        · have h2 : (x :: a = b[j] :: b.drop (j + 1)) = (a = b.drop (j + 1)) := propext ⟨fun h => (List.cons.inj h).2, fun h => by rw [h, e]⟩
          rw [if_pos e]
          simp only [h2]
          exact ih (j + 1) (by omega)
        · have h2 : ¬ (x :: a = b[j] :: b.drop (j + 1)) := fun h => e (List.cons.inj h).1
          rw [if_neg e]
          simp only [h2, if_false]
    rw [this a 0 (by omega), List.drop_zero]
    by_cases e : a = b
    · rw [if_pos e, bE_k, decide_eq_true e]
    · rw [if_neg e, bE_e, decide_eq_false e]
  · rw [if_pos (by omega), decide_eq_false (fun e => hl (by rw [e]))]

/-- The pairs of what has to be done before what. -/
theorem Firsts_ok {k : Nat} (hk : 50 ≤ k) {n : Int} {c : dChange} {mv : List Bool} {q : dQuick} (h : QV n c mv q) (hb : chg_begin k c = some (some q, 0)) :
    W (chg_Firsts k c) fun r => r.2 = 0 ∧ r.1.length ≤ 16 ∧ (∀ x ∈ r.1, x.length = 2) ∧ ∀ x, x ∈ r.1 ↔ ∃ a b : Nat, a < (tsC c mv).length ∧ b < (tsC c mv).length ∧ a ∈ befL c (tsC c mv) b ∧ x = [(a : Int), (b : Int)] := by
  have ht := h.t4
  unfold chg_Firsts
  rw [hb, bs, co_some, if_neg (by simp)]
  refine W.bind (R := fun r => r.length ≤ 16 ∧ (∀ x ∈ r, x.length = 2) ∧ ∀ x, x ∈ r ↔ ∃ a b : Nat, a < (tsC c mv).length ∧ b < (tsC c mv).length ∧ a ∈ befL c (tsC c mv) b ∧ x = [(a : Int), (b : Int)]) ?_ fun r hr => W.ret ⟨rfl, hr⟩
  refine W.loop (f := chg_Firsts_l1 k q) (fun m y => ∃ i : Nat, y.2 = (i : Int) ∧ i ≤ (tsC c mv).length ∧ m = (tsC c mv).length - i ∧ y.1.length ≤ i * (tsC c mv).length ∧ (∀ x ∈ y.1, x.length = 2) ∧ ∀ x, x ∈ y.1 ↔ ∃ a b : Nat, a < i ∧ b < (tsC c mv).length ∧ a ∈ befL c (tsC c mv) b ∧ x = [(a : Int), (b : Int)]) ?_ (tsC c mv).length k ([], 0) (by omega)
    ⟨0, rfl, by omega, by omega, by simp, by simp, fun x => by simp⟩
  rintro fuel m ⟨o, y⟩ ⟨i, hi, hle, hm, hol, ho2, hox⟩ ih
  simp only at hi hol ho2 hox
  subst hi
  have o1 : i < (tsC c mv).length → m - 1 < m ∧ m - 1 = (tsC c mv).length - (i + 1) ∧ i + 1 ≤ (tsC c mv).length := by clear hox ih; omega
  unfold chg_Firsts_l1
  dsimp only
  rw [h.tasks]
  refine W.ite (fun hlt => ?_) (fun hge => W.ret (by
    have : i = (tsC c mv).length := by clear hox ih; omega
    subst this
    refine ⟨?_, ho2, hox⟩
    have := Nat.mul_le_mul ht ht
    clear hox ih; omega))
  have hlt' : i < (tsC c mv).length := by clear hox ih; omega
  have inner : W (chg_Firsts_l2 k q (o, (i : Int)) k (o, 0)) fun r => r.length ≤ o.length + (tsC c mv).length ∧ (∀ x ∈ r, x.length = 2) ∧ ∀ x, x ∈ r ↔ x ∈ o ∨ ∃ b : Nat, b < (tsC c mv).length ∧ i ∈ befL c (tsC c mv) b ∧ x = [(i : Int), (b : Int)] := by
    refine W.loop (f := chg_Firsts_l2 k q (o, (i : Int))) (fun m y => ∃ j : Nat, y.2 = (j : Int) ∧ j ≤ (tsC c mv).length ∧ m = (tsC c mv).length - j ∧ y.1.length ≤ o.length + j ∧ (∀ x ∈ y.1, x.length = 2) ∧ ∀ x, x ∈ y.1 ↔ x ∈ o ∨ ∃ b : Nat, b < j ∧ i ∈ befL c (tsC c mv) b ∧ x = [(i : Int), (b : Int)]) ?_ (tsC c mv).length k (o, 0) (by clear hox ih; omega)
      ⟨0, rfl, by omega, by omega, by simp, ho2, fun x => by simp⟩
    rintro fuel m ⟨r, y⟩ ⟨j, hj, hle, hm, hrl, hr2, hrx⟩ ih2
    simp only at hj hrl hr2 hrx
    subst hj
    have o2 : j < (tsC c mv).length → m - 1 < m ∧ m - 1 = (tsC c mv).length - (j + 1) ∧ j + 1 ≤ (tsC c mv).length := by clear hox ih hrx ih2; omega
    have hol' : o.length ≤ 16 := by have := Nat.mul_le_mul (show i ≤ 4 by clear hox ih hrx ih2; omega) ht; clear hox ih hrx ih2; omega
    unfold chg_Firsts_l2
    dsimp only
    rw [h.tasks]
    refine W.ite (fun hlt2 => ?_) (fun hge => W.ret (by
      have : j = (tsC c mv).length := by clear hox ih hrx ih2; omega
      subst this
      exact ⟨hrl, hr2, hrx⟩))
    have hlt2' : j < (tsC c mv).length := by clear hox ih hrx ih2; omega
    obtain ⟨mk, em, hmk, hmb, _⟩ := h.mask (b := j) (by clear hox ih hrx ih2; omega)
    rw [chk_ok (by clear hox ih hrx ih2 hmb; omega), bs, geti_q (by clear hox ih hrx ih2 hmb; omega) (by simpa using em), bs, has_ok hmk (by clear hox ih hrx ih2 hmb; omega), bs]
    have hstep : ∀ x, (∃ b : Nat, b < j + 1 ∧ i ∈ befL c (tsC c mv) b ∧ x = [(i : Int), (b : Int)]) ↔ (∃ b : Nat, b < j ∧ i ∈ befL c (tsC c mv) b ∧ x = [(i : Int), (b : Int)]) ∨ (i ∈ befL c (tsC c mv) j ∧ x = [(i : Int), (j : Int)]) := fun x => by
      constructor
      · rintro ⟨b, h1, h2, h3⟩
        by_cases hbj : b = j
        · subst hbj; exact .inr ⟨h2, h3⟩
        · exact .inl ⟨b, by clear hox ih hrx ih2 hmb; omega, h2, h3⟩
      · rintro (⟨b, h1, h2⟩ | h2)
        · exact ⟨b, by clear hox ih hrx ih2 hmb; omega, h2⟩
        · exact ⟨j, by clear hox ih hrx ih2 hmb; omega, h2⟩
    have hck : ck ((j : Int) + 1) = some ((j : Int) + 1) := ck_ok (by clear hox ih hrx ih2 hmb hstep; omega) (by clear hox ih hrx ih2 hmb hstep; omega)
    by_cases hh : Has mk i
    · have hbf := mem_befL.2 ((hmb i).1 hh)
      rw [decide_eq_true hh, if_pos rfl, chk_ok (okLen_of (by simp only [List.length_cons, List.length_nil]; clear hox ih hrx ih2 hmb hstep; omega)), bs, bs, hck, bs]
      refine ih2 (m - 1) (_, (j : Int) + 1) (o2 hlt2').1 ⟨j + 1, rfl, (o2 hlt2').2.2, (o2 hlt2').2.1, by simp only [List.length_append, List.length_cons, List.length_nil]; clear hox ih hrx ih2 hmb hstep; omega, fun x hx => ?_, fun x => ?_⟩
      · rcases List.mem_append.1 hx with hx | hx
        · exact hr2 x hx
        · simp only [List.mem_singleton] at hx; subst hx; rfl
      · simp only [List.mem_append, List.mem_singleton]
        rw [hrx, hstep]
        constructor
        · rintro ((a | a) | a)
          · exact .inl a
          · exact .inr (.inl a)
          · exact .inr (.inr ⟨hbf, a⟩)
        · rintro (a | a | ⟨_, a⟩)
          · exact .inl (.inl a)
          · exact .inl (.inr a)
          · exact .inr a
    · have hbf : ¬ i ∈ befL c (tsC c mv) j := fun h => hh ((hmb i).2 (mem_befL.1 h))
      rw [decide_eq_false hh, if_neg (by decide), bs, hck, bs]
      refine ih2 (m - 1) (_, (j : Int) + 1) (o2 hlt2').1 ⟨j + 1, rfl, (o2 hlt2').2.2, (o2 hlt2').2.1, by simp only; clear hox ih hrx ih2 hmb hstep; omega, hr2, fun x => ?_⟩
      simp only
      rw [hrx, hstep]
      constructor
      · rintro (a | a)
        · exact .inl a
        · exact .inr (.inl a)
      · rintro (a | a | ⟨a, _⟩)
        · exact .inl a
        · exact .inr a
        · exact absurd a hbf
  obtain ⟨r, er, hrl, hr2, hrx⟩ := inner
  rw [er, bs, ck_ok (by clear hox ih hrx; omega) (by clear hox ih hrx; omega), bs]
  refine ih (m - 1) (r, (i : Int) + 1) (o1 hlt').1 ⟨i + 1, rfl, (o1 hlt').2.2, (o1 hlt').2.1, by simp only; rw [Nat.succ_mul]; clear hox ih hrx; omega, hr2, fun x => ?_⟩
  simp only
  rw [hrx, hox]
  constructor
  · rintro (⟨a, b, h1, h2⟩ | ⟨b, h1, h2, h3⟩)
    · exact ⟨a, b, by clear hox ih hrx; omega, h2⟩
    · exact ⟨i, b, by clear hox ih hrx; omega, h1, h2, h3⟩
  · rintro ⟨a, b, h1, h2, h3, h4⟩
    by_cases hai : a = i
    · subst hai; exact .inr ⟨b, h2, h3, h4⟩
    · exact .inl ⟨a, b, by clear hox ih hrx; omega, h2, h3, h4⟩

theorem needs_eq {k : Nat} (hk : 50 ≤ k) {P : List (List Int)} {e7 : Int} {p : List dStep} {l5 : dLots} {x22 x30 : Int} {i j : Nat} {b0 : Bool} (hP : P.length ≤ 16) (hP2 : ∀ x ∈ P, x.length = 2) (hi : i < p.length) (hj : j < p.length) :
    law_ChangeBegun_l3 k (p, l5) (P, e7) (x22, (i : Int)) (x30, (j : Int)) k (b0, 0) = some (b0 || decide ([p[j].1, p[i].1] ∈ P)) := by
  have key : W (law_ChangeBegun_l3 k (p, l5) (P, e7) (x22, (i : Int)) (x30, (j : Int)) k (b0, 0)) fun r => r = (b0 || decide ([p[j].1, p[i].1] ∈ P)) := by
    refine W.loop (f := law_ChangeBegun_l3 k (p, l5) (P, e7) (x22, (i : Int)) (x30, (j : Int))) (fun m y => ∃ t : Nat, y.2 = (t : Int) ∧ t ≤ P.length ∧ m = P.length - t ∧ y.1 = (b0 || decide ([p[j].1, p[i].1] ∈ P.take t))) ?_ P.length k (b0, 0) (by omega) ⟨0, rfl, by omega, by omega, by simp⟩
    rintro fuel m ⟨b, y⟩ ⟨t, ht, hle, hm, hb⟩ ih
    simp only at ht hb
    subst ht
    unfold law_ChangeBegun_l3
    dsimp only
    refine W.ite (fun hlt => ?_) (fun hge => W.ret (by
      have : t = P.length := by omega
      subst this
      rw [List.take_length] at hb; exact hb))
    have hlt' : t < P.length := by omega
    have h2 := hP2 _ (List.getElem_mem hlt')
    have e : (if b = true then (some true) else ((geti P (t : Int)).bind fun x42 => (geti p (j : Int)).bind fun x43 => (geti p (i : Int)).bind fun x44 => (kit_SameInts k x42 [x43.1, x44.1]).bind fun r45 => some r45)) = some (b0 || decide ([p[j].1, p[i].1] ∈ P.take (t + 1))) := by
      have hn : decide ([p[j].1, p[i].1] ∈ P.take (t + 1)) = (decide ([p[j].1, p[i].1] ∈ P.take t) || decide (P[t] = [p[j].1, p[i].1])) := by
        rw [List.take_add_one, List.getElem?_eq_getElem hlt', Bool.eq_iff_iff]
        simp only [Option.toList_some, List.mem_append, List.mem_singleton, Bool.or_eq_true, decide_eq_true_eq]
        constructor
        · rintro (a | a)
          · exact .inl a
          · exact .inr a.symm
        · rintro (a | a)
          · exact .inl a
          · exact .inr a.symm
      rw [hn, ← Bool.or_assoc, ← hb]
      cases b with
      | true => simp
      | false => rw [if_neg (by decide), geti_W hlt', bs, geti_W hj, bs, geti_W hi, bs, sameInts_eq (by omega) (by omega), bs]; simp
    rw [e, bs, ck_ok (by omega) (by omega), bs]
    exact ih (m - 1) (_, (t : Int) + 1) (by omega) ⟨t + 1, rfl, by omega, by omega, rfl⟩
  obtain ⟨r, e, rfl⟩ := key
  exact e

/-- **As soon as can be.** -/
theorem begun_law {k : Nat} (hk : 50 ≤ k) (hd : law_dressed k = some true) (a0 : List Int) : law_ChangeBegun k a0 = some true := by
  unfold law_ChangeBegun
  rw [show kit_NewLots k a0 = some (a0, 0, 1) from rfl, bs]
  obtain ⟨⟨c, l⟩, e3, hlo, _, n, mv, q, hc, hb, hq⟩ := lots_ok hk (l := (a0, 0, 1)) (m := 0) newLots_ok (by decide)
  simp only at hc hb hq hlo
  have ht := hq.t4
  obtain ⟨w1, w2, w3, w4, _⟩ := hc.wl
  obtain ⟨⟨p, l5⟩, e5, hP, _⟩ := planOf_ok hk hc hq.fix ht (l := l) (m := 300) (hlo.mono (by omega)) (by omega)
  simp only at hP
  have hpl := hP.len
  obtain ⟨⟨P, e7⟩, e7', h70, hPl, hP2, hPx⟩ := Firsts_ok hk hq hb
  simp only at h70 hPl hP2 hPx
  subst h70
  rw [e3, bs]
  simp only
  rw [show ((l.1, l.2.1, l.2.2) : dLots) = l from rfl, e5]
  simp only [bs]
  rw [tasks_eq hk hq hb, bs, e7', bs, Begins_eq hk hq hb (by omega)]
  simp only [bs, not_true_eq_false, if_false, decide_true, Bool.not_true, Bool.false_eq_true]
  by_cases h0 : cpS c (tsC c mv) p = 0
  · obtain ⟨hl, hgo⟩ := cpS_ok h0
    have hcp := (cpGo_ok hgo).1
    have hs : ∀ s ∈ p, StepOk c (tsC c mv) s := fun s h => (hcp s h).1
    have hTl : ((tsC c mv).map fun x => (x.2, x.1)).length = (tsC c mv).length := List.length_map ..
    have hst := sameTasks_self (l := (tsC c mv).map fun x => (x.2, x.1)) (k := k) (by omega) (by omega)
    have hBl : (bgo c (tsC c mv) E0 (F0 c) p).length = p.length := bgo_len'
    simp only [h0, if_true, not_true_eq_false, if_false, hBl, tasksOf_eq hk hc hq.fix, hst, bs, Bool.not_true, Bool.false_eq_true]
    have hgb : ∀ (i : Nat) (hi : i < p.length), geti (bgo c (tsC c mv) E0 (F0 c) p) (i : Int) = some (bAt c (tsC c mv) p i p[i]) := fun i hi => geti_q (by omega) (by simpa using bgo_b (List.getElem?_eq_getElem hi))
    have hbd : ∀ (i : Nat) (hi : i < p.length), 0 ≤ bAt c (tsC c mv) p i p[i] ∧ bAt c (tsC c mv) p i p[i] ≤ 25 := fun i hi => bAt_bnd hc hs (List.getElem?_eq_getElem hi) (by omega)
    have hbr : ∀ (i : Nat) (hi : i < p.length), 1 ≤ barsB c (tsk (tsC c mv) p[i].1) ∧ barsB c (tsk (tsC c mv) p[i].1) ≤ 4 := fun i hi => barsB_nonneg hc (hs _ (List.getElem_mem hi))
    -- when a step is due
    have due : ∀ (x22 : Int) (i : Nat) (hi : i < p.length) (x27 : dDresser), x27.2.2 = F0 c p[i].2.toNat → law_ChangeBegun_l2 k (c, l) (p, l5) ((tsC c mv).map (fun x => (x.2, x.1)), 0) (P, 0) (bgo c (tsC c mv) E0 (F0 c) p, 0) (x22, (i : Int)) k (x27.2.2, 0) = some (bAt c (tsC c mv) p i p[i]) := fun x22 i hi x27 hx27 => by
      have key : W (law_ChangeBegun_l2 k (c, l) (p, l5) ((tsC c mv).map (fun x => (x.2, x.1)), 0) (P, 0) (bgo c (tsC c mv) E0 (F0 c) p, 0) (x22, (i : Int)) k (x27.2.2, 0)) fun r => ∀ x, r ≤ x ↔ bAt c (tsC c mv) p i p[i] ≤ x := by
        refine W.loop (f := law_ChangeBegun_l2 k (c, l) (p, l5) ((tsC c mv).map (fun x => (x.2, x.1)), 0) (P, 0) (bgo c (tsC c mv) E0 (F0 c) p, 0) (x22, (i : Int))) (fun m y => ∃ j : Nat, y.2 = (j : Int) ∧ j ≤ i ∧ m = i - j ∧ ∀ x, y.1 ≤ x ↔ F0 c p[i].2.toNat ≤ x ∧ ∀ t s', t < j → p[t]? = some s' → (s'.2.toNat = p[i].2.toNat ∨ s'.1.toNat ∈ befL c (tsC c mv) p[i].1.toNat) → eAt c (tsC c mv) p t s' ≤ x) ?_ i k (x27.2.2, 0) (by omega)
          ⟨0, rfl, by omega, by omega, fun x => by rw [hx27]; simp⟩
        rintro fuel m ⟨r, y⟩ ⟨j, hj, hle, hm, hr⟩ ih
        simp only at hj hr
        subst hj
        have o1 : j < i → m - 1 < m ∧ m - 1 = i - (j + 1) ∧ j + 1 ≤ i := by clear hr ih; omega
        unfold law_ChangeBegun_l2
        dsimp only
        refine W.ite (fun hlt => ?_) (fun hge => W.ret fun x => by
          have hji : j = i := by clear hr ih; omega
          subst hji
          rw [hr, bAt_le hc h0 (List.getElem?_eq_getElem hi)]
          constructor
          · rintro ⟨a, b⟩
            exact ⟨a, fun t s' h1 h2 h3 => b t s' h1 h2 (.inl h3), fun t s' h1 h2 h3 => b t s' h1 h2 (.inr h3)⟩
          · rintro ⟨a, b, d⟩
            exact ⟨a, fun t s' h1 h2 h3 => h3.elim (b t s' h1 h2) (d t s' h1 h2)⟩)
        have hji : j < i := by clear hr ih; omega
        have hjl : j < p.length := by clear hr ih; omega
        have hS := hs _ (List.getElem_mem hjl)
        have hSi := hs _ (List.getElem_mem hi)
        rw [geti_W hjl, bs, geti_W hi, bs, needs_eq hk hPl hP2 hi hjl, bs]
        have hneed : (decide (p[j].2 = p[i].2) || decide ([p[j].1, p[i].1] ∈ P)) = true ↔ (p[j].2.toNat = p[i].2.toNat ∨ p[j].1.toNat ∈ befL c (tsC c mv) p[i].1.toNat) := by
          simp only [Bool.or_eq_true, decide_eq_true_eq]
          have a1 : p[j].2 = p[i].2 ↔ p[j].2.toNat = p[i].2.toNat := by have := hS.2.2.1; have := hSi.2.2.1; clear hr ih; omega
          rw [a1]
          refine or_congr Iff.rfl ?_
          rw [hPx]
          constructor
          · rintro ⟨a, b, _, _, h3, h4⟩
            simp only [List.cons.injEq, and_true] at h4
            have e1 : p[j].1.toNat = a := by clear hr ih; omega
            have e2 : p[i].1.toNat = b := by clear hr ih; omega
            rw [e1, e2]; exact h3
          · intro h
            refine ⟨_, _, ?_, ?_, h, ?_⟩
            · have := hS.1; have := hS.2.1; clear hr ih; omega
            · have := hSi.1; have := hSi.2.1; clear hr ih; omega
            · simp only [List.cons.injEq, and_true]
              have := hS.1; have := hSi.1; clear hr ih; omega
        have hstep : ∀ x, (∀ t s', t < j + 1 → p[t]? = some s' → (s'.2.toNat = p[i].2.toNat ∨ s'.1.toNat ∈ befL c (tsC c mv) p[i].1.toNat) → eAt c (tsC c mv) p t s' ≤ x) ↔ (∀ t s', t < j → p[t]? = some s' → (s'.2.toNat = p[i].2.toNat ∨ s'.1.toNat ∈ befL c (tsC c mv) p[i].1.toNat) → eAt c (tsC c mv) p t s' ≤ x) ∧ ((p[j].2.toNat = p[i].2.toNat ∨ p[j].1.toNat ∈ befL c (tsC c mv) p[i].1.toNat) → eAt c (tsC c mv) p j p[j] ≤ x) := fun x => by
          constructor
          · intro h
            exact ⟨fun t s' h1 => h t s' (by clear hr ih; omega), h j _ (by clear hr ih; omega) (List.getElem?_eq_getElem hjl)⟩
          · rintro ⟨h1, h2⟩ t s' h3 h4 h5
            by_cases htj : t = j
            · subst htj
              rw [List.getElem?_eq_getElem hjl] at h4
              cases h4
              exact h2 h5
            · exact h1 t s' (by clear hr ih; omega) h4 h5
        have hB := hbd j hjl
        have hR := hbr j hjl
        have hck : ck ((j : Int) + 1) = some ((j : Int) + 1) := ck_ok (by clear hr ih hstep hneed; omega) (by clear hr ih hstep hneed; omega)
        have hck2 : ck (bAt c (tsC c mv) p j p[j] + barsB c (tsk (tsC c mv) p[j].1)) = some (eAt c (tsC c mv) p j p[j]) := ck_ok (by clear hr ih hstep hneed; omega) (by clear hr ih hstep hneed; omega)
        by_cases hnd : (decide (p[j].2 = p[i].2) || decide ([p[j].1, p[i].1] ∈ P)) = true
        · rw [if_pos hnd, hgb j hjl, bs, bs, tsk_swap hS, bs, lasts_eq (tsk_mem hS), bs, hck2, bs, bs, hck, bs]
          refine ih (m - 1) (_, (j : Int) + 1) (o1 hji).1 ⟨j + 1, rfl, (o1 hji).2.2, (o1 hji).2.1, fun x => ?_⟩
          simp only
          rw [imax_le, hr, hstep, and_assoc]
          have := hneed.1 hnd
          constructor
          · rintro ⟨a, b, d⟩; exact ⟨a, b, fun _ => d⟩
          · rintro ⟨a, b, d⟩; exact ⟨a, b, d this⟩
        · rw [if_neg hnd, bs, hck, bs]
          refine ih (m - 1) (_, (j : Int) + 1) (o1 hji).1 ⟨j + 1, rfl, (o1 hji).2.2, (o1 hji).2.1, fun x => ?_⟩
          simp only
          rw [hr, hstep]
          constructor
          · rintro ⟨a, b⟩; exact ⟨a, b, fun h => absurd (hneed.2 h) hnd⟩
          · rintro ⟨a, b, _⟩; exact ⟨a, b⟩
      obtain ⟨r, e, hr⟩ := key
      have : r = bAt c (tsC c mv) p i p[i] := by
        have a := (hr r).1 (Int.le_refl _)
        have b := (hr (bAt c (tsC c mv) p i p[i])).2 (Int.le_refl _)
        omega
      rw [e, this]
    have loop : W (law_ChangeBegun_l1 k (c, l) (p, l5) ((tsC c mv).map (fun x => (x.2, x.1)), 0) (P, 0) (bgo c (tsC c mv) E0 (F0 c) p, 0) k (0, 0)) fun r => ∃ z, r = .ok z ∧ ∀ x, z ≤ x ↔ 0 ≤ x ∧ ∀ t s', p[t]? = some s' → eAt c (tsC c mv) p t s' ≤ x := by
      refine W.loop (f := law_ChangeBegun_l1 k (c, l) (p, l5) ((tsC c mv).map (fun x => (x.2, x.1)), 0) (P, 0) (bgo c (tsC c mv) E0 (F0 c) p, 0)) (fun m y => ∃ i : Nat, y.2 = (i : Int) ∧ i ≤ p.length ∧ m = p.length - i ∧ ∀ x, y.1 ≤ x ↔ 0 ≤ x ∧ ∀ t s', t < i → p[t]? = some s' → eAt c (tsC c mv) p t s' ≤ x) ?_ p.length k (0, 0) (by omega) ⟨0, rfl, by omega, by omega, fun x => by simp⟩
      rintro fuel m ⟨r, y⟩ ⟨i, hi, hle, hm, hr⟩ ih
      simp only at hi hr
      subst hi
      have o1 : i < p.length → m - 1 < m ∧ m - 1 = p.length - (i + 1) ∧ i + 1 ≤ p.length := by clear hr ih; omega
      unfold law_ChangeBegun_l1
      dsimp only
      refine W.ite (fun hlt => ?_) (fun hge => W.ret ⟨r, rfl, fun x => by
        rw [hr]
        refine and_congr Iff.rfl ⟨fun h t s' h1 => h t s' ?_ h1, fun h t s' _ h1 => h t s' h1⟩
        have := (List.getElem?_eq_some_iff.1 h1).1
        clear hr ih; omega⟩)
      have hlt' : i < p.length := by clear hr ih; omega
      have hS := hs _ (List.getElem_mem hlt')
      have hdr : geti c.2.1 p[i].2 = some (drs c p[i].2) := geti_drs hS.2.2.1 hS.2.2.2
      have hF : (drs c p[i].2).2.2 = F0 c p[i].2.toNat := by unfold F0; rw [show ((p[i].2.toNat : Nat) : Int) = p[i].2 by have := hS.2.2.1; clear hr ih; omega]
      have hB := hbd i hlt'
      have hR := hbr i hlt'
      have hck : ck ((i : Int) + 1) = some ((i : Int) + 1) := ck_ok (by clear hr ih; omega) (by clear hr ih; omega)
      have hck2 : ck (bAt c (tsC c mv) p i p[i] + barsB c (tsk (tsC c mv) p[i].1)) = some (eAt c (tsC c mv) p i p[i]) := ck_ok (by clear hr ih; omega) (by clear hr ih; omega)
      rw [geti_W hlt', bs, hdr, bs, due _ i hlt' _ hF, bs, hgb i hlt', bs, if_neg (by simp), bs, bs, tsk_swap hS, bs, lasts_eq (tsk_mem hS), bs, hck2, bs, bE_k, hck, bs]
      refine ih (m - 1) (_, (i : Int) + 1) (o1 hlt').1 ⟨i + 1, rfl, (o1 hlt').2.2, (o1 hlt').2.1, fun x => ?_⟩
      simp only
      rw [imax_le, hr, and_assoc]
      refine and_congr Iff.rfl ?_
      constructor
      · rintro ⟨a, b⟩ t s' h1 h2
        by_cases hti : t = i
        · subst hti
          rw [List.getElem?_eq_getElem hlt'] at h2
          cases h2
          exact b
        · exact a t s' (by clear hr ih; omega) h2
      · intro h
        exact ⟨fun t s' h1 => h t s' (by clear hr ih; omega), h i _ (by clear hr ih; omega) (List.getElem?_eq_getElem hlt')⟩
    obtain ⟨r, er, z, rfl, hz⟩ := loop
    rw [er, bE_k, Bars_eq hk hq hb (by omega), bs]
    have hlen : lenS c (tsC c mv) p = z := by
      have hn := (cpGo_ok hgo).2
      have hE : ∀ j s, p[j]? = some s → bge c (tsC c mv) E0 (F0 c) p s.1.toNat = eAt c (tsC c mv) p j s := fun j s hj => by
        have hjl : j < p.length := (List.getElem?_eq_some_iff.1 hj).1
        have := bst_end (c := c) (ts := tsC c mv) (fun s h => (hs s h).1) hn hj (i := p.length) hjl (Nat.le_refl _)
        rw [List.take_length, bst_bge] at this
        exact this
      have hB := bge_bnd hc (mv := mv) (p := p) (E := E0) (F := F0 c) (b := 9) hs (fun i => by simp [E0]) (F0_bnd hc)
      have hle : ∀ x, lenS c (tsC c mv) p ≤ x ↔ z ≤ x := fun x => by
        rw [hz]
        have hiff : lenS c (tsC c mv) p ≤ x ↔ ((bge c (tsC c mv) E0 (F0 c) p 0 ≤ x ∧ bge c (tsC c mv) E0 (F0 c) p 1 ≤ x) ∧ bge c (tsC c mv) E0 (F0 c) p 2 ≤ x) ∧ bge c (tsC c mv) E0 (F0 c) p 3 ≤ x := by
          unfold lenS maxE; simp only [imax_le]
        rw [hiff]
        constructor
        · rintro ⟨⟨⟨a, b⟩, d⟩, e⟩
          refine ⟨Int.le_trans (hB 0).1 a, fun t s' h1 => ?_⟩
          rw [← hE t s' h1]
          have hS := hs s' (List.mem_of_getElem? h1)
          have hx : s'.1.toNat = 0 ∨ s'.1.toNat = 1 ∨ s'.1.toNat = 2 ∨ s'.1.toNat = 3 := by have := hS.1; have := hS.2.1; clear hz hiff; omega
          rcases hx with e' | e' | e' | e' <;> rw [e'] <;> assumption
        · rintro ⟨a, b⟩
          have hall : ∀ i, bge c (tsC c mv) E0 (F0 c) p i ≤ x := fun i => by
            by_cases hx : ∃ s' ∈ p, s'.1.toNat = i
            · obtain ⟨s', hs', e⟩ := hx
              obtain ⟨t, ht'⟩ := List.mem_iff_getElem?.1 hs'
              rw [← e, hE t s' ht']
              exact b t s' ht'
            · rw [bge_not' fun s hs' e => hx ⟨s, hs', e⟩]
              exact a
          exact ⟨⟨⟨hall 0, hall 1⟩, hall 2⟩, hall 3⟩
      have a := (hle _).1 (Int.le_refl _)
      have b := (hle _).2 (Int.le_refl _)
      omega
    simp only [h0, if_true, hlen, hd, bs]
  · simp only [h0, if_false, not_false_eq_true, if_true]
    rcases plan_err hP with h | h | h | h
    · exact absurd h h0
    · simp [h, hd]
    · simp [h, hd]
    · simp [h, hd]
end Go.Proofs.Ytfhdclhbdmhnmaa
