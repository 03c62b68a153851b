/- Plain law, part 9: a valid change at work: its tasks, and what has to be done before what. -/
import Derived.Test.YtfhdclhbdmhnmaaLawK
namespace Go.Proofs.Ytfhdclhbdmhnmaa
open K Go Go.Proofs

abbrev dQuick := dChange × (List (Bool × Int)) × (List Int)

theorem numS_some {ts : List (Bool × Int)} {t : Int} {b : Bool} {i : Nat} (hn : ts.Nodup) : numS ts t b = (i : Int) ↔ ts[i]? = some (b, t) := by
  unfold numS
  cases h : ts.findIdx? (fun x => decide (x = (b, t))) with
  | none =>
    refine ⟨fun h => by simp only at h; omega, fun h' => ?_⟩
    exfalso
    rw [List.findIdx?_eq_none_iff] at h
    have := h _ (List.mem_of_getElem? h')
    simp at this
  | some j =>
    rw [List.findIdx?_eq_some_iff_getElem] at h
    obtain ⟨hj, h1, _⟩ := h
    have h1 := of_decide_eq_true h1
    refine ⟨fun h => ?_, fun h' => ?_⟩
    · have : j = i := by simp only at h; omega
      subst this
      rw [List.getElem?_eq_getElem hj, h1]
    · obtain ⟨hi, hi'⟩ := List.getElem?_eq_some_iff.1 h'
      have := (List.getElem_inj (h₀ := hj) (h₁ := hi) hn).1 (by rw [h1, hi'])
      simp only
      omega

theorem numS_lt {ts : List (Bool × Int)} {t : Int} {b : Bool} : -1 ≤ numS ts t b ∧ numS ts t b < (ts.length : Int) := by
  unfold numS
  cases h : ts.findIdx? (fun x => decide (x = (b, t))) with
  | none => simp only; omega
  | some j =>
    rw [List.findIdx?_eq_some_iff_getElem] at h
    obtain ⟨hj, _, _⟩ := h
    simp only; omega

/-- A quick change at work, with the pairs that were noted. -/
structure QI (c : dChange) (ts : List (Bool × Int)) (ps : List (Int × Int)) (q : dQuick) : Prop where
  c : q.1 = c
  tasks : q.2.1 = ts
  len : q.2.2.length = 8
  masks : ∀ (b : Nat) m, q.2.2[b]? = some m → Mask m ∧ ∀ a : Nat, Has m a ↔ ((a : Int), (b : Int)) ∈ ps

theorem note_ok {k : Nat} (hk : 50 ≤ k) {c : dChange} {ts : List (Bool × Int)} {ps : List (Int × Int)} {q : dQuick} {a b : Int} (h : QI c ts ps q) (ht : ts.length ≤ 8) (ha : a < ts.length) (hb : b < ts.length) :
    W (chg_quick_order_1 k a b q) (QI c ts (ps ++ [(a, b)])) := by
  unfold chg_quick_order_1
  by_cases hab : 0 ≤ a ∧ 0 ≤ b
  · obtain ⟨ha0, hb0⟩ := hab
    have hlt : b.toNat < q.2.2.length := by rw [h.len]; omega
    obtain ⟨hm, hmm⟩ := h.masks b.toNat _ (List.getElem?_eq_getElem hlt)
    obtain ⟨r5, e5, m5, d5⟩ := of_set_ok (k := k) hk (l := [a]) (by simp) (fun x hx => by simp only [List.mem_singleton] at hx; subst hx; omega)
    obtain ⟨m6, d6⟩ := ior_ok hm m5
    simp only [ha0, hb0, if_true, bs, decide_true, geti_at hb0 hlt, e5]
    rw [chk_ok ⟨True.intro, by omega⟩]
    simp only [bs]
    refine W.ret ⟨h.c, h.tasks, by show (List.set q.2.2 _ _).length = 8; rw [List.length_set]; exact h.len, fun b' m' hm' => ?_⟩
    simp only [List.getElem?_set] at hm'
    by_cases hbb : b.toNat = b'
    · subst hbb
      rw [if_pos rfl, if_pos hlt] at hm'
      cases hm'
      refine ⟨m6, fun a' => ?_⟩
      rw [d6, hmm, d5]
      simp only [List.mem_append, List.mem_singleton, Prod.mk.injEq]
      have hbn : ((b.toNat : Nat) : Int) = b := by omega
      rw [hbn]
      simp
    · rw [if_neg hbb] at hm'
      obtain ⟨h1, h2⟩ := h.masks b' m' hm'
      refine ⟨h1, fun a' => ?_⟩
      rw [h2]
      simp only [List.mem_append, List.mem_singleton, Prod.mk.injEq]
      refine ⟨fun h => .inl h, fun h => h.elim id fun h => ?_⟩
      omega
  · have hf : (if (0 : Int) ≤ a then (some (decide ((0 : Int) ≤ b))) else (some false)) = some false := by
      by_cases ha0 : 0 ≤ a
      · rw [if_pos ha0, decide_eq_false (fun h => hab ⟨ha0, h⟩)]
      · rw [if_neg ha0]
    rw [hf]
    simp only [bs, Bool.false_eq_true, if_false]
    refine W.ret ⟨h.c, h.tasks, h.len, fun b' m' hm' => ?_⟩
    obtain ⟨h1, h2⟩ := h.masks b' m' hm'
    refine ⟨h1, fun a' => ?_⟩
    rw [h2]
    simp only [List.mem_append, List.mem_singleton, Prod.mk.injEq]
    refine ⟨fun h => .inl h, fun h => h.elim id fun h => ?_⟩
    omega

/-- What is noted for a thing and one over it. -/
def pairs4 (ts : List (Bool × Int)) (y x : Int) : List (Int × Int) := [(numS ts x false, numS ts y false), (numS ts x false, numS ts y true), (numS ts y false, numS ts x true), (numS ts y true, numS ts x true)]
def pairsT (ts : List (Bool × Int)) (i : Nat) (t : dThing) : List (Int × Int) := (numS ts (i : Int) false, numS ts (i : Int) true) :: t.1.flatMap (pairs4 ts (i : Int))
def pairsC (ts : List (Bool × Int)) (c : dChange) (j : Nat) : List (Int × Int) := (List.range j).flatMap fun i => match c.1[i]? with | some t => pairsT ts i t | none => []

theorem order2_ok {k : Nat} (hk : 50 ≤ k) {c : dChange} {ts : List (Bool × Int)} {ps : List (Int × Int)} {q : dQuick} {y2 : (List dThing) × (List dDresser) × (List Int) × (List Int) × (List (Bool × Int)) × (List Int) × Int} {x6 : dThing} (h : QI c ts ps q) (ht : ts.length ≤ 8) (hx : x6.1.length ≤ 20) :
    W (chg_quick_order_l2 k y2 x6 k (q.1.1, q.1.2.1, q.1.2.2.1, q.1.2.2.2, q.2.1, q.2.2, 0)) fun r => QI c ts (ps ++ x6.1.flatMap (pairs4 ts y2.2.2.2.2.2.2)) ((r.1, r.2.1, r.2.2.1, r.2.2.2.1), r.2.2.2.2.1, r.2.2.2.2.2) := by
  refine W.loop (f := chg_quick_order_l2 k y2 x6) (fun m y => ∃ j : Nat, y.2.2.2.2.2.2 = (j : Int) ∧ j ≤ x6.1.length ∧ m = x6.1.length - j ∧ QI c ts (ps ++ (x6.1.take j).flatMap (pairs4 ts y2.2.2.2.2.2.2)) ((y.1, y.2.1, y.2.2.1, y.2.2.2.1), y.2.2.2.2.1, y.2.2.2.2.2.1)) ?_ x6.1.length k _ (by omega) ⟨0, rfl, by omega, by omega, by simpa using h⟩
  rintro fuel m ⟨y1, y3, y4, y5, y6, y7, y⟩ ⟨j, hj, hle, hq, hQ⟩ ih
  simp only at hj hQ
  subst hj
  unfold chg_quick_order_l2
  dsimp only
  refine W.ite (fun hlt => ?_) (fun hge => W.ret (by have : j = x6.1.length := by omega
                                                     subst this; rw [List.take_length] at hQ; exact hQ))
  have hlt' : j < x6.1.length := by omega
  have num : ∀ {ps' : List (Int × Int)} {q : dQuick} (x : Int) (b : Bool), QI c ts ps' q → chg_quick_number k q x b = some (numS ts x b) := fun x b hq => by
    rw [number_eq hk (by rw [hq.tasks]; exact ht), hq.tasks]
  have nl : ∀ x b, numS ts x b < (ts.length : Int) := fun x b => numS_lt.2
  rw [geti_W hlt', bs, num _ _ hQ, bs, num _ _ hQ, bs]
  refine W.bind (note_ok hk hQ ht (nl _ _) (nl _ _)) fun r16 h16 => ?_
  rw [num _ _ h16, bs, num _ _ h16, bs]
  refine W.bind (note_ok hk h16 ht (nl _ _) (nl _ _)) fun r19 h19 => ?_
  rw [num _ _ h19, bs, num _ _ h19, bs]
  refine W.bind (note_ok hk h19 ht (nl _ _) (nl _ _)) fun r22 h22 => ?_
  rw [num _ _ h22, bs, num _ _ h22, bs]
  refine W.bind (note_ok hk h22 ht (nl _ _) (nl _ _)) fun r25 h25 => ?_
  refine W.ck (by omega) (by omega) (ih (m - 1) (r25.1.1, r25.1.2.1, r25.1.2.2.1, r25.1.2.2.2, r25.2.1, r25.2.2, (j : Int) + 1) (by omega) ⟨j + 1, by show (j : Int) + 1 = ((j + 1 : Nat) : Int); omega, by omega, by omega, ?_⟩)
  rw [List.take_add_one, List.getElem?_eq_getElem hlt', List.flatMap_append, ← List.append_assoc]
  simp only [Option.toList_some, List.flatMap_cons, List.flatMap_nil, List.append_nil, pairs4]
  simp only [List.append_assoc, List.cons_append, List.nil_append] at h25 ⊢
  exact h25

theorem order_ok {k : Nat} (hk : 50 ≤ k) {c : dChange} {ts : List (Bool × Int)} {q : dQuick} (h : QI c ts [] q) (ht : ts.length ≤ 8) (hl : c.1.length ≤ 20) (hx : ∀ t ∈ c.1, t.1.length ≤ 20) : W (chg_quick_order k q) (QI c ts (pairsC ts c c.1.length)) := by
  obtain ⟨qc, qt, qb⟩ := q
  obtain rfl : qc = c := h.c
  unfold chg_quick_order
  refine W.loop (f := chg_quick_order_l1 k (qc, qt, qb)) (fun m y => ∃ j : Nat, y.2.2.2.2.2.2 = (j : Int) ∧ j ≤ qc.1.length ∧ m = qc.1.length - j ∧ QI qc ts (pairsC ts qc j) ((y.1, y.2.1, y.2.2.1, y.2.2.2.1), y.2.2.2.2.1, y.2.2.2.2.2.1)) ?_ qc.1.length k _ (by omega) ⟨0, rfl, by omega, by omega, h⟩
  rintro fuel m ⟨y1, y3, y4, y5, y6, y7, y⟩ ⟨j, hj, hle, hq, hQ⟩ ih
  simp only at hj hQ
  subst hj
  unfold chg_quick_order_l1
  dsimp only
  refine W.ite (fun hlt => ?_) (fun hge => W.ret (by have : j = qc.1.length := by omega
                                                     subst this; exact hQ))
  have hlt' : j < qc.1.length := by omega
  have num : ∀ {ps' : List (Int × Int)} {q : dQuick} (x : Int) (b : Bool), QI qc ts ps' q → chg_quick_number k q x b = some (numS ts x b) := fun x b hq => by
    rw [number_eq hk (by rw [hq.tasks]; exact ht), hq.tasks]
  have nl : ∀ x b, numS ts x b < (ts.length : Int) := fun x b => numS_lt.2
  rw [geti_W hlt', bs, num _ _ hQ, bs, num _ _ hQ, bs]
  refine W.bind (R := fun r => QI qc ts (pairsC ts qc (j + 1)) ((r.1, r.2.1, r.2.2.1, r.2.2.2.1), r.2.2.2.2.1, r.2.2.2.2.2)) ?_ fun r hr => W.ck (by omega) (by omega) (ih (m - 1) (r.1, r.2.1, r.2.2.1, r.2.2.2.1, r.2.2.2.2.1, r.2.2.2.2.2, (j : Int) + 1) (by omega) ⟨j + 1, by show (j : Int) + 1 = ((j + 1 : Nat) : Int); omega, by omega, by omega, hr⟩)
  refine W.bind (note_ok hk hQ ht (nl _ _) (nl _ _)) fun r10 h10 => (order2_ok hk h10 ht (hx _ (List.getElem_mem hlt'))).mono fun r hr => ?_
  unfold pairsC at hr ⊢
  rw [List.range_succ, List.flatMap_append]
  simp only [List.flatMap_cons, List.flatMap_nil, List.append_nil, List.getElem?_eq_getElem hlt', pairsT, List.append_assoc, List.cons_append, List.nil_append] at hr ⊢
  exact hr

/-- A task has to be done before another one. -/
def BefT (c : dChange) (x y : Bool × Int) : Prop :=
  (x.2 = y.2 ∧ x.1 = false ∧ y.1 = true) ∨ (∃ (i : Nat) (t : dThing), c.1[i]? = some t ∧ y.2 = (i : Int) ∧ x.2 ∈ t.1 ∧ x.1 = false) ∨ (∃ (i : Nat) (t : dThing), c.1[i]? = some t ∧ x.2 = (i : Int) ∧ y.2 ∈ t.1 ∧ y.1 = true)

theorem pairsC_iff {c : dChange} {ts : List (Bool × Int)} (hn : ts.Nodup) (hr : ∀ x ∈ ts, ∃ i : Nat, i < c.1.length ∧ x.2 = (i : Int)) {a b : Nat} :
    ((a : Int), (b : Int)) ∈ pairsC ts c c.1.length ↔ ∃ x y, ts[a]? = some x ∧ ts[b]? = some y ∧ BefT c x y := by
  unfold pairsC
  simp only [List.mem_flatMap, List.mem_range]
  constructor
  · rintro ⟨i, hi, h⟩
    rw [List.getElem?_eq_getElem hi] at h
    simp only [pairsT, List.mem_cons, List.mem_flatMap, pairs4, Prod.mk.injEq, List.not_mem_nil, or_false] at h
    have hg := List.getElem?_eq_getElem hi
    rcases h with ⟨h1, h2⟩ | ⟨x, hx, ⟨h1, h2⟩ | ⟨h1, h2⟩ | ⟨h1, h2⟩ | ⟨h1, h2⟩⟩
    · exact ⟨_, _, (numS_some hn).1 h1.symm, (numS_some hn).1 h2.symm, .inl ⟨rfl, rfl, rfl⟩⟩
    · exact ⟨_, _, (numS_some hn).1 h1.symm, (numS_some hn).1 h2.symm, .inr (.inl ⟨i, _, hg, rfl, hx, rfl⟩)⟩
    · exact ⟨_, _, (numS_some hn).1 h1.symm, (numS_some hn).1 h2.symm, .inr (.inl ⟨i, _, hg, rfl, hx, rfl⟩)⟩
    · exact ⟨_, _, (numS_some hn).1 h1.symm, (numS_some hn).1 h2.symm, .inr (.inr ⟨i, _, hg, rfl, hx, rfl⟩)⟩
    · exact ⟨_, _, (numS_some hn).1 h1.symm, (numS_some hn).1 h2.symm, .inr (.inr ⟨i, _, hg, rfl, hx, rfl⟩)⟩
  · rintro ⟨⟨x1, x2⟩, ⟨y1, y2⟩, h1, h2, h⟩
    have e1 := (numS_some hn).2 h1
    have e2 := (numS_some hn).2 h2
    simp only [BefT] at h
    rcases h with ⟨rfl, rfl, rfl⟩ | ⟨i, t, hg, rfl, hx, rfl⟩ | ⟨i, t, hg, rfl, hx, rfl⟩
    · obtain ⟨i, hi, rfl⟩ := hr _ (List.mem_of_getElem? h1)
      refine ⟨i, hi, ?_⟩
      rw [List.getElem?_eq_getElem hi]
      simp only [pairsT, List.mem_cons, Prod.mk.injEq]
      exact .inl ⟨e1.symm, e2.symm⟩
    · refine ⟨i, (List.getElem?_eq_some_iff.1 hg).1, ?_⟩
      rw [hg]
      simp only [pairsT, List.mem_cons, List.mem_flatMap, pairs4, Prod.mk.injEq, List.not_mem_nil, or_false]
      refine .inr ⟨x2, hx, ?_⟩
      cases y1 with
      | false => exact .inl ⟨e1.symm, e2.symm⟩
      | true => exact .inr (.inl ⟨e1.symm, e2.symm⟩)
    · refine ⟨i, (List.getElem?_eq_some_iff.1 hg).1, ?_⟩
      rw [hg]
      simp only [pairsT, List.mem_cons, List.mem_flatMap, pairs4, Prod.mk.injEq, List.not_mem_nil, or_false]
      refine .inr ⟨y2, hx, ?_⟩
      cases x1 with
      | false => exact .inr (.inr (.inl ⟨e1.symm, e2.symm⟩))
      | true => exact .inr (.inr (.inr ⟨e1.symm, e2.symm⟩))

/-- The numbers of a set, ascending. -/
def bitsL (s : Int) (j : Nat) : List Int := ((List.range j).filter fun (i : Nat) => decide (Has s i)).map fun (i : Nat) => (i : Int)
theorem bitsL_succ {s : Int} {j : Nat} : bitsL s (j + 1) = bitsL s j ++ (if Has s j then [(j : Int)] else []) := by
  unfold bitsL
  rw [List.range_succ, List.filter_append, List.map_append]
  congr 1
  by_cases h : Has s j <;> simp [h]
theorem bitsL_len {s : Int} {j : Nat} : (bitsL s j).length ≤ j := by
  unfold bitsL
  rw [List.length_map]
  exact Nat.le_trans (List.length_filter_le _ _) (by simp)

theorem set_list_ok {k : Nat} (hk : 50 ≤ k) {s : Int} (hs : Mask s) : chg_set_list k s = some (bitsL s 8) := by
  have key : W (chg_set_list_l1 k s k ([], 0)) fun r => r = bitsL s 8 := by
    refine W.loop (f := chg_set_list_l1 k s) (fun q y => ∃ j : Nat, y.2 = (j : Int) ∧ j ≤ 8 ∧ q = 8 - j ∧ y.1 = bitsL s j) ?_ 8 k _ (by omega) ⟨0, rfl, by omega, by omega, by simp [bitsL]⟩
    rintro fuel q ⟨o, y⟩ ⟨j, hj, hle, hq, ho⟩ ih
    simp only at hj ho
    subst hj ho
    unfold chg_set_list_l1
    dsimp only
    refine W.ite (fun hlt => ?_) (fun hge => W.ret (by have : j = 8 := by omega
                                                       subst this; rfl))
    have hbl := bitsL_len (s := s) (j := j)
    refine W.bindEB (has_ok hs (by omega)) (W.iteB (fun hh => ?_) (fun hh => ?_))
    · refine W.chkB (okLen_of (by simp only [List.length_cons, List.length_nil]; omega)) (W.sb (W.ck (by omega) (by omega) (ih (q - 1) (_, (j : Int) + 1) (by omega) ⟨j + 1, ?_, by omega, by omega, ?_⟩)))
      · show (j : Int) + 1 = ((j + 1 : Nat) : Int)
        omega
      · show bitsL s j ++ [(j : Int)] = _
        rw [bitsL_succ, if_pos (of_decide_eq_true hh)]
    · refine W.sb (W.ck (by omega) (by omega) (ih (q - 1) (_, (j : Int) + 1) (by omega) ⟨j + 1, ?_, by omega, by omega, ?_⟩))
      · show (j : Int) + 1 = ((j + 1 : Nat) : Int)
        omega
      · show bitsL s j = _
        rw [bitsL_succ, if_neg (fun h => hh (decide_eq_true h)), List.append_nil]
  obtain ⟨r, e, rfl⟩ := key
  unfold chg_set_list
  rw [e]
  rfl

theorem put_ok {k : Nat} (hk : 50 ≤ k) {l : List Int} {o : List (Bool × Int)} (hl : l.length ≤ 8) (ho : o.length ≤ 100) : chg_begin_l1 k l k (o, 0) = some (o ++ l.map fun n => (false, n)) := by
  have key : W (chg_begin_l1 k l k (o, 0)) fun r => r = o ++ l.map fun n => (false, n) := by
    refine W.loop (f := chg_begin_l1 k l) (fun q y => ∃ j : Nat, y.2 = (j : Int) ∧ j ≤ l.length ∧ q = l.length - j ∧ y.1 = o ++ (l.take j).map fun n => (false, n)) ?_ l.length k _ (by omega) ⟨0, rfl, by omega, by omega, by simp⟩
    rintro fuel q ⟨o', y⟩ ⟨j, hj, hle, hq, ho'⟩ ih
    simp only at hj ho'
    subst hj ho'
    unfold chg_begin_l1
    dsimp only
    refine W.ite (fun hlt => ?_) (fun hge => W.ret (by have : j = l.length := by omega
                                                       subst this; rw [List.take_length]))
    have hlt' : j < l.length := by omega
    refine W.bindE (geti_W hlt') (W.chk (okLen_of (by simp only [List.length_append, List.length_map, List.length_take, List.length_cons, List.length_nil]; omega)) (W.ck (by omega) (by omega) (ih (q - 1) (_, (j : Int) + 1) (by omega) ⟨j + 1, ?_, by omega, by omega, ?_⟩)))
    · show (j : Int) + 1 = ((j + 1 : Nat) : Int)
      omega
    · show (o ++ _) ++ _ = _
      rw [List.take_add_one, List.getElem?_eq_getElem hlt', List.map_append, List.append_assoc]
      rfl
  obtain ⟨r, e, rfl⟩ := key
  exact e
theorem put2_ok {k : Nat} (hk : 50 ≤ k) {l : List Int} {o : List (Bool × Int)} (hl : l.length ≤ 8) (ho : o.length ≤ 100) : chg_begin_l2 k l k (o, 0) = some (o ++ l.map fun n => (true, n)) := by
  have key : W (chg_begin_l2 k l k (o, 0)) fun r => r = o ++ l.map fun n => (true, n) := by
    refine W.loop (f := chg_begin_l2 k l) (fun q y => ∃ j : Nat, y.2 = (j : Int) ∧ j ≤ l.length ∧ q = l.length - j ∧ y.1 = o ++ (l.take j).map fun n => (true, n)) ?_ l.length k _ (by omega) ⟨0, rfl, by omega, by omega, by simp⟩
    rintro fuel q ⟨o', y⟩ ⟨j, hj, hle, hq, ho'⟩ ih
    simp only at hj ho'
    subst hj ho'
    unfold chg_begin_l2
    dsimp only
    refine W.ite (fun hlt => ?_) (fun hge => W.ret (by have : j = l.length := by omega
                                                       subst this; rw [List.take_length]))
    have hlt' : j < l.length := by omega
    refine W.bindE (geti_W hlt') (W.chk (okLen_of (by simp only [List.length_append, List.length_map, List.length_take, List.length_cons, List.length_nil]; omega)) (W.ck (by omega) (by omega) (ih (q - 1) (_, (j : Int) + 1) (by omega) ⟨j + 1, ?_, by omega, by omega, ?_⟩)))
    · show (j : Int) + 1 = ((j + 1 : Nat) : Int)
      omega
    · show (o ++ _) ++ _ = _
      rw [List.take_add_one, List.getElem?_eq_getElem hlt', List.map_append, List.append_assoc]
      rfl
  obtain ⟨r, e, rfl⟩ := key
  exact e

end Go.Proofs.Ytfhdclhbdmhnmaa
