/- Plain law, part 9: a good change at work: its tasks. -/
import Derived.Test.YtfhdclhbdmhnmaaPlain8
namespace Go.Proofs.Ytfhdclhbdmhnmaa
open K Go Go.Proofs

abbrev dQuick := dChange × (List (Bool × Int)) × (List Int)

theorem number_ok {k : Nat} (hk : 50 ≤ k) {a0 : dQuick} {a1 : Int} {a2 : Bool} (h4 : a0.2.1.length ≤ 8) : W (chg_quick_number k a0 a1 a2) fun r => -1 ≤ r ∧ r < (a0.2.1.length : Int) := by
  have key : W (chg_quick_number_l1 k a0 a1 a2 k 0) fun r => match r with | .error e => 0 ≤ e ∧ e < (a0.2.1.length : Int) | .ok _ => True := by
    refine W.loop (f := chg_quick_number_l1 k a0 a1 a2) (fun q y => ∃ j : Nat, y = (j : Int) ∧ j ≤ a0.2.1.length ∧ q = a0.2.1.length - j) ?_ a0.2.1.length k 0 (by omega) ⟨0, rfl, by omega, by omega⟩
    rintro fuel q y ⟨j, hj, hle, hq⟩ ih
    subst hj
    unfold chg_quick_number_l1
    refine W.ite (fun hlt => ?_) (fun hge => W.ret trivial)
    have hlt' : j < a0.2.1.length := by omega
    have next : W ((K.ck ((j : Int) + (1 : Int))).bind fun x14 => chg_quick_number_l1 k a0 a1 a2 fuel x14) fun r => match r with | .error e => 0 ≤ e ∧ e < (a0.2.1.length : Int) | .ok _ => True :=
      W.ck (by omega) (by omega) (ih (q - 1) ((j : Int) + 1) (by omega) ⟨j + 1, by omega, by omega, by omega⟩)
    refine W.bEE (R := fun r => match r with | .error e => e = (j : Int) | .ok _ => True) ?_ (fun e he => W.ret ⟨by have : e = (j : Int) := he; omega, by have : e = (j : Int) := he; omega⟩) (fun _ _ => next)
    have fin : ∀ bb : Bool, W ((some bb : Option Bool).bind fun x8 => if x8 = true then (some (.error (j : Int))) else (some (.ok ()))) fun r : Except Int Unit => match r with | .error e => e = (j : Int) | .ok _ => True := fun bb => by
      cases bb
      · exact ⟨_, rfl, trivial⟩
      · exact ⟨_, rfl, rfl⟩
    refine W.bindE (geti_W hlt') ?_
    generalize a0.2.1[j] = x7
    obtain ⟨b, v⟩ := x7
    cases b with
    | false =>
      rw [if_pos (by simp)]
      cases a2 with
      | false => exact fin (decide (v = a1))
      | true => exact fin false
    | true =>
      rw [if_neg (by simp), if_pos rfl]
      cases a2 with
      | false => exact fin false
      | true => exact fin (decide (v = a1))
  unfold chg_quick_number
  exact W.bEE key (fun e he => W.ret ⟨by have := he.1; omega, he.2⟩) (fun _ _ => W.ret ⟨by omega, by omega⟩)

/-- A quick change at work. -/
structure QOk (c : dChange) (tasks : List (Bool × Int)) (q : dQuick) : Prop where
  c : q.1 = c
  tasks : q.2.1 = tasks
  len : q.2.2.length = 8
  masks : ∀ s ∈ q.2.2, Mask s

theorem note_ok {k : Nat} (hk : 50 ≤ k) {c : dChange} {tasks : List (Bool × Int)} {q : dQuick} {a b : Int} (h : QOk c tasks q) (ht : tasks.length ≤ 8) (ha : a < tasks.length) (hb : b < tasks.length) : W (chg_quick_order_1 k a b q) (QOk c tasks) := by
  unfold chg_quick_order_1
  have same : QOk c tasks ((q.1.1, q.1.2.1, q.1.2.2.1, q.1.2.2.2), q.2.1, q.2.2) := h
  by_cases ha0 : 0 ≤ a
  · rw [if_pos ha0]
    refine W.sb (W.ite (fun hb0 => ?_) (fun _ => W.ret same))
    have hb0 := of_decide_eq_true hb0
    have hlt : b.toNat < q.2.2.length := by rw [h.len]; omega
    have hm := h.masks _ (List.getElem_mem hlt)
    obtain ⟨r5, e5, m5, _⟩ := of_set_ok (k := k) hk (l := [a]) (by simp) (fun x hx => by simp only [List.mem_singleton] at hx; subst hx; omega)
    have g : geti q.2.2 b = some (q.2.2[b.toNat]'hlt) := by rw [geti, if_pos hb0]; exact List.getElem?_eq_getElem hlt
    refine W.chk (by omega) (W.bindE g (W.bindE e5 (W.chk (by omega) (W.ret ⟨h.c, h.tasks, by show (List.set q.2.2 _ _).length = 8; rw [List.length_set]; exact h.len, fun s hs => ?_⟩))))
    rcases List.mem_or_eq_of_mem_set hs with h' | h'
    · exact h.masks s h'
    · subst h'
      exact (ior_ok hm m5).1
  · rw [if_neg ha0]
    exact W.sb (W.ite (fun h => by cases h) (fun _ => W.ret same))

theorem order2_ok {k : Nat} (hk : 50 ≤ k) {c : dChange} {tasks : List (Bool × Int)} {q : dQuick} {y2 : (List dThing) × (List dDresser) × (List Int) × (List Int) × (List (Bool × Int)) × (List Int) × Int} {x6 : dThing} (h : QOk c tasks q) (ht : tasks.length ≤ 8) (hx : x6.1.length ≤ 20) :
    W (chg_quick_order_l2 k y2 x6 k (q.1.1, q.1.2.1, q.1.2.2.1, q.1.2.2.2, q.2.1, q.2.2, 0)) fun r => QOk c tasks ((r.1, r.2.1, r.2.2.1, r.2.2.2.1), r.2.2.2.2.1, r.2.2.2.2.2) := by
  refine W.loop (f := chg_quick_order_l2 k y2 x6) (fun m y => ∃ j : Nat, y.2.2.2.2.2.2 = (j : Int) ∧ j ≤ x6.1.length ∧ m = x6.1.length - j ∧ QOk c tasks ((y.1, y.2.1, y.2.2.1, y.2.2.2.1), y.2.2.2.2.1, y.2.2.2.2.2.1)) ?_ x6.1.length k _ (by omega) ⟨0, rfl, by omega, by omega, h⟩
  rintro fuel m ⟨y1, y3, y4, y5, y6, y7, y⟩ ⟨j, hj, hle, hq, hQ⟩ ih
  simp only at hj hQ
  subst hj
  unfold chg_quick_order_l2
  dsimp only
  refine W.ite (fun hlt => ?_) (fun hge => W.ret hQ)
  have hlt' : j < x6.1.length := by omega
  have num : ∀ {q : dQuick} (x : Int) (b : Bool), QOk c tasks q → W (chg_quick_number k q x b) fun r => r < (tasks.length : Int) := fun x b hq => by
    have := number_ok hk (a0 := _) (a1 := x) (a2 := b) (by rw [hq.tasks]; exact ht)
    exact this.mono fun r hr => by rw [hq.tasks] at hr; exact hr.2
  refine W.bindE (geti_W hlt') ?_
  refine W.bind (num _ _ hQ) fun r14 h14 => W.bind (num _ _ hQ) fun r15 h15 => W.bind (note_ok hk hQ ht h14 h15) fun r16 h16 => ?_
  refine W.bind (num _ _ h16) fun r17 h17 => W.bind (num _ _ h16) fun r18 h18 => W.bind (note_ok hk h16 ht h17 h18) fun r19 h19 => ?_
  refine W.bind (num _ _ h19) fun r20 h20 => W.bind (num _ _ h19) fun r21 h21 => W.bind (note_ok hk h19 ht h20 h21) fun r22 h22 => ?_
  refine W.bind (num _ _ h22) fun r23 h23 => W.bind (num _ _ h22) fun r24 h24 => W.bind (note_ok hk h22 ht h23 h24) fun r25 h25 => ?_
  exact W.ck (by omega) (by omega) (ih (m - 1) (r25.1.1, r25.1.2.1, r25.1.2.2.1, r25.1.2.2.2, r25.2.1, r25.2.2, (j : Int) + 1) (by omega) ⟨j + 1, by show (j : Int) + 1 = ((j + 1 : Nat) : Int); omega, by omega, by omega, h25⟩)

theorem order_ok {k : Nat} (hk : 50 ≤ k) {c : dChange} {tasks : List (Bool × Int)} {q : dQuick} (h : QOk c tasks q) (ht : tasks.length ≤ 8) (hl : c.1.length ≤ 20) (hx : ∀ t ∈ c.1, t.1.length ≤ 20) : W (chg_quick_order k q) (QOk c tasks) := by
  obtain ⟨qc, qt, qb⟩ := q
  obtain rfl : qc = c := h.c
  unfold chg_quick_order
  refine W.loop (f := chg_quick_order_l1 k (qc, qt, qb)) (fun m y => ∃ j : Nat, y.2.2.2.2.2.2 = (j : Int) ∧ j ≤ qc.1.length ∧ m = qc.1.length - j ∧ QOk qc tasks ((y.1, y.2.1, y.2.2.1, y.2.2.2.1), y.2.2.2.2.1, y.2.2.2.2.2.1)) ?_ qc.1.length k _ (by omega) ⟨0, rfl, by omega, by omega, h⟩
  rintro fuel m ⟨y1, y3, y4, y5, y6, y7, y⟩ ⟨j, hj, hle, hq, hQ⟩ ih
  simp only at hj hQ
  subst hj
  unfold chg_quick_order_l1
  dsimp only
  refine W.ite (fun hlt => ?_) (fun hge => W.ret hQ)
  have hlt' : j < qc.1.length := by omega
  have num : ∀ {q : dQuick} (x : Int) (b : Bool), QOk qc tasks q → W (chg_quick_number k q x b) fun r => r < (tasks.length : Int) := fun x b hq => by
    have := number_ok hk (a0 := _) (a1 := x) (a2 := b) (by rw [hq.tasks]; exact ht)
    exact this.mono fun r hr => by rw [hq.tasks] at hr; exact hr.2
  refine W.bindEB (geti_W hlt') ?_
  refine W.bind (R := fun r => QOk qc tasks ((r.1, r.2.1, r.2.2.1, r.2.2.2.1), r.2.2.2.2.1, r.2.2.2.2.2)) ?_ fun r hr => W.ck (by omega) (by omega) (ih (m - 1) (r.1, r.2.1, r.2.2.1, r.2.2.2.1, r.2.2.2.2.1, r.2.2.2.2.2, (j : Int) + 1) (by omega) ⟨j + 1, by show (j : Int) + 1 = ((j + 1 : Nat) : Int); omega, by omega, by omega, hr⟩)
  exact W.bind (num _ _ hQ) fun r8 h8 => W.bind (num _ _ hQ) fun r9 h9 => W.bind (note_ok hk hQ ht h8 h9) fun r10 h10 => order2_ok hk h10 ht (hx _ (List.getElem_mem hlt'))

/-- The numbers of a set, ascending. -/
def bitsL (s : Int) (j : Nat) : List Int := ((List.range j).filter fun (i : Nat) => decide (Has s i)).map fun (i : Nat) => (i : Int)
theorem bitsL_succ {s : Int} {j : Nat} : bitsL s (j + 1) = bitsL s j ++ (if Has s j then [(j : Int)] else []) := by
  unfold bitsL
  rw [List.range_succ, List.filter_append, List.map_append]
  congr 1
  by_cases h : Has s j <;> simp [h]
theorem bitsL_len {s : Int} {j : Nat} : (bitsL s j).length ≤ j := by
  unfold bitsL
  rw [List.length_map]
  exact Nat.le_trans (List.length_filter_le _ _) (by simp)

theorem set_list_ok {k : Nat} (hk : 50 ≤ k) {s : Int} (hs : Mask s) : chg_set_list k s = some (bitsL s 8) := by
  have key : W (chg_set_list_l1 k s k ([], 0)) fun r => r = bitsL s 8 := by
    refine W.loop (f := chg_set_list_l1 k s) (fun q y => ∃ j : Nat, y.2 = (j : Int) ∧ j ≤ 8 ∧ q = 8 - j ∧ y.1 = bitsL s j) ?_ 8 k _ (by omega) ⟨0, rfl, by omega, by omega, by simp [bitsL]⟩
    rintro fuel q ⟨o, y⟩ ⟨j, hj, hle, hq, ho⟩ ih
    simp only at hj ho
    subst hj ho
    unfold chg_set_list_l1
    dsimp only
    refine W.ite (fun hlt => ?_) (fun hge => W.ret (by have : j = 8 := by omega
                                                       subst this; rfl))
    have hbl := bitsL_len (s := s) (j := j)
    refine W.bindEB (has_ok hs (by omega)) (W.iteB (fun hh => ?_) (fun hh => ?_))
    · refine W.chkB (okLen_of (by simp only [List.length_cons, List.length_nil]; omega)) (W.sb (W.ck (by omega) (by omega) (ih (q - 1) (_, (j : Int) + 1) (by omega) ⟨j + 1, ?_, by omega, by omega, ?_⟩)))
      · show (j : Int) + 1 = ((j + 1 : Nat) : Int)
        omega
      · show bitsL s j ++ [(j : Int)] = _
        rw [bitsL_succ, if_pos (of_decide_eq_true hh)]
    · refine W.sb (W.ck (by omega) (by omega) (ih (q - 1) (_, (j : Int) + 1) (by omega) ⟨j + 1, ?_, by omega, by omega, ?_⟩))
      · show (j : Int) + 1 = ((j + 1 : Nat) : Int)
        omega
      · show bitsL s j = _
        rw [bitsL_succ, if_neg (fun h => hh (decide_eq_true h)), List.append_nil]
  obtain ⟨r, e, rfl⟩ := key
  unfold chg_set_list
  rw [e]
  rfl

theorem put_ok {k : Nat} (hk : 50 ≤ k) {l : List Int} {o : List (Bool × Int)} (hl : l.length ≤ 8) (ho : o.length ≤ 100) : chg_begin_l1 k l k (o, 0) = some (o ++ l.map fun n => (false, n)) := by
  have key : W (chg_begin_l1 k l k (o, 0)) fun r => r = o ++ l.map fun n => (false, n) := by
    refine W.loop (f := chg_begin_l1 k l) (fun q y => ∃ j : Nat, y.2 = (j : Int) ∧ j ≤ l.length ∧ q = l.length - j ∧ y.1 = o ++ (l.take j).map fun n => (false, n)) ?_ l.length k _ (by omega) ⟨0, rfl, by omega, by omega, by simp⟩
    rintro fuel q ⟨o', y⟩ ⟨j, hj, hle, hq, ho'⟩ ih
    simp only at hj ho'
    subst hj ho'
    unfold chg_begin_l1
    dsimp only
    refine W.ite (fun hlt => ?_) (fun hge => W.ret (by have : j = l.length := by omega
                                                       subst this; rw [List.take_length]))
    have hlt' : j < l.length := by omega
    refine W.bindE (geti_W hlt') (W.chk (okLen_of (by simp only [List.length_append, List.length_map, List.length_take, List.length_cons, List.length_nil]; omega)) (W.ck (by omega) (by omega) (ih (q - 1) (_, (j : Int) + 1) (by omega) ⟨j + 1, ?_, by omega, by omega, ?_⟩)))
    · show (j : Int) + 1 = ((j + 1 : Nat) : Int)
      omega
    · show (o ++ _) ++ _ = _
      rw [List.take_add_one, List.getElem?_eq_getElem hlt', List.map_append, List.append_assoc]
      rfl
  obtain ⟨r, e, rfl⟩ := key
  exact e
theorem put2_ok {k : Nat} (hk : 50 ≤ k) {l : List Int} {o : List (Bool × Int)} (hl : l.length ≤ 8) (ho : o.length ≤ 100) : chg_begin_l2 k l k (o, 0) = some (o ++ l.map fun n => (true, n)) := by
  have key : W (chg_begin_l2 k l k (o, 0)) fun r => r = o ++ l.map fun n => (true, n) := by
    refine W.loop (f := chg_begin_l2 k l) (fun q y => ∃ j : Nat, y.2 = (j : Int) ∧ j ≤ l.length ∧ q = l.length - j ∧ y.1 = o ++ (l.take j).map fun n => (true, n)) ?_ l.length k _ (by omega) ⟨0, rfl, by omega, by omega, by simp⟩
    rintro fuel q ⟨o', y⟩ ⟨j, hj, hle, hq, ho'⟩ ih
    simp only at hj ho'
    subst hj ho'
    unfold chg_begin_l2
    dsimp only
    refine W.ite (fun hlt => ?_) (fun hge => W.ret (by have : j = l.length := by omega
                                                       subst this; rw [List.take_length]))
    have hlt' : j < l.length := by omega
    refine W.bindE (geti_W hlt') (W.chk (okLen_of (by simp only [List.length_append, List.length_map, List.length_take, List.length_cons, List.length_nil]; omega)) (W.ck (by omega) (by omega) (ih (q - 1) (_, (j : Int) + 1) (by omega) ⟨j + 1, ?_, by omega, by omega, ?_⟩)))
    · show (j : Int) + 1 = ((j + 1 : Nat) : Int)
      omega
    · show (o ++ _) ++ _ = _
      rw [List.take_add_one, List.getElem?_eq_getElem hlt', List.map_append, List.append_assoc]
      rfl
  obtain ⟨r, e, rfl⟩ := key
  exact e

/-- The tasks: what comes off, what is put on. -/
def tks (s a b : Int) : List (Bool × Int) := ((bitsL (iand .u8 s a) 8).map fun n => (false, n)) ++ ((bitsL (iand .u8 s b) 8).map fun n => (true, n))

theorem begin_ok {k : Nat} (hk : 50 ≤ k) {up : Bool} {n : Int} {c : dChange} (hc : Known8 up n c) (hdl : 1 ≤ c.2.1.length ∧ c.2.1.length ≤ 3) :
    ∃ s a b : Int, Chg c s ∧ (Mask a ∧ ∀ i : Nat, Has a i ↔ (i : Int) ∈ c.2.2.1) ∧ (Mask b ∧ ∀ i : Nat, Has b i ↔ (i : Int) ∈ c.2.2.2) ∧
      ((tks s a b).length ≤ 4 → W (chg_begin k c) fun r => r.2 = 0 ∧ ∃ q, r.1 = some q ∧ QOk c (tks s a b) q) := by
  have hn := hc.n4
  have hl := hc.len
  have hwl := hc.wears.len (by omega)
  have hvl := hc.wants.len (by omega)
  obtain ⟨a, ea, ha⟩ := of_set_ok (k := k) hk (l := c.2.2.1) (by omega) (fun x hx => by have := hc.wears.2 x hx; omega)
  obtain ⟨b, eb, hb⟩ := of_set_ok (k := k) hk (l := c.2.2.2) (by omega) (fun x hx => by have := hc.wants.2 x hx; omega)
  obtain ⟨s, es, hs⟩ := changed_ok hk hc
  refine ⟨s, a, b, hs, ha, hb, fun ht => ?_⟩
  obtain ⟨m1, _⟩ := iand_ok hs.mask ha.1
  obtain ⟨m2, _⟩ := iand_ok hs.mask hb.1
  have l1 := bitsL_len (s := iand .u8 s a) (j := 8)
  have l2 := bitsL_len (s := iand .u8 s b) (j := 8)
  unfold chg_begin
  refine W.bindE (check_ok hk hn hl hc.good hc.wears hc.wants hc.dressers hdl) ?_
  rw [if_neg (by decide)]
  refine W.bindE es ?_
  refine W.bindEB ea (W.bindEB (set_list_ok hk m1) (W.bindE (put_ok hk l1 (by simp)) ?_))
  refine W.bindEB eb (W.bindEB (set_list_ok hk m2) (W.bindE (put2_ok hk l2 (by simp; omega)) ?_))
  have e : ([] ++ (bitsL (iand .u8 s a) 8).map fun n => (false, n)) ++ (bitsL (iand .u8 s b) 8).map (fun n => (true, n)) = tks s a b := by simp [tks]
  rw [e]
  rw [if_neg (by omega)]
  have hsm : ∀ t ∈ c.1, t.1.length ≤ 20 := fun t htm => by
    obtain ⟨j, hj⟩ := List.mem_iff_getElem?.1 htm
    have := (hc.good j t hj).over.1.len (by omega)
    omega
  have hq : QOk c (tks s a b) (c, tks s a b, [(0 : Int), 0, 0, 0, 0, 0, 0, 0]) := ⟨rfl, rfl, rfl, fun s hs => by
    simp only [List.mem_cons, List.not_mem_nil, or_false, or_self] at hs
    subst hs
    exact ⟨by decide, by decide⟩⟩
  refine W.bind (order_ok hk hq (by omega) (by omega) hsm) fun r hr => W.ret ⟨rfl, _, rfl, hr⟩
end Go.Proofs.Ytfhdclhbdmhnmaa
