/- Plain law, part 10: the tasks of a change; the change back. -/
import Derived.Test.YtfhdclhbdmhnmaaPlain9
namespace Go.Proofs.Ytfhdclhbdmhnmaa
open K Go Go.Proofs

theorem tasks_l1_ok {k : Nat} (hk : 50 ≤ k) {q : dQuick} (hl : q.2.1.length ≤ 8) : chg_Tasks_l1 k q k ([], 0) = some (q.2.1.map fun x => (x.2, x.1)) := by
  have key : W (chg_Tasks_l1 k q k ([], 0)) fun r => r = q.2.1.map fun x => (x.2, x.1) := by
    refine W.loop (f := chg_Tasks_l1 k q) (fun m y => ∃ j : Nat, y.2 = (j : Int) ∧ j ≤ q.2.1.length ∧ m = q.2.1.length - j ∧ y.1 = (q.2.1.take j).map fun x => (x.2, x.1)) ?_ q.2.1.length k _ (by omega) ⟨0, rfl, by omega, by omega, by simp⟩
    rintro fuel m ⟨o, y⟩ ⟨j, hj, hle, hq, ho⟩ ih
    simp only at hj ho
    subst hj ho
    unfold chg_Tasks_l1
    dsimp only
    refine W.ite (fun hlt => ?_) (fun hge => W.ret (by have : j = q.2.1.length := by omega
                                                       subst this; rw [List.take_length]))
    have hlt' : j < q.2.1.length := by omega
    refine W.bindEB (geti_W hlt') ?_
    have hok : ∀ z : dTask, okLen (List.length ((q.2.1.take j).map fun x => (x.2, x.1)) + List.length [z]) := fun z => okLen_of (by simp only [List.length_map, List.length_take, List.length_cons, List.length_nil]; omega)
    have next : ∀ z : dTask, z = (q.2.1[j].2, q.2.1[j].1) → W ((some (((q.2.1.take j).map fun x => (x.2, x.1)) ++ [z]) : Option (List dTask)).bind fun x11 => (K.ck ((j : Int) + (1 : Int))).bind fun x20 => chg_Tasks_l1 k q fuel (x11, x20)) fun r => r = q.2.1.map fun x => (x.2, x.1) := by
      intro z hz
      refine W.sb (W.ck (by omega) (by omega) (ih (m - 1) (_, (j : Int) + 1) (by omega) ⟨j + 1, ?_, by omega, by omega, ?_⟩))
      · show (j : Int) + 1 = ((j + 1 : Nat) : Int)
        omega
      · show _ ++ [z] = _
        rw [hz, List.take_add_one, List.getElem?_eq_getElem hlt', List.map_append]
        rfl
    generalize hx : q.2.1[j] = x at next
    obtain ⟨b, v⟩ := x
    cases b with
    | false =>
      rw [if_pos (by simp)]
      exact W.bindEB (show chg_off_thing k v = some v from rfl) (W.chkB (hok _) (next _ rfl))
    | true =>
      rw [if_neg (by simp), if_pos rfl]
      exact W.bindEB (show chg_on_thing k v = some v from rfl) (W.chkB (hok _) (next _ rfl))
  obtain ⟨r, e, rfl⟩ := key
  exact e

theorem filter_range {p : Nat → Bool} {n : Nat} (hp : ∀ i, p i = true → i < n) : ∀ m, n ≤ m → (List.range m).filter p = (List.range n).filter p := by
  intro m
  induction m with
  | zero => intro h; have : n = 0 := by omega
            subst this; rfl
  | succ m ih =>
    intro h
    by_cases hn : n = m + 1
    · subst hn; rfl
    · rw [List.range_succ, List.filter_append, ih (by omega)]
      have : p m = false := by
        cases hm : p m with
        | false => rfl
        | true => have := hp m hm; omega
      simp [this]

theorem bits_sel {c : dChange} {s a m : Int} {mv : List Bool} {ws : List Int} {b : Bool} (hm : ∀ i, Has m i ↔ Has s i ∧ Has a i) (ha : ∀ i : Nat, Has a i ↔ (i : Int) ∈ ws) (hw : ∀ i : Nat, (i : Int) ∈ ws → i < c.1.length) (hc : c.1.length ≤ 8) (hf : ∀ i, Has s i ↔ In mv i) :
    (bitsL m 8).length = (sel mv ws b c.1.length).length := by
  unfold bitsL sel
  rw [List.length_map, List.length_map, filter_range (n := c.1.length) (fun i hi => hw i ((ha i).1 ((hm i).1 (of_decide_eq_true hi)).2)) 8 hc]
  congr 1
  apply List.filter_congr
  intro i _
  rw [Bool.eq_iff_iff]
  simp only [decide_eq_true_eq, Bool.and_eq_true]
  rw [hm, hf, ha]
  unfold In
  constructor
  · rintro ⟨h1, h2⟩; exact ⟨by rw [h1]; rfl, h2⟩
  · rintro ⟨h1, h2⟩
    refine ⟨?_, h2⟩
    cases hg : mv[i]? with
    | none => rw [hg] at h1; cases h1
    | some x => rw [hg] at h1; simp at h1; rw [h1]

theorem bitsL_congr {m m' : Int} (h : ∀ i, Has m i ↔ Has m' i) (j : Nat) : bitsL m j = bitsL m' j := by
  unfold bitsL
  congr 1
  apply List.filter_congr
  intro i _
  rw [Bool.eq_iff_iff]
  simp only [decide_eq_true_eq]
  exact h i

theorem tasks_of_q {k : Nat} (hk : 50 ≤ k) {c : dChange} {ts : List (Bool × Int)} (ht : ts.length ≤ 8) (h : W (chg_begin k c) fun r => r.2 = 0 ∧ ∃ q, r.1 = some q ∧ QOk c ts q) : chg_Tasks k c = some (ts.map fun x => (x.2, x.1), 0) := by
  obtain ⟨⟨r1, r2⟩, e, h0, q, hq, hQ⟩ := h
  simp only at h0 hq
  subst h0 hq
  unfold chg_Tasks
  rw [e]
  show (if ¬ ((0 : Int) = 0) then some ([], (0 : Int)) else (chg_Tasks_l1 k q k ([], 0)).bind fun x7 => some (x7, (0 : Int))) = _
  rw [if_neg (by decide), tasks_l1_ok hk (by rw [hQ.tasks]; exact ht), hQ.tasks]
  rfl

theorem copyInts_ok {k : Nat} {l : List Int} (h : l.length ≤ 1000) : kit_CopyInts k l = some l := by
  unfold kit_CopyInts
  rw [chkP, if_pos (okLen_of (by simpa using h))]
  rfl

theorem copyChange_ok {k : Nat} (hk : 50 ≤ k) {c : dChange} (h1 : c.1.length ≤ 8) (h2 : c.2.1.length ≤ 8) (h3 : ∀ t ∈ c.1, t.1.length ≤ 20) (h4 : ∀ d ∈ c.2.1, d.1.length ≤ 20) (h5 : c.2.2.1.length ≤ 20) (h6 : c.2.2.2.length ≤ 20) : kit_CopyChange k c = some c := by
  have k1 : W (kit_CopyChange_l1 k c k ([], 0)) fun r => r = c.1 := by
    refine W.loop (f := kit_CopyChange_l1 k c) (fun m y => ∃ j : Nat, y.2 = (j : Int) ∧ j ≤ c.1.length ∧ m = c.1.length - j ∧ y.1 = c.1.take j) ?_ c.1.length k _ (by omega) ⟨0, rfl, by omega, by omega, by simp⟩
    rintro fuel m ⟨o, y⟩ ⟨j, hj, hle, hq, ho⟩ ih
    simp only at hj ho
    subst hj ho
    unfold kit_CopyChange_l1
    dsimp only
    refine W.ite (fun hlt => ?_) (fun hge => W.ret (by have : j = c.1.length := by omega
                                                       subst this; rw [List.take_length]))
    have hlt' : j < c.1.length := by omega
    refine W.bindE (geti_W hlt') (W.bindE (copyInts_ok (by have := h3 _ (List.getElem_mem hlt'); omega)) (W.chk (okLen_of (by simp only [List.length_take, List.length_cons, List.length_nil]; omega)) (W.ck (by omega) (by omega) (ih (m - 1) (_, (j : Int) + 1) (by omega) ⟨j + 1, ?_, by omega, by omega, ?_⟩))))
    · show (j : Int) + 1 = ((j + 1 : Nat) : Int)
      omega
    · show c.1.take j ++ [_] = _
      rw [List.take_add_one, List.getElem?_eq_getElem hlt']
      rfl
  have k2 : W (kit_CopyChange_l2 k c k ([], 0)) fun r => r = c.2.1 := by
    refine W.loop (f := kit_CopyChange_l2 k c) (fun m y => ∃ j : Nat, y.2 = (j : Int) ∧ j ≤ c.2.1.length ∧ m = c.2.1.length - j ∧ y.1 = c.2.1.take j) ?_ c.2.1.length k _ (by omega) ⟨0, rfl, by omega, by omega, by simp⟩
    rintro fuel m ⟨o, y⟩ ⟨j, hj, hle, hq, ho⟩ ih
    simp only at hj ho
    subst hj ho
    unfold kit_CopyChange_l2
    dsimp only
    refine W.ite (fun hlt => ?_) (fun hge => W.ret (by have : j = c.2.1.length := by omega
                                                       subst this; rw [List.take_length]))
    have hlt' : j < c.2.1.length := by omega
    refine W.bindE (geti_W hlt') (W.bindE (copyInts_ok (by have := h4 _ (List.getElem_mem hlt'); omega)) (W.chk (okLen_of (by simp only [List.length_take, List.length_cons, List.length_nil]; omega)) (W.ck (by omega) (by omega) (ih (m - 1) (_, (j : Int) + 1) (by omega) ⟨j + 1, ?_, by omega, by omega, ?_⟩))))
    · show (j : Int) + 1 = ((j + 1 : Nat) : Int)
      omega
    · show c.2.1.take j ++ [_] = _
      rw [List.take_add_one, List.getElem?_eq_getElem hlt']
      rfl
  obtain ⟨x1, e1, rfl⟩ := k1
  obtain ⟨x2, e2, rfl⟩ := k2
  unfold kit_CopyChange
  rw [copyInts_ok (by omega), copyInts_ok (by omega), e1, e2]
  rfl

theorem law_in_in {k : Nat} (hk : 50 ≤ k) {l : List dTask} {x : Int} {b : Bool} (hl : l.length ≤ 20) (h : (x, b) ∈ l) : law_in k l x b = some true := by
  have key : W (law_in_l1 k l x b k 0) fun r => r = .error true := by
    refine W.loop (f := law_in_l1 k l x b) (fun m y => ∃ j : Nat, y = (j : Int) ∧ j ≤ l.length ∧ m = l.length - j ∧ (x, b) ∈ l.drop j) ?_ l.length k 0 (by omega) ⟨0, rfl, by omega, by omega, by simpa using h⟩
    rintro fuel m y ⟨j, hj, hle, hq, hin⟩ ih
    subst hj
    unfold law_in_l1
    refine W.ite (fun hlt => ?_) (fun hge => ?_)
    · have hlt' : j < l.length := by omega
      refine W.bindE (geti_W hlt') (W.ite (fun _ => W.ret rfl) (fun hne => W.ck (by omega) (by omega) (ih (m - 1) ((j : Int) + 1) (by omega) ⟨j + 1, by omega, by omega, by omega, ?_⟩)))
      rw [List.drop_eq_getElem_cons hlt'] at hin
      rcases List.mem_cons.1 hin with h | h
      · exact absurd h.symm hne
      · exact h
    · exfalso
      rw [List.drop_eq_nil_of_le (by omega)] at hin
      simp at hin
  obtain ⟨r, e, rfl⟩ := key
  unfold law_in
  rw [e]
  rfl

set_option maxRecDepth 100000 in
theorem dressed100 : law_dressed 100 = some true := by decide +kernel

/-- **The change back.** -/
theorem back_ok (a0 : List Int) : law_ChangeBack 100 a0 = some true := by
  have hk : 50 ≤ 100 := by decide
  have fin : W (law_ChangeBack 100 a0) fun r => r = true := by
    unfold law_ChangeBack
    refine W.bindE (show kit_NewLots 100 a0 = some (a0, 0, 1) from rfl) ?_
    refine W.bind (change_ok (k := 100) hk (l := (a0, 0, 1)) (m := 0) ⟨Int.le_refl 0, Int.le_refl 0⟩ (by decide)) fun r3 hr3 => ?_
    obtain ⟨⟨⟨up, n, h1, h4, hl, hg, hw, hv, hd⟩, hdl, htk⟩, _⟩ := hr3
    generalize r3.1 = c at hl hg hw hv hd hdl htk
    have hc : Known8 up n c := ⟨⟨h1, h4⟩, hl, hg, hw, hv, hd⟩
    have hcb : Known8 up n (c.1, c.2.1, c.2.2.2, c.2.2.1) := ⟨⟨h1, h4⟩, hl, hg, hv, hw, hd⟩
    have hwl := hw.len (by omega)
    have hvl := hv.len (by omega)
    have hsm : ∀ t ∈ c.1, t.1.length ≤ 20 := fun t htm => by
      obtain ⟨j, hj⟩ := List.mem_iff_getElem?.1 htm
      have := (hg j t hj).over.1.len (by omega)
      omega
    have hsd : ∀ d ∈ c.2.1, d.1.length ≤ 20 := fun d hdm => by
      have := (hd d hdm).can.len (by omega)
      omega
    have hs0 : Small c := small_of h1 h4 hl hg hw hv
    obtain ⟨s, a, b, hs, ha, hb, hbeg⟩ := begin_ok (k := 100) hk hc hdl
    obtain ⟨s', a', b', hs', ha', hb', hbeg'⟩ := begin_ok (k := 100) hk hcb hdl
    obtain ⟨r, er, mv, hF, hr⟩ := tasksOf_ok (k := 100) hk hs0
    have hrl := htk r er
    have d1 := (iand_ok hs.mask ha.1).2
    have d2 := (iand_ok hs.mask hb.1).2
    have d1' := (iand_ok hs'.mask ha'.1).2
    have d2' := (iand_ok hs'.mask hb'.1).2
    have hwn : ∀ i : Nat, (i : Int) ∈ c.2.2.1 → i < c.1.length := fun i h => by have := (hw.2 _ h).2; omega
    have hvn : ∀ i : Nat, (i : Int) ∈ c.2.2.2 → i < c.1.length := fun i h => by have := (hv.2 _ h).2; omega
    have hsum : (bitsL (iand .u8 s a) 8).length + (bitsL (iand .u8 s b) 8).length ≤ 4 := by
      rw [bits_sel (c := c) (b := false) d1 ha.2 hwn (by omega) (chg_fix hs hF), bits_sel (c := c) (b := true) d2 hb.2 hvn (by omega) (chg_fix hs hF)]
      rw [hr, List.length_append] at hrl
      exact hrl
    -- the same things move back
    have fw : ∀ (C : Nat → Prop) (i : Nat), Forced c C i ↔ Forced (c.1, c.2.1, c.2.2.2, c.2.2.1) C i := fun C i => by
      constructor
      · rintro ((h | h) | ⟨x, y, z⟩)
        · exact .inl (.inr ⟨h.2, h.1⟩)
        · exact .inl (.inl ⟨h.2, h.1⟩)
        · exact .inr ⟨y, x, z⟩
      · rintro ((h | h) | ⟨x, y, z⟩)
        · exact .inl (.inr ⟨h.2, h.1⟩)
        · exact .inl (.inl ⟨h.2, h.1⟩)
        · exact .inr ⟨y, x, z⟩
    have hss : ∀ i, Has s i ↔ Has s' i := fun i =>
      ⟨fun h => hs.sound (Has s') (fun i hi hf => hs'.shut i hi ((fw _ _).1 hf)) i h, fun h => hs'.sound (Has s) (fun i hi hf => hs.shut i hi ((fw _ _).2 hf)) i h⟩
    have hab : ∀ i, Has a i ↔ Has b' i := fun i => (ha.2 i).trans (hb'.2 i).symm
    have hba : ∀ i, Has b i ↔ Has a' i := fun i => (hb.2 i).trans (ha'.2 i).symm
    have e1 : bitsL (iand .u8 s' a') 8 = bitsL (iand .u8 s b) 8 := bitsL_congr (fun i => by rw [d1', d2, hss, hba]) 8
    have e2 : bitsL (iand .u8 s' b') 8 = bitsL (iand .u8 s a) 8 := bitsL_congr (fun i => by rw [d2', d1, hss, hab]) 8
    have lt1 : (tks s a b).length ≤ 4 := by unfold tks; rw [List.length_append, List.length_map, List.length_map]; exact hsum
    have lt2 : (tks s' a' b').length ≤ 4 := by unfold tks; rw [List.length_append, List.length_map, List.length_map, e1, e2]; omega
    have lte : (tks s a b).length = (tks s' a' b').length := by unfold tks; rw [List.length_append, List.length_map, List.length_map, List.length_append, List.length_map, List.length_map, e1, e2]; omega
    have t1 := tasks_of_q hk (by omega) (hbeg lt1)
    have t2 := tasks_of_q hk (by omega) (hbeg' lt2)
    have hback : ∀ x ∈ (tks s a b).map (fun x => (x.2, x.1)), (x.1, !x.2) ∈ (tks s' a' b').map fun x => (x.2, x.1) := by
      intro x hx
      unfold tks at hx ⊢
      rw [e1, e2]
      simp only [List.map_append, List.map_map, List.mem_append, List.mem_map, Function.comp] at hx ⊢
      rcases hx with ⟨y, hy, rfl⟩ | ⟨y, hy, rfl⟩
      · exact .inr ⟨y, hy, rfl⟩
      · exact .inl ⟨y, hy, rfl⟩
    refine W.bindE (copyChange_ok hk (by omega) (by omega) hsm hsd (by omega) (by omega)) ?_
    refine W.bindE (copyInts_ok (by omega)) (W.bindE (copyInts_ok (by omega)) (W.bindE t1 (W.bindE t2 ?_)))
    have ex : (if ¬ ((0 : Int) = (0 : Int)) then (some true) else (if ¬ ((0 : Int) = (0 : Int)) then (some true) else (some (!decide (((((tks s a b).map fun x => (x.2, x.1)).length : Nat) : Int) = ((((tks s' a' b').map fun x => (x.2, x.1)).length : Nat) : Int)))))) = some false := by
      rw [if_neg (by decide), if_neg (by decide), List.length_map, List.length_map, lte]
      simp
    refine W.bindE ex ?_
    rw [if_neg (by decide)]
    have hloop : W (law_ChangeBack_l1 100 ((tks s a b).map fun x => (x.2, x.1), 0) ((tks s' a' b').map fun x => (x.2, x.1), 0) 100 0) fun r => r = .ok () := by
      generalize hA : ((tks s a b).map fun x => (x.2, x.1)) = A at hback
      generalize hB : ((tks s' a' b').map fun x => (x.2, x.1)) = B at hback
      have hAl : A.length ≤ 4 := by rw [← hA, List.length_map]; exact lt1
      have hBl : B.length ≤ 4 := by rw [← hB, List.length_map]; exact lt2
      refine W.loop (f := law_ChangeBack_l1 100 (A, 0) (B, 0)) (fun m y => ∃ j : Nat, y = (j : Int) ∧ j ≤ A.length ∧ m = A.length - j) ?_ A.length 100 0 (by omega) ⟨0, rfl, by omega, by omega⟩
      rintro fuel m y ⟨j, hj, hle, hq⟩ ih
      subst hj
      unfold law_ChangeBack_l1
      dsimp only
      refine W.ite (fun hlt => ?_) (fun hge => W.ret rfl)
      have hlt' : j < A.length := by omega
      refine W.bindE (geti_W hlt') (W.bindE (geti_W hlt') (W.bindE (law_in_in hk (by omega) (hback _ (List.getElem_mem hlt'))) ?_))
      rw [if_neg (by simp)]
      exact W.ck (by omega) (by omega) (ih (m - 1) ((j : Int) + 1) (by omega) ⟨j + 1, by omega, by omega, by omega⟩)
    refine W.bEE hloop (fun e he => by cases he) (fun _ _ => W.bindE dressed100 (W.ret rfl))
  obtain ⟨r, e, rfl⟩ := fin
  exact e
end Go.Proofs.Ytfhdclhbdmhnmaa
