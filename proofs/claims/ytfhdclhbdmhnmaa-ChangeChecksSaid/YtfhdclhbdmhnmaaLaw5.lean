/- Plain law, part 5: the change that is made of the lots: its dressers, and as a whole. -/
import Derived.Test.YtfhdclhbdmhnmaaLaw4
namespace Go.Proofs.Ytfhdclhbdmhnmaa
open K Go Go.Proofs

theorem can_ok {k : Nat} (hk : 50 ≤ k) {r3 : Int × dLots} {l : dLots} {m : Int} (hn : 1 ≤ r3.1 ∧ r3.1 ≤ 4) (hl : Lo l m) (hm : 0 ≤ m ∧ m ≤ 100000) :
    W (kit_ChangeOf_l4 k r3 k (l.1, l.2.1, l.2.2, [], 0)) fun r => Lo (r.1, r.2.1, r.2.2.1) (m + 4) ∧ Asc r.2.2.2 r3.1 := by
  refine W.loop (f := kit_ChangeOf_l4 k r3) (fun q y => 0 ≤ y.2.2.2.2 ∧ y.2.2.2.2 ≤ r3.1 ∧ q = (r3.1 - y.2.2.2.2).toNat ∧ Lo (y.1, y.2.1, y.2.2.1) (m + y.2.2.2.2) ∧ Asc y.2.2.2.1 y.2.2.2.2) ?_ r3.1.toNat k _ (by omega)
    ⟨Int.le_refl 0, by show 0 ≤ r3.1; omega, by show r3.1.toNat = (r3.1 - 0).toNat; omega, hl.mono (by show m ≤ m + 0; omega), Asc.nil⟩
  rintro fuel q ⟨nums, d, s, can, j⟩ ⟨h0, h1, hq, hlo, hc⟩ ih
  simp only at h0 h1 hq hlo hc
  unfold kit_ChangeOf_l4
  dsimp only
  refine W.ite (fun hlt => ?_) (fun hge => W.ret ?_)
  · try simp only at hlt
    have hlen := hc.len h0
    obtain ⟨r, e, hr⟩ := rare_ok (k := k) (a := 4) hlo (by omega) (by decide) (by decide)
    refine W.bindEB e (W.iteB (fun _ => ?_) (fun _ => ?_))
    · refine W.chkB (okLen_of (by simp only [List.length_cons, List.length_nil]; omega)) (W.sb (W.ck (by omega) (by omega) (ih (q - 1) (r.2.1, r.2.2.1, r.2.2.2, can ++ [j], j + 1) (by omega) ⟨?_, ?_, ?_, hr.mono (by show m + j + 1 ≤ m + (j + 1); omega), hc.snoc h0⟩)))
      · show 0 ≤ j + 1; omega
      · show j + 1 ≤ r3.1; omega
      · show q - 1 = (r3.1 - (j + 1)).toNat; omega
    · refine W.sb (W.ck (by omega) (by omega) (ih (q - 1) (r.2.1, r.2.2.1, r.2.2.2, can, j + 1) (by omega) ⟨?_, ?_, ?_, hr.mono (by show m + j + 1 ≤ m + (j + 1); omega), hc.mono (by show j ≤ j + 1; omega)⟩))
      · show 0 ≤ j + 1; omega
      · show j + 1 ≤ r3.1; omega
      · show q - 1 = (r3.1 - (j + 1)).toNat; omega
  · have : j = r3.1 := by (try simp only at hge); omega
    subst this
    exact ⟨hlo.mono (by omega), hc⟩

theorem dressers_ok {k : Nat} (hk : 50 ≤ k) {r3 : Int × dLots} {l : dLots} {m D : Int} (hn : 1 ≤ r3.1 ∧ r3.1 ≤ 4) (hD : 1 ≤ D ∧ D ≤ 3) (hl : Lo l m) (hm : 0 ≤ m ∧ m ≤ 10000) :
    W (kit_ChangeOf_l3 k r3 k (l.1, l.2.1, l.2.2, [], D)) fun r => Lo (r.1, r.2.1, r.2.2.1) (m + 90) ∧ (r.2.2.2.length : Int) = D ∧ ∀ x ∈ r.2.2.2, GoodD r3.1 x := by
  refine W.loop (f := kit_ChangeOf_l3 k r3) (fun q y => 0 ≤ y.2.2.2.2 ∧ y.2.2.2.2 ≤ D ∧ q = y.2.2.2.2.toNat ∧ Lo (y.1, y.2.1, y.2.2.1) (m + 30 * (D - y.2.2.2.2)) ∧ (y.2.2.2.1.length : Int) = D - y.2.2.2.2 ∧ ∀ x ∈ y.2.2.2.1, GoodD r3.1 x) ?_ D.toNat k _ (by omega)
    ⟨by show 0 ≤ D; omega, Int.le_refl D, rfl, hl.mono (by show m ≤ m + 30 * (D - D); omega), by show ((0 : Nat) : Int) = D - D; omega, fun x h => by simp at h⟩
  rintro fuel q ⟨nums, d, s, ds, i⟩ ⟨h0, h1, hq, hlo, hlen, hg⟩ ih
  simp only at h0 h1 hq hlo hlen hg
  unfold kit_ChangeOf_l3
  dsimp only
  refine W.ite (fun hlt => ?_) (fun hge => W.ret ?_)
  · try simp only at hlt
    obtain ⟨r59, e59, a59, c59⟩ := of_ok (k := k) (some_ := [0, 0, 1, 2]) hlo (by omega) (by simp) (by simp)
    refine W.bindEB e59 ?_
    obtain ⟨r60, e60, a60, b60, c60⟩ := upto_ok (k := k) (n := 4) c59 (by omega) (by decide)
    refine W.bindEB e60 ?_
    obtain ⟨r61, e61, a61, c61⟩ := of_ok (k := k) (some_ := [0, 0, 1, r60.1]) c60 (by omega) (by simp) (by simp)
    refine W.bindEB e61 ?_
    obtain ⟨x63, e63, c63, o63⟩ := can_ok hk (r3 := r3) hn c61 (by omega)
    refine W.bindEB e63 ?_
    have h60 := b60 (by decide)
    refine W.chkB (okLen_of (by simp only [List.length_cons, List.length_nil]; omega)) (W.sb (W.ck (by omega) (by omega) (ih (q - 1) (x63.1, x63.2.1, x63.2.2.1, ds ++ [(x63.2.2.2, r59.1, r61.1)], i - 1) (by omega) ⟨?_, ?_, ?_, c63.mono (by show m + 30 * (D - i) + 1 + 1 + 1 + 4 ≤ m + 30 * (D - (i - 1)); omega), ?_, fun x hx => ?_⟩)))
    · show 0 ≤ i - 1; omega
    · show i - 1 ≤ D; omega
    · show q - 1 = (i - 1).toNat; omega
    · show (((ds ++ [_]).length : Nat) : Int) = D - (i - 1)
      rw [List.length_append]
      simp only [List.length_cons, List.length_nil]
      omega
    · rcases List.mem_append.1 hx with hx | hx
      · exact hg x hx
      · simp only [List.mem_singleton] at hx
        subst hx
        refine ⟨o63, ?_, ?_⟩
        · show 0 ≤ r59.1 ∧ r59.1 ≤ 2
          simp only [List.mem_cons, List.not_mem_nil, or_false] at a59
          omega
        · show 0 ≤ r61.1 ∧ r61.1 ≤ 9
          simp only [List.mem_cons, List.not_mem_nil, or_false] at a61
          omega
  · have : i = 0 := by (try simp only at hge); omega
    subst this
    exact ⟨hlo.mono (by omega), by show (ds.length : Int) = D; omega, hg⟩

/-- **A good change.** -/
structure GoodC (k : Nat) (c : dChange) : Prop where
  ex : ∃ (up : Bool) (n : Int), 1 ≤ n ∧ n ≤ 4 ∧ (c.1.length : Int) = n ∧ (∀ (j : Nat) t, c.1[j]? = some t → GoodT up n j t) ∧ Asc c.2.2.1 n ∧ Asc c.2.2.2 n ∧ ∀ x ∈ c.2.1, GoodD n x
  dressers : 1 ≤ c.2.1.length ∧ c.2.1.length ≤ 3
  tasks : ∀ r, kit_TasksOf k c = some r → r.length ≤ 4

theorem small_of {up : Bool} {n : Int} {c : dChange} (h0 : 1 ≤ n) (h4 : n ≤ 4) (hl : (c.1.length : Int) = n) (hg : ∀ (j : Nat) t, c.1[j]? = some t → GoodT up n j t) (hw : Asc c.2.2.1 n) (hv : Asc c.2.2.2 n) : Small c := by
  have a := hw.len (by omega)
  have b := hv.len (by omega)
  refine ⟨by omega, fun t ht => ?_, by omega, by omega⟩
  obtain ⟨j, hj⟩ := List.mem_iff_getElem?.1 ht
  have := (hg j t hj).over.1.len (by omega)
  omega

theorem sel_nil {mv : List Bool} {b : Bool} {j : Nat} : sel mv [] b j = [] := by
  unfold sel
  rw [List.map_eq_nil_iff, List.filter_eq_nil_iff]
  intro i _
  simp

theorem shrink_ok {k : Nat} (hk : 50 ≤ k) {up : Bool} {n : Int} {things : List dThing} {ds : List dDresser} {wears wants : List Int} {l : dLots} {m : Int} (h0 : 1 ≤ n) (h4 : n ≤ 4) (hl : (things.length : Int) = n)
    (hg : ∀ (j : Nat) t, things[j]? = some t → GoodT up n j t) (hw : Asc wears n) (hv : Asc wants n) (hlo : Lo l m) (hm : 0 ≤ m ∧ m ≤ 10000) :
    W (kit_ChangeOf_l5 k k (l.1, l.2.1, l.2.2, things, ds, wears, wants)) fun r => r.1 = things ∧ r.2.1 = ds ∧ Asc r.2.2.1 n ∧ Asc r.2.2.2.1 n ∧ Lo (r.2.2.2.2.1, r.2.2.2.2.2.1, r.2.2.2.2.2.2) (m + 8) ∧ ∀ x, kit_TasksOf k (r.1, r.2.1, r.2.2.1, r.2.2.2.1) = some x → x.length ≤ 4 := by
  have a := hw.len (by omega)
  have b := hv.len (by omega)
  refine W.loop (f := kit_ChangeOf_l5 k) (fun q y => y.2.2.2.1 = things ∧ y.2.2.2.2.1 = ds ∧ Asc y.2.2.2.2.2.1 n ∧ Asc y.2.2.2.2.2.2 n ∧ q = y.2.2.2.2.2.1.length + y.2.2.2.2.2.2.length ∧ ∃ e : Int, Lo (y.1, y.2.1, y.2.2.1) (m + e) ∧ 0 ≤ e ∧ e + q ≤ 8) ?_ (wears.length + wants.length) k _ (by omega)
    ⟨rfl, rfl, hw, hv, rfl, 0, hlo.mono (by omega), by omega, by omega⟩
  rintro fuel q ⟨nums, d, s, th, ds', ws, vs⟩ ⟨e1, e2, hw', hv', hq, e, hlo', he0, he⟩ ih
  simp only at e1 e2 hw' hv' hq hlo'
  subst e1 e2
  unfold kit_ChangeOf_l5
  dsimp only
  have hs : Small (th, ds', ws, vs) := small_of (up := up) h0 h4 hl hg hw' hv'
  obtain ⟨r82, e82, mv, hF, h82⟩ := tasksOf_ok hk hs
  refine W.bindE e82 (W.ite (fun hlt => ?_) (fun hge => W.ret ⟨rfl, rfl, hw', hv', hlo'.mono (by omega), fun x hx => ?_⟩))
  · -- one is taken away
    have hwl := hw'.len (by omega)
    have hvl := hv'.len (by omega)
    have cut : ∀ (nums' : List Int) (d' s' : Int), Lo (nums', d', s') (m + (e + 1)) → 0 < q → W (if (0 : Int) < (ws.length : Int) then ((K.ck ((ws.length : Int) - (1 : Int))).bind fun x88 =>
        (chkP (0 ≤ x88 ∧ x88 ≤ (ws.length : Int))).bind fun _ =>
        kit_ChangeOf_l5 k fuel (nums', d', s', th, ds', List.take (Int.toNat x88) ws, vs)) else (kit_ChangeOf_l5 k fuel (nums', d', s', th, ds', ws, []))) fun r => r.1 = th ∧ r.2.1 = ds' ∧ Asc r.2.2.1 n ∧ Asc r.2.2.2.1 n ∧ Lo (r.2.2.2.2.1, r.2.2.2.2.2.1, r.2.2.2.2.2.2) (m + 8) ∧ ∀ x, kit_TasksOf k (r.1, r.2.1, r.2.2.1, r.2.2.2.1) = some x → x.length ≤ 4 := by
      intro nums' d' s' hlo2 hpos
      refine W.ite (fun hw0 => W.ck (by omega) (by omega) (W.chk (by omega) (ih (q - 1) (nums', d', s', th, ds', List.take (Int.toNat ((ws.length : Int) - 1)) ws, vs) (by omega) ⟨rfl, rfl, hw'.take _, hv', ?_, e + 1, hlo2, by omega, by omega⟩))) (fun hw0 => ?_)
      · show q - 1 = (List.take _ ws).length + vs.length
        rw [List.length_take]
        omega
      · exact ih 0 (nums', d', s', th, ds', ws, []) hpos ⟨rfl, rfl, hw', Asc.nil, by show 0 = ws.length + 0; omega, e + 1, hlo2, by omega, by omega⟩
    have hpos : 0 < q := by
      rcases Nat.eq_zero_or_pos q with h | h
      · exfalso
        have hw0 : ws = [] := List.eq_nil_of_length_eq_zero (by omega)
        have hv0 : vs = [] := List.eq_nil_of_length_eq_zero (by omega)
        subst hw0 hv0
        rw [h82] at hlt
        have x1 : sel mv ([] : List Int) false th.length = [] := sel_nil
        have x2 : sel mv ([] : List Int) true th.length = [] := sel_nil
        simp only [x1, x2] at hlt
        simp at hlt
      · exact h
    have pick : ∀ (nums' : List Int) (d' s' : Int) (bb : Bool), Lo (nums', d', s') (m + (e + 1)) → (bb = true → 0 < vs.length) →
        W ((some (nums', d', s', bb) : Option ((List Int) × Int × Int × Bool)).bind fun x83 => if x83.2.2.2 = true then ((K.ck ((vs.length : Int) - (1 : Int))).bind fun x86 =>
        (chkP (0 ≤ x86 ∧ x86 ≤ (vs.length : Int))).bind fun _ =>
        kit_ChangeOf_l5 k fuel (x83.1, x83.2.1, x83.2.2.1, th, ds', ws, List.take (Int.toNat x86) vs)) else (if (0 : Int) < (ws.length : Int) then ((K.ck ((ws.length : Int) - (1 : Int))).bind fun x88 =>
        (chkP (0 ≤ x88 ∧ x88 ≤ (ws.length : Int))).bind fun _ =>
        kit_ChangeOf_l5 k fuel (x83.1, x83.2.1, x83.2.2.1, th, ds', List.take (Int.toNat x88) ws, vs)) else (kit_ChangeOf_l5 k fuel (x83.1, x83.2.1, x83.2.2.1, th, ds', ws, []))))
          fun r => r.1 = th ∧ r.2.1 = ds' ∧ Asc r.2.2.1 n ∧ Asc r.2.2.2.1 n ∧ Lo (r.2.2.2.2.1, r.2.2.2.2.2.1, r.2.2.2.2.2.2) (m + 8) ∧ ∀ x, kit_TasksOf k (r.1, r.2.1, r.2.2.1, r.2.2.2.1) = some x → x.length ≤ 4 := by
      intro nums' d' s' bb hlo2 hbb
      refine W.sb (W.ite (fun hb => ?_) (fun _ => cut nums' d' s' hlo2 hpos))
      have hv0 := hbb hb
      refine W.ck (by omega) (by omega) (W.chk (by omega) (ih (q - 1) (nums', d', s', th, ds', ws, List.take (Int.toNat ((vs.length : Int) - 1)) vs) (by omega) ⟨rfl, rfl, hw', hv'.take _, ?_, e + 1, hlo2, by omega, by omega⟩))
      show q - 1 = ws.length + (List.take _ vs).length
      rw [List.length_take]
      omega
    refine W.iteB (fun hv0 => ?_) (fun hv0 => pick nums d s false (hlo'.mono (by omega)) (fun h => by cases h))
    obtain ⟨r, er, hr⟩ := rare_ok (k := k) (a := 2) hlo' (by omega) (by decide) (by decide)
    refine W.bindEB er (pick r.2.1 r.2.2.1 r.2.2.2 r.1 (hr.mono (by omega)) (fun _ => by (try simp only at hv0); omega))
  · have : x = r82 := Option.some.inj (hx.symm.trans e82)
    subst this
    (try simp only at hge)
    omega

/-- **The change that is made of the lots is good.** -/
theorem change_ok {k : Nat} (hk : 50 ≤ k) {l : dLots} {m : Int} (hl : Lo l m) (hm : 0 ≤ m ∧ m ≤ 1000) : W (kit_ChangeOf k l) fun r => GoodC k r.1 ∧ Lo r.2 (m + 300) := by
  unfold kit_ChangeOf
  obtain ⟨r3, e3, a3, b3, c3⟩ := in_ok (k := k) (a := 1) (b := 4) hl (by omega) (by decide) (by decide) (by decide)
  refine W.bindE e3 ?_
  obtain ⟨r4, e4, c4⟩ := rare_ok (k := k) (a := 2) c3 (by omega) (by decide) (by decide)
  refine W.bindE e4 ?_
  obtain ⟨x5, e5, c5, hM⟩ := things_ok hk (r3 := r3) (r4 := r4) ⟨a3, b3⟩ c4 (by omega)
  refine W.bindE e5 ?_
  obtain ⟨r54, e54, a54, b54, c54⟩ := in_ok (k := k) (a := 1) (b := 3) c5 (by omega) (by decide) (by decide) (by decide)
  refine W.bindEB e54 ?_
  obtain ⟨x52, e52, c52, l52, g52⟩ := dressers_ok hk (r3 := r3) (D := r54.1) ⟨a3, b3⟩ ⟨a54, b54⟩ c54 (by omega)
  refine W.bindE e52 ?_
  obtain ⟨x78, e78, f1, f2, hw, hv, c78, ht⟩ := shrink_ok hk (up := r4.1) (n := r3.1) (things := x5.2.2.2.1) (ds := x52.2.2.2) a3 b3 hM.len hM.good hM.wears hM.wants c52 (by omega)
  refine W.bindE e78 (W.ret ⟨⟨⟨r4.1, r3.1, a3, b3, ?_, ?_, hw, hv, ?_⟩, ?_, ht⟩, c78.mono (by omega)⟩)
  · show ((x78.1.length : Nat) : Int) = r3.1
    rw [f1]; exact hM.len
  · show ∀ (j : Nat) t, x78.1[j]? = some t → GoodT r4.1 r3.1 j t
    rw [f1]; exact hM.good
  · show ∀ x ∈ x78.2.1, GoodD r3.1 x
    rw [f2]; exact g52
  · show 1 ≤ x78.2.1.length ∧ x78.2.1.length ≤ 3
    rw [f2]; omega
end Go.Proofs.Ytfhdclhbdmhnmaa
