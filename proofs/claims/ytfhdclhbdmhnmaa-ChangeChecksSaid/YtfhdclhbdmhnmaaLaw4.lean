/- Plain law, part 4: the change that is made of the lots. -/
import Derived.Test.YtfhdclhbdmhnmaaLaw3
namespace Go.Proofs.Ytfhdclhbdmhnmaa
open K Go Go.Proofs

/-- An ascending list of numbers below n. -/
def Asc (l : List Int) (n : Int) : Prop := l.Pairwise (· < ·) ∧ ∀ x ∈ l, 0 ≤ x ∧ x < n

theorem Asc.nil {n : Int} : Asc [] n := ⟨List.Pairwise.nil, fun x h => by simp at h⟩
theorem Asc.mono {l : List Int} {n m : Int} (h : Asc l n) (hm : n ≤ m) : Asc l m := ⟨h.1, fun x hx => ⟨(h.2 x hx).1, by have := (h.2 x hx).2; omega⟩⟩
theorem Asc.snoc {l : List Int} {i : Int} (h : Asc l i) (h0 : 0 ≤ i) : Asc (l ++ [i]) (i + 1) := by
  refine ⟨List.pairwise_append.2 ⟨h.1, List.pairwise_singleton _ _, fun a ha b hb => ?_⟩, fun x hx => ?_⟩
  · simp only [List.mem_singleton] at hb
    subst hb
    exact (h.2 a ha).2
  · rcases List.mem_append.1 hx with hx | hx
    · have := h.2 x hx
      omega
    · simp only [List.mem_singleton] at hx
      subst hx
      omega
theorem Asc.take {l : List Int} {n : Int} (h : Asc l n) (j : Nat) : Asc (l.take j) n := ⟨h.1.sublist (List.take_sublist _ _), fun x hx => h.2 x (List.mem_of_mem_take hx)⟩
theorem asc_len : ∀ (l : List Int) (a n : Int), l.Pairwise (· < ·) → (∀ x ∈ l, a ≤ x ∧ x < n) → a ≤ n → (l.length : Int) ≤ n - a
  | [], a, n, _, _, h => by simp; omega
  | x :: l, a, n, hp, hx, h => by
    obtain ⟨h1, h2⟩ := List.pairwise_cons.1 hp
    have h3 := hx x (List.mem_cons_self ..)
    have := asc_len l (x + 1) n h2 (fun y hy => ⟨by have := h1 y hy; omega, (hx y (List.mem_cons_of_mem _ hy)).2⟩) (by omega)
    simp only [List.length_cons]
    omega
theorem Asc.len {l : List Int} {n : Int} (h : Asc l n) (h0 : 0 ≤ n) : (l.length : Int) ≤ n := by
  have := asc_len l 0 n h.1 h.2 h0
  omega

theorem Lo.mono {l : dLots} {m m' : Int} (h : Lo l m) (hm : m ≤ m') : Lo l m' := ⟨h.1, by have := h.2; omega⟩

/-- What lies over a thing: all of it further up, or all of it further down. -/
def OverOk (up : Bool) (i n : Int) (l : List Int) : Prop := Asc l n ∧ ∀ x ∈ l, decide (i < x) = up ∧ x ≠ i

structure GoodT (up : Bool) (n : Int) (i : Nat) (t : dThing) : Prop where
  over : OverOk up (i : Int) n t.1
  off : 1 ≤ t.2.1 ∧ t.2.1 ≤ 4
  put : 1 ≤ t.2.2.1 ∧ t.2.2.1 ≤ 4
  side : 0 ≤ t.2.2.2.1 ∧ t.2.2.2.1 ≤ 2
  due : 0 ≤ t.2.2.2.2 ∧ t.2.2.2.2 ≤ 12

structure GoodD (n : Int) (d : dDresser) : Prop where
  can : Asc d.1 n
  side : 0 ≤ d.2.1 ∧ d.2.1 ≤ 2
  start : 0 ≤ d.2.2 ∧ d.2.2 ≤ 9

theorem over_ok {k : Nat} (hk : 50 ≤ k) {r3 : Int × dLots} {r4 : Bool × dLots} {y7 : (List Int) × Int × Int × (List dThing) × (List Int) × (List Int) × Int} {l : dLots} {m : Int} (hn : 1 ≤ r3.1 ∧ r3.1 ≤ 4) (hl : Lo l m) (hm : 0 ≤ m ∧ m ≤ 100000) :
    W (kit_ChangeOf_l2 k r3 r4 y7 k (l.1, l.2.1, l.2.2, [], 0)) fun r => Lo (r.1, r.2.1, r.2.2.1) (m + 4) ∧ OverOk r4.1 y7.2.2.2.2.2.2 r3.1 r.2.2.2 := by
  refine W.loop (f := kit_ChangeOf_l2 k r3 r4 y7) (fun q y => 0 ≤ y.2.2.2.2 ∧ y.2.2.2.2 ≤ r3.1 ∧ q = (r3.1 - y.2.2.2.2).toNat ∧ Lo (y.1, y.2.1, y.2.2.1) (m + y.2.2.2.2) ∧ OverOk r4.1 y7.2.2.2.2.2.2 y.2.2.2.2 y.2.2.2.1) ?_ r3.1.toNat k _ (by omega)
    ⟨Int.le_refl 0, by show 0 ≤ r3.1; omega, by show r3.1.toNat = (r3.1 - 0).toNat; omega, hl.mono (by show m ≤ m + 0; omega), Asc.nil, fun x h => by simp at h⟩
  rintro fuel q ⟨nums, d, s, over, j⟩ ⟨h0, h1, hq, hlo, hov⟩ ih
  simp only at h0 h1 hq hlo hov
  unfold kit_ChangeOf_l2
  refine W.ite (fun hlt => ?_) (fun hge => W.ret ?_)
  · simp only at hlt
    -- the next one
    have next : ∀ (nums' : List Int) (d' s' : Int) (bb : Bool), Lo (nums', d', s') (m + (j + 1)) → (bb = true → decide (y7.2.2.2.2.2.2 < j) = r4.1 ∧ j ≠ y7.2.2.2.2.2.2) →
        W (((some (nums', d', s', bb) : Option ((List Int) × Int × Int × Bool)).bind fun x26 => if x26.2.2.2 = true then ((chkP (okLen (List.length over + List.length [j]))).bind fun _ =>
          some (x26.1, x26.2.1, x26.2.2.1, over ++ [j])) else (some (x26.1, x26.2.1, x26.2.2.1, over))).bind fun x24 =>
          (K.ck (j + (1 : Int))).bind fun x32 => kit_ChangeOf_l2 k r3 r4 y7 fuel (x24.1, x24.2.1, x24.2.2.1, x24.2.2.2, x32)) fun r => Lo (r.1, r.2.1, r.2.2.1) (m + 4) ∧ OverOk r4.1 y7.2.2.2.2.2.2 r3.1 r.2.2.2 := by
      intro nums' d' s' bb hlo' hbb
      have hlen := hov.1.len h0
      refine W.sb (W.iteB (fun hb => ?_) (fun hb => ?_))
      · simp only at hb
        refine W.chkB (okLen_of (by simp only [List.length_cons, List.length_nil]; omega)) (W.sb (W.ck (by omega) (by omega) (ih (q - 1) (nums', d', s', over ++ [j], j + 1) (by omega) ⟨?_, ?_, ?_, hlo', hov.1.snoc h0, fun x hx => ?_⟩)))
        · show 0 ≤ j + 1; omega
        · show j + 1 ≤ r3.1; omega
        · show q - 1 = (r3.1 - (j + 1)).toNat; omega
        · rcases List.mem_append.1 hx with hx | hx
          · exact hov.2 x hx
          · simp only [List.mem_singleton] at hx
            subst hx
            exact hbb hb
      · refine W.sb (W.ck (by omega) (by omega) (ih (q - 1) (nums', d', s', over, j + 1) (by omega) ⟨?_, ?_, ?_, hlo', hov.1.mono (by show j ≤ j + 1; omega), hov.2⟩))
        · show 0 ≤ j + 1; omega
        · show j + 1 ≤ r3.1; omega
        · show q - 1 = (r3.1 - (j + 1)).toNat; omega
    by_cases hu : decide (y7.2.2.2.2.2.2 < j) = r4.1
    · rw [if_pos hu]
      by_cases hj : j = y7.2.2.2.2.2.2
      · rw [if_neg (fun h => h hj)]
        exact next nums d s false (hlo.mono (by omega)) (fun h => by cases h)
      · rw [if_pos hj]
        obtain ⟨r, e, hr⟩ := rare_ok (k := k) (a := 3) hlo (by omega) (by decide) (by decide)
        rw [e]
        exact next r.2.1 r.2.2.1 r.2.2.2 r.1 (hr.mono (by omega)) (fun _ => ⟨hu, hj⟩)
    · rw [if_neg hu]
      exact next nums d s false (hlo.mono (by omega)) (fun h => by cases h)
  · have : j = r3.1 := by simp only at hge; omega
    subst this
    exact ⟨hlo.mono (by omega), hov⟩

/-- What the things are, with what is worn and wanted of the first i. -/
structure Made (up : Bool) (n : Int) (i : Int) (things : List dThing) (wears wants : List Int) : Prop where
  len : (things.length : Int) = i
  good : ∀ (j : Nat) t, things[j]? = some t → GoodT up n j t
  wears : Asc wears i
  wants : Asc wants i

theorem things_ok {k : Nat} (hk : 50 ≤ k) {r3 : Int × dLots} {r4 : Bool × dLots} {l : dLots} {m : Int} (hn : 1 ≤ r3.1 ∧ r3.1 ≤ 4) (hl : Lo l m) (hm : 0 ≤ m ∧ m ≤ 10000) :
    W (kit_ChangeOf_l1 k r3 r4 k (l.1, l.2.1, l.2.2, [], [], [], 0)) fun r => Lo (r.1, r.2.1, r.2.2.1) (m + 120) ∧ Made r4.1 r3.1 r3.1 r.2.2.2.1 r.2.2.2.2.1 r.2.2.2.2.2 := by
  refine W.loop (f := kit_ChangeOf_l1 k r3 r4) (fun q y => 0 ≤ y.2.2.2.2.2.2 ∧ y.2.2.2.2.2.2 ≤ r3.1 ∧ q = (r3.1 - y.2.2.2.2.2.2).toNat ∧ Lo (y.1, y.2.1, y.2.2.1) (m + 30 * y.2.2.2.2.2.2) ∧ Made r4.1 r3.1 y.2.2.2.2.2.2 y.2.2.2.1 y.2.2.2.2.1 y.2.2.2.2.2.1) ?_ r3.1.toNat k _ (by omega)
    ⟨Int.le_refl 0, by show 0 ≤ r3.1; omega, by show r3.1.toNat = (r3.1 - 0).toNat; omega, hl.mono (by show m ≤ m + 30 * 0; omega), rfl, fun j t h => by simp at h, Asc.nil, Asc.nil⟩
  rintro fuel q ⟨nums, d, s, things, wears, wants, i⟩ ⟨h0, h1, hq, hlo, hM⟩ ih
  simp only at h0 h1 hq hlo hM
  unfold kit_ChangeOf_l1
  refine W.ite (fun hlt => ?_) (fun hge => W.ret ?_)
  · simp only at hlt
    obtain ⟨r11, e11, a11, b11, c11⟩ := in_ok (k := k) (a := 1) (b := 4) hlo (by omega) (by decide) (by decide) (by decide)
    refine W.bindEB e11 ?_
    obtain ⟨r12, e12, a12, c12⟩ := of_ok (k := k) (some_ := [1, 1, 2, r11.1]) c11 (by omega) (by simp) (by simp)
    refine W.bindEB e12 ?_
    obtain ⟨r13, e13, a13, b13, c13⟩ := in_ok (k := k) (a := 1) (b := 4) c12 (by omega) (by decide) (by decide) (by decide)
    refine W.bindEB e13 ?_
    obtain ⟨r14, e14, a14, c14⟩ := of_ok (k := k) (some_ := [1, 2, 2, r13.1]) c13 (by omega) (by simp) (by simp)
    refine W.bindEB e14 ?_
    obtain ⟨r15, e15, a15, c15⟩ := of_ok (k := k) (some_ := [0, 0, 1, 2]) c14 (by omega) (by simp) (by simp)
    refine W.bindEB e15 ?_
    obtain ⟨r16, e16, a16, b16, c16⟩ := in_ok (k := k) (a := 1) (b := 6) c15 (by omega) (by decide) (by decide) (by decide)
    refine W.bindEB e16 ?_
    obtain ⟨r17, e17, a17, b17, c17⟩ := in_ok (k := k) (a := 3) (b := 12) c16 (by omega) (by decide) (by decide) (by decide)
    refine W.bindEB e17 ?_
    obtain ⟨r18, e18, a18, c18⟩ := of_ok (k := k) (some_ := [0, 0, r16.1, r17.1]) c17 (by omega) (by simp) (by simp)
    refine W.bindEB e18 ?_
    obtain ⟨x20, e20, c20, o20⟩ := over_ok hk (r3 := r3) (r4 := r4) (y7 := (nums, d, s, things, wears, wants, i)) hn c18 (by omega)
    refine W.bindEB e20 ?_
    have hi4 : i < 4 := by omega
    have hlen := hM.len
    have hw := hM.wears.len h0
    have hv := hM.wants.len h0
    refine W.chkB (okLen_of (by simp only [List.length_cons, List.length_nil]; omega)) ?_
    obtain ⟨r36, e36, a36, b36, c36⟩ := upto_ok (k := k) (n := 5) c20 (by omega) (by decide)
    refine W.bindEB e36 ?_
    have hlo' : Lo r36.2 (m + 30 * (i + 1)) := c36.mono (by omega)
    -- the new thing
    have hnew : GoodT r4.1 r3.1 things.length (x20.2.2.2, r12.1, r14.1, r15.1, r18.1) := by
      have hin : ((things.length : Nat) : Int) = i := hlen
      refine ⟨by rw [hin]; exact o20, ?_, ?_, ?_, ?_⟩
      · show 1 ≤ r12.1 ∧ r12.1 ≤ 4
        simp only [List.mem_cons, List.not_mem_nil, or_false] at a12
        omega
      · show 1 ≤ r14.1 ∧ r14.1 ≤ 4
        simp only [List.mem_cons, List.not_mem_nil, or_false] at a14
        omega
      · show 0 ≤ r15.1 ∧ r15.1 ≤ 2
        simp only [List.mem_cons, List.not_mem_nil, or_false] at a15
        omega
      · show 0 ≤ r18.1 ∧ r18.1 ≤ 12
        simp only [List.mem_cons, List.not_mem_nil, or_false] at a18
        omega
    have hgood : ∀ (j : Nat) t, (things ++ [(x20.2.2.2, r12.1, r14.1, r15.1, r18.1)])[j]? = some t → GoodT r4.1 r3.1 j t := by
      intro j t hj
      by_cases hjl : j < things.length
      · rw [List.getElem?_append_left hjl] at hj
        exact hM.good j t hj
      · rw [List.getElem?_append_right (by omega)] at hj
        have hj0 : j - things.length = 0 := by
          rcases Nat.eq_zero_or_pos (j - things.length) with h | h
          · exact h
          · rw [List.getElem?_eq_none (by simp only [List.length_cons, List.length_nil]; omega)] at hj; cases hj
        rw [hj0] at hj
        have : j = things.length := by omega
        subst this
        cases hj
        exact hnew
    have next : ∀ (wears' wants' : List Int), Asc wears' (i + 1) → Asc wants' (i + 1) →
        W ((some (r36.2.1, r36.2.2.1, r36.2.2.2, things ++ [(x20.2.2.2, r12.1, r14.1, r15.1, r18.1)], wears', wants') : Option ((List Int) × Int × Int × (List dThing) × (List Int) × (List Int))).bind fun x9 => (K.ck (i + (1 : Int))).bind fun x51 =>
          kit_ChangeOf_l1 k r3 r4 fuel (x9.1, x9.2.1, x9.2.2.1, x9.2.2.2.1, x9.2.2.2.2.1, x9.2.2.2.2.2, x51)) fun r => Lo (r.1, r.2.1, r.2.2.1) (m + 120) ∧ Made r4.1 r3.1 r3.1 r.2.2.2.1 r.2.2.2.2.1 r.2.2.2.2.2 := by
      intro wears' wants' h1' h2'
      refine W.sb (W.ck (by omega) (by omega) (ih (q - 1) (r36.2.1, r36.2.2.1, r36.2.2.2, things ++ [(x20.2.2.2, r12.1, r14.1, r15.1, r18.1)], wears', wants', i + 1) (by omega) ⟨?_, ?_, ?_, hlo', ?_, hgood, h1', h2'⟩))
      · show 0 ≤ i + 1; omega
      · show i + 1 ≤ r3.1; omega
      · show q - 1 = (r3.1 - (i + 1)).toNat; omega
      · show (((things ++ [_]).length : Nat) : Int) = i + 1
        rw [List.length_append]
        simp only [List.length_cons, List.length_nil]
        omega
    have w1 := hM.wears.mono (show i ≤ i + 1 by omega)
    have v1 := hM.wants.mono (show i ≤ i + 1 by omega)
    have w2 := hM.wears.snoc h0
    have v2 := hM.wants.snoc h0
    have cw : okLen (List.length wears + List.length [i]) := okLen_of (by simp only [List.length_cons, List.length_nil]; omega)
    have cv : okLen (List.length wants + List.length [i]) := okLen_of (by simp only [List.length_cons, List.length_nil]; omega)
    refine W.iteB (fun _ => next wears wants w1 v1) (fun _ => ?_)
    have tail : ∀ bb : Bool, W (((some bb : Option Bool).bind fun x37 => if x37 = true then ((chkP (okLen (List.length wears + List.length [i]))).bind fun _ =>
        some (r36.2.1, r36.2.2.1, r36.2.2.2, things ++ [(x20.2.2.2, r12.1, r14.1, r15.1, r18.1)], wears ++ [i], wants)) else (if r36.1 = (3 : Int) then ((chkP (okLen (List.length wants + List.length [i]))).bind fun _ =>
        some (r36.2.1, r36.2.2.1, r36.2.2.2, things ++ [(x20.2.2.2, r12.1, r14.1, r15.1, r18.1)], wears, wants ++ [i])) else ((chkP (okLen (List.length wears + List.length [i]))).bind fun _ =>
        (chkP (okLen (List.length wants + List.length [i]))).bind fun _ =>
        some (r36.2.1, r36.2.2.1, r36.2.2.2, things ++ [(x20.2.2.2, r12.1, r14.1, r15.1, r18.1)], wears ++ [i], wants ++ [i])))).bind fun x9 => (K.ck (i + (1 : Int))).bind fun x51 =>
          kit_ChangeOf_l1 k r3 r4 fuel (x9.1, x9.2.1, x9.2.2.1, x9.2.2.2.1, x9.2.2.2.2.1, x9.2.2.2.2.2, x51)) fun r => Lo (r.1, r.2.1, r.2.2.1) (m + 120) ∧ Made r4.1 r3.1 r3.1 r.2.2.2.1 r.2.2.2.2.1 r.2.2.2.2.2 := fun bb =>
      W.sbB (W.iteB (fun _ => W.chkB cw (next _ _ w2 v1)) (fun _ => W.iteB (fun _ => W.chkB cv (next _ _ w1 v2)) (fun _ => W.chkB cw (W.chkB cv (next _ _ w2 v2)))))
    exact W.iteBB (fun _ => tail _) (fun _ => tail _)
  · have : i = r3.1 := by simp only at hge; omega
    subst this
    exact ⟨hlo.mono (by omega), hM⟩
end Go.Proofs.Ytfhdclhbdmhnmaa
