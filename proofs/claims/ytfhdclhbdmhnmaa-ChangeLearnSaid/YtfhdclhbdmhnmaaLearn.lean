/- Plain law: what a dresser should learn. -/
import Derived.Test.YtfhdclhbdmhnmaaLawM
namespace Go.Proofs.Ytfhdclhbdmhnmaa
open K Go Go.Proofs

theorem pw_ext : ∀ {l m : List Int}, l.Pairwise (· < ·) → m.Pairwise (· < ·) → (∀ x, x ∈ l ↔ x ∈ m) → l = m
  | [], [], _, _, _ => rfl
  | [], y :: m, _, _, h => by have := (h y).2 (by simp); simp at this
  | x :: l, [], _, _, h => by have := (h x).1 (by simp); simp at this
  | x :: l, y :: m, hl, hm, h => by
    obtain ⟨h1, h2⟩ := List.pairwise_cons.1 hl
    obtain ⟨h3, h4⟩ := List.pairwise_cons.1 hm
    have hxy : x = y := by
      have a := (h x).1 (by simp)
      have b := (h y).2 (by simp)
      rcases List.mem_cons.1 a with a | a
      · exact a
      · rcases List.mem_cons.1 b with b | b
        · exact b.symm
        · have := h3 x a
          have := h1 y b
          omega
    subst hxy
    congr 1
    refine pw_ext h2 h4 fun z => ?_
    constructor
    · intro hz
      rcases List.mem_cons.1 ((h z).1 (List.mem_cons_of_mem _ hz)) with a | a
      · have := h1 z hz; omega
      · exact a
    · intro hz
      rcases List.mem_cons.1 ((h z).2 (List.mem_cons_of_mem _ hz)) with a | a
      · have := h3 z hz; omega
      · exact a

def sub4 (a b c d : Bool) : List Int := (if a = true then [0] else []) ++ (if b = true then [1] else []) ++ (if c = true then [2] else []) ++ (if d = true then [3] else [])
theorem mem_sub4 {a b c d : Bool} {x : Int} : x ∈ sub4 a b c d ↔ (x = 0 ∧ a = true) ∨ (x = 1 ∧ b = true) ∨ (x = 2 ∧ c = true) ∨ (x = 3 ∧ d = true) := by
  unfold sub4
  cases a <;> cases b <;> cases c <;> cases d <;> simp
theorem pw_sub4 {a b c d : Bool} : (sub4 a b c d).Pairwise (· < ·) := by
  unfold sub4
  cases a <;> cases b <;> cases c <;> cases d <;> decide
theorem asc_sub4 {l : List Int} {n : Int} (hl : Asc l n) (hn : n ≤ 4) : l = sub4 (decide ((0 : Int) ∈ l)) (decide ((1 : Int) ∈ l)) (decide ((2 : Int) ∈ l)) (decide ((3 : Int) ∈ l)) :=
  pw_ext hl.1 pw_sub4 fun x => by
    rw [mem_sub4]
    simp only [decide_eq_true_eq]
    constructor
    · intro h
      have := hl.2 x h
      have hx : x = 0 ∨ x = 1 ∨ x = 2 ∨ x = 3 := by omega
      rcases hx with rfl | rfl | rfl | rfl
      · exact .inl ⟨rfl, h⟩
      · exact .inr (.inl ⟨rfl, h⟩)
      · exact .inr (.inr (.inl ⟨rfl, h⟩))
      · exact .inr (.inr (.inr ⟨rfl, h⟩))
    · rintro (⟨rfl, h⟩ | ⟨rfl, h⟩ | ⟨rfl, h⟩ | ⟨rfl, h⟩) <;> exact h

/-- Sorting few small numbers, for this measure of fuel. -/
def SortOk (k : Nat) : Prop := ∀ a ∈ [false, true], ∀ b ∈ [false, true], ∀ c ∈ [false, true], ∀ d ∈ [false, true], ∀ t ∈ [(0 : Int), 1, 2, 3], t ∈ sub4 a b c d ∨
  slc_Sort_int k (sub4 a b c d ++ [t]) = some (sub4 (a || decide (t = 0)) (b || decide (t = 1)) (c || decide (t = 2)) (d || decide (t = 3)))
instance (k : Nat) : Decidable (SortOk k) := by unfold SortOk; infer_instance
set_option maxRecDepth 100000 in
theorem sort100 : SortOk 100 := by decide +kernel

theorem sort_ok {k : Nat} (hS : SortOk k) {l r : List Int} {n t : Int} (hl : Asc l n) (hn : n ≤ 4) (ht : 0 ≤ t ∧ t < n) (hnt : t ∉ l) (hr : Asc r n) (hm : ∀ x, x ∈ r ↔ 0 ≤ x ∧ x < n ∧ (x = t ∨ x ∈ l)) : slc_Sort_int k (l ++ [t]) = some r := by
  have e1 := asc_sub4 hl hn
  have e2 := asc_sub4 hr hn
  have tb : ∀ b : Bool, b ∈ [false, true] := fun b => by cases b <;> simp
  have ht4 : t ∈ [(0 : Int), 1, 2, 3] := by
    have : t = 0 ∨ t = 1 ∨ t = 2 ∨ t = 3 := by omega
    simpa using this
  have := hS _ (tb (decide ((0 : Int) ∈ l))) _ (tb (decide ((1 : Int) ∈ l))) _ (tb (decide ((2 : Int) ∈ l))) _ (tb (decide ((3 : Int) ∈ l))) t ht4
  rw [← e1] at this
  rw [this.resolve_left hnt, e2]
  have hb : ∀ i : Int, 0 ≤ i → (decide (i ∈ l) || decide (t = i)) = decide (i ∈ r) := fun i hi => by
    rw [Bool.eq_iff_iff]
    simp only [Bool.or_eq_true, decide_eq_true_eq]
    rw [hm]
    constructor
    · rintro (h | h)
      · have := hl.2 i h; exact ⟨hi, this.2, .inr h⟩
      · exact ⟨hi, by omega, .inl h.symm⟩
    · rintro ⟨_, _, h | h⟩
      · exact .inr h.symm
      · exact .inl h
  rw [hb 0 (by decide), hb 1 (by decide), hb 2 (by decide), hb 3 (by decide)]

/-- What is tried, thing by thing. -/
def lrnT (c : dChange) (ts : List (Bool × Int)) (y : Nat → Nat → dDresser) (d : Nat) (s : Int × Bool × Int × Int) (t : Nat) : Int × Bool × Int × Int :=
  if (t : Int) ∈ (drs c (d : Int)).1 then s
  else if (fewS (wD c (c.2.1.set d (y d t))) ts).1 = true ∧ (s.2.1 = false ∨ (fewS (wD c (c.2.1.set d (y d t))) ts).2.1 < s.1) then ((fewS (wD c (c.2.1.set d (y d t))) ts).2.1, true, (d : Int), (t : Int)) else s
def lrnD (c : dChange) (ts : List (Bool × Int)) (y : Nat → Nat → dDresser) (s : Int × Bool × Int × Int) (d : Nat) : Int × Bool × Int × Int := (List.range c.1.length).foldl (lrnT c ts y d) s
/-- What should be learned: the bars, whether there is a plan, the dresser, the thing. -/
def lrnS (c : dChange) (ts : List (Bool × Int)) (y : Nat → Nat → dDresser) (s : Int × Bool × Int × Int) : Int × Bool × Int × Int := (List.range c.2.1.length).foldl (lrnD c ts y) s

theorem foldl_range_succ {σ : Type} {f : σ → Nat → σ} {s : σ} {j : Nat} : (List.range (j + 1)).foldl f s = f ((List.range j).foldl f s) j := by
  rw [List.range_succ, List.foldl_append]; rfl

/-- Dressers who have learned. -/
structure Learned (n : Int) (c : dChange) (y : Nat → Nat → dDresser) : Prop where
  rest : ∀ d t, d < c.2.1.length → t < c.1.length → (y d t).2 = (drs c (d : Int)).2
  asc : ∀ d t, d < c.2.1.length → t < c.1.length → Asc (y d t).1 n
  mem : ∀ d t, d < c.2.1.length → t < c.1.length → ∀ x, x ∈ (y d t).1 ↔ 0 ≤ x ∧ x < n ∧ (x = (t : Int) ∨ x ∈ (drs c (d : Int)).1)

theorem learned_good {n : Int} {c : dChange} {y : Nat → Nat → dDresser} (hc : VC n c) (h : Learned n c y) {d t : Nat} (hd : d < c.2.1.length) (ht : t < c.1.length) : GoodD n (y d t) := by
  have hx : drs c (d : Int) = c.2.1[d] := by simp [drs, List.getElem?_eq_getElem hd]
  have hG := hc.dressers _ (List.getElem_mem hd)
  refine ⟨h.asc d t hd ht, ?_, ?_⟩
  · rw [h.rest d t hd ht, hx]; exact hG.side
  · rw [h.rest d t hd ht, hx]; exact hG.start

theorem clone_dr' {k : Nat} {l : List dDresser} (h : l.length ≤ 1000) : slc_Clone_Dresser k l = some l := by
  unfold slc_Clone_Dresser
  rw [chk_ok (okLen_of h), bs]
theorem clone_int {k : Nat} {l : List Int} (h : l.length ≤ 1000) : slc_Clone_int k l = some l := by
  unfold slc_Clone_int
  rw [chk_ok (okLen_of h), bs]

/-- The program learns. -/
theorem Learn_eq {k : Nat} (hk : 50 ≤ k) (hS : SortOk k) {n : Int} {c : dChange} {mv : List Bool} {q : dQuick} {y : Nat → Nat → dDresser} (hq : QV n c mv q) (hb : chg_begin k c = some (some q, 0)) (hy : Learned n c y)
    (hW : ∀ d t, d < c.2.1.length → t < c.1.length → ∃ q', chg_begin k (wD c (c.2.1.set d (y d t))) = some (some q', 0) ∧ QV n (wD c (c.2.1.set d (y d t))) mv q') :
    chg_Learn k c = some (if (lrnS c (tsC c mv) y ((fewS c (tsC c mv)).2.1, (fewS c (tsC c mv)).1, -1, -1)).2.2.1 < 0 then (0, 0, 0, 11) else
      ((lrnS c (tsC c mv) y ((fewS c (tsC c mv)).2.1, (fewS c (tsC c mv)).1, -1, -1)).2.2.1, (lrnS c (tsC c mv) y ((fewS c (tsC c mv)).2.1, (fewS c (tsC c mv)).1, -1, -1)).2.2.2, (lrnS c (tsC c mv) y ((fewS c (tsC c mv)).2.1, (fewS c (tsC c mv)).1, -1, -1)).1, 0)) := by
  have hc := hq.vc
  have hdl := hc.dl
  have hn := hc.n4
  have hln := hc.len
  obtain ⟨w1, w2, w3, w4, w5⟩ := hc.wl
  have hcq : (((q.1.1, q.1.2.1, q.1.2.2.1, q.1.2.2.2), q.2.1, q.2.2) : dQuick) = q := rfl
  unfold chg_Learn
  rw [hb, bs, co_some, if_neg (by simp), hcq, least_eq hk hq, bs]
  have hfe : minL (lenS c (tsC c mv)) (false, 0, []) (plansS c (tsC c mv)) = fewS c (tsC c mv) := rfl
  rw [hfe]
  simp only
  have in2 : ∀ (d : Nat) (y9 : Int × Bool × Int × Int × Int) (s : Int × Bool × Int × Int), d < c.2.1.length → y9.2.2.2.2 = (d : Int) → chg_Learn_l2 k q y9 k (s.1, s.2.1, s.2.2.1, s.2.2.2, 0) = some (lrnD c (tsC c mv) y s d) := fun d y9 s hd hy9 => by
    have hx : drs c (d : Int) = c.2.1[d] := by simp [drs, List.getElem?_eq_getElem hd]
    have key := for_fold (f := chg_Learn_l2 k q y9) (List.range c.1.length) (fun (s : Int × Bool × Int × Int) j => (s.1, s.2.1, s.2.2.1, s.2.2.2, j)) (fun s _ t => lrnT c (tsC c mv) y d s t) (fun _ _ => True) (fun s => some s)
      (fun m s t ht _ => ⟨by
        have ht : t < c.1.length := by simpa using ht
        have hrt : (List.range c.1.length)[t]'(by simpa using ht) = t := by simp
        have hck : ck ((t : Int) + 1) = some ((t : Int) + 1) := ck_ok (by omega) (by omega)
        have hl5 := w5 _ (List.getElem_mem hd)
        rw [chg_Learn_l2]
        dsimp only
        rw [hq.eq, if_pos (by omega), hy9, geti_W hd, bs, contains_eq (by omega) (by omega), bs, hrt]
        unfold lrnT
        rw [hx]
        by_cases hm : (t : Int) ∈ c.2.1[d].1
        · rw [decide_eq_true hm, if_pos rfl, if_pos hm, bs, hck, bs]
        · rw [decide_eq_false hm, if_neg (by decide), if_neg hm, clone_dr' (by omega), bs, geti_W hd, bs, clone_int (by omega), bs, chk_ok (okLen_of (by simp only [List.length_cons, List.length_nil]; omega)), bs, bs,
            sort_ok hS (r := (y d t).1) (hc.dressers _ (List.getElem_mem hd)).can hn.2 (by omega) hm (hy.asc d t hd ht) (by have := hy.mem d t hd ht; rw [hx] at this; exact this), bs]
          obtain ⟨q', hb', hq'⟩ := hW d t hd ht
          have hset : ((y d t).1, c.2.1[d].2.1, c.2.1[d].2.2) = y d t := by rw [← hx, ← hy.rest d t hd ht]
          have hd' : Int.toNat (d : Int) = d := by omega
          rw [hset, hd', fewest_eq hk (c := wD c (c.2.1.set d (y d t))) rfl hq' hb', bs]
          have ets : tsC (wD c (c.2.1.set d (y d t))) mv = tsC c mv := rfl
          rw [ets]
          obtain ⟨s1, s2, s3, s4⟩ := s
          simp only
          generalize fewS (wD c (c.2.1.set d (y d t))) (tsC c mv) = f
          obtain ⟨f1, f2, f3⟩ := f
          cases f1 <;> cases s2 <;> by_cases hlt : f2 < s1 <;> simp [hlt, hck], trivial⟩)
      (fun m s _ => by rw [chg_Learn_l2]; simp [hq.eq]) (n := k) (s0 := s) (by simp; omega) trivial
    have key := key.1
    have hf : ∀ (l : List Nat) (j : Nat) (s : Int × Bool × Int × Int), foldI (fun s _ t => lrnT c (tsC c mv) y d s t) j l s = l.foldl (lrnT c (tsC c mv) y d) s := by
      intro l
      induction l with
      | nil => intro j s; rfl
      | cons a l ih => intro j s; exact ih _ _
    rw [hf] at key
    exact key
  have out : ∀ s : Int × Bool × Int × Int, chg_Learn_l1 k q k (s.1, s.2.1, s.2.2.1, s.2.2.2, 0) = some ((lrnS c (tsC c mv) y s).1, (lrnS c (tsC c mv) y s).2.2.1, (lrnS c (tsC c mv) y s).2.2.2) := fun s => by
    have key := for_fold (f := chg_Learn_l1 k q) (List.range c.2.1.length) (fun (s : Int × Bool × Int × Int) j => (s.1, s.2.1, s.2.2.1, s.2.2.2, j)) (fun s _ d => lrnD c (tsC c mv) y s d) (fun _ _ => True) (fun s => some (s.1, s.2.2.1, s.2.2.2))
      (fun m s d hd _ => ⟨by
        have hd : d < c.2.1.length := by simpa using hd
        have hrt : (List.range c.2.1.length)[d]'(by simpa using hd) = d := by simp
        rw [chg_Learn_l1]
        dsimp only
        rw [hq.eq, if_pos (by omega), in2 d _ s hd rfl, bs, ck_ok (by omega) (by omega), bs, hrt], trivial⟩)
      (fun m s _ => by rw [chg_Learn_l1]; simp [hq.eq]) (n := k) (s0 := s) (by simp; omega) trivial
    have key := key.1
    have hf : ∀ (l : List Nat) (j : Nat) (s : Int × Bool × Int × Int), foldI (fun s _ d => lrnD c (tsC c mv) y s d) j l s = l.foldl (lrnD c (tsC c mv) y) s := by
      intro l
      induction l with
      | nil => intro j s; rfl
      | cons a l ih => intro j s; exact ih _ _
    rw [hf] at key
    exact key
  rw [out ((fewS c (tsC c mv)).2.1, (fewS c (tsC c mv)).1, -1, -1), bs]
  by_cases h0 : (lrnS c (tsC c mv) y ((fewS c (tsC c mv)).2.1, (fewS c (tsC c mv)).1, -1, -1)).2.2.1 < 0
  · rw [if_pos h0, if_pos h0]
  · rw [if_neg h0, if_neg h0]

/-- The law's own search. -/
theorem lawLearn_eq {k : Nat} (hk : 50 ≤ k) {n : Int} {c : dChange} {mv : List Bool} {q : dQuick} {y : Nat → Nat → dDresser} {l : dLots} {r6 : (List dStep) × Int × Int} (hq : QV n c mv q) (hr6 : r6.2.2 = if (fewS c (tsC c mv)).1 = true then 0 else 11)
    (hy : ∀ d t, d < c.2.1.length → t < c.1.length → law_able k (drs c (d : Int)) (drs c (d : Int)).1 (t : Int) (c.1.length : Int) = some (y d t))
    (hW : ∀ d t, d < c.2.1.length → t < c.1.length → ∃ q', chg_begin k (wD c (c.2.1.set d (y d t))) = some (some q', 0) ∧ QV n (wD c (c.2.1.set d (y d t))) mv q') {s0 : Int} :
    law_ChangeLearn_l1 k (c, l) r6 k (s0, -1, -1, 0) = some ((lrnS c (tsC c mv) y (s0, (fewS c (tsC c mv)).1, -1, -1)).1, (lrnS c (tsC c mv) y (s0, (fewS c (tsC c mv)).1, -1, -1)).2.2.1, (lrnS c (tsC c mv) y (s0, (fewS c (tsC c mv)).1, -1, -1)).2.2.2) := by
  have hc := hq.vc
  have hdl := hc.dl
  obtain ⟨w1, w2, w3, w4, w5⟩ := hc.wl
  have Inv : Int × Bool × Int × Int → Prop := fun s => (s.2.1 = true ↔ (fewS c (tsC c mv)).1 = true ∨ 0 ≤ s.2.2.1)
  have hlt : ∀ d s t, ((s.2.1 = true ↔ (fewS c (tsC c mv)).1 = true ∨ 0 ≤ s.2.2.1)) → ((lrnT c (tsC c mv) y d s t).2.1 = true ↔ (fewS c (tsC c mv)).1 = true ∨ 0 ≤ (lrnT c (tsC c mv) y d s t).2.2.1) := fun d s t h => by
    unfold lrnT
    split
    · exact h
    · split
      · exact ⟨fun _ => .inr (by simp only; omega), fun _ => rfl⟩
      · exact h
  have in2 : ∀ (d : Nat) (y9 : Int × Int × Int × Int) (s : Int × Bool × Int × Int), d < c.2.1.length → y9.2.2.2 = (d : Int) → (s.2.1 = true ↔ (fewS c (tsC c mv)).1 = true ∨ 0 ≤ s.2.2.1) →
      law_ChangeLearn_l2 k (c, l) r6 y9 k (s.1, s.2.2.1, s.2.2.2, 0) = some ((lrnD c (tsC c mv) y s d).1, (lrnD c (tsC c mv) y s d).2.2.1, (lrnD c (tsC c mv) y s d).2.2.2) ∧ ((lrnD c (tsC c mv) y s d).2.1 = true ↔ (fewS c (tsC c mv)).1 = true ∨ 0 ≤ (lrnD c (tsC c mv) y s d).2.2.1) := fun d y9 s hd hy9 hs => by
    have hx : drs c (d : Int) = c.2.1[d] := by simp [drs, List.getElem?_eq_getElem hd]
    have key := for_fold (f := law_ChangeLearn_l2 k (c, l) r6 y9) (List.range c.1.length) (fun (s : Int × Bool × Int × Int) j => (s.1, s.2.2.1, s.2.2.2, j)) (fun s _ t => lrnT c (tsC c mv) y d s t) (fun _ s => (s.2.1 = true ↔ (fewS c (tsC c mv)).1 = true ∨ 0 ≤ s.2.2.1)) (fun s => some (s.1, s.2.2.1, s.2.2.2))
      (fun m s t ht hI => ⟨by
        have ht : t < c.1.length := by simpa using ht
        have hrt : (List.range c.1.length)[t]'(by simpa using ht) = t := by simp
        have hck : ck ((t : Int) + 1) = some ((t : Int) + 1) := ck_ok (by clear hI hs; omega) (by clear hI hs; omega)
        have hl5 := w5 _ (List.getElem_mem hd)
        obtain ⟨r18, e18, i18⟩ := at_ok (k := k) (l := c.2.1[d].1) (x := (t : Int)) (by clear hI hs; omega) (by clear hI hs; omega)
        rw [law_ChangeLearn_l2]
        dsimp only
        rw [if_pos (by clear hI hs; omega), hy9, geti_W hd, bs, e18, bs, hrt]
        unfold lrnT
        rw [hx]
        by_cases hm : (t : Int) ∈ c.2.1[d].1
        · rw [if_pos (i18.2 hm), if_pos hm, bs, hck, bs]
        · rw [if_neg (fun h => hm (i18.1 h)), if_neg hm, bs, bs]
          have ha := hy d t hd ht
          rw [hx] at ha
          obtain ⟨q', hb', hq'⟩ := hW d t hd ht
          rw [ha, bs, instead_eq hk hc hd, bs, Fewest_eq hk hq' hb', bs]
          have ets : tsC (wD c (c.2.1.set d (y d t))) mv = tsC c mv := rfl
          rw [ets, hr6]
          obtain ⟨s1, s2, s3, s4⟩ := s
          simp only at hI ⊢
          generalize fewS (wD c (c.2.1.set d (y d t))) (tsC c mv) = f
          obtain ⟨f1, f2, f3⟩ := f
          generalize (fewS c (tsC c mv)).1 = g at hI ⊢
          have hs2 : s2 = (g || decide (0 ≤ s3)) := by
            rw [Bool.eq_iff_iff, hI]; simp
          subst hs2
          have hneg : s3 < 0 ↔ ¬ 0 ≤ s3 := by clear hI hs; omega
          cases f1
          · simp [hck]
          · by_cases hlt : f2 < s1 <;> cases g <;> by_cases h3 : 0 ≤ s3 <;> simp [hlt, hck, h3, hneg], hlt d s _ hI⟩)
      (fun m s _ => by rw [law_ChangeLearn_l2]; simp) (n := k) (s0 := s) (by simp; omega) hs
    have hf : ∀ (l : List Nat) (j : Nat) (s : Int × Bool × Int × Int), foldI (fun s _ t => lrnT c (tsC c mv) y d s t) j l s = l.foldl (lrnT c (tsC c mv) y d) s := by
      intro l
      induction l with
      | nil => intro j s; rfl
      | cons a l ih => intro j s; exact ih _ _
    rw [hf] at key
    exact key
  have key := for_fold (f := law_ChangeLearn_l1 k (c, l) r6) (List.range c.2.1.length) (fun (s : Int × Bool × Int × Int) j => (s.1, s.2.2.1, s.2.2.2, j)) (fun s _ d => lrnD c (tsC c mv) y s d) (fun _ s => (s.2.1 = true ↔ (fewS c (tsC c mv)).1 = true ∨ 0 ≤ s.2.2.1)) (fun s => some (s.1, s.2.2.1, s.2.2.2))
    (fun m s d hd hI => by
      have hd : d < c.2.1.length := by simpa using hd
      have hrt : (List.range c.2.1.length)[d]'(by simpa using hd) = d := by simp
      obtain ⟨g1, g2⟩ := in2 d (s.1, s.2.2.1, s.2.2.2, (d : Int)) s hd rfl hI
      rw [hrt]
      refine ⟨?_, g2⟩
      rw [law_ChangeLearn_l1]
      dsimp only
      rw [if_pos (by clear hI; omega), g1, bs, ck_ok (by clear hI; omega) (by clear hI; omega), bs])
    (fun m s _ => by rw [law_ChangeLearn_l1]; simp) (n := k) (s0 := (s0, (fewS c (tsC c mv)).1, -1, -1)) (by simp; omega) (by simp)
  have hf : ∀ (l : List Nat) (j : Nat) (s : Int × Bool × Int × Int), foldI (fun s _ d => lrnD c (tsC c mv) y s d) j l s = l.foldl (lrnD c (tsC c mv) y) s := by
    intro l
    induction l with
    | nil => intro j s; rfl
    | cons a l ih => intro j s; exact ih _ _
  rw [hf] at key
  exact key.1

/-- **What should be learned.** -/
theorem learn_law {k : Nat} (hk : 50 ≤ k) (hS : SortOk k) (hdr : law_dressed k = some true) (a0 : List Int) : law_ChangeLearn k a0 = some true := by
  unfold law_ChangeLearn
  rw [show kit_NewLots k a0 = some (a0, 0, 1) from rfl, bs]
  obtain ⟨⟨c, l⟩, e3, hlo, hG, n, mv, q, hc, hb, hq⟩ := lots_ok hk (l := (a0, 0, 1)) (m := 0) newLots_ok (by decide)
  simp only at hc hb hq hG
  have hdl := hc.dl
  have hn := hc.n4
  have hln := hc.len
  obtain ⟨w1, w2, w3, w4, w5⟩ := hc.wl
  have hab : ∀ d t : Nat, ∃ r, d < c.2.1.length → t < c.1.length → law_able k (drs c (d : Int)) (drs c (d : Int)).1 (t : Int) (c.1.length : Int) = some r ∧ r.2 = (drs c (d : Int)).2 ∧ Asc r.1 n ∧ ∀ x, x ∈ r.1 ↔ 0 ≤ x ∧ x < n ∧ (x = (t : Int) ∨ x ∈ (drs c (d : Int)).1) := fun d t => by
    by_cases hd : d < c.2.1.length
    · have hx : drs c (d : Int) = c.2.1[d] := by simp [drs, List.getElem?_eq_getElem hd]
      obtain ⟨r, e, f1, f2, f3⟩ := able_eq hk (d := drs c (d : Int)) (l := (drs c (d : Int)).1) (t := (t : Int)) (n := c.1.length) (by rw [hx]; have := w5 _ (List.getElem_mem hd); omega) (by omega)
      rw [hln] at f2 f3
      exact ⟨r, fun _ _ => ⟨e, f1, f2, f3⟩⟩
    · exact ⟨([], 0, 0), fun h => absurd h hd⟩
  obtain ⟨y, hy⟩ := Classical.axiomOfChoice (fun d => Classical.axiomOfChoice (hab d))
  have hL : Learned n c y := ⟨fun d t hd ht => (hy d t hd ht).2.1, fun d t hd ht => (hy d t hd ht).2.2.1, fun d t hd ht => (hy d t hd ht).2.2.2⟩
  have hW : ∀ d t, d < c.2.1.length → t < c.1.length → ∃ q', chg_begin k (wD c (c.2.1.set d (y d t))) = some (some q', 0) ∧ QV n (wD c (c.2.1.set d (y d t))) mv q' := fun d t hd ht =>
    begin_with hk hG hq (good_set hc.dressers (learned_good hc hL hd ht)) (by simpa using hdl)
  rw [e3, bs, Learn_eq hk hS hq hb hL hW, bs, Fewest_eq hk hq hb, bs]
  have key := lawLearn_eq hk (l := l) (r6 := if (fewS c (tsC c mv)).1 = true then ((fewS c (tsC c mv)).2.2, (fewS c (tsC c mv)).2.1, 0) else ([], 0, 11)) hq (by split <;> rfl) (fun d t hd ht => (hy d t hd ht).1) hW (s0 := (fewS c (tsC c mv)).2.1)
  have hs0 : (if (fewS c (tsC c mv)).1 = true then ((fewS c (tsC c mv)).2.2, (fewS c (tsC c mv)).2.1, (0 : Int)) else ([], 0, 11)).2.1 = (fewS c (tsC c mv)).2.1 := by
    rcases fewS_spec (c := c) (ts := tsC c mv) with ⟨h, h', _⟩ | ⟨h, _⟩
    · rw [h, h']; rfl
    · rw [h]; rfl
  rw [hs0, key, bs]
  simp only
  generalize lrnS c (tsC c mv) y ((fewS c (tsC c mv)).2.1, (fewS c (tsC c mv)).1, -1, -1) = r
  by_cases h0 : r.2.2.1 < 0
  · simp [h0, hdr]
  · simp [h0, hdr]
end Go.Proofs.Ytfhdclhbdmhnmaa
