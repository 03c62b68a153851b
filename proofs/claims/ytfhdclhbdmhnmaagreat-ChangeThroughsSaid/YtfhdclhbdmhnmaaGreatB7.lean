/- Plain law: the reference's list of all plans; the fewest bars. -/
import Derived.Test.YtfhdclhbdmhnmaaGreatB6
import Derived.Test.YtfhdclhbdmhnmaaGreatB5
namespace Go.Proofs.YtfhdclhbdmhnmaaGreat
open K Go Go.Proofs

theorem flatMap_len {α β : Type} {f : α → List β} {b : Nat} : ∀ {l : List α}, (∀ x ∈ l, (f x).length ≤ b) → (l.flatMap f).length ≤ l.length * b
 | [], _ => by simp
 | x :: l, h => by
  rw [List.flatMap_cons, List.length_append, List.length_cons, Nat.succ_mul]
  have := h x (by simp)
  have := flatMap_len (l := l) (f := f) fun y hy => h y (by simp [hy])
  omega

/-- The steps of one task that can be next. -/
def stT (c : dChange) (ts : List (Bool × Int)) (done : List Int) (t m : Nat) : List dStep := ((List.range m).filter fun (d : Nat) => decide (stepErr c ts done ((t : Int), (d : Int)) = 0)).map fun (d : Nat) => ((t : Int), (d : Int))
theorem stT_succ {c : dChange} {ts : List (Bool × Int)} {done : List Int} {t m : Nat} : stT c ts done t (m + 1) = stT c ts done t m ++ (if stepErr c ts done ((t : Int), (m : Int)) = 0 then [((t : Int), (m : Int))] else []) := by
 unfold stT;rw [List.range_succ, List.filter_append, List.map_append];congr 1;by_cases h : stepErr c ts done ((t : Int), (m : Int)) = 0 <;> simp [h]
theorem stT_len {c : dChange} {ts : List (Bool × Int)} {done : List Int} {t m : Nat} : (stT c ts done t m).length ≤ m := by
 unfold stT;rw [List.length_map];exact Nat.le_trans (List.length_filter_le _ _) (by simp)

theorem range'_zero : ∀ {n : Nat}, List.range' 0 n = List.range n := fun {n} => by rw [List.range_eq_range']

theorem extL_eq {c : dChange} {ts : List (Bool × Int)} {done : List Int} : extL c ts done 0 = (List.range ts.length).flatMap fun t => stT c ts done t c.2.1.length := by
 unfold extL;rw [Nat.sub_zero, range'_zero]
 have : ∀ t ∈ List.range ts.length, (if mayB c ts done t = true then whoL c ts t 0 else []) = stT c ts done t c.2.1.length := fun t ht => by
  have htl : t < ts.length := List.mem_range.1 ht;unfold stT whoL;rw [Nat.sub_zero, range'_zero];by_cases hm : mayB c ts done t = true
  ·rw [if_pos hm];congr 1;apply List.filter_congr;intro d hd;have hdl : d < c.2.1.length := List.mem_range.1 hd;obtain ⟨m1, m2⟩ := mayB_iff.1 hm;unfold stepErr;simp only;rw [if_neg (by omega), if_neg m1, if_neg (by omega)];show canB c (d : Int) (tsk ts (t : Int)) = decide ((if canB c (d : Int) (tsk ts (t : Int)) = false then (8 : Int) else if ¬ (∀ a ∈ befL c ts t, (a : Int) ∈ done) then 5 else 0) = 0);cases canB c (d : Int) (tsk ts (t : Int)) with
   | false => simp
   | true => rw [if_neg (by simp), if_neg (by simpa using m2)]; simp
  ·rw [if_neg hm];symm;rw [List.map_eq_nil_iff, List.filter_eq_nil_iff];intro d hd h0;have h0 := of_decide_eq_true h0;refine hm (mayB_iff.2 ?_);unfold stepErr at h0;simp only at h0;have hdl : d < c.2.1.length := List.mem_range.1 hd;rw [if_neg (by omega)] at h0;by_cases a2 : (t : Int) ∈ done
   ·rw [if_pos a2] at h0; cases h0
   ·rw [if_neg a2, if_neg (by omega)] at h0;by_cases a4 : canB c (d : Int) (ts[((t : Nat) : Int).toNat]?.getD (false, 0)) = false
    ·rw [if_pos a4] at h0; cases h0
    ·rw [if_neg a4] at h0;by_cases a5 : ∀ a ∈ befL c ts ((t : Nat) : Int).toNat, (a : Int) ∈ done
     ·exact ⟨a2, a5⟩
     ·rw [if_pos a5] at h0; cases h0
 generalize List.range ts.length = l at *
 induction l with
 | nil => rfl
 | cons x l ih =>
  rw [List.flatMap_cons, List.flatMap_cons, this x (by simp), ih fun t ht => this t (by simp [ht])]

theorem gen_len {c : dChange} {ts : List (Bool × Int)} (ht : ts.length ≤ 4) (hd : c.2.1.length ≤ 3) : ∀ {r : Nat} {done : List Int} {p : List dStep}, (gen c ts r done p).length ≤ 12 ^ r
 | 0, _, _ => by simp [gen]
 | r + 1, done, p => by
  rw [gen]
  have h1 := flatMap_len (l := extL c ts done 0) (f := fun s => gen c ts r (done ++ [s.1]) (p ++ [s])) (b := 12 ^ r) fun s _ => gen_len ht hd
  have h2 : (extL c ts done 0).length ≤ 12 := by
   rw [extL_eq];have := flatMap_len (l := List.range ts.length) (f := fun t => stT c ts done t c.2.1.length) (b := 3) fun t _ => Nat.le_trans stT_len hd;rw [List.length_range] at this;omega
  have h3 := Nat.mul_le_mul_right (12 ^ r) h2;rw [Nat.pow_succ];omega

section
variable {k : Nat} {n : Int} {c : dChange} {mv : List Bool}

theorem rplans2_eq (hk : 50 ≤ k) (hc : VC n c) (hF : Fix c mv) (ht : (tsC c mv).length ≤ 4) {self : dChange → List dStep → Option (List (List dStep))} {p : List dStep} {r t : Nat} (hp : p.length ≤ 4) (hr : r ≤ 3)
 (hself : ∀ d : Nat, d < c.2.1.length → self c (p ++ [((t : Int), (d : Int))]) = some (gen c (tsC c mv) r (p.map (·.1) ++ [(t : Int)]) (p ++ [((t : Int), (d : Int))]))) {o : List (List dStep)} (ho : o.length ≤ 100000) :
 ref_plans_l2 k c p self (o, (t : Int)) k (o, 0) = some (o ++ (stT c (tsC c mv) (p.map (·.1)) t c.2.1.length).flatMap fun s => gen c (tsC c mv) r (p.map (·.1) ++ [s.1]) (p ++ [s])) := by
 have hdl := hc.dl
 have hB : 12 ^ r ≤ 1728 := by
  have := Nat.pow_le_pow_right (n := 12) (by decide) hr;exact this
 have key : W (ref_plans_l2 k c p self (o, (t : Int)) k (o, 0)) fun x => x = o ++ (stT c (tsC c mv) (p.map (·.1)) t c.2.1.length).flatMap fun s => gen c (tsC c mv) r (p.map (·.1) ++ [s.1]) (p ++ [s]) := by
  refine W.loop (f := ref_plans_l2 k c p self (o, (t : Int))) (fun m y => ∃ j : Nat, y.2 = (j : Int) ∧ j ≤ c.2.1.length ∧ m = c.2.1.length - j ∧ y.1 = o ++ (stT c (tsC c mv) (p.map (·.1)) t j).flatMap fun s => gen c (tsC c mv) r (p.map (·.1) ++ [s.1]) (p ++ [s])) ?_ c.2.1.length k (o, 0) (by omega) ⟨0, rfl, by omega, by omega, by simp [stT]⟩;rintro fuel m ⟨x, y⟩ ⟨j, hj, hle, hm, hx⟩ ih;simp only at hj hx;subst hj hx;unfold ref_plans_l2;dsimp only
  refine W.ite (fun hlt => ?_) (fun hge => W.ret (by
   have : j = c.2.1.length := by omega
   rw [this]))
  have hfl := flatMap_len (l := stT c (tsC c mv) (p.map (·.1)) t j) (f := fun s => gen c (tsC c mv) r (p.map (·.1) ++ [s.1]) (p ++ [s])) (b := 1728) fun s _ => Nat.le_trans (gen_len ht hdl.2) hB;have hsl := stT_len (c := c) (ts := tsC c mv) (done := p.map (·.1)) (t := t) (m := j);have hgl := gen_len (c := c) (ts := tsC c mv) ht hdl.2 (r := r) (done := p.map (·.1) ++ [(t : Int)]) (p := p ++ [((t : Int), (j : Int))]);have hck : ck ((j : Int) + 1) = some ((j : Int) + 1) := ck_ok (by omega) (by omega);rw [rstep_eq hk hc hF ht (by omega), bs];by_cases h0 : stepErr c (tsC c mv) (p.map (·.1)) ((t : Int), (j : Int)) = 0
  ·rw [if_pos h0, chk_ok (okLen_of (by simp only [List.length_nil]; omega)), bs, chk_ok (okLen_of (by simp only [List.nil_append, List.length_cons, List.length_nil]; omega)), bs, List.nil_append, hself j (by omega), bs, chk_ok (by unfold okLen; rw [List.length_append]; omega), bs, bs, hck, bs];refine ih (m - 1) (_, (j : Int) + 1) (by omega) ⟨j + 1, rfl, by omega, by omega, ?_⟩;simp only;rw [stT_succ, if_pos h0, List.flatMap_append, ← List.append_assoc];simp
  ·rw [if_neg h0, bs, hck, bs];refine ih (m - 1) (_, (j : Int) + 1) (by omega) ⟨j + 1, rfl, by omega, by omega, ?_⟩;simp only;rw [stT_succ, if_neg h0, List.append_nil]
 obtain ⟨x, e, rfl⟩ := key;exact e

/-- **All plans.** -/
theorem rplans_eq (hk : 50 ≤ k) (hc : VC n c) (hF : Fix c mv) (ht : (tsC c mv).length ≤ 4) : ∀ (r m : Nat) {p : List dStep}, p.length + r = (tsC c mv).length → r < m → ref_plans k m c p = some (gen c (tsC c mv) r (p.map (·.1)) p) := by
 have hdl := hc.dl;intro r
 induction r with
 | zero =>
  intro m p hp hm;obtain ⟨m, rfl⟩ : ∃ m', m = m' + 1 := ⟨m - 1, by omega⟩;rw [ref_plans, refTasks_eq hk hc hF, bs, List.length_map, if_pos (by omega), gen]
 | succ r ih =>
  intro m p hp hm;obtain ⟨m, rfl⟩ : ∃ m', m = m' + 1 := ⟨m - 1, by omega⟩;rw [ref_plans, refTasks_eq hk hc hF, bs, List.length_map, if_neg (by omega), gen, extL_eq];have hB : 12 ^ r ≤ 1728 := Nat.pow_le_pow_right (n := 12) (by decide) (show r ≤ 3 by omega)
  have key : W (ref_plans_l1 k c p (ref_plans k m) ((tsC c mv).map fun x => (x.2, x.1)) k ([], 0)) fun x => x = ((List.range (tsC c mv).length).flatMap fun t => stT c (tsC c mv) (p.map (·.1)) t c.2.1.length).flatMap fun s => gen c (tsC c mv) r (p.map (·.1) ++ [s.1]) (p ++ [s]) := by
   refine W.loop (f := ref_plans_l1 k c p (ref_plans k m) ((tsC c mv).map fun x => (x.2, x.1))) (fun m y => ∃ t : Nat, y.2 = (t : Int) ∧ t ≤ (tsC c mv).length ∧ m = (tsC c mv).length - t ∧ y.1 = ((List.range t).flatMap fun t => stT c (tsC c mv) (p.map (·.1)) t c.2.1.length).flatMap fun s => gen c (tsC c mv) r (p.map (·.1) ++ [s.1]) (p ++ [s])) ?_ (tsC c mv).length k ([], 0) (by omega) ⟨0, rfl, by omega, by omega, by simp⟩;rintro fuel mm ⟨x, y⟩ ⟨t, hj, hle, hmm, hx⟩ ih2;simp only at hj hx;subst hj hx;unfold ref_plans_l1;dsimp only;rw [List.length_map]
   refine W.ite (fun hlt => ?_) (fun hge => W.ret (by
    have : t = (tsC c mv).length := by omega
    rw [this]))
   have h1 := flatMap_len (l := (List.range t).flatMap fun t => stT c (tsC c mv) (p.map (·.1)) t c.2.1.length) (f := fun s => gen c (tsC c mv) r (p.map (·.1) ++ [s.1]) (p ++ [s])) (b := 1728) fun s _ => Nat.le_trans (gen_len ht hdl.2) hB;have h2 := flatMap_len (l := List.range t) (f := fun t => stT c (tsC c mv) (p.map (·.1)) t c.2.1.length) (b := 3) fun t _ => Nat.le_trans stT_len hdl.2;rw [List.length_range] at h2
   rw [rplans2_eq hk hc hF ht (r := r) (by omega) (by omega) (fun d hd => by
    have := ih m (p := p ++ [((t : Int), (d : Int))]) (by rw [List.length_append]; simp only [List.length_cons, List.length_nil]; omega) (by omega);rw [this, List.map_append]; rfl) (by omega), bs, ck_ok (by omega) (by omega), bs]
   refine ih2 (mm - 1) (_, (t : Int) + 1) (by omega) ⟨t + 1, rfl, by omega, by omega, ?_⟩;simp only;rw [List.range_succ, List.flatMap_append, List.flatMap_append];simp
  obtain ⟨x, e, rfl⟩ := key;rw [e, bs]

theorem rPlans_eq (hk : 50 ≤ k) (hc : VC n c) (hF : Fix c mv) (ht : (tsC c mv).length ≤ 4) : ref_Plans k c = some (plansS c (tsC c mv)) := by
 unfold ref_Plans plansS;rw [rplans_eq hk hc hF ht (tsC c mv).length k (p := []) (by simp) (by omega), bs];rfl

theorem minL_app {f : List dStep → Int} : ∀ {l m : List (List dStep)} {b : Bool × Int × List dStep}, minL f b (l ++ m) = minL f (minL f b l) m
 | [], m, b => rfl
 | p :: l, m, b => by rw [List.cons_append, minL, minL, minL_app]

/-- **The fewest bars.** -/
theorem rfew_eq (hk : 30000 ≤ k) (hc : VC n c) (hF : Fix c mv) (ht : (tsC c mv).length ≤ 4) : ref_fewest k c = some ((fewS c (tsC c mv)).2.2, (fewS c (tsC c mv)).2.1, (fewS c (tsC c mv)).1) := by
 have hk5 : 50 ≤ k := by omega
 have hl : (plansS c (tsC c mv)).length ≤ 20736 := Nat.le_trans (gen_len ht hc.dl.2) (Nat.pow_le_pow_right (n := 12) (by decide) ht);have hm : ∀ p ∈ plansS c (tsC c mv), ref_bars k c p = some (lenS c (tsC c mv) p) := fun p hp => rbars_eq hk5 hc hF ht (mem_plansS.1 hp);unfold ref_fewest fewS;rw [rPlans_eq hk5 hc hF ht, bs];generalize plansS c (tsC c mv) = L at *;cases L with
 | nil => rw [if_pos (by simp)]; rfl
 | cons p0 l =>
  rw [if_neg (by simp only [List.length_cons]; omega), show geti (p0 :: l) 0 = some p0 from rfl, bs, hm p0 (by simp), bs]
  have e0 : minL (lenS c (tsC c mv)) (false, 0, []) (p0 :: l) = minL (lenS c (tsC c mv)) (true, lenS c (tsC c mv) p0, p0) (p0 :: l) := by
   rw [minL, minL, if_pos (.inl rfl), if_neg (by simp)]
  rw [e0]
  have key : W (ref_fewest_l1 k c (p0 :: l) k (0, lenS c (tsC c mv) p0, 0)) fun r => ∃ pl, geti (p0 :: l) r.1 = some pl ∧ minL (lenS c (tsC c mv)) (true, lenS c (tsC c mv) p0, p0) (p0 :: l) = (true, r.2, pl) := by
   refine W.loop (f := ref_fewest_l1 k c (p0 :: l)) (fun m y => ∃ j : Nat, y.2.2 = (j : Int) ∧ j ≤ (p0 :: l).length ∧ m = (p0 :: l).length - j ∧ ∃ pl, geti (p0 :: l) y.1 = some pl ∧ minL (lenS c (tsC c mv)) (true, lenS c (tsC c mv) p0, p0) ((p0 :: l).take j) = (true, y.2.1, pl)) ?_ (p0 :: l).length k (0, lenS c (tsC c mv) p0, 0) (by omega)
    ⟨0, rfl, by omega, by omega, p0, rfl, rfl⟩
   rintro fuel m ⟨b, v, y⟩ ⟨j, hj, hle, hmm, pl, h1, h2⟩ ih;simp only at hj h1 h2;subst hj;unfold ref_fewest_l1;dsimp only
   refine W.ite (fun hlt => ?_) (fun hge => W.ret ⟨pl, h1, by
    have : j = (p0 :: l).length := by omega
    rw [this, List.take_length] at h2;exact h2⟩)
   have hlt' : j < (p0 :: l).length := by omega
   have hck : ck ((j : Int) + 1) = some ((j : Int) + 1) := ck_ok (by omega) (by omega)
   have hs : minL (lenS c (tsC c mv)) (true, lenS c (tsC c mv) p0, p0) ((p0 :: l).take (j + 1)) = if lenS c (tsC c mv) (p0 :: l)[j] < v then (true, lenS c (tsC c mv) (p0 :: l)[j], (p0 :: l)[j]) else (true, v, pl) := by
    rw [List.take_add_one, List.getElem?_eq_getElem hlt', minL_app, h2];simp only [Option.toList_some, minL, Bool.true_eq_false, false_or]
   rw [geti_W hlt', bs, hm _ (List.getElem_mem hlt'), bs];by_cases hv : lenS c (tsC c mv) (p0 :: l)[j] < v
   ·rw [if_pos hv, bs, hck, bs];exact ih (m - 1) (_, _, (j : Int) + 1) (by omega) ⟨j + 1, rfl, by omega, by omega, _, geti_W hlt', by rw [hs, if_pos hv]⟩
   ·rw [if_neg hv, bs, hck, bs];exact ih (m - 1) (_, _, (j : Int) + 1) (by omega) ⟨j + 1, rfl, by omega, by omega, pl, h1, by rw [hs, if_neg hv]⟩
  obtain ⟨r, e, pl, h1, h2⟩ := key;rw [e, bs, h1, bs, h2]
end
end Go.Proofs.YtfhdclhbdmhnmaaGreat

/- Plain law: copies. -/
namespace Go.Proofs.YtfhdclhbdmhnmaaGreat
open K Go Go.Proofs

theorem copyInts_ok {k : Nat} {l : List Int} (h : l.length ≤ 1000) : kit_CopyInts k l = some l := by
 unfold kit_CopyInts;rw [chkP, if_pos (okLen_of (by simpa using h))];rfl

end Go.Proofs.YtfhdclhbdmhnmaaGreat

/- Plain law: copies, as they are made where the order is open. -/
namespace Go.Proofs.YtfhdclhbdmhnmaaGreat
open K Go Go.Proofs

theorem copyChangeF_ok {k : Nat} (hk : 50 ≤ k) {c : dChange} (h1 : c.1.length ≤ 20) (h2 : c.2.1.length ≤ 20) (h3 : ∀ t ∈ c.1, t.1.length ≤ 20) (h4 : ∀ d ∈ c.2.1, d.1.length ≤ 20) (h5 : c.2.2.1.length ≤ 20) (h6 : c.2.2.2.length ≤ 20) : kit_CopyChangeF k c = some c := by
 have k1 : W (kit_CopyChangeF_l1 k c k ([], 0)) fun r => r = c.1 := by
  refine W.loop (f := kit_CopyChangeF_l1 k c) (fun m y => ∃ j : Nat, y.2 = (j : Int) ∧ j ≤ c.1.length ∧ m = c.1.length - j ∧ y.1 = c.1.take j) ?_ c.1.length k _ (by omega) ⟨0, rfl, by omega, by omega, by simp⟩;rintro fuel m ⟨o, y⟩ ⟨j, hj, hle, hq, ho⟩ ih;simp only at hj ho;subst hj ho;unfold kit_CopyChangeF_l1;dsimp only
  refine W.ite (fun hlt => ?_) (fun hge => W.ret (by have : j = c.1.length := by omega
                                                     subst this; rw [List.take_length]))
  have hlt' : j < c.1.length := by omega
  refine W.bindE (geti_W hlt') (W.bindE (copyInts_ok (by have := h3 _ (List.getElem_mem hlt'); omega)) (W.chk (okLen_of (by simp only [List.length_take, List.length_cons, List.length_nil]; omega)) (W.ck (by omega) (by omega) (ih (m - 1) (_, (j : Int) + 1) (by omega) ⟨j + 1, ?_, by omega, by omega, ?_⟩))))
  ·show (j : Int) + 1 = ((j + 1 : Nat) : Int);omega
  ·show c.1.take j ++ [_] = _;rw [List.take_add_one, List.getElem?_eq_getElem hlt'];rfl
 have k2 : W (kit_CopyChangeF_l2 k c k ([], 0)) fun r => r = c.2.1 := by
  refine W.loop (f := kit_CopyChangeF_l2 k c) (fun m y => ∃ j : Nat, y.2 = (j : Int) ∧ j ≤ c.2.1.length ∧ m = c.2.1.length - j ∧ y.1 = c.2.1.take j) ?_ c.2.1.length k _ (by omega) ⟨0, rfl, by omega, by omega, by simp⟩;rintro fuel m ⟨o, y⟩ ⟨j, hj, hle, hq, ho⟩ ih;simp only at hj ho;subst hj ho;unfold kit_CopyChangeF_l2;dsimp only
  refine W.ite (fun hlt => ?_) (fun hge => W.ret (by have : j = c.2.1.length := by omega
                                                     subst this; rw [List.take_length]))
  have hlt' : j < c.2.1.length := by omega
  refine W.bindE (geti_W hlt') (W.bindE (copyInts_ok (by have := h4 _ (List.getElem_mem hlt'); omega)) (W.chk (okLen_of (by simp only [List.length_take, List.length_cons, List.length_nil]; omega)) (W.ck (by omega) (by omega) (ih (m - 1) (_, (j : Int) + 1) (by omega) ⟨j + 1, ?_, by omega, by omega, ?_⟩))))
  ·show (j : Int) + 1 = ((j + 1 : Nat) : Int);omega
  ·show c.2.1.take j ++ [_] = _;rw [List.take_add_one, List.getElem?_eq_getElem hlt'];rfl
 obtain ⟨x1, e1, rfl⟩ := k1;obtain ⟨x2, e2, rfl⟩ := k2;unfold kit_CopyChangeF;rw [copyInts_ok (by omega), copyInts_ok (by omega), e1, e2];rfl

end Go.Proofs.YtfhdclhbdmhnmaaGreat

/- Plain law: the changes of a law that compares with the reference. -/
namespace Go.Proofs.YtfhdclhbdmhnmaaGreat
open K Go Go.Proofs

/-- A loop that only looks, from the start. -/
theorem for_all0 {ε : Type} {f : Nat → Int → Option (Except ε Unit)} {N k : Nat} (hk : N < k) (step : ∀ n (j : Nat), j < N → f (n + 1) (j : Int) = f n ((j : Int) + 1)) (stop : ∀ n, f (n + 1) (N : Int) = some (.ok ())) : f k 0 = some (.ok ()) := by
 have key : ∀ (m j n : Nat), N - j = m → j ≤ N → m < n → f n (j : Int) = some (.ok ()) := by
  intro m
  induction m with
  | zero =>
   intro j n h1 h2 h3;obtain ⟨n, rfl⟩ : ∃ n', n = n' + 1 := ⟨n - 1, by omega⟩;have : j = N := by omega
   subst this;exact stop n
  | succ m ih =>
   intro j n h1 h2 h3;obtain ⟨n, rfl⟩ : ∃ n', n = n' + 1 := ⟨n - 1, by omega⟩;rw [step n j (by omega)];exact ih (j + 1) n (by omega) (by omega) (by omega)
 exact key N 0 k rfl (Nat.zero_le _) hk

theorem sameChanges_self {k : Nat} (hk : 50 ≤ k) {c : dChange} (hs : Short c) : kit_SameChanges k c c = some true := by
 have h1 := hs.things;have h2 := hs.dressers;have h3 := hs.wears;have h4 := hs.wants
 have k1 : kit_SameChanges_l1 k c c k 0 = some (.ok ()) := for_all0 (N := c.1.length) (by omega) (fun n j hj => by
  have := hs.over _ (List.getElem_mem hj);have hck : ck ((j : Int) + 1) = some ((j : Int) + 1) := ck_ok (by omega) (by omega);simp only [kit_SameChanges_l1, Int.ofNat_lt, hj, if_true, geti_W hj, bs, sameInts_self (show (c.1[j]).1.length < k by omega) (show (c.1[j]).1.length ≤ 1000000 by omega), not_true_eq_false, if_false, hck, decide_true, Bool.not_true, Bool.false_eq_true]) (fun n => by simp [kit_SameChanges_l1])
 have k2 : kit_SameChanges_l2 k c c k 0 = some (.ok ()) := for_all0 (N := c.2.1.length) (by omega) (fun n j hj => by
  have := hs.can _ (List.getElem_mem hj);have hck : ck ((j : Int) + 1) = some ((j : Int) + 1) := ck_ok (by omega) (by omega);simp only [kit_SameChanges_l2, Int.ofNat_lt, hj, if_true, geti_W hj, bs, sameInts_self (show (c.2.1[j]).1.length < k by omega) (show (c.2.1[j]).1.length ≤ 1000000 by omega), not_true_eq_false, if_false, hck, decide_true, Bool.not_true, Bool.false_eq_true]) (fun n => by simp [kit_SameChanges_l2])
 unfold kit_SameChanges;simp only [sameInts_self (show c.2.2.1.length < k by omega) (show c.2.2.1.length ≤ 1000000 by omega), sameInts_self (show c.2.2.2.length < k by omega) (show c.2.2.2.length ≤ 1000000 by omega), bs, not_true_eq_false, if_false, decide_true, Bool.not_true, Bool.false_eq_true, k1, k2, bE_k]

theorem copyF_short {k : Nat} (hk : 50 ≤ k) {c : dChange} (hs : Short c) : kit_CopyChangeF k c = some c := copyChangeF_ok hk hs.things hs.dressers hs.over hs.can hs.wears hs.wants
theorem short_of_vc {n : Int} {c : dChange} (hc : VC n c) : Short c := by
 obtain ⟨w1, w2, w3, w4, w5⟩ := hc.wl;have := hc.dl;exact ⟨by omega, by omega, by omega, by omega, fun t h => by have := w4 t h; omega, fun d h => by have := w5 d h; omega⟩

/-- A loop over a list that leaves at the first that is too long. -/
theorem long_loop {α : Type} {l : List α} {g : α → Nat} {f : Nat → Int → Option (Except Bool Unit)} {k : Nat} (hk : l.length < k) (step : ∀ n (j : Nat) (h : j < l.length), f (n + 1) (j : Int) = if 20 < g l[j] then some (.error true) else f n ((j : Int) + 1)) (stop : ∀ n, f (n + 1) (l.length : Int) = some (.ok ())) :
 W (f k 0) fun r => r = .error true ∨ (r = .ok () ∧ ∀ x ∈ l, g x ≤ 20) := by
 have key : ∀ (m j n : Nat), l.length - j = m → j ≤ l.length → m < n → W (f n (j : Int)) fun r => r = .error true ∨ (r = .ok () ∧ ∀ x ∈ l.drop j, g x ≤ 20) := by
  intro m
  induction m with
  | zero =>
   intro j n h1 h2 h3;obtain ⟨n, rfl⟩ : ∃ n', n = n' + 1 := ⟨n - 1, by omega⟩;have : j = l.length := by omega
   subst this;exact ⟨_, stop n, .inr ⟨rfl, by simp⟩⟩
  | succ m ih =>
   intro j n h1 h2 h3;obtain ⟨n, rfl⟩ : ∃ n', n = n' + 1 := ⟨n - 1, by omega⟩;have hj : j < l.length := by omega
   rw [step n j hj];by_cases hg : 20 < g l[j]
   ·rw [if_pos hg]; exact ⟨_, rfl, .inl rfl⟩
   ·rw [if_neg hg];obtain ⟨r, e, h⟩ := ih (j + 1) n (by omega) (by omega) (by omega);refine ⟨r, e, h.imp id fun ⟨h1, h2⟩ => ⟨h1, fun x hx => ?_⟩⟩;rw [List.drop_eq_getElem_cons hj, List.mem_cons] at hx;rcases hx with rfl | hx
    ·omega
    ·exact h2 x hx
 exact key l.length 0 k rfl (Nat.zero_le _) hk

theorem long_ok {k : Nat} (hk : 50 ≤ k) {c : dChange} : W (law_long k c) fun r => r = false → Short c := by
 unfold law_long;by_cases h1 : (20 : Int) < (c.1.length : Int)
 ·rw [if_pos h1, bs, if_pos rfl]; exact ⟨_, rfl, fun h => (nomatch h)⟩
 by_cases h2 : (20 : Int) < (c.2.1.length : Int)
 ·rw [if_neg h1, if_pos h2, bs, if_pos rfl]; exact ⟨_, rfl, fun h => (nomatch h)⟩
 by_cases h3 : (20 : Int) < (c.2.2.1.length : Int)
 ·rw [if_neg h1, if_neg h2, if_pos h3, bs, if_pos rfl]; exact ⟨_, rfl, fun h => (nomatch h)⟩
 by_cases h4 : (20 : Int) < (c.2.2.2.length : Int)
 ·rw [if_neg h1, if_neg h2, if_neg h3, bs, if_pos (decide_eq_true h4)]; exact ⟨_, rfl, fun h => (nomatch h)⟩
 rw [if_neg h1, if_neg h2, if_neg h3, bs, if_neg (by simpa using h4)]
 obtain ⟨r1, e1, g1⟩ := long_loop (l := c.1) (g := fun t => t.1.length) (f := law_long_l1 k c) (k := k) (by omega) (fun n j h => by
  have hck : ck ((j : Int) + 1) = some ((j : Int) + 1) := ck_ok (by omega) (by omega);simp only [law_long_l1, Int.ofNat_lt, h, if_true, geti_W h, bs, hck];by_cases hx : 20 < (c.1[j]).1.length
  ·rw [if_pos (by omega), if_pos hx]
  ·rw [if_neg (by omega), if_neg hx]) (fun n => by simp [law_long_l1])
 obtain ⟨r2, e2, g2⟩ := long_loop (l := c.2.1) (g := fun t => t.1.length) (f := law_long_l2 k c) (k := k) (by omega) (fun n j h => by
  have hck : ck ((j : Int) + 1) = some ((j : Int) + 1) := ck_ok (by omega) (by omega);simp only [law_long_l2, Int.ofNat_lt, h, if_true, geti_W h, bs, hck];by_cases hx : 20 < (c.2.1[j]).1.length
  ·rw [if_pos (by omega), if_pos hx]
  ·rw [if_neg (by omega), if_neg hx]) (fun n => by simp [law_long_l2])
 rw [e1, e2];rcases g1 with rfl | ⟨rfl, g1⟩
 ·rw [bE_e]; exact ⟨_, rfl, fun h => (nomatch h)⟩
 rcases g2 with rfl | ⟨rfl, g2⟩
 ·rw [bE_k, bE_e]; exact ⟨_, rfl, fun h => (nomatch h)⟩
 rw [bE_k, bE_k];exact ⟨_, rfl, fun _ => ⟨by omega, by omega, by omega, by omega, g1, g2⟩⟩

theorem bool_of (p : Prop) : ∃ b : Bool, b = true ↔ p := by
 by_cases h : p
 ·exact ⟨true, by simp [h]⟩
 ·exact ⟨false, by simp [h]⟩

end Go.Proofs.YtfhdclhbdmhnmaaGreat

/- Plain law: what the program and the reference say of any short change and plan. -/
namespace Go.Proofs.YtfhdclhbdmhnmaaGreat
open K Go Go.Proofs

/-- A short change is wrong for both, in one way, or good for both. -/
theorem ask_cases {k : Nat} (hk : 50 ≤ k) {c : dChange} (hs : Short c) : (∃ e : Int, e ≠ 0 ∧ chg_begin k c = some (none, e) ∧ ref_asked k c = some e) ∨ ∃ n mv q, QV n c mv q ∧ chg_begin k c = some (some q, 0) ∧ ref_asked k c = some 0 := by
 obtain ⟨b, hb⟩ := bool_of (∃ i, Rch c i i);by_cases h : chkS c b = 0
 ·have hc := vc_of_chk hs hb h;obtain ⟨mv, hF⟩ := hc.fix;have ha := refAsked_eq hk hs hb (fun _ => hF);rw [if_neg (by simp [h])] at ha;by_cases h4 : 4 < (tsC c mv).length
  ·rw [if_pos h4] at ha;exact .inl ⟨6, by decide, (begin_ok hk hc hF).1 h4, ha⟩
  ·rw [if_neg h4] at ha;obtain ⟨q, hbg, hq⟩ := (begin_ok hk hc hF).2 (by omega);exact .inr ⟨_, mv, q, hq, hbg, ha⟩
 ·have ha := refAsked_eq hk hs hb (mv := []) (fun h' => absurd h' h);rw [if_pos h] at ha;refine .inl ⟨_, h, ?_, ha⟩;unfold chg_begin;rw [chgCheck_eq hk hs hb, bs, if_pos h]

end Go.Proofs.YtfhdclhbdmhnmaaGreat

/- Plain law: the versions whose dressers stay their caller's own compute the same. -/
namespace Go.Proofs.YtfhdclhbdmhnmaaGreat
open K Go Go.Proofs

theorem taskV : @kit_TasksOfV = @kit_TasksOf := by kernel_rfl
theorem copyV : @kit_CopyChangeV = @kit_CopyChangeF := by kernel_rfl
theorem of1V : @kit_ChangeOfV_l1 = @kit_ChangeOf_l1 := by kernel_rfl
theorem of3V : @kit_ChangeOfV_l3 = @kit_ChangeOf_l3 := by kernel_rfl
theorem of5V {k : Nat} {x : (List Int) × Int × Int × (List dDresser)} : ∀ {n : Nat} {y : (List Int) × Int × Int × (List dThing) × (List Int) × (List Int)}, kit_ChangeOf_l5 k n (y.1, y.2.1, y.2.2.1, y.2.2.2.1, x.2.2.2, y.2.2.2.2.1, y.2.2.2.2.2) = (kit_ChangeOfV_l5 k x n y).bind fun r => some (r.1, x.2.2.2, r.2.1, r.2.2.1, r.2.2.2.1, r.2.2.2.2.1, r.2.2.2.2.2)
 | 0, _ => rfl
 | n + 1, (a, b, c, th, ws, vs) => by
  have ih := @of5V k x n
  rw [kit_ChangeOf_l5, kit_ChangeOfV_l5, taskV]
  simp only
  cases kit_TasksOf k (th, x.2.2.2, ws, vs) with
  | none => rfl
  | some r82 =>
   rw [bs, bs]
   by_cases h : (4 : Int) < (r82.length : Int)
   ·
    rw [if_pos h, if_pos h]
    cases (if (0 : Int) < (vs.length : Int) then (kit_Lots_Rare k (a, b, c) 2).bind fun r85 => some (r85.2.1, r85.2.2.1, r85.2.2.2, r85.1) else some (a, b, c, false)) with
    | none => rfl
    | some x83 =>
     rw [bs, bs]
     by_cases h2 : x83.2.2.2 = true
     ·
      rw [if_pos h2, if_pos h2]
      cases ck ((vs.length : Int) - 1) with
      | none => rfl
      | some x86 =>
       rw [bs, bs]
       cases chkP (0 ≤ x86 ∧ x86 ≤ (vs.length : Int)) with
       | none => rfl
       | some u => rw [bs, bs]; exact ih (y := (x83.1, x83.2.1, x83.2.2.1, th, ws, List.take (Int.toNat x86) vs))
     ·
      rw [if_neg h2, if_neg h2]
      by_cases h3 : (0 : Int) < (ws.length : Int)
      ·
       rw [if_pos h3, if_pos h3]
       cases ck ((ws.length : Int) - 1) with
       | none => rfl
       | some x86 =>
        rw [bs, bs]
        cases chkP (0 ≤ x86 ∧ x86 ≤ (ws.length : Int)) with
        | none => rfl
        | some u => rw [bs, bs]; exact ih (y := (x83.1, x83.2.1, x83.2.2.1, th, List.take (Int.toNat x86) ws, vs))
      ·
       rw [if_neg h3, if_neg h3]
       exact ih (y := (x83.1, x83.2.1, x83.2.2.1, th, ws, []))
   ·
    rw [if_neg h, if_neg h, bs]

theorem ofV {k : Nat} {l : dLots} : kit_ChangeOfV k l = kit_ChangeOf k l := by
 unfold kit_ChangeOfV kit_ChangeOf;rw [of1V, of3V];cases kit_Lots_In k (l.1, l.2.1, l.2.2) 1 4 with
 | none => rfl
 | some r3 =>
  rw [bs, bs];cases kit_Lots_Rare k (r3.2.1, r3.2.2.1, r3.2.2.2) 2 with
  | none => rfl
  | some r4 =>
   rw [bs, bs];cases kit_ChangeOf_l1 k r3 r4 k (r4.2.1, r4.2.2.1, r4.2.2.2, [], [], [], 0) with
   | none => rfl
   | some x5 =>
    rw [bs, bs];cases ((kit_Lots_In k (x5.1, x5.2.1, x5.2.2.1) 1 3).bind fun r54 => kit_ChangeOf_l3 k r3 k (r54.2.1, r54.2.2.1, r54.2.2.2, [], r54.1)) with
    | none => rfl
    | some x52 =>
     rw [bs, bs];have e := of5V (k := k) (x := x52) (n := k) (y := (x52.1, x52.2.1, x52.2.2.1, x5.2.2.2.1, x5.2.2.2.2.1, x5.2.2.2.2.2));simp only at e;rw [e];cases kit_ChangeOfV_l5 k x52 k (x52.1, x52.2.1, x52.2.2.1, x5.2.2.2.1, x5.2.2.2.2.1, x5.2.2.2.2.2) with
     | none => rfl
     | some x78 => rfl

theorem copyV_short {k : Nat} (hk : 50 ≤ k) {c : dChange} (hs : Short c) : kit_CopyChangeV k c = some c := by rw [copyV]; exact copyF_short hk hs
end Go.Proofs.YtfhdclhbdmhnmaaGreat

/- Plain law: dressers, as they are so many bars later. -/
namespace Go.Proofs.YtfhdclhbdmhnmaaGreat
open K Go Go.Proofs

/-- Dressers, as they are so many bars later. -/
def lat (t : Int) (d : dDresser) : dDresser := (d.1, d.2.1, imax 0 (d.2.2 - t))

theorem shift_eq {k : Nat} (hk : 50 ≤ k) {t : Int} {ds : List dDresser} (hl : ds.length ≤ 3) (ht : 0 ≤ t ∧ t ≤ 1000) (hd : ∀ d ∈ ds, 0 ≤ d.2.2 ∧ d.2.2 ≤ 9) : chg_Through_l5 k t ds k (ds, 0) = some (ds.map (lat t)) := by
 have key : W (chg_Through_l5 k t ds k (ds, 0)) fun r => r = ds.map (lat t) := by
  refine W.loop (f := chg_Through_l5 k t ds) (fun m y => ∃ j : Nat, y.2 = (j : Int) ∧ j ≤ ds.length ∧ m = ds.length - j ∧ y.1 = (ds.take j).map (lat t) ++ ds.drop j) ?_ ds.length k (ds, 0) (by omega) ⟨0, rfl, by omega, by omega, by simp⟩;rintro fuel m ⟨o, y⟩ ⟨j, hj, hle, hm, ho⟩ ih;simp only at hj ho;subst hj ho;unfold chg_Through_l5;dsimp only
  refine W.ite (fun hlt => ?_) (fun hge => W.ret (by
   have : j = ds.length := by omega
   subst this;simp))
  have hlt' : j < ds.length := by omega
  have hjl : ((ds.take j).map (lat t)).length = j := by simp; omega
  have hdr : ds.drop j = ds[j] :: ds.drop (j + 1) := List.drop_eq_getElem_cons hlt'
  have hg : geti ((ds.take j).map (lat t) ++ ds.drop j) (j : Int) = some ds[j] := by
   refine geti_q (by omega) ?_;rw [Int.toNat_natCast, List.getElem?_append_right (by omega), hjl, hdr];simp
  have hb := hd _ (List.getElem_mem hlt');rw [hg, bs, ck_ok (by omega) (by omega), bs, bs, ck_ok (by omega) (by omega), bs];refine ih (m - 1) (_, (j : Int) + 1) (by omega) ⟨j + 1, by show (j : Int) + 1 = ((j + 1 : Nat) : Int); omega, by omega, by omega, ?_⟩;simp only [Int.toNat_natCast];rw [List.set_append_right _ _ (by omega), hjl, hdr, Nat.sub_self, List.set_cons_zero, List.take_add_one, List.getElem?_eq_getElem hlt', List.map_append, List.append_assoc];rfl
 obtain ⟨r, e, rfl⟩ := key;exact e

theorem clone_dr2 {k : Nat} {l : List dDresser} (h : l.length ≤ 1000) : slc_Clone_Dresser k l = some l := by
 unfold slc_Clone_Dresser;rw [chk_ok (okLen_of h), bs]

theorem wD_rch {c : dChange} {ds : List dDresser} {i j : Nat} : Rch (wD c ds) i j ↔ Rch c i j := by
 constructor
 ·intro h
  induction h with
  | one h => exact .one h
  | cons h _ ih => exact .cons h ih
 ·intro h
  induction h with
  | one h => exact .one h
  | cons h _ ih => exact .cons h ih

theorem lat_E {n t : Int} {i : Nat} {d : dDresser} (ht : 0 ≤ t) (h : drE n i d = 0) : drE n i (lat t d) = 0 := by
 unfold drE at h ⊢;unfold lat;simp only;by_cases a1 : lstE n (-1) none d.1 = 0
 ·rw [if_neg (by simp [a1])] at h ⊢;by_cases a2 : 0 ≤ d.2.1 ∧ d.2.1 ≤ 2
  ·rw [if_neg (fun h => h a2)] at h ⊢;by_cases a3 : 0 ≤ d.2.2 ∧ d.2.2 ≤ 9
   ·rw [if_neg];unfold imax;split <;> omega
   ·rw [if_pos a3] at h; cases h
  ·rw [if_pos a2] at h; cases h
 ·rw [if_pos a1] at h; exact absurd h a1

theorem lat_chk {c : dChange} {b : Bool} {t : Int} (ht : 0 ≤ t) (h : chkS c b = 0) : chkS (wD c (c.2.1.map (lat t))) b = 0 := by
 have key : fstE (drE (c.1.length : Int)) 0 c.2.1 = 0 → fstE (drE (c.1.length : Int)) 0 (c.2.1.map (lat t)) = 0 := fun h => by
  rw [fstE_zero] at h ⊢;intro i x hx;rw [List.getElem?_map] at hx;cases e : c.2.1[i]? with
  | none => rw [e] at hx; cases hx
  | some d =>
   rw [e] at hx;cases hx;exact lat_E ht (h i d e)
 unfold chkS at h ⊢;simp only [List.length_map];by_cases z1 : szE c.1.length 4 = 0
 ·rw [if_neg (by simp [z1])] at h ⊢;by_cases z2 : fstE (thE (c.1.length : Int)) 0 c.1 = 0
  ·rw [if_neg (by simp [z2])] at h ⊢;cases b with
   | true => rw [if_pos rfl] at h; cases h
   | false =>
    rw [if_neg (by decide)] at h ⊢;by_cases z3 : szE c.2.1.length 3 = 0
    ·rw [if_neg (by simp [z3])] at h ⊢;by_cases z4 : fstE (drE (c.1.length : Int)) 0 c.2.1 = 0
     ·rw [if_neg (by simp [z4])] at h;rw [if_neg (by simp [key z4])];exact h
     ·rw [if_pos z4] at h; exact absurd h z4
    ·rw [if_pos z3] at h; exact absurd h z3
  ·rw [if_pos z2] at h; exact absurd h z2
 ·rw [if_pos z1] at h; exact absurd h z1

/-- **A valid change, so many bars later.** -/
theorem vc_lat {n t : Int} {c : dChange} (hc : VC n c) (ht : 0 ≤ t) : VC n (wD c (c.2.1.map (lat t))) := by
 have hs := short_of_vc hc;obtain ⟨b, hb⟩ := bool_of (∃ i, Rch c i i)
 have h0 : chkS c b = 0 := by
  have e := hc.chk 50 (by decide);rw [chgCheck_eq (by decide) hs hb] at e;exact Option.some.inj e
 have hs' : Short (wD c (c.2.1.map (lat t))) := ⟨hs.things, by simpa using hs.dressers, hs.wears, hs.wants, hs.over, fun d hd => by
  obtain ⟨d', h', rfl⟩ := List.mem_map.1 hd;exact hs.can d' h'⟩
 have hl : n = (c.1.length : Int) := by have := hc.len; omega
 rw [hl];exact vc_of_chk (c := wD c (c.2.1.map (lat t))) hs' (b := b) (by rw [hb]; exact exists_congr fun i => wD_rch.symm) (lat_chk ht h0)

/-- The reference does the same, one after the other. -/
theorem rshift_eq {k : Nat} (hk : 50 ≤ k) {t : Int} {c : dChange} (hl : c.2.1.length ≤ 3) (ht : 0 ≤ t ∧ t ≤ 1000) (hd : ∀ d ∈ c.2.1, 0 ≤ d.2.2 ∧ d.2.2 ≤ 9) : ref_Through_l5 k t k (c, 0) = some (wD c (c.2.1.map (lat t))) := by
 have key : W (ref_Through_l5 k t k (c, 0)) fun r => r = wD c (c.2.1.map (lat t)) := by
  refine W.loop (f := ref_Through_l5 k t) (fun m y => ∃ j : Nat, y.2 = (j : Int) ∧ j ≤ c.2.1.length ∧ m = c.2.1.length - j ∧ y.1 = wD c ((c.2.1.take j).map (lat t) ++ c.2.1.drop j)) ?_ c.2.1.length k (c, 0) (by omega) ⟨0, rfl, by omega, by omega, by simp⟩;rintro fuel m ⟨o, y⟩ ⟨j, hj, hle, hm, ho⟩ ih;simp only at hj ho;subst hj ho;unfold ref_Through_l5 ref_with;dsimp only;have hjl : ((c.2.1.take j).map (lat t)).length = j := by simp; omega
  have hal : ((c.2.1.take j).map (lat t) ++ c.2.1.drop j).length = c.2.1.length := by simp; omega
  rw [hal]
  refine W.ite (fun hlt => ?_) (fun hge => W.ret (by
   have : j = c.2.1.length := by omega
   subst this;simp))
  have hlt' : j < c.2.1.length := by omega
  have hdr : c.2.1.drop j = c.2.1[j] :: c.2.1.drop (j + 1) := List.drop_eq_getElem_cons hlt'
  have hg : geti ((c.2.1.take j).map (lat t) ++ c.2.1.drop j) (j : Int) = some c.2.1[j] := by
   refine geti_q (by omega) ?_;rw [Int.toNat_natCast, List.getElem?_append_right (by omega), hjl, hdr];simp
  have hb := hd _ (List.getElem_mem hlt');rw [hg, bs, ck_ok (by omega) (by omega), bs, List.nil_append, chk_ok (okLen_of (by simp only [List.length_nil]; omega)), bs, hg, bs, bs, ck_ok (by omega) (by omega), bs];refine ih (m - 1) (_, (j : Int) + 1) (by omega) ⟨j + 1, by show (j : Int) + 1 = ((j + 1 : Nat) : Int); omega, by omega, by omega, ?_⟩;simp only [Int.toNat_natCast];rw [List.set_append_right _ _ (by omega), hjl, hdr, Nat.sub_self, List.set_cons_zero, List.take_add_one, List.getElem?_eq_getElem hlt', List.map_append, List.append_assoc];rfl
 obtain ⟨r, e, rfl⟩ := key;exact e
end Go.Proofs.YtfhdclhbdmhnmaaGreat

/- Plain law: what the program and the reference say of short changes, one after the other. -/
namespace Go.Proofs.YtfhdclhbdmhnmaaGreat
open K Go Go.Proofs

/-- A change that is good for both, and the change at work. -/
def Gd (k : Nat) (c : dChange) (q : dquick) : Prop := ∃ n mv q0, QV n c mv q0 ∧ chg_begin k c = some (some q0, 0) ∧ q = (c, q0.2.1, q0.2.2, ())
theorem Gd.fst {k : Nat} {c : dChange} {q : dquick} (h : Gd k c q) : q.1 = c := by obtain ⟨_, _, _, _, _, rfl⟩ := h; rfl

abbrev Gds (k : Nat) (cs : List dChange) (qs : List dquick) : Prop := qs.length ≤ cs.length ∧ ∀ (i : Nat) c q, cs[i]? = some c → qs[i]? = some q → Gd k c q

section
variable {k : Nat} {cs : List dChange} {qs : List dquick} {a1 : List Int}

theorem th1 (hk : 50 ≤ k) (hs : ∀ c ∈ cs, Short c) (hl : cs.length ≤ 20) : ∀ (m j fuel : Nat) {qs : List dquick}, cs.length - j = m → j ≤ cs.length → m < fuel → qs.length = j → Gds k cs qs →
 (∃ e : Int, e ≠ 0 ∧ chg_Through_l1 k cs fuel (qs, (j : Int)) = some (.error ([], e)) ∧ ref_Through_l1 k cs fuel (j : Int) = some (.error ([], e))) ∨
 (∃ qs', chg_Through_l1 k cs fuel (qs, (j : Int)) = some (.ok qs') ∧ ref_Through_l1 k cs fuel (j : Int) = some (.ok ()) ∧ qs'.length = cs.length ∧ Gds k cs qs') := by
 intro m
 induction m with
 | zero =>
  intro j fuel qs h1 h2 h3 h4 h5;obtain ⟨fuel, rfl⟩ : ∃ f, fuel = f + 1 := ⟨fuel - 1, by omega⟩;refine .inr ⟨qs, ?_, ?_, by omega, h5⟩
  ·rw [chg_Through_l1, if_neg (by simp only; omega)]
  ·rw [ref_Through_l1, if_neg (by omega)]
 | succ m ih =>
  intro j fuel qs h1 h2 h3 h4 h5;obtain ⟨fuel, rfl⟩ : ∃ f, fuel = f + 1 := ⟨fuel - 1, by omega⟩;have hj : j < cs.length := by omega
  have hck : ck ((j : Int) + 1) = some ((j : Int) + 1) := ck_ok (by omega) (by omega);rw [chg_Through_l1, ref_Through_l1];dsimp only;rw [if_pos (by omega), if_pos (by omega), geti_W hj, bs, bs];rcases ask_cases hk (hs _ (List.getElem_mem hj)) with ⟨e, he, g1, g2⟩ | ⟨n, mv, q, hq, g1, g2⟩
  ·refine .inl ⟨e, he, ?_, ?_⟩
   ·rw [g1, bs, co_none, if_pos he]
   ·rw [g2, bs, if_pos he]
  ·rw [g1, bs, co_some, if_neg (by simp), g2, bs, if_neg (by simp)];rw [chk_ok (okLen_of (by simp only [List.length_cons, List.length_nil]; omega)), bs, hck, bs, bs]
   have := ih (j + 1) fuel (qs := qs ++ [((q.1.1, q.1.2.1, q.1.2.2.1, q.1.2.2.2), q.2.1, q.2.2, ())]) (by omega) (by omega) (by omega) (by simp; omega) ⟨by simp; omega, fun i c q' hc hq' => by
    by_cases hi : i < qs.length
    ·rw [List.getElem?_append_left hi] at hq';exact h5.2 i c q' hc hq'
    ·rw [List.getElem?_append_right (by omega)] at hq'
     have h0 : i - qs.length = 0 := by
      rcases Nat.eq_zero_or_pos (i - qs.length) with h | h
      ·exact h
      ·rw [List.getElem?_eq_none (by simp; omega)] at hq'; cases hq'
     rw [h0] at hq';simp only [List.getElem?_cons_zero, Option.some.injEq] at hq';have hij : i = j := by omega
     subst hij;rw [List.getElem?_eq_getElem hj] at hc;cases hc;subst hq';refine ⟨n, mv, q, hq, g1, ?_⟩;have : ((q.1.1, q.1.2.1, q.1.2.2.1, q.1.2.2.2) : dChange) = q.1 := rfl;rw [this, hq.eq]⟩
   rw [show ((j + 1 : Nat) : Int) = (j : Int) + 1 by omega] at this;exact this

theorem th2 (hl : qs.length = cs.length) (hG : Gds k cs qs) : ∀ (fuel j : Nat), chg_Through_l2 k qs fuel (j : Int) = ref_Through_l2 k cs fuel (j : Int)
 | 0, _ => rfl
 | fuel + 1, j => by
  rw [chg_Through_l2, ref_Through_l2, hl]
  by_cases hj : (j : Int) < (cs.length : Int)
  ·
   have hj' : j < cs.length := by omega
   have e1 : (qs[j]).1 = cs[j] := (hG.2 j _ _ (List.getElem?_eq_getElem hj') (List.getElem?_eq_getElem (by omega))).fst
   have e0 : (qs[0]).1 = cs[0] := (hG.2 0 _ _ (List.getElem?_eq_getElem (by omega)) (List.getElem?_eq_getElem (by omega))).fst
   rw [if_pos hj, if_pos hj, geti_W (l := qs) (i := j) (by omega), bs, geti_W hj', bs, show (0 : Int) = ((0 : Nat) : Int) from rfl, geti_W (l := qs) (i := 0) (by omega), bs, geti_W (l := cs) (i := 0) (by omega), bs, e1, e0]
   by_cases hc : ¬ ((cs[j].2.1.length : Int) = (cs[0].2.1.length : Int))
   ·
    rw [if_pos hc, if_pos hc]
   ·
    rw [if_neg hc, if_neg hc]
    cases hck : ck ((j : Int) + 1) with
    | none => rfl
    | some x =>
     have hx : x = ((j + 1 : Nat) : Int) := by
      unfold ck at hck;split at hck
      ·cases hck; omega
      ·cases hck
     rw [bs, bs, hx];exact th2 hl hG fuel (j + 1)
  ·rw [if_neg hj, if_neg hj]

theorem th2' (hl : cs.length ≤ 20) : ∀ (m j fuel : Nat), cs.length - j = m → j ≤ cs.length → m < fuel → ref_Through_l2 k cs fuel (j : Int) = some (.error ([], 9)) ∨ ref_Through_l2 k cs fuel (j : Int) = some (.ok ()) := by
 intro m
 induction m with
 | zero =>
  intro j fuel h1 h2 h3;obtain ⟨fuel, rfl⟩ : ∃ f, fuel = f + 1 := ⟨fuel - 1, by omega⟩;rw [ref_Through_l2, if_neg (by omega)];exact .inr rfl
 | succ m ih =>
  intro j fuel h1 h2 h3;obtain ⟨fuel, rfl⟩ : ∃ f, fuel = f + 1 := ⟨fuel - 1, by omega⟩;have hj : j < cs.length := by omega
  have hck : ck ((j : Int) + 1) = some ((j : Int) + 1) := ck_ok (by omega) (by omega);rw [ref_Through_l2, if_pos (by omega), geti_W hj, bs, show (0 : Int) = ((0 : Nat) : Int) from rfl, geti_W (l := cs) (i := 0) (by omega), bs];by_cases hc : ¬ ((cs[j].2.1.length : Int) = (cs[0].2.1.length : Int))
  ·rw [if_pos hc]; exact .inl rfl
  ·rw [if_neg hc, hck, bs];have := ih (j + 1) fuel (by omega) (by omega) (by omega);rw [show ((j + 1 : Nat) : Int) = (j : Int) + 1 by omega] at this;exact this

theorem th3 (hl : a1.length ≤ 1000) : ∀ (m j fuel : Nat), a1.length - j = m → j ≤ a1.length → m < fuel →
 (chg_Through_l3 k a1 fuel (j : Int) = some (.error ([], 1)) ∧ ref_Through_l3 k a1 fuel (j : Int) = some (.error ([], 1))) ∨ (chg_Through_l3 k a1 fuel (j : Int) = some (.ok ()) ∧ ref_Through_l3 k a1 fuel (j : Int) = some (.ok ()) ∧ ∀ x ∈ a1.drop j, 0 ≤ x ∧ x ≤ 20) := by
 intro m
 induction m with
 | zero =>
  intro j fuel h1 h2 h3;obtain ⟨fuel, rfl⟩ : ∃ f, fuel = f + 1 := ⟨fuel - 1, by omega⟩;rw [chg_Through_l3, ref_Through_l3, if_neg (by omega), if_neg (by omega)];have : j = a1.length := by omega
  subst this;exact .inr ⟨rfl, rfl, by simp⟩
 | succ m ih =>
  intro j fuel h1 h2 h3;obtain ⟨fuel, rfl⟩ : ∃ f, fuel = f + 1 := ⟨fuel - 1, by omega⟩;have hj : j < a1.length := by omega
  have hck : ck ((j : Int) + 1) = some ((j : Int) + 1) := ck_ok (by omega) (by omega);rw [chg_Through_l3, ref_Through_l3, if_pos (by omega), if_pos (by omega), geti_W hj, bs, bs, outside_eq, inside_eq, bs, bs];by_cases hc : 0 ≤ a1[j] ∧ a1[j] ≤ 20
  ·rw [if_neg (by simpa using hc), if_neg (by simpa using hc), hck, bs, bs];have := ih (j + 1) fuel (by omega) (by omega) (by omega);rw [show ((j + 1 : Nat) : Int) = (j : Int) + 1 by omega] at this;refine this.imp id fun ⟨g1, g2, g3⟩ => ⟨g1, g2, fun x hx => ?_⟩;rw [List.drop_eq_getElem_cons hj, List.mem_cons] at hx;rcases hx with rfl | hx
   ·exact hc
   ·exact g3 x hx
  ·rw [if_pos (decide_eq_true hc), if_pos (fun h => hc (of_decide_eq_true h))];exact .inl ⟨rfl, rfl⟩

theorem th4 (hk : 30000 ≤ k) (hl : cs.length ≤ 3) (hq : qs.length = cs.length) (hG : Gds k cs qs) (ha : a1.length + 1 = cs.length) (hr : ∀ x ∈ a1, 0 ≤ x ∧ x ≤ 20) :
 ∀ (m i fuel : Nat) (out : List Int) (at_ bg : Int), cs.length - i = m → i ≤ cs.length → m < fuel → out.length = i → (i = 0 → at_ = 0 ∧ bg = 0) → (0 < i → out[i - 1]? = some at_) → 0 ≤ at_ → at_ ≤ 45 * i →
  ∃ r, chg_Through_l4 k a1 qs fuel (out, at_, (i : Int)) = some r ∧ ref_Through_l4 k cs a1 fuel (out, bg, (i : Int)) = some r ∧ (∀ l, r = .ok l → l.length = cs.length) ∧ ∀ e, r = .error e → e = ([], 11) := by
 have hk5 : 50 ≤ k := by omega
 intro m
 induction m with
 | zero =>
  intro i fuel out at_ bg h1 h2 h3 h4 h5 h6 h7 h8;obtain ⟨fuel, rfl⟩ : ∃ f, fuel = f + 1 := ⟨fuel - 1, by omega⟩;refine ⟨.ok out, ?_, ?_, fun l e => by cases e; omega, fun e he => (nomatch he)⟩
  ·rw [chg_Through_l4, if_neg (by simp only; omega)]
  ·rw [ref_Through_l4, if_neg (by simp only; omega)]
 | succ m ih =>
  intro i fuel out at_ bg h1 h2 h3 h4 h5 h6 h7 h8;obtain ⟨fuel, rfl⟩ : ∃ f, fuel = f + 1 := ⟨fuel - 1, by omega⟩;have hi : i < cs.length := by omega
  have hiq : i < qs.length := by omega
  obtain ⟨n, mv, q0, hQ, hbg, eq⟩ := hG.2 i _ _ (List.getElem?_eq_getElem hi) (List.getElem?_eq_getElem hiq);have hck : ck ((i : Int) + 1) = some ((i : Int) + 1) := ck_ok (by omega) (by omega)
  obtain ⟨t, ht0, ht1, et1, et2⟩ : ∃ t : Int, 0 ≤ t ∧ t ≤ 45 * i + 20 ∧ (if (0 : Int) < (i : Int) then ((ck ((i : Int) - 1)).bind fun x38 => (geti a1 x38).bind fun x39 => (ck (at_ + x39)).bind fun x40 => some x40) else some at_) = some t ∧
   (if (0 : Int) < (i : Int) then ((ck ((i : Int) - 1)).bind fun x32 => (geti out x32).bind fun x33 => (ck ((i : Int) - 1)).bind fun x34 => (geti a1 x34).bind fun x35 => (ck (x33 + x35)).bind fun x36 => some x36) else some bg) = some t := by
   by_cases h0 : i = 0
   ·obtain ⟨g1, g2⟩ := h5 h0;subst h0 g1 g2;exact ⟨0, by omega, by omega, by simp, by simp⟩
   ·have hip : 0 < i := by omega
    have ho := h6 hip;have hia : i - 1 < a1.length := by omega
    have hrx := hr _ (List.getElem_mem hia);have hc1 : ck ((i : Int) - 1) = some (((i - 1 : Nat)) : Int) := by rw [ck_ok (by omega) (by omega), show (i : Int) - 1 = ((i - 1 : Nat) : Int) by omega]
    refine ⟨at_ + a1[i - 1], by omega, by omega, ?_, ?_⟩
    ·rw [if_pos (by omega), hc1, bs, geti_W hia, bs, ck_ok (by omega) (by omega), bs]
    ·rw [if_pos (by omega), hc1, bs, geti_q (by omega) (show out[(((i - 1 : Nat)) : Int).toNat]? = some at_ by rw [Int.toNat_natCast]; exact ho), bs, bs, geti_W hia, bs, ck_ok (by omega) (by omega), bs]
  have hc := hQ.vc;have hdl := hc.dl;have hst : ∀ d ∈ (cs[i]).2.1, 0 ≤ d.2.2 ∧ d.2.2 ≤ 9 := fun d h => (hc.dressers d h).start;have hc' := vc_lat hc ht0;have hF' : Fix (wD cs[i] ((cs[i]).2.1.map (lat t))) mv := fix_with hQ.fix;have ets : tsC (wD cs[i] ((cs[i]).2.1.map (lat t))) mv = tsC cs[i] mv := rfl;have ht4 : (tsC (wD cs[i] ((cs[i]).2.1.map (lat t))) mv).length ≤ 4 := hQ.t4;obtain ⟨q1, hb1, hQ1⟩ := (begin_ok hk5 hc' hF').2 ht4;have hfb := few_bnd hc' ht4;have hf1 := fewestF_eq hk5 (a0 := qs[i]) (ds := (cs[i]).2.1.map (lat t)) (c := wD cs[i] ((cs[i]).2.1.map (lat t))) (by rw [eq]) hQ1 hb1;have hf2 := rfew_eq hk hc' hF' ht4;rw [chg_Through_l4, ref_Through_l4];dsimp only;rw [if_pos (show (i : Int) < (qs.length : Int) by omega), if_pos (show (i : Int) < (cs.length : Int) by omega), geti_W hiq, bs, et1, bs, geti_W hi, et2, bs, bs];have e21 : (qs[i]).1.2.1 = (cs[i]).2.1 := by rw [eq]
  rw [e21, clone_dr2 (by omega), bs, shift_eq hk5 (by omega) (by omega) hst, bs, rshift_eq hk5 (by omega) (by omega) hst, bs, hf1, bs, hf2, bs];by_cases hx : (fewS (wD cs[i] ((cs[i]).2.1.map (lat t))) (tsC (wD cs[i] ((cs[i]).2.1.map (lat t))) mv)).1 = true
  ·have hfn : ¬ ¬ (fewS (wD cs[i] ((cs[i]).2.1.map (lat t))) (tsC (wD cs[i] ((cs[i]).2.1.map (lat t))) mv)).1 = true := fun h => h hx;simp only [hfn, if_false];generalize (fewS (wD cs[i] ((cs[i]).2.1.map (lat t))) (tsC (wD cs[i] ((cs[i]).2.1.map (lat t))) mv)).2.1 = f at *;rw [ck_ok (by omega) (by omega), bs, chk_ok (okLen_of (by simp only [List.length_cons, List.length_nil]; omega)), bs, bE_k, bs, chk_ok (okLen_of (by simp only [List.length_cons, List.length_nil]; omega)), bs, bE_k];simp only [hck, bs];have := ih (i + 1) fuel (out ++ [t + f]) (t + f) t (by omega) (by omega) (by omega) (by simp; omega) (fun h => by omega) (fun _ => by rw [List.getElem?_append_right (by omega), show i + 1 - 1 - out.length = 0 by omega]; rfl) (by omega) (by omega);rw [show ((i + 1 : Nat) : Int) = (i : Int) + 1 by omega] at this;exact this
  ·refine ⟨.error ([], 11), ?_, ?_, fun l e => (nomatch e), fun e he => by cases he; rfl⟩
   ·rw [if_pos hx, bE_e]
   ·rw [if_pos hx, bE_e]
end

/-- **Changes one after the other.** -/
theorem through_said {k : Nat} (hk : 30000 ≤ k) {cs : List dChange} (hs : ∀ c ∈ cs, Short c) (hl : cs.length ≤ 20) {a1 : List Int} (ha : a1.length ≤ 1000) : ∃ r, chg_Through k cs a1 = some r ∧ ref_Through k cs a1 = some r ∧ r.1.length ≤ 20 := by
 have hk5 : 50 ≤ k := by omega
 unfold chg_Through ref_Through;rw [show (3 : Int) = ((3 : Nat) : Int) from rfl, sized_eq, rsized_eq, bs, bs];by_cases h0 : szE cs.length 3 = 0
 ·have h3 := szE_zero.1 h0;rw [if_neg (by simp [h0]), if_neg (by simp [h0])];rcases th1 hk5 hs hl cs.length 0 k (qs := []) (by omega) (by omega) (by omega) rfl ⟨by simp, fun i c q _ h => by simp at h⟩ with ⟨e, _, g1, g2⟩ | ⟨qs, g1, g2, hq, hG⟩
  ·rw [show (0 : Int) = ((0 : Nat) : Int) from rfl, g1, g2, bE_e, bE_e];exact ⟨_, rfl, rfl, by simp⟩
  ·rw [show (0 : Int) = ((0 : Nat) : Int) from rfl, g1, g2, bE_k, bE_k, th2 hq hG];rcases th2' hl (k := k) cs.length 0 k (by omega) (by omega) (by omega) with g3 | g3
   ·rw [g3, bE_e, bE_e];exact ⟨_, rfl, rfl, by simp⟩
   ·rw [g3, bE_k, bE_k, ck_ok (by omega) (by omega), bs, bs];by_cases h4 : ¬ ((a1.length : Int) = (cs.length : Int) - 1)
    ·rw [if_pos h4, if_pos h4];exact ⟨_, rfl, rfl, by simp⟩
    ·rw [if_neg h4, if_neg h4];rcases th3 ha (k := k) a1.length 0 k (by omega) (by omega) (by omega) with ⟨g5, g6⟩ | ⟨g5, g6, hr⟩
     ·rw [g5, g6, bE_e, bE_e];exact ⟨_, rfl, rfl, by simp⟩
     ·rw [g5, g6, bE_k, bE_k];obtain ⟨r, e1, e2, hok, herr⟩ := th4 hk (by omega) hq hG (a1 := a1) (by omega) (by simpa using hr) cs.length 0 k [] 0 0 (by omega) (by omega) (by omega) rfl (fun _ => ⟨rfl, rfl⟩) (fun h => by omega) (Int.le_refl 0) (by omega);rw [show chg_Through_l4 k a1 qs k ([], ((0 : Nat) : Int), ((0 : Nat) : Int)) = some r from e1, show ref_Through_l4 k cs a1 k ([], ((0 : Nat) : Int), ((0 : Nat) : Int)) = some r from e2];cases r with
      | ok l => rw [bE_k]; exact ⟨_, rfl, rfl, by have := hok l rfl; simp only; omega⟩
      | error e =>
       have := herr e rfl;subst this;rw [bE_e]; exact ⟨_, rfl, rfl, by simp⟩
 ·rw [if_pos h0, if_pos h0];exact ⟨_, rfl, rfl, by simp⟩
end Go.Proofs.YtfhdclhbdmhnmaaGreat

/- Plain law: ChangeThroughs. -/
namespace Go.Proofs.YtfhdclhbdmhnmaaGreat
open K Go Go.Proofs

theorem dressed30000 : law_dressed 30000 = some true := by decide +kernel

theorem in_any {k : Nat} {l : dLots} {m a b : Int} (h : Lo l m) (hm : m ≤ 1000000000) (ha : -1000 ≤ a) (hab : a ≤ b) (hb : b ≤ 1000) : W (kit_Lots_In k l a b) fun r => Lo r.2 (m + 1) := by
 unfold kit_Lots_In;refine W.ck (by omega) (by omega) (W.bind (upto_ok h hm (by omega)) fun r hr => ?_);have h0 := hr.1;have := hr.2.1 (by omega);exact W.ck (by omega) (by omega) (W.ret hr.2.2)

theorem short_of_good {k : Nat} {c : dChange} (h : GoodC k c) : Short c ∧ 1 ≤ c.2.1.length ∧ c.2.1.length ≤ 3 := by
 obtain ⟨⟨up, n, h1, h4, hl, hg, hw, hv, hd⟩, hdl, _⟩ := h;exact ⟨short_of_vc (vc_of_good ⟨h1, h4⟩ hl hg hw hv hd hdl), hdl⟩

abbrev Drs (ds : List dDresser) : Prop := 1 ≤ ds.length ∧ ds.length ≤ 3 ∧ ∀ d ∈ ds, d.1.length ≤ 20

theorem own3_ok {k : Nat} (hk : 50 ≤ k) {y17 : (List Int) × Int × Int × (List dChange) × (List Int) × Int} {r21 : dChange × dLots} {c0 : dChange} (h0 : y17.2.2.2.1[0]? = some c0) (hc : c0.2.1.length ≤ 3) (hs : Short r21.1) {ds : List dDresser} (hd : Drs ds) :
 W (law_ChangeThroughs_l3 k y17 r21 k ds) fun r => c0.2.1.length ≤ r.length ∧ Drs r := by
 have h0' : geti y17.2.2.2.1 0 = some c0 := geti_q (Int.le_refl 0) h0;refine W.loop (f := law_ChangeThroughs_l3 k y17 r21) (fun m y => m = 3 - y.length ∧ Drs y) ?_ (3 - ds.length) k ds (by omega) ⟨rfl, hd⟩;rintro fuel m y ⟨hm, h1, h2, h3⟩ ih;unfold law_ChangeThroughs_l3;rw [h0', bs];refine W.ite (fun hlt => ?_) (fun hge => W.ret ⟨by omega, h1, h2, h3⟩);have hS : Short (r21.1.1, y, r21.1.2.2.1, r21.1.2.2.2) := ⟨hs.things, by simp only; omega, hs.wears, hs.wants, hs.over, h3⟩;rw [copyV_short hk hS, bs];simp only;rw [show (0 : Int) = ((0 : Nat) : Int) from rfl, geti_W (l := y) (i := 0) (by omega), bs, chk_ok (okLen_of (by simp only [List.length_cons, List.length_nil]; omega)), bs];refine ih (m - 1) _ (by omega) ⟨by simp; omega, by simp, by simp; omega, fun d hd => ?_⟩;rcases List.mem_append.1 hd with h | h
 ·exact h3 d h
 ·simp only [List.mem_cons, List.not_mem_nil, or_false] at h;subst h;exact h3 _ (List.getElem_mem _)

abbrev Own (cs : List dChange) : Prop := ∀ c ∈ cs, Short c ∧ 1 ≤ c.2.1.length ∧ c.2.1.length ≤ 3

theorem own2_ok {k : Nat} (hk : 50 ≤ k) {l : dLots} (hl : Lo l 1) {i0 : Int} (hi0 : 0 ≤ i0 ∧ i0 ≤ 3) : W (law_ChangeThroughs_l2 k k (l.1, l.2.1, l.2.2, [], [], i0)) fun r => r.1.length ≤ 4 ∧ Own r.1 ∧ r.2.length ≤ 4 := by
 refine W.loop (f := law_ChangeThroughs_l2 k) (fun m y => m = (y.2.2.2.2.2 + 1).toNat ∧ -1 ≤ y.2.2.2.2.2 ∧ (y.2.2.2.1.length : Int) + y.2.2.2.2.2 ≤ 3 ∧ y.2.2.2.2.1.length ≤ y.2.2.2.1.length ∧ Own y.2.2.2.1 ∧ Lo (y.1, y.2.1, y.2.2.1) (1 + 303 * y.2.2.2.1.length)) ?_ (i0 + 1).toNat k _ (by omega)
  ⟨rfl, by simp only; omega, by simp; omega, by simp, fun c hc => by simp at hc, by simpa using hl⟩
 rintro fuel m ⟨nums, d, s, own, gaps, i⟩ ⟨hm, hi, hle, hg, hO, hlo⟩ ih;simp only at hm hi hle hg hO hlo;unfold law_ChangeThroughs_l2;dsimp only;refine W.ite (fun hlt => ?_) (fun hge => W.ret ⟨by simp only; omega, hO, by simp only; omega⟩);refine W.bind (R := fun x19 => Lo (x19.1, x19.2.1, x19.2.2.1) (1 + 303 * (own.length + 1)) ∧ x19.2.2.2.1.length = own.length + 1 ∧ Own x19.2.2.2.1 ∧ x19.2.2.2.2.length ≤ own.length + 1) ?_ fun x19 ⟨a1, a2, a3, a4⟩ => ?_
 ·rw [ofV];obtain ⟨r21, e21, hG, hlo1⟩ := change_ok hk hlo (by omega);obtain ⟨hS, hd1, hd3⟩ := short_of_good hG;have hD : Drs r21.1.2.1 := ⟨hd1, hd3, hS.can⟩;rw [e21, bs];refine W.bind (R := fun x24 => Lo (x24.1, x24.2.1, x24.2.2.1) (1 + 303 * own.length + 301) ∧ Drs x24.2.2.2) ?_ fun x24 ⟨b1, b2⟩ => ?_
  ·by_cases h0 : (0 : Int) < (own.length : Int)
   ·rw [if_pos h0];obtain ⟨r28, e28, hlo2⟩ := rare_ok (k := k) (l := r21.2) (a := 6) hlo1 (by omega) (by decide) (by decide);rw [show kit_Lots_Rare k (r21.2.1, r21.2.2.1, r21.2.2.2) 6 = some r28 from e28, bs, bs];simp only;cases r28.1 with
    | true => rw [if_neg (by decide)]; exact W.ret ⟨hlo2.mono (by omega), hD⟩
    | false =>
     rw [if_pos (by decide)];have hol : 0 < own.length := by omega
     obtain ⟨hs0, hd01, hd03⟩ := hO _ (List.getElem_mem hol);obtain ⟨x29, e29, c1, c2⟩ := own3_ok hk (y17 := (nums, d, s, own, gaps, i)) (r21 := r21) (c0 := own[0]) (List.getElem?_eq_getElem hol) hd03 hS hD;rw [e29, bs, show (0 : Int) = ((0 : Nat) : Int) from rfl, geti_W hol, bs, chk_ok ⟨by omega, by omega⟩, bs];refine W.ret ⟨hlo2.mono (by omega), ?_, ?_, fun d hd => c2.2.2 d (List.mem_of_mem_take hd)⟩
     ·simp only [List.length_take, Int.toNat_natCast]; omega
     ·simp only [List.length_take, Int.toNat_natCast]; omega
   ·rw [if_neg h0, bs];simp only;rw [if_neg (by decide)];exact W.ret ⟨hlo1.mono (by omega), hD⟩
  ·refine W.bind (R := fun x43 => Lo (x43.1, x43.2.1, x43.2.2.1) (1 + 303 * own.length + 303) ∧ x43.2.2.2.length ≤ own.length + 1) ?_ fun x43 ⟨d1, d2⟩ => ?_
   ·by_cases h0 : (0 : Int) < (own.length : Int)
    ·rw [if_pos h0];obtain ⟨r45, e45, hlo3⟩ := in_any (k := k) (l := (x24.1, x24.2.1, x24.2.2.1)) (a := -1) (b := 21) b1 (by omega) (by decide) (by decide) (by decide);obtain ⟨r46, e46, _, hlo4⟩ := of_ok (k := k) (l := r45.2) (some_ := [0, 1, 5, r45.1]) hlo3 (by omega) (by simp) (by simp);rw [e45, bs, show kit_Lots_Of k (r45.2.1, r45.2.2.1, r45.2.2.2) [0, 1, 5, r45.1] = some r46 from e46, bs, chk_ok (okLen_of (by simp only [List.length_cons, List.length_nil]; omega)), bs];exact W.ret ⟨hlo4.mono (by omega), by simp; omega⟩
    ·rw [if_neg h0];exact W.ret ⟨b1.mono (by omega), by simp only; omega⟩
   ·rw [chk_ok (okLen_of (by simp only [List.length_cons, List.length_nil]; omega)), bs];refine W.ret ⟨d1.mono (by omega), by simp, fun c hc => ?_, by simp only; omega⟩;simp only [List.mem_append, List.mem_cons, List.not_mem_nil, or_false] at hc;rcases hc with h | rfl
    ·exact hO c h
    ·exact ⟨⟨hS.things, by have := b2.2.1; simp only; omega, hS.wears, hS.wants, hS.over, b2.2.2⟩, b2.1, b2.2.1⟩
 ·rw [ck_ok (by omega) (by omega), bs];refine ih (m - 1) _ (by omega) ⟨by simp only; omega, by simp only; omega, by simp only; omega, by simp only; omega, a3, ?_⟩;simp only [a2];exact a1.mono (by omega)

theorem copies_ok {k : Nat} (hk : 50 ≤ k) {a0 : List dChange} {x14 : (List dChange) × (List Int)} {x55 : List dChange} {y66 : Int} {cs : List dChange} (hg : geti [a0, x14.1, x14.1, x55] y66 = some cs) (hs : ∀ c ∈ cs, Short c) (hl : cs.length ≤ 20) :
 law_ChangeThroughs_l5 k a0 x14 x55 y66 k ([], 0) = some cs := by
 have key : W (law_ChangeThroughs_l5 k a0 x14 x55 y66 k ([], 0)) fun r => r = cs := by
  refine W.loop (f := law_ChangeThroughs_l5 k a0 x14 x55 y66) (fun m y => ∃ j : Nat, y.2 = (j : Int) ∧ j ≤ cs.length ∧ m = cs.length - j ∧ y.1 = cs.take j) ?_ cs.length k ([], 0) (by omega) ⟨0, rfl, by omega, by omega, by simp⟩;rintro fuel m ⟨o, y⟩ ⟨j, hj, hle, hm, ho⟩ ih;simp only at hj ho;subst hj ho;unfold law_ChangeThroughs_l5;rw [hg, bs];dsimp only
  refine W.ite (fun hlt => ?_) (fun hge => W.ret (by
   have : j = cs.length := by omega
   subst this;exact List.take_length))
  have hj : j < cs.length := by omega
  rw [bs, geti_W hj, bs, copyF_short hk (hs _ (List.getElem_mem hj)), bs, chk_ok (okLen_of (by simp only [List.length_take, List.length_cons, List.length_nil]; omega)), bs, ck_ok (by omega) (by omega), bs];refine ih (m - 1) (_, (j : Int) + 1) (by omega) ⟨j + 1, by simp, by omega, by omega, ?_⟩;simp only;rw [List.take_add_one, List.getElem?_eq_getElem hj];rfl
 obtain ⟨r, e, rfl⟩ := key;exact e

theorem longs_ok {k : Nat} (hk : 50 ≤ k) (hd : law_dressed k = some true) {cs : List dChange} (hl : cs.length ≤ 20) : law_ChangeThroughs_l1 k cs k 0 = some (.error true) ∨ (law_ChangeThroughs_l1 k cs k 0 = some (.ok ()) ∧ ∀ c ∈ cs, Short c) := by
 have key : ∀ (m j fuel : Nat), cs.length - j = m → j ≤ cs.length → m < fuel → law_ChangeThroughs_l1 k cs fuel (j : Int) = some (.error true) ∨ (law_ChangeThroughs_l1 k cs fuel (j : Int) = some (.ok ()) ∧ ∀ c ∈ cs.drop j, Short c) := by
  intro m
  induction m with
  | zero =>
   intro j fuel h1 h2 h3;obtain ⟨fuel, rfl⟩ : ∃ f, fuel = f + 1 := ⟨fuel - 1, by omega⟩;have : j = cs.length := by omega
   subst this;rw [law_ChangeThroughs_l1, if_neg (by omega)];exact .inr ⟨rfl, by simp⟩
  | succ m ih =>
   intro j fuel h1 h2 h3;obtain ⟨fuel, rfl⟩ : ∃ f, fuel = f + 1 := ⟨fuel - 1, by omega⟩;have hj : j < cs.length := by omega
   obtain ⟨b, eb, hb⟩ := long_ok hk (c := cs[j]);rw [law_ChangeThroughs_l1, if_pos (by omega), geti_W hj, bs, eb, bs];cases b with
   | true => rw [if_pos rfl, hd, bs]; exact .inl rfl
   | false =>
    rw [if_neg (by decide), ck_ok (by omega) (by omega), bs];have := ih (j + 1) fuel (by omega) (by omega) (by omega);rw [show ((j + 1 : Nat) : Int) = (j : Int) + 1 by omega] at this;refine this.imp id fun ⟨g1, g2⟩ => ⟨g1, fun c hc => ?_⟩;rw [List.drop_eq_getElem_cons hj, List.mem_cons] at hc;rcases hc with rfl | hc
    ·exact hb rfl
    ·exact g2 c hc
 exact key cs.length 0 k rfl (Nat.zero_le _) (by omega)

/-- **The law.** -/
theorem throughs_law {k : Nat} (hk : 30000 ≤ k) (hd : law_dressed k = some true) (a0 : List dChange) (a1 a2 : List Int) : law_ChangeThroughs k a0 a1 a2 = some true := by
 have hk5 : 50 ≤ k := by omega
 unfold law_ChangeThroughs;by_cases hx : 20 < a0.length ∨ 20 < a1.length
 ·have : (if (20 : Int) < (a0.length : Int) then some true else some (decide ((20 : Int) < (a1.length : Int)))) = some true := by
   rcases hx with h | h
   ·rw [if_pos (by omega)]
   ·rw [decide_eq_true (show (20 : Int) < (a1.length : Int) by omega)]; simp
  rw [this, bs, if_pos rfl, hd, bs]
 ·have hl0 : a0.length ≤ 20 := by omega
  have hl1 : a1.length ≤ 20 := by omega
  rw [if_neg (show ¬ (20 : Int) < (a0.length : Int) by omega), bs, decide_eq_false (show ¬ (20 : Int) < (a1.length : Int) by omega), if_neg (by decide)];rcases longs_ok hk5 hd hl0 with e | ⟨e, hs⟩
  ·rw [e, bE_e]
  ·rw [e, bE_k, show kit_NewLots k a2 = some (a2, 0, 1) from rfl, bs];simp only;obtain ⟨r16, e16, u0, u3, hlo⟩ := upto_ok (k := k) (l := (a2, 0, 1)) (m := 0) (n := 3) newLots_ok (by decide) (by decide);obtain ⟨x14, e14, o1, o2, o3⟩ := own2_ok hk5 (l := r16.2) hlo (i0 := r16.1) ⟨u0, u3 (by decide)⟩;rw [e16, bs, e14, bs, chk_ok (okLen_of (by simp only [List.length_nil]; omega)), bs, List.nil_append]
   obtain ⟨x55, e55, m1, m2⟩ : ∃ x55, (if (0 : Int) < (a0.length : Int) then (geti a0 0).bind fun x57 => (chkP (okLen (List.length x14.1 + List.length [x57]))).bind fun _ => some (x14.1 ++ [x57]) else some x14.1) = some x55 ∧ x55.length ≤ 5 ∧ ∀ c ∈ x55, Short c := by
    by_cases h0 : (0 : Int) < (a0.length : Int)
    ·have h0' : 0 < a0.length := by omega
     refine ⟨x14.1 ++ [a0[0]], ?_, by simp; omega, fun c hc => ?_⟩
     ·rw [if_pos h0, show (0 : Int) = ((0 : Nat) : Int) from rfl, geti_W h0', bs, chk_ok (okLen_of (by simp only [List.length_cons, List.length_nil]; omega)), bs]
     ·simp only [List.mem_append, List.mem_cons, List.not_mem_nil, or_false] at hc;rcases hc with h | rfl
      ·exact (o2 c h).1
      ·exact hs _ (List.getElem_mem _)
    ·exact ⟨x14.1, by rw [if_neg h0], by omega, fun c hc => (o2 c hc).1⟩
   rw [e55, bs, copyInts_ok (by omega), bs, chk_ok (okLen_of (by simp only [List.length_cons, List.length_nil]; omega)), bs]
   have key : law_ChangeThroughs_l4 k a0 a1 x14 x55 x14.2 k 0 = some (.ok ()) := for_all0 (N := 4) (by omega) (fun m j hj => by
    have hlt : (j : Int) < (([a0, x14.1, x14.1, x55].length : Nat) : Int) := by simp; omega
    have hck : ck ((j : Int) + 1) = some ((j : Int) + 1) := ck_ok (by omega) (by omega)
    obtain ⟨cs, hcs, hcl, hcS⟩ : ∃ cs, geti [a0, x14.1, x14.1, x55] (j : Int) = some cs ∧ cs.length ≤ 20 ∧ ∀ c ∈ cs, Short c := by
     have : j = 0 ∨ j = 1 ∨ j = 2 ∨ j = 3 := by omega
     rcases this with rfl | rfl | rfl | rfl
     ·exact ⟨a0, rfl, hl0, hs⟩
     ·exact ⟨x14.1, rfl, by omega, fun c h => (o2 c h).1⟩
     ·exact ⟨x14.1, rfl, by omega, fun c h => (o2 c h).1⟩
     ·exact ⟨x55, rfl, by omega, m2⟩
    obtain ⟨rs, hrs, hrl⟩ : ∃ rs, geti [a1, x14.2, a1, x14.2 ++ [(3 : Int)]] (j : Int) = some rs ∧ rs.length ≤ 20 := by
     have : j = 0 ∨ j = 1 ∨ j = 2 ∨ j = 3 := by omega
     rcases this with rfl | rfl | rfl | rfl
     ·exact ⟨a1, rfl, hl1⟩
     ·exact ⟨x14.2, rfl, by omega⟩
     ·exact ⟨a1, rfl, hl1⟩
     ·exact ⟨_, rfl, by simp; omega⟩
    obtain ⟨r, g1, g2, g3⟩ := through_said hk hcS hcl (a1 := rs) (by omega)
    have inner : law_ChangeThroughs_l6 k a0 x14 x55 (j : Int) cs k 0 = some (.ok ()) := for_all0 (N := cs.length) (by omega) (fun m i hi => by
     have hck2 : ck ((i : Int) + 1) = some ((i : Int) + 1) := ck_ok (by omega) (by omega);simp only [law_ChangeThroughs_l6, Int.ofNat_lt, hi, if_true, geti_W hi, bs, hcs, sameChanges_self hk5 (hcS _ (List.getElem_mem hi)), not_true_eq_false, if_false, hck2]) (fun m => by simp [law_ChangeThroughs_l6])
    rw [law_ChangeThroughs_l4, if_pos hlt, copies_ok hk5 hcs hcS hcl, bs, hrs, bs, copyInts_ok (by omega), bs, g1, bs, hcs, bs, bs, g2, bs, if_neg (by simp), sameInts_self (show r.1.length < k by omega) (show r.1.length ≤ 1000000 by omega), bs, if_neg (by simp), bs, sameInts_self (show rs.length < k by omega) (show rs.length ≤ 1000000 by omega), bs];simp only [bs, Bool.not_true, Bool.false_eq_true, if_false, inner, bE_k, hck]) (fun m => by simp [law_ChangeThroughs_l4])
   rw [key, bE_k, hd, bs]
end Go.Proofs.YtfhdclhbdmhnmaaGreat
