/- Plain law: the reference's list of all plans; the fewest bars. -/
import Derived.Test.YtfhdclhbdmhnmaaGreatB6
import Derived.Test.YtfhdclhbdmhnmaaGreatB5
namespace Go.Proofs.YtfhdclhbdmhnmaaGreat
open K Go Go.Proofs

theorem flatMap_len {α β : Type} {f : α → List β} {b : Nat} : ∀ {l : List α}, (∀ x ∈ l, (f x).length ≤ b) → (l.flatMap f).length ≤ l.length * b
 | [], _ => by simp
 | x :: l, h => by
  rw [List.flatMap_cons, List.length_append, List.length_cons, Nat.succ_mul]
  have := h x (by simp)
  have := flatMap_len (l := l) (f := f) fun y hy => h y (by simp [hy])
  omega

/-- The steps of one task that can be next. -/
def stT (c : dChange) (ts : List (Bool × Int)) (done : List Int) (t m : Nat) : List dStep := ((List.range m).filter fun (d : Nat) => decide (stepErr c ts done ((t : Int), (d : Int)) = 0)).map fun (d : Nat) => ((t : Int), (d : Int))
theorem stT_succ {c : dChange} {ts : List (Bool × Int)} {done : List Int} {t m : Nat} : stT c ts done t (m + 1) = stT c ts done t m ++ (if stepErr c ts done ((t : Int), (m : Int)) = 0 then [((t : Int), (m : Int))] else []) := by
 unfold stT;rw [List.range_succ, List.filter_append, List.map_append];congr 1;by_cases h : stepErr c ts done ((t : Int), (m : Int)) = 0 <;> simp [h]
theorem stT_len {c : dChange} {ts : List (Bool × Int)} {done : List Int} {t m : Nat} : (stT c ts done t m).length ≤ m := by
 unfold stT;rw [List.length_map];exact Nat.le_trans (List.length_filter_le _ _) (by simp)

theorem range'_zero : ∀ {n : Nat}, List.range' 0 n = List.range n := fun {n} => by rw [List.range_eq_range']

theorem extL_eq {c : dChange} {ts : List (Bool × Int)} {done : List Int} : extL c ts done 0 = (List.range ts.length).flatMap fun t => stT c ts done t c.2.1.length := by
 unfold extL;rw [Nat.sub_zero, range'_zero]
 have : ∀ t ∈ List.range ts.length, (if mayB c ts done t = true then whoL c ts t 0 else []) = stT c ts done t c.2.1.length := fun t ht => by
  have htl : t < ts.length := List.mem_range.1 ht;unfold stT whoL;rw [Nat.sub_zero, range'_zero];by_cases hm : mayB c ts done t = true
  ·rw [if_pos hm];congr 1;apply List.filter_congr;intro d hd;have hdl : d < c.2.1.length := List.mem_range.1 hd;obtain ⟨m1, m2⟩ := mayB_iff.1 hm;unfold stepErr;simp only;rw [if_neg (by omega), if_neg m1, if_neg (by omega)];show canB c (d : Int) (tsk ts (t : Int)) = decide ((if canB c (d : Int) (tsk ts (t : Int)) = false then (8 : Int) else if ¬ (∀ a ∈ befL c ts t, (a : Int) ∈ done) then 5 else 0) = 0);cases canB c (d : Int) (tsk ts (t : Int)) with
   | false => simp
   | true => rw [if_neg (by simp), if_neg (by simpa using m2)]; simp
  ·rw [if_neg hm];symm;rw [List.map_eq_nil_iff, List.filter_eq_nil_iff];intro d hd h0;have h0 := of_decide_eq_true h0;refine hm (mayB_iff.2 ?_);unfold stepErr at h0;simp only at h0;have hdl : d < c.2.1.length := List.mem_range.1 hd;rw [if_neg (by omega)] at h0;by_cases a2 : (t : Int) ∈ done
   ·rw [if_pos a2] at h0; cases h0
   ·rw [if_neg a2, if_neg (by omega)] at h0;by_cases a4 : canB c (d : Int) (ts[((t : Nat) : Int).toNat]?.getD (false, 0)) = false
    ·rw [if_pos a4] at h0; cases h0
    ·rw [if_neg a4] at h0;by_cases a5 : ∀ a ∈ befL c ts ((t : Nat) : Int).toNat, (a : Int) ∈ done
     ·exact ⟨a2, a5⟩
     ·rw [if_pos a5] at h0; cases h0
 generalize List.range ts.length = l at *
 induction l with
 | nil => rfl
 | cons x l ih =>
  rw [List.flatMap_cons, List.flatMap_cons, this x (by simp), ih fun t ht => this t (by simp [ht])]

theorem gen_len {c : dChange} {ts : List (Bool × Int)} (ht : ts.length ≤ 4) (hd : c.2.1.length ≤ 3) : ∀ {r : Nat} {done : List Int} {p : List dStep}, (gen c ts r done p).length ≤ 12 ^ r
 | 0, _, _ => by simp [gen]
 | r + 1, done, p => by
  rw [gen]
  have h1 := flatMap_len (l := extL c ts done 0) (f := fun s => gen c ts r (done ++ [s.1]) (p ++ [s])) (b := 12 ^ r) fun s _ => gen_len ht hd
  have h2 : (extL c ts done 0).length ≤ 12 := by
   rw [extL_eq];have := flatMap_len (l := List.range ts.length) (f := fun t => stT c ts done t c.2.1.length) (b := 3) fun t _ => Nat.le_trans stT_len hd;rw [List.length_range] at this;omega
  have h3 := Nat.mul_le_mul_right (12 ^ r) h2;rw [Nat.pow_succ];omega

section
variable {k : Nat} {n : Int} {c : dChange} {mv : List Bool}

theorem rplans2_eq (hk : 50 ≤ k) (hc : VC n c) (hF : Fix c mv) (ht : (tsC c mv).length ≤ 4) {self : dChange → List dStep → Option (List (List dStep))} {p : List dStep} {r t : Nat} (hp : p.length ≤ 4) (hr : r ≤ 3)
 (hself : ∀ d : Nat, d < c.2.1.length → self c (p ++ [((t : Int), (d : Int))]) = some (gen c (tsC c mv) r (p.map (·.1) ++ [(t : Int)]) (p ++ [((t : Int), (d : Int))]))) {o : List (List dStep)} (ho : o.length ≤ 100000) :
 ref_plans_l2 k c p self (o, (t : Int)) k (o, 0) = some (o ++ (stT c (tsC c mv) (p.map (·.1)) t c.2.1.length).flatMap fun s => gen c (tsC c mv) r (p.map (·.1) ++ [s.1]) (p ++ [s])) := by
 have hdl := hc.dl
 have hB : 12 ^ r ≤ 1728 := by
  have := Nat.pow_le_pow_right (n := 12) (by decide) hr;exact this
 have key : W (ref_plans_l2 k c p self (o, (t : Int)) k (o, 0)) fun x => x = o ++ (stT c (tsC c mv) (p.map (·.1)) t c.2.1.length).flatMap fun s => gen c (tsC c mv) r (p.map (·.1) ++ [s.1]) (p ++ [s]) := by
  refine W.loop (f := ref_plans_l2 k c p self (o, (t : Int))) (fun m y => ∃ j : Nat, y.2 = (j : Int) ∧ j ≤ c.2.1.length ∧ m = c.2.1.length - j ∧ y.1 = o ++ (stT c (tsC c mv) (p.map (·.1)) t j).flatMap fun s => gen c (tsC c mv) r (p.map (·.1) ++ [s.1]) (p ++ [s])) ?_ c.2.1.length k (o, 0) (by omega) ⟨0, rfl, by omega, by omega, by simp [stT]⟩;rintro fuel m ⟨x, y⟩ ⟨j, hj, hle, hm, hx⟩ ih;simp only at hj hx;subst hj hx;unfold ref_plans_l2;dsimp only
  refine W.ite (fun hlt => ?_) (fun hge => W.ret (by
   have : j = c.2.1.length := by omega
   rw [this]))
  have hfl := flatMap_len (l := stT c (tsC c mv) (p.map (·.1)) t j) (f := fun s => gen c (tsC c mv) r (p.map (·.1) ++ [s.1]) (p ++ [s])) (b := 1728) fun s _ => Nat.le_trans (gen_len ht hdl.2) hB;have hsl := stT_len (c := c) (ts := tsC c mv) (done := p.map (·.1)) (t := t) (m := j);have hgl := gen_len (c := c) (ts := tsC c mv) ht hdl.2 (r := r) (done := p.map (·.1) ++ [(t : Int)]) (p := p ++ [((t : Int), (j : Int))]);have hck : ck ((j : Int) + 1) = some ((j : Int) + 1) := ck_ok (by omega) (by omega);rw [rstep_eq hk hc hF ht (by omega), bs];by_cases h0 : stepErr c (tsC c mv) (p.map (·.1)) ((t : Int), (j : Int)) = 0
  ·rw [if_pos h0, chk_ok (okLen_of (by simp only [List.length_nil]; omega)), bs, chk_ok (okLen_of (by simp only [List.nil_append, List.length_cons, List.length_nil]; omega)), bs, List.nil_append, hself j (by omega), bs, chk_ok (by unfold okLen; rw [List.length_append]; omega), bs, bs, hck, bs];refine ih (m - 1) (_, (j : Int) + 1) (by omega) ⟨j + 1, rfl, by omega, by omega, ?_⟩;simp only;rw [stT_succ, if_pos h0, List.flatMap_append, ← List.append_assoc];simp
  ·rw [if_neg h0, bs, hck, bs];refine ih (m - 1) (_, (j : Int) + 1) (by omega) ⟨j + 1, rfl, by omega, by omega, ?_⟩;simp only;rw [stT_succ, if_neg h0, List.append_nil]
 obtain ⟨x, e, rfl⟩ := key;exact e

/-- **All plans.** -/
theorem rplans_eq (hk : 50 ≤ k) (hc : VC n c) (hF : Fix c mv) (ht : (tsC c mv).length ≤ 4) : ∀ (r m : Nat) {p : List dStep}, p.length + r = (tsC c mv).length → r < m → ref_plans k m c p = some (gen c (tsC c mv) r (p.map (·.1)) p) := by
 have hdl := hc.dl;intro r
 induction r with
 | zero =>
  intro m p hp hm;obtain ⟨m, rfl⟩ : ∃ m', m = m' + 1 := ⟨m - 1, by omega⟩;rw [ref_plans, refTasks_eq hk hc hF, bs, List.length_map, if_pos (by omega), gen]
 | succ r ih =>
  intro m p hp hm;obtain ⟨m, rfl⟩ : ∃ m', m = m' + 1 := ⟨m - 1, by omega⟩;rw [ref_plans, refTasks_eq hk hc hF, bs, List.length_map, if_neg (by omega), gen, extL_eq];have hB : 12 ^ r ≤ 1728 := Nat.pow_le_pow_right (n := 12) (by decide) (show r ≤ 3 by omega)
  have key : W (ref_plans_l1 k c p (ref_plans k m) ((tsC c mv).map fun x => (x.2, x.1)) k ([], 0)) fun x => x = ((List.range (tsC c mv).length).flatMap fun t => stT c (tsC c mv) (p.map (·.1)) t c.2.1.length).flatMap fun s => gen c (tsC c mv) r (p.map (·.1) ++ [s.1]) (p ++ [s]) := by
   refine W.loop (f := ref_plans_l1 k c p (ref_plans k m) ((tsC c mv).map fun x => (x.2, x.1))) (fun m y => ∃ t : Nat, y.2 = (t : Int) ∧ t ≤ (tsC c mv).length ∧ m = (tsC c mv).length - t ∧ y.1 = ((List.range t).flatMap fun t => stT c (tsC c mv) (p.map (·.1)) t c.2.1.length).flatMap fun s => gen c (tsC c mv) r (p.map (·.1) ++ [s.1]) (p ++ [s])) ?_ (tsC c mv).length k ([], 0) (by omega) ⟨0, rfl, by omega, by omega, by simp⟩;rintro fuel mm ⟨x, y⟩ ⟨t, hj, hle, hmm, hx⟩ ih2;simp only at hj hx;subst hj hx;unfold ref_plans_l1;dsimp only;rw [List.length_map]
   refine W.ite (fun hlt => ?_) (fun hge => W.ret (by
    have : t = (tsC c mv).length := by omega
    rw [this]))
   have h1 := flatMap_len (l := (List.range t).flatMap fun t => stT c (tsC c mv) (p.map (·.1)) t c.2.1.length) (f := fun s => gen c (tsC c mv) r (p.map (·.1) ++ [s.1]) (p ++ [s])) (b := 1728) fun s _ => Nat.le_trans (gen_len ht hdl.2) hB;have h2 := flatMap_len (l := List.range t) (f := fun t => stT c (tsC c mv) (p.map (·.1)) t c.2.1.length) (b := 3) fun t _ => Nat.le_trans stT_len hdl.2;rw [List.length_range] at h2
   rw [rplans2_eq hk hc hF ht (r := r) (by omega) (by omega) (fun d hd => by
    have := ih m (p := p ++ [((t : Int), (d : Int))]) (by rw [List.length_append]; simp only [List.length_cons, List.length_nil]; omega) (by omega);rw [this, List.map_append]; rfl) (by omega), bs, ck_ok (by omega) (by omega), bs]
   refine ih2 (mm - 1) (_, (t : Int) + 1) (by omega) ⟨t + 1, rfl, by omega, by omega, ?_⟩;simp only;rw [List.range_succ, List.flatMap_append, List.flatMap_append];simp
  obtain ⟨x, e, rfl⟩ := key;rw [e, bs]

theorem rPlans_eq (hk : 50 ≤ k) (hc : VC n c) (hF : Fix c mv) (ht : (tsC c mv).length ≤ 4) : ref_Plans k c = some (plansS c (tsC c mv)) := by
 unfold ref_Plans plansS;rw [rplans_eq hk hc hF ht (tsC c mv).length k (p := []) (by simp) (by omega), bs];rfl

end
end Go.Proofs.YtfhdclhbdmhnmaaGreat

/- Plain law: copies. -/
namespace Go.Proofs.YtfhdclhbdmhnmaaGreat
open K Go Go.Proofs

theorem copyInts_ok {k : Nat} {l : List Int} (h : l.length ≤ 1000) : kit_CopyInts k l = some l := by
 unfold kit_CopyInts;rw [chkP, if_pos (okLen_of (by simpa using h))];rfl

theorem copyChange_ok {k : Nat} (hk : 50 ≤ k) {c : dChange} (h1 : c.1.length ≤ 20) (h2 : c.2.1.length ≤ 20) (h3 : ∀ t ∈ c.1, t.1.length ≤ 20) (h4 : ∀ d ∈ c.2.1, d.1.length ≤ 20) (h5 : c.2.2.1.length ≤ 20) (h6 : c.2.2.2.length ≤ 20) : kit_CopyChange k c = some c := by
 have k1 : W (kit_CopyChange_l1 k c k ([], 0)) fun r => r = c.1 := by
  refine W.loop (f := kit_CopyChange_l1 k c) (fun m y => ∃ j : Nat, y.2 = (j : Int) ∧ j ≤ c.1.length ∧ m = c.1.length - j ∧ y.1 = c.1.take j) ?_ c.1.length k _ (by omega) ⟨0, rfl, by omega, by omega, by simp⟩;rintro fuel m ⟨o, y⟩ ⟨j, hj, hle, hq, ho⟩ ih;simp only at hj ho;subst hj ho;unfold kit_CopyChange_l1;dsimp only
  refine W.ite (fun hlt => ?_) (fun hge => W.ret (by have : j = c.1.length := by omega
                                                     subst this; rw [List.take_length]))
  have hlt' : j < c.1.length := by omega
  refine W.bindE (geti_W hlt') (W.bindE (copyInts_ok (by have := h3 _ (List.getElem_mem hlt'); omega)) (W.chk (okLen_of (by simp only [List.length_take, List.length_cons, List.length_nil]; omega)) (W.ck (by omega) (by omega) (ih (m - 1) (_, (j : Int) + 1) (by omega) ⟨j + 1, ?_, by omega, by omega, ?_⟩))))
  ·show (j : Int) + 1 = ((j + 1 : Nat) : Int);omega
  ·show c.1.take j ++ [_] = _;rw [List.take_add_one, List.getElem?_eq_getElem hlt'];rfl
 have k2 : W (kit_CopyChange_l2 k c k ([], 0)) fun r => r = c.2.1 := by
  refine W.loop (f := kit_CopyChange_l2 k c) (fun m y => ∃ j : Nat, y.2 = (j : Int) ∧ j ≤ c.2.1.length ∧ m = c.2.1.length - j ∧ y.1 = c.2.1.take j) ?_ c.2.1.length k _ (by omega) ⟨0, rfl, by omega, by omega, by simp⟩;rintro fuel m ⟨o, y⟩ ⟨j, hj, hle, hq, ho⟩ ih;simp only at hj ho;subst hj ho;unfold kit_CopyChange_l2;dsimp only
  refine W.ite (fun hlt => ?_) (fun hge => W.ret (by have : j = c.2.1.length := by omega
                                                     subst this; rw [List.take_length]))
  have hlt' : j < c.2.1.length := by omega
  refine W.bindE (geti_W hlt') (W.bindE (copyInts_ok (by have := h4 _ (List.getElem_mem hlt'); omega)) (W.chk (okLen_of (by simp only [List.length_take, List.length_cons, List.length_nil]; omega)) (W.ck (by omega) (by omega) (ih (m - 1) (_, (j : Int) + 1) (by omega) ⟨j + 1, ?_, by omega, by omega, ?_⟩))))
  ·show (j : Int) + 1 = ((j + 1 : Nat) : Int);omega
  ·show c.2.1.take j ++ [_] = _;rw [List.take_add_one, List.getElem?_eq_getElem hlt'];rfl
 obtain ⟨x1, e1, rfl⟩ := k1;obtain ⟨x2, e2, rfl⟩ := k2;unfold kit_CopyChange;rw [copyInts_ok (by omega), copyInts_ok (by omega), e1, e2];rfl

end Go.Proofs.YtfhdclhbdmhnmaaGreat

/- Plain law: copies, as they are made where the order is open. -/
namespace Go.Proofs.YtfhdclhbdmhnmaaGreat
open K Go Go.Proofs

theorem copyChangeF_ok {k : Nat} (hk : 50 ≤ k) {c : dChange} (h1 : c.1.length ≤ 20) (h2 : c.2.1.length ≤ 20) (h3 : ∀ t ∈ c.1, t.1.length ≤ 20) (h4 : ∀ d ∈ c.2.1, d.1.length ≤ 20) (h5 : c.2.2.1.length ≤ 20) (h6 : c.2.2.2.length ≤ 20) : kit_CopyChangeF k c = some c := by
 have k1 : W (kit_CopyChangeF_l1 k c k ([], 0)) fun r => r = c.1 := by
  refine W.loop (f := kit_CopyChangeF_l1 k c) (fun m y => ∃ j : Nat, y.2 = (j : Int) ∧ j ≤ c.1.length ∧ m = c.1.length - j ∧ y.1 = c.1.take j) ?_ c.1.length k _ (by omega) ⟨0, rfl, by omega, by omega, by simp⟩;rintro fuel m ⟨o, y⟩ ⟨j, hj, hle, hq, ho⟩ ih;simp only at hj ho;subst hj ho;unfold kit_CopyChangeF_l1;dsimp only
  refine W.ite (fun hlt => ?_) (fun hge => W.ret (by have : j = c.1.length := by omega
                                                     subst this; rw [List.take_length]))
  have hlt' : j < c.1.length := by omega
  refine W.bindE (geti_W hlt') (W.bindE (copyInts_ok (by have := h3 _ (List.getElem_mem hlt'); omega)) (W.chk (okLen_of (by simp only [List.length_take, List.length_cons, List.length_nil]; omega)) (W.ck (by omega) (by omega) (ih (m - 1) (_, (j : Int) + 1) (by omega) ⟨j + 1, ?_, by omega, by omega, ?_⟩))))
  ·show (j : Int) + 1 = ((j + 1 : Nat) : Int);omega
  ·show c.1.take j ++ [_] = _;rw [List.take_add_one, List.getElem?_eq_getElem hlt'];rfl
 have k2 : W (kit_CopyChangeF_l2 k c k ([], 0)) fun r => r = c.2.1 := by
  refine W.loop (f := kit_CopyChangeF_l2 k c) (fun m y => ∃ j : Nat, y.2 = (j : Int) ∧ j ≤ c.2.1.length ∧ m = c.2.1.length - j ∧ y.1 = c.2.1.take j) ?_ c.2.1.length k _ (by omega) ⟨0, rfl, by omega, by omega, by simp⟩;rintro fuel m ⟨o, y⟩ ⟨j, hj, hle, hq, ho⟩ ih;simp only at hj ho;subst hj ho;unfold kit_CopyChangeF_l2;dsimp only
  refine W.ite (fun hlt => ?_) (fun hge => W.ret (by have : j = c.2.1.length := by omega
                                                     subst this; rw [List.take_length]))
  have hlt' : j < c.2.1.length := by omega
  refine W.bindE (geti_W hlt') (W.bindE (copyInts_ok (by have := h4 _ (List.getElem_mem hlt'); omega)) (W.chk (okLen_of (by simp only [List.length_take, List.length_cons, List.length_nil]; omega)) (W.ck (by omega) (by omega) (ih (m - 1) (_, (j : Int) + 1) (by omega) ⟨j + 1, ?_, by omega, by omega, ?_⟩))))
  ·show (j : Int) + 1 = ((j + 1 : Nat) : Int);omega
  ·show c.2.1.take j ++ [_] = _;rw [List.take_add_one, List.getElem?_eq_getElem hlt'];rfl
 obtain ⟨x1, e1, rfl⟩ := k1;obtain ⟨x2, e2, rfl⟩ := k2;unfold kit_CopyChangeF;rw [copyInts_ok (by omega), copyInts_ok (by omega), e1, e2];rfl

end Go.Proofs.YtfhdclhbdmhnmaaGreat

/- Plain law: the changes of a law that compares with the reference. -/
namespace Go.Proofs.YtfhdclhbdmhnmaaGreat
open K Go Go.Proofs

/-- A loop that only looks, from the start. -/
theorem for_all0 {ε : Type} {f : Nat → Int → Option (Except ε Unit)} {N k : Nat} (hk : N < k) (step : ∀ n (j : Nat), j < N → f (n + 1) (j : Int) = f n ((j : Int) + 1)) (stop : ∀ n, f (n + 1) (N : Int) = some (.ok ())) : f k 0 = some (.ok ()) := by
 have key : ∀ (m j n : Nat), N - j = m → j ≤ N → m < n → f n (j : Int) = some (.ok ()) := by
  intro m
  induction m with
  | zero =>
   intro j n h1 h2 h3;obtain ⟨n, rfl⟩ : ∃ n', n = n' + 1 := ⟨n - 1, by omega⟩;have : j = N := by omega
   subst this;exact stop n
  | succ m ih =>
   intro j n h1 h2 h3;obtain ⟨n, rfl⟩ : ∃ n', n = n' + 1 := ⟨n - 1, by omega⟩;rw [step n j (by omega)];exact ih (j + 1) n (by omega) (by omega) (by omega)
 exact key N 0 k rfl (Nat.zero_le _) hk

theorem sameChanges_self {k : Nat} (hk : 50 ≤ k) {c : dChange} (hs : Short c) : kit_SameChanges k c c = some true := by
 have h1 := hs.things;have h2 := hs.dressers;have h3 := hs.wears;have h4 := hs.wants
 have k1 : kit_SameChanges_l1 k c c k 0 = some (.ok ()) := for_all0 (N := c.1.length) (by omega) (fun n j hj => by
  have := hs.over _ (List.getElem_mem hj);have hck : ck ((j : Int) + 1) = some ((j : Int) + 1) := ck_ok (by omega) (by omega);simp only [kit_SameChanges_l1, Int.ofNat_lt, hj, if_true, geti_W hj, bs, sameInts_self (show (c.1[j]).1.length < k by omega) (show (c.1[j]).1.length ≤ 1000000 by omega), not_true_eq_false, if_false, hck, decide_true, Bool.not_true, Bool.false_eq_true]) (fun n => by simp [kit_SameChanges_l1])
 have k2 : kit_SameChanges_l2 k c c k 0 = some (.ok ()) := for_all0 (N := c.2.1.length) (by omega) (fun n j hj => by
  have := hs.can _ (List.getElem_mem hj);have hck : ck ((j : Int) + 1) = some ((j : Int) + 1) := ck_ok (by omega) (by omega);simp only [kit_SameChanges_l2, Int.ofNat_lt, hj, if_true, geti_W hj, bs, sameInts_self (show (c.2.1[j]).1.length < k by omega) (show (c.2.1[j]).1.length ≤ 1000000 by omega), not_true_eq_false, if_false, hck, decide_true, Bool.not_true, Bool.false_eq_true]) (fun n => by simp [kit_SameChanges_l2])
 unfold kit_SameChanges;simp only [sameInts_self (show c.2.2.1.length < k by omega) (show c.2.2.1.length ≤ 1000000 by omega), sameInts_self (show c.2.2.2.length < k by omega) (show c.2.2.2.length ≤ 1000000 by omega), bs, not_true_eq_false, if_false, decide_true, Bool.not_true, Bool.false_eq_true, k1, k2, bE_k]

theorem copy_short {k : Nat} (hk : 50 ≤ k) {c : dChange} (hs : Short c) : kit_CopyChange k c = some c := copyChange_ok hk hs.things hs.dressers hs.over hs.can hs.wears hs.wants
theorem copyF_short {k : Nat} (hk : 50 ≤ k) {c : dChange} (hs : Short c) : kit_CopyChangeF k c = some c := copyChangeF_ok hk hs.things hs.dressers hs.over hs.can hs.wears hs.wants
theorem short_of_vc {n : Int} {c : dChange} (hc : VC n c) : Short c := by
 obtain ⟨w1, w2, w3, w4, w5⟩ := hc.wl;have := hc.dl;exact ⟨by omega, by omega, by omega, by omega, fun t h => by have := w4 t h; omega, fun d h => by have := w5 d h; omega⟩

/-- A loop over a list that leaves at the first that is too long. -/
theorem long_loop {α : Type} {l : List α} {g : α → Nat} {f : Nat → Int → Option (Except Bool Unit)} {k : Nat} (hk : l.length < k) (step : ∀ n (j : Nat) (h : j < l.length), f (n + 1) (j : Int) = if 20 < g l[j] then some (.error true) else f n ((j : Int) + 1)) (stop : ∀ n, f (n + 1) (l.length : Int) = some (.ok ())) :
 W (f k 0) fun r => r = .error true ∨ (r = .ok () ∧ ∀ x ∈ l, g x ≤ 20) := by
 have key : ∀ (m j n : Nat), l.length - j = m → j ≤ l.length → m < n → W (f n (j : Int)) fun r => r = .error true ∨ (r = .ok () ∧ ∀ x ∈ l.drop j, g x ≤ 20) := by
  intro m
  induction m with
  | zero =>
   intro j n h1 h2 h3;obtain ⟨n, rfl⟩ : ∃ n', n = n' + 1 := ⟨n - 1, by omega⟩;have : j = l.length := by omega
   subst this;exact ⟨_, stop n, .inr ⟨rfl, by simp⟩⟩
  | succ m ih =>
   intro j n h1 h2 h3;obtain ⟨n, rfl⟩ : ∃ n', n = n' + 1 := ⟨n - 1, by omega⟩;have hj : j < l.length := by omega
   rw [step n j hj];by_cases hg : 20 < g l[j]
   ·rw [if_pos hg]; exact ⟨_, rfl, .inl rfl⟩
   ·rw [if_neg hg];obtain ⟨r, e, h⟩ := ih (j + 1) n (by omega) (by omega) (by omega);refine ⟨r, e, h.imp id fun ⟨h1, h2⟩ => ⟨h1, fun x hx => ?_⟩⟩;rw [List.drop_eq_getElem_cons hj, List.mem_cons] at hx;rcases hx with rfl | hx
    ·omega
    ·exact h2 x hx
 exact key l.length 0 k rfl (Nat.zero_le _) hk

theorem long_ok {k : Nat} (hk : 50 ≤ k) {c : dChange} : W (law_long k c) fun r => r = false → Short c := by
 unfold law_long;by_cases h1 : (20 : Int) < (c.1.length : Int)
 ·rw [if_pos h1, bs, if_pos rfl]; exact ⟨_, rfl, fun h => (nomatch h)⟩
 by_cases h2 : (20 : Int) < (c.2.1.length : Int)
 ·rw [if_neg h1, if_pos h2, bs, if_pos rfl]; exact ⟨_, rfl, fun h => (nomatch h)⟩
 by_cases h3 : (20 : Int) < (c.2.2.1.length : Int)
 ·rw [if_neg h1, if_neg h2, if_pos h3, bs, if_pos rfl]; exact ⟨_, rfl, fun h => (nomatch h)⟩
 by_cases h4 : (20 : Int) < (c.2.2.2.length : Int)
 ·rw [if_neg h1, if_neg h2, if_neg h3, bs, if_pos (decide_eq_true h4)]; exact ⟨_, rfl, fun h => (nomatch h)⟩
 rw [if_neg h1, if_neg h2, if_neg h3, bs, if_neg (by simpa using h4)]
 obtain ⟨r1, e1, g1⟩ := long_loop (l := c.1) (g := fun t => t.1.length) (f := law_long_l1 k c) (k := k) (by omega) (fun n j h => by
  have hck : ck ((j : Int) + 1) = some ((j : Int) + 1) := ck_ok (by omega) (by omega);simp only [law_long_l1, Int.ofNat_lt, h, if_true, geti_W h, bs, hck];by_cases hx : 20 < (c.1[j]).1.length
  ·rw [if_pos (by omega), if_pos hx]
  ·rw [if_neg (by omega), if_neg hx]) (fun n => by simp [law_long_l1])
 obtain ⟨r2, e2, g2⟩ := long_loop (l := c.2.1) (g := fun t => t.1.length) (f := law_long_l2 k c) (k := k) (by omega) (fun n j h => by
  have hck : ck ((j : Int) + 1) = some ((j : Int) + 1) := ck_ok (by omega) (by omega);simp only [law_long_l2, Int.ofNat_lt, h, if_true, geti_W h, bs, hck];by_cases hx : 20 < (c.2.1[j]).1.length
  ·rw [if_pos (by omega), if_pos hx]
  ·rw [if_neg (by omega), if_neg hx]) (fun n => by simp [law_long_l2])
 rw [e1, e2];rcases g1 with rfl | ⟨rfl, g1⟩
 ·rw [bE_e]; exact ⟨_, rfl, fun h => (nomatch h)⟩
 rcases g2 with rfl | ⟨rfl, g2⟩
 ·rw [bE_k, bE_e]; exact ⟨_, rfl, fun h => (nomatch h)⟩
 rw [bE_k, bE_k];exact ⟨_, rfl, fun _ => ⟨by omega, by omega, by omega, by omega, g1, g2⟩⟩

/-- **The changes of a law.** -/
theorem sets_ok2 {k : Nat} (hk : 50 ≤ k) {c : dChange} (hs : Short c) {l : dLots} {m : Int} (hl : Lo l m) (hm : 0 ≤ m ∧ m ≤ 1000) : W (law_sets k c l) fun r => Lo r.2 (m + 310) ∧ r.1.length = 4 ∧ (∀ x ∈ r.1, Short x) ∧ r.1[0]? = some c ∧ ∃ c1, r.1[1]? = some c1 ∧ ∃ n mv q, VC n c1 ∧ chg_begin k c1 = some (some q, 0) ∧ QV n c1 mv q := by
 obtain ⟨r2, e2, hlo, _, n, mv, q, hc, hbg, hq⟩ := lots_ok hk hl hm;have hs2 := short_of_vc hc;have hn := hc.n4;have hl2 := hc.len;have hd2 := hc.dl;obtain ⟨r9, e9, _, _, h9⟩ := upto_ok (k := k) (n := 2) hlo (by omega) (by decide);unfold law_sets;rw [e2, bs, copy_short hk hs2, bs]
 have fin : ∀ (x : (List dThing) × (List dDresser) × (List Int) × (List Int) × Int × Int), Lo (x.2.2.2.1, x.2.2.2.2.1, x.2.2.2.2.2) (m + 310) → Short (x.1, x.2.1, r2.1.2.2.1, x.2.2.1) →
  W ((some x).bind fun x7 => some ([c, r2.1, (x7.1, x7.2.1, r2.1.2.2.1, x7.2.2.1), r2.1], (x7.2.2.2.1, x7.2.2.2.2.1, x7.2.2.2.2.2))) fun r => Lo r.2 (m + 310) ∧ r.1.length = 4 ∧ (∀ x ∈ r.1, Short x) ∧ r.1[0]? = some c ∧ ∃ c1, r.1[1]? = some c1 ∧ ∃ n mv q, VC n c1 ∧ chg_begin k c1 = some (some q, 0) ∧ QV n c1 mv q := fun x h1 h2 => by
  refine W.ret ⟨h1, rfl, fun y hy => ?_, rfl, _, rfl, n, mv, q, hc, hbg, hq⟩;simp only [List.mem_cons, List.not_mem_nil, or_false] at hy;rcases hy with rfl | rfl | rfl | rfl
  ·exact hs
  ·exact hs2
  ·exact h2
  ·exact hs2
 rw [show kit_Lots_Upto k (r2.2.1, r2.2.2.1, r2.2.2.2) 2 = some r9 from e9, bs];by_cases c0 : r9.1 = 0
 ·rw [if_pos c0, copyInts_ok (by have := hs.wants; omega), bs];exact fin _ (h9.mono (by omega)) ⟨hs2.things, hs2.dressers, hs2.wears, hs.wants, hs2.over, hs2.can⟩
 rw [if_neg c0];by_cases c1 : r9.1 = 1
 ·rw [if_pos c1];by_cases hp : (0 : Int) < (c.1.length : Int)
  ·rw [if_pos hp, ck_ok (by omega) (by omega), bs];obtain ⟨r14, e14, a14, b14, h14⟩ := upto_ok (k := k) (n := (r2.1.1.length : Int) - 1) h9 (by omega) (by omega);rw [show kit_Lots_Upto k (r9.2.1, r9.2.2.1, r9.2.2.2) _ = some r14 from e14, bs, copyF_short hk hs, bs];have b14 := b14 (by omega);have hg0 : 0 < c.1.length := by omega
   rw [show geti c.1 0 = some c.1[0] from geti_W (i := 0) hg0, bs, geti_at a14 (by omega), bs];refine fin _ (h14.mono (by omega)) ⟨by simpa using hs2.things, hs2.dressers, hs2.wears, hs2.wants, fun t ht => ?_, hs2.can⟩;rcases List.mem_or_eq_of_mem_set ht with h | rfl
   ·exact hs2.over t h
   ·exact hs.over _ (List.getElem_mem hg0)
  ·rw [if_neg hp];exact fin _ (h9.mono (by omega)) hs2
 rw [if_neg c1];by_cases c2 : r9.1 = 2
 ·rw [if_pos c2];by_cases hp : (0 : Int) < (c.2.1.length : Int)
  ·rw [if_pos hp, ck_ok (by omega) (by omega), bs];obtain ⟨r14, e14, a14, b14, h14⟩ := upto_ok (k := k) (n := (r2.1.2.1.length : Int) - 1) h9 (by omega) (by omega);rw [show kit_Lots_Upto k (r9.2.1, r9.2.2.1, r9.2.2.2) _ = some r14 from e14, bs, copyF_short hk hs, bs];have b14 := b14 (by omega);have hg0 : 0 < c.2.1.length := by omega
   rw [show geti c.2.1 0 = some c.2.1[0] from geti_W (i := 0) hg0, bs, geti_at a14 (by omega), bs];refine fin _ (h14.mono (by omega)) ⟨hs2.things, by simpa using hs2.dressers, hs2.wears, hs2.wants, hs2.over, fun t ht => ?_⟩;rcases List.mem_or_eq_of_mem_set ht with h | rfl
   ·exact hs2.can t h
   ·exact hs.can _ (List.getElem_mem hg0)
  ·rw [if_neg hp];exact fin _ (h9.mono (by omega)) hs2
 ·rw [if_neg c2];exact fin _ (h9.mono (by omega)) hs2

theorem bool_of (p : Prop) : ∃ b : Bool, b = true ↔ p := by
 by_cases h : p
 ·exact ⟨true, by simp [h]⟩
 ·exact ⟨false, by simp [h]⟩

end Go.Proofs.YtfhdclhbdmhnmaaGreat

/- Plain law: what the program and the reference say of any short change and plan. -/
namespace Go.Proofs.YtfhdclhbdmhnmaaGreat
open K Go Go.Proofs

/-- A short change is wrong for both, in one way, or good for both. -/
theorem ask_cases {k : Nat} (hk : 50 ≤ k) {c : dChange} (hs : Short c) : (∃ e : Int, e ≠ 0 ∧ chg_begin k c = some (none, e) ∧ ref_asked k c = some e) ∨ ∃ n mv q, QV n c mv q ∧ chg_begin k c = some (some q, 0) ∧ ref_asked k c = some 0 := by
 obtain ⟨b, hb⟩ := bool_of (∃ i, Rch c i i);by_cases h : chkS c b = 0
 ·have hc := vc_of_chk hs hb h;obtain ⟨mv, hF⟩ := hc.fix;have ha := refAsked_eq hk hs hb (fun _ => hF);rw [if_neg (by simp [h])] at ha;by_cases h4 : 4 < (tsC c mv).length
  ·rw [if_pos h4] at ha;exact .inl ⟨6, by decide, (begin_ok hk hc hF).1 h4, ha⟩
  ·rw [if_neg h4] at ha;obtain ⟨q, hbg, hq⟩ := (begin_ok hk hc hF).2 (by omega);exact .inr ⟨_, mv, q, hq, hbg, ha⟩
 ·have ha := refAsked_eq hk hs hb (mv := []) (fun h' => absurd h' h);rw [if_pos h] at ha;refine .inl ⟨_, h, ?_, ha⟩;unfold chg_begin;rw [chgCheck_eq hk hs hb, bs, if_pos h]

end Go.Proofs.YtfhdclhbdmhnmaaGreat

/- Plain law: the reference's first step that is late, and its first plan that keeps all. -/
namespace Go.Proofs.YtfhdclhbdmhnmaaGreat
open K Go Go.Proofs

abbrev noB : Int → Bool := fun _ => false

section
variable {k : Nat} {n : Int} {c : dChange} {mv : List Bool}

theorem lateS_i {ts : List (Bool × Int)} {E : Nat → Int} {but : Int → Bool} {p : List dStep} : (lateS c ts E but p).1 = match p.findIdx? (lateI c ts E but) with | some i => (i : Int) | none => -1 := by
 unfold lateS;cases p.findIdx? _ <;> rfl

/-- The end of a step's task, at the plan's end. -/
theorem bge_eAt {p : List dStep} (h0 : cpS c (tsC c mv) p = 0) {j : Nat} {s : dStep} (hj : p[j]? = some s) : bge c (tsC c mv) E0 (F0 c) p s.1.toNat = eAt c (tsC c mv) p j s := by
 obtain ⟨hl, hgo⟩ := cpS_ok h0;have hs : ∀ s ∈ p, StepOk c (tsC c mv) s := fun s h => ((cpGo_ok hgo).1 s h).1;have hn := (cpGo_ok hgo).2;have hjl := (List.getElem?_eq_some_iff.1 hj).1;have := bst_end (c := c) (ts := tsC c mv) (p := p) (fun s h => (hs s h).1) hn hj (i := p.length) hjl (Nat.le_refl _);rw [List.take_length, bst_bge] at this;exact this

/-- **The first step that is late.** -/
theorem rlate_eq (hk : 50 ≤ k) (hc : VC n c) (hF : Fix c mv) (ht : (tsC c mv).length ≤ 4) {p : List dStep} (h0 : cpS c (tsC c mv) p = 0) :
 ref_late k c p = some (lateS c (tsC c mv) (bge c (tsC c mv) E0 (F0 c) p) noB p).1 := by
 obtain ⟨hl, hgo⟩ := cpS_ok h0;obtain ⟨w1, w2, w3, _⟩ := hc.wl;have hs : ∀ s ∈ p, StepOk c (tsC c mv) s := fun s h => ((cpGo_ok hgo).1 s h).1;unfold ref_late;rw [refTasks_eq hk hc hF, bs, rbegins_eq hk hc hF ht h0, bs]
 have hstep : ∀ m (j : Nat) (hj : j < p.length), ref_late_l1 k c p ((tsC c mv).map fun x => (x.2, x.1)) (bgo c (tsC c mv) E0 (F0 c) p) (m + 1) (j : Int) = if lateI c (tsC c mv) (bge c (tsC c mv) E0 (F0 c) p) noB p[j] = true then some (.error (j : Int)) else ref_late_l1 k c p ((tsC c mv).map fun x => (x.2, x.1)) (bgo c (tsC c mv) E0 (F0 c) p) m ((j : Int) + 1) := fun m j hj => by
  have hg := List.getElem?_eq_getElem hj;have hS := hs _ (List.getElem_mem hj);obtain ⟨i0, hi0, ei0⟩ := tsC_rng _ (tsk_mem hS);have hB := bAt_bnd hc hs hg (by omega);have hR := barsB_nonneg hc hS;have hgb : geti (bgo c (tsC c mv) E0 (F0 c) p) (j : Int) = some (bAt c (tsC c mv) p j p[j]) := geti_q (by omega) (by simpa using bgo_b hg);have hck : ck ((j : Int) + 1) = some ((j : Int) + 1) := ck_ok (by omega) (by omega);have hck2 : ck (bAt c (tsC c mv) p j p[j] + barsB c (tsk (tsC c mv) p[j].1)) = some (eAt c (tsC c mv) p j p[j]) := ck_ok (by omega) (by omega);have hE := bge_eAt h0 hg;have htg := geti_thg (c := c) (x := (tsk (tsC c mv) p[j].1).2) (by omega) (by omega);have hlt : (j : Int) < (p.length : Int) := by omega
  rw [ref_late_l1, if_pos hlt, geti_W hj, bs, tsk_sw hS, bs];simp only [htg, bs];have htk2 := rtakes_eq (k := k) (tsk_mem hS);simp only [hgb, bs, htk2, hck2, hck];unfold lateI;rw [hE];generalize (tsk (tsC c mv) p[j].1).1 = b1;generalize (thg c (tsk (tsC c mv) p[j].1).2).2.2.2.2 = due;cases b1
  ·simp
  ·by_cases d1 : 0 < due
   ·by_cases d2 : due < eAt c (tsC c mv) p j p[j] <;> simp [d1, d2]
   ·simp [d1]
 have hstop : ∀ m, ref_late_l1 k c p ((tsC c mv).map fun x => (x.2, x.1)) (bgo c (tsC c mv) E0 (F0 c) p) (m + 1) (p.length : Int) = some (.ok ()) := fun m => by simp [ref_late_l1]
 rw [lateS_i];cases hf : p.findIdx? (lateI c (tsC c mv) (bge c (tsC c mv) E0 (F0 c) p) noB) with
 | none =>
  have hn := List.findIdx?_eq_none_iff.1 hf
  have key := for_all0 (f := ref_late_l1 k c p ((tsC c mv).map fun x => (x.2, x.1)) (bgo c (tsC c mv) E0 (F0 c) p)) (N := p.length) (k := k) (by omega) (fun m j hj => by
   rw [hstep m j hj, if_neg (by rw [hn _ (List.getElem_mem hj)]; decide)]) hstop
  rw [key, bE_k]
 | some i =>
  obtain ⟨hi, h1, h2⟩ := List.findIdx?_eq_some_iff_getElem.1 hf
  have key := for_find (f := ref_late_l1 k c p ((tsC c mv).map fun x => (x.2, x.1)) (bgo c (tsC c mv) E0 (F0 c) p)) (e := (i : Int)) p.length i hi (fun m j hj => by
   rw [hstep m j (by omega), if_neg (by simpa using h2 j hj)]) (fun m => by rw [hstep m i hi, if_pos h1]) k (by omega)
  rw [key, bE_e]

/-- **The first plan that keeps all.** -/
theorem rkept_eq (hk : 30000 ≤ k) (hc : VC n c) (hF : Fix c mv) (ht : (tsC c mv).length ≤ 4) :
 ref_kept k c = some (match (plansS c (tsC c mv)).find? (keepsB c (tsC c mv) noB) with | some p => (p, true) | none => ([], false)) := by
 have hk5 : 50 ≤ k := by omega
 have hl : (plansS c (tsC c mv)).length ≤ 20736 := Nat.le_trans (gen_len ht hc.dl.2) (Nat.pow_le_pow_right (n := 12) (by decide) ht);have hm : ∀ p ∈ plansS c (tsC c mv), ref_late k c p = some (lateS c (tsC c mv) (bge c (tsC c mv) E0 (F0 c) p) noB p).1 := fun p hp => rlate_eq hk5 hc hF ht (mem_plansS.1 hp);unfold ref_kept;rw [rPlans_eq hk5 hc hF ht, bs];generalize plansS c (tsC c mv) = L at *
 have hstep : ∀ m (j : Nat) (hj : j < L.length), ref_kept_l1 k c L (m + 1) (j : Int) = if keepsB c (tsC c mv) noB L[j] = true then some (.error (L[j], true)) else ref_kept_l1 k c L m ((j : Int) + 1) := fun m j hj => by
  have hck : ck ((j : Int) + 1) = some ((j : Int) + 1) := ck_ok (by omega) (by omega);have hlt : (j : Int) < (L.length : Int) := by omega
  rw [ref_kept_l1, if_pos hlt, geti_W hj, bs, hm _ (List.getElem_mem hj), bs];simp only [bs, hck];unfold keepsB;by_cases d : (lateS c (tsC c mv) (bge c (tsC c mv) E0 (F0 c) L[j]) noB L[j]).1 < 0 <;> simp [d]
 have hstop : ∀ m, ref_kept_l1 k c L (m + 1) (L.length : Int) = some (.ok ()) := fun m => by simp [ref_kept_l1]
 cases hf : L.find? (keepsB c (tsC c mv) noB) with
 | none =>
  have hn := List.find?_eq_none.1 hf
  have key := for_all0 (f := ref_kept_l1 k c L) (N := L.length) (k := k) (by omega) (fun m j hj => by
   rw [hstep m j hj, if_neg (hn _ (List.getElem_mem hj))]) hstop
  rw [key, bE_k]
 | some p =>
  obtain ⟨h1, i, hi, h2, h3⟩ := List.find?_eq_some_iff_getElem.1 hf
  have key := for_find (f := ref_kept_l1 k c L) (e := (p, true)) L.length i hi (fun m j hj => by
   rw [hstep m j (by omega), if_neg (by simpa using h3 j hj)]) (fun m => by rw [hstep m i hi, h2, if_pos h1]) k (by omega)
  rw [key, bE_e]

end

/-- What the program and the reference say of it. -/
theorem late_said {k : Nat} (hk : 50 ≤ k) {c : dChange} (hs : Short c) {p : List dStep} (hp : p.length ≤ 20) : ∃ r, chg_Late k c p = some r ∧ ref_Late k c p = some r := by
 rcases ask_cases hk hs with ⟨e, he, h1, h2⟩ | ⟨n, mv, q, hq, h1, h2⟩
 ·refine ⟨(0, 0, e), ?_, ?_⟩
  ·unfold chg_Late chg_asked;rw [h1, bs, co_none, if_pos he, bs, co_none, if_pos he]
  ·unfold ref_Late ref_checkPlan;rw [h2, bs, if_pos he, bs, if_pos he]
 ·have ht := hq.t4;have hc := hq.vc;refine ⟨_, Late_eq hk hq h1 (by omega), ?_⟩;unfold ref_Late;rw [rplan_eq hk hq.vc hq.fix ht h2, bs];by_cases h0 : cpS c (tsC c mv) p = 0
  ·rw [if_neg (by simp [h0]), if_pos h0, rlate_eq hk hc hq.fix ht h0, bs, lateS_i];unfold lateS;cases hf : p.findIdx? (lateI c (tsC c mv) (bge c (tsC c mv) E0 (F0 c) p) noB) with
   | none => simp
   | some i =>
    obtain ⟨hi, _⟩ := List.findIdx?_eq_some_iff_getElem.1 hf;obtain ⟨hl, hgo⟩ := cpS_ok h0;have hS := ((cpGo_ok hgo).1 _ (List.getElem_mem hi)).1;obtain ⟨i0, hi0, ei0⟩ := tsC_rng _ (tsk_mem hS);simp only;rw [if_neg (by omega), refTasks_eq hk hc hq.fix, bs, geti_W hi, bs, tsk_sw hS, bs];simp only;rw [geti_thg (by omega) (by omega), bs, List.getElem?_eq_getElem hi];rfl
  ·rw [if_pos h0, if_neg h0]
theorem kept_said {k : Nat} (hk : 30000 ≤ k) {c : dChange} (hs : Short c) : ∃ r, chg_Kept k c = some r ∧ ref_Kept k c = some r ∧ r.1.length ≤ 20 := by
 have hk5 : 50 ≤ k := by omega
 rcases ask_cases hk5 hs with ⟨e, he, h1, h2⟩ | ⟨n, mv, q, hq, h1, h2⟩
 ·refine ⟨([], e), ?_, ?_, by simp⟩
  ·unfold chg_Kept;rw [h1, bs, co_none, if_pos he]
  ·unfold ref_Kept;rw [h2, bs, if_pos he]
 ·have ht := hq.t4;refine ⟨_, Kept_eq hk5 hq h1, ?_, ?_⟩
  ·unfold ref_Kept;rw [h2, bs, if_neg (by simp), rkept_eq hk hq.vc hq.fix ht, bs];cases (plansS c (tsC c mv)).find? (keepsB c (tsC c mv) noB) <;> simp
  ·cases hf : (plansS c (tsC c mv)).find? (keepsB c (tsC c mv) fun _ => false) with
   | none => simp
   | some p =>
    have := (cpS_ok (mem_plansS.1 (List.mem_of_find?_eq_some hf))).1;simp only; omega
end Go.Proofs.YtfhdclhbdmhnmaaGreat

/- Plain law: a change with some Dues given up. -/
namespace Go.Proofs.YtfhdclhbdmhnmaaGreat
open K Go Go.Proofs

/-- Without the Dues of some things. -/
def giveT (b : Bool) (t : dThing) : dThing := if b = true then (t.1, t.2.1, t.2.2.1, t.2.2.2.1, 0) else t
def wO (c : dChange) (B : Nat → Bool) : dChange := (c.1.mapIdx fun i t => giveT (B i) t, c.2)

section
variable {c : dChange} {B : Nat → Bool}
theorem giveT_1 {b : Bool} {t : dThing} : (giveT b t).1 = t.1 := by unfold giveT; split <;> rfl
theorem giveT_2 {b : Bool} {t : dThing} : (giveT b t).2.1 = t.2.1 := by unfold giveT; split <;> rfl
theorem giveT_3 {b : Bool} {t : dThing} : (giveT b t).2.2.1 = t.2.2.1 := by unfold giveT; split <;> rfl
theorem giveT_4 {b : Bool} {t : dThing} : (giveT b t).2.2.2.1 = t.2.2.2.1 := by unfold giveT; split <;> rfl
theorem giveT_5 {b : Bool} {t : dThing} : (giveT b t).2.2.2.2 = if b = true then 0 else t.2.2.2.2 := by unfold giveT; split <;> rfl
theorem wO_get {i : Nat} : (wO c B).1[i]? = (c.1[i]?).map (giveT (B i)) := by
 unfold wO;rw [List.getElem?_mapIdx]
theorem wO_len : (wO c B).1.length = c.1.length := by unfold wO; exact List.length_mapIdx
theorem wO_2 : (wO c B).2 = c.2 := rfl

theorem wO_thg {x : Int} : thg (wO c B) x = giveT (B x.toNat) (thg c x) := by
 unfold thg;rw [wO_get];cases c.1[x.toNat]? with
 | none => unfold giveT; split <;> rfl
 | some t => rfl

theorem wO_stp {i j : Nat} : Stp (wO c B) i j ↔ Stp c i j := by
 unfold Stp;rw [wO_get];constructor
 ·rintro ⟨t, h, hj⟩;cases e : c.1[i]? with
  | none => rw [e] at h; cases h
  | some t' =>
   rw [e] at h;cases h;rw [giveT_1] at hj;exact ⟨t', rfl, hj⟩
 ·rintro ⟨t, h, hj⟩;rw [h];exact ⟨_, rfl, by rw [giveT_1]; exact hj⟩
theorem wO_rch {i j : Nat} : Rch (wO c B) i j ↔ Rch c i j := by
 constructor
 ·intro h
  induction h with
  | one h => exact .one (wO_stp.1 h)
  | cons h _ ih => exact .cons (wO_stp.1 h) ih
 ·intro h
  induction h with
  | one h => exact .one (wO_stp.2 h)
  | cons h _ ih => exact .cons (wO_stp.2 h) ih

theorem wO_short (hs : Short c) : Short (wO c B) :=
 ⟨by rw [wO_len]; exact hs.things, hs.dressers, hs.wears, hs.wants, fun t ht => by
  obtain ⟨i, hi⟩ := List.mem_iff_getElem?.1 ht
  rw [wO_get] at hi
  cases e : c.1[i]? with
  | none => rw [e] at hi; cases hi
  | some t' =>
   rw [e] at hi
   cases hi
   rw [giveT_1]
   exact hs.over t' (List.mem_of_getElem? e), hs.can⟩

theorem giveT_E {n : Int} {i : Nat} {b : Bool} {t : dThing} (h : thE n i t = 0) : thE n i (giveT b t) = 0 := by
 unfold thE at h ⊢;rw [giveT_1, giveT_2, giveT_3, giveT_4, giveT_5];by_cases a1 : ¬ lstE n (i : Int) none t.1 = 0
 ·rw [if_pos a1] at h; exact absurd h a1
 ·rw [if_neg a1] at h ⊢;by_cases a2 : ¬ (1 ≤ t.2.1 ∧ t.2.1 ≤ 4) ∨ ¬ (1 ≤ t.2.2.1 ∧ t.2.2.1 ≤ 4)
  ·rw [if_pos a2] at h; cases h
  ·rw [if_neg a2] at h ⊢;by_cases a3 : ¬ (0 ≤ t.2.2.2.1 ∧ t.2.2.2.1 ≤ 2)
   ·rw [if_pos a3] at h; cases h
   ·rw [if_neg a3] at h ⊢;by_cases a4 : ¬ (0 ≤ t.2.2.2.2 ∧ t.2.2.2.2 ≤ 30)
    ·rw [if_pos a4] at h; cases h
    ·cases b with
     | true => simp
     | false => rw [if_neg]; simpa using a4

theorem wO_chk {b : Bool} (h : chkS c b = 0) : chkS (wO c B) b = 0 := by
 have key : fstE (thE (c.1.length : Int)) 0 c.1 = 0 → fstE (thE (c.1.length : Int)) 0 (wO c B).1 = 0 := fun h => by
  rw [fstE_zero] at h ⊢;intro i x hx;rw [wO_get] at hx;cases e : c.1[i]? with
  | none => rw [e] at hx; cases hx
  | some t' =>
   rw [e] at hx;cases hx;exact giveT_E (h i t' e)
 unfold chkS at h ⊢;rw [wO_len, wO_2];by_cases z1 : szE c.1.length 4 = 0
 ·rw [if_neg (by simp [z1])] at h ⊢;by_cases z2 : fstE (thE (c.1.length : Int)) 0 c.1 = 0
  ·rw [if_neg (by simp [z2])] at h;rw [if_neg (by simp [key z2])];exact h
  ·rw [if_pos z2] at h; exact absurd h z2
 ·rw [if_pos z1] at h; exact absurd h z1

/-- **A valid change without some Dues is valid.** -/
theorem wO_vc {n : Int} (hs : Short c) (hc : VC n c) : VC n (wO c B) := by
 obtain ⟨b, hb⟩ := bool_of (∃ i, Rch c i i)
 have h0 : chkS c b = 0 := by
  have e := hc.chk 50 (by decide);rw [chgCheck_eq (by decide) hs hb] at e;exact Option.some.inj e
 have hl : n = (c.1.length : Int) := by have := hc.len; omega
 have := vc_of_chk (c := wO c B) (wO_short hs) (b := b) (by rw [hb]; exact exists_congr fun i => wO_rch.symm) (wO_chk h0);rw [wO_len, ← hl] at this;exact this

theorem wO_forced {M : Nat → Prop} {i : Nat} : Forced (wO c B) M i ↔ Forced c M i := by
 unfold Forced;rw [wO_2];refine or_congr Iff.rfl (and_congr Iff.rfl (and_congr Iff.rfl ⟨?_, ?_⟩))
 ·rintro ⟨k, t, h, hM, hi⟩;rw [wO_get] at h;cases e : c.1[k]? with
  | none => rw [e] at h; cases h
  | some t' =>
   rw [e] at h;cases h;rw [giveT_1] at hi;exact ⟨k, t', e, hM, hi⟩
 ·rintro ⟨k, t, h, hM, hi⟩;exact ⟨k, giveT (B k) t, by rw [wO_get, h]; rfl, hM, by rw [giveT_1]; exact hi⟩
theorem wO_fix {mv : List Bool} (h : Fix c mv) : Fix (wO c B) mv := by
 have hS : ∀ C, Shut (wO c B) C ↔ Shut c C := fun C => by
  unfold Shut;rw [wO_len];exact forall_congr' fun i => forall_congr' fun _ => by rw [wO_forced]
 exact ⟨by rw [wO_len]; exact h.len, fun C hC => h.sound C ((hS C).1 hC), (hS _).2 h.shut⟩

theorem wO_ts {mv : List Bool} : tsC (wO c B) mv = tsC c mv := by unfold tsC; rw [wO_len]; rfl
theorem wO_canB {d : Int} {w : Bool × Int} : canB (wO c B) d w = canB c d w := by unfold canB; rw [wO_thg, giveT_4]; rfl
theorem wO_barsB {w : Bool × Int} : barsB (wO c B) w = barsB c w := by unfold barsB; rw [wO_thg, giveT_2, giveT_3]
theorem wO_befL {ts : List (Bool × Int)} {b : Nat} : befL (wO c B) ts b = befL c ts b := by
 unfold befL bef befB;simp only [wO_thg, giveT_1]
theorem wO_extL {ts : List (Bool × Int)} {done : List Int} {t : Nat} : extL (wO c B) ts done t = extL c ts done t := by
 unfold extL whoL mayB;simp only [wO_canB, wO_befL];rfl
theorem wO_gen {ts : List (Bool × Int)} : ∀ {r : Nat} {done : List Int} {p : List dStep}, gen (wO c B) ts r done p = gen c ts r done p
 | 0, _, _ => rfl
 | r + 1, done, p => by
  rw [gen, gen, wO_extL]
  congr 1
  funext s
  exact wO_gen
theorem wO_plans {ts : List (Bool × Int)} : plansS (wO c B) ts = plansS c ts := wO_gen
theorem wO_bge {ts : List (Bool × Int)} : ∀ {p : List dStep} {E F : Nat → Int}, bge (wO c B) ts E F p = bge c ts E F p
 | [], _, _ => rfl
 | s :: p, E, F => by
  rw [bge, bge]
  have : bgEnd (wO c B) ts E F s = bgEnd c ts E F s := by unfold bgEnd bgAt; rw [wO_barsB, wO_befL]
  rw [this]
  exact wO_bge
theorem wO_late {ts : List (Bool × Int)} {E : Nat → Int} {s : dStep} : lateI (wO c B) ts E noB s = lateI c ts E (fun x => B x.toNat) s := by
 unfold lateI;rw [wO_thg, giveT_5];simp only;generalize B (tsk ts s.1).2.toNat = b;cases b <;> simp
/-- **What it keeps.** -/
theorem wO_keeps {ts : List (Bool × Int)} {p : List dStep} : keepsB (wO c B) ts noB p = keepsB c ts (fun x => B x.toNat) p := by
 unfold keepsB;rw [lateS_i, lateS_i, wO_bge];have : lateI (wO c B) ts (bge c ts E0 (F0 (wO c B)) p) noB = lateI c ts (bge c ts E0 (F0 c) p) (fun x => B x.toNat) := funext fun s => wO_late;rw [this]
end
end Go.Proofs.YtfhdclhbdmhnmaaGreat

/- Plain law: the Dues that must be given up: all lists of things, by how many and in order. -/
namespace Go.Proofs.YtfhdclhbdmhnmaaGreat
open K Go Go.Proofs

/-- All lists of m things from lo on, in order. -/
def subL (n : Nat) : Nat → Nat → List (List Int)
 | 0, _ => [[]]
 | m + 1, lo => (List.range' lo (n - lo)).flatMap fun (i : Nat) => (subL n m (i + 1)).map fun l => (i : Int) :: l
theorem subL_mem {n : Nat} : ∀ {m lo : Nat} {l : List Int}, l ∈ subL n m lo → l.length = m ∧ ∀ x ∈ l, 0 ≤ x ∧ x < (n : Int)
 | 0, lo, l, h => by
  simp only [subL, List.mem_singleton] at h
  subst h
  simp
 | m + 1, lo, l, h => by
  rw [subL, List.mem_flatMap] at h
  obtain ⟨i, hi, h⟩ := h
  rw [List.mem_map] at h
  obtain ⟨l', h', rfl⟩ := h
  obtain ⟨h1, h2⟩ := subL_mem h'
  rw [List.mem_range'_1] at hi
  refine ⟨by rw [List.length_cons, h1], fun x hx => ?_⟩
  rcases List.mem_cons.1 hx with rfl | hx
  ·
   omega
  ·
   exact h2 x hx
theorem subL_len {n : Nat} (hn : n ≤ 4) : ∀ {m lo : Nat}, (subL n m lo).length ≤ 4 ^ m
 | 0, _ => by simp [subL]
 | m + 1, lo => by
  rw [subL]
  have h1 := flatMap_len (l := List.range' lo (n - lo)) (f := fun (i : Nat) => (subL n m (i + 1)).map fun l => (i : Int) :: l) (b := 4 ^ m) fun i _ => by rw [List.length_map]; exact subL_len hn
  rw [List.length_range'] at h1
  have h2 := Nat.mul_le_mul_right (4 ^ m) (show n - lo ≤ 4 by omega)
  rw [Nat.pow_succ]
  omega

/-- All lists of things, the short ones first. -/
def allL (n m : Nat) : List (List Int) := (List.range' m (n + 1 - m)).flatMap fun m => subL n m 0
theorem allL_mem {n m : Nat} {l : List Int} (h : l ∈ allL n m) : l.length ≤ n ∧ ∀ x ∈ l, 0 ≤ x ∧ x < (n : Int) := by
 unfold allL at h;rw [List.mem_flatMap] at h;obtain ⟨i, hi, h⟩ := h;obtain ⟨h1, h2⟩ := subL_mem h;rw [List.mem_range'_1] at hi;exact ⟨by omega, h2⟩

/-- Handing over one after the other, as long as more are wanted. -/
def runL {σ α : Type} (Y : σ → α → Option (σ × Bool)) : σ → List α → Option (σ × Bool)
 | s, [] => some (s, true)
 | s, p :: l => (Y s p).bind fun r => if r.2 = true then runL Y r.1 l else some r
theorem runL_append {σ α : Type} {Y : σ → α → Option (σ × Bool)} : ∀ {l m : List α} {s : σ}, runL Y s (l ++ m) = (runL Y s l).bind fun r => if r.2 = true then runL Y r.1 m else some r
 | [], m, s => by simp [runL]
 | p :: l, m, s => by
  simp only [List.cons_append, runL]
  cases hY : Y s p with
  | none => simp
  | some r =>
   simp only [Option.bind_some]
   by_cases hr : r.2 = true
   ·
    rw [if_pos hr, if_pos hr]; exact runL_append
   ·
    rw [if_neg hr, if_neg hr]; simp [hr]

def resL {σ : Type} (p : List Int) (r : σ × Bool) : Except (Bool × List Int × σ) (List Int × σ) := if r.2 = true then .ok (p, r.1) else .error (false, p, r.1)

section
variable {k : Nat} {σ : Type} {Y : σ → List Int → Option (σ × Bool)}

theorem sub1_eq {n m' : Nat} (hn : n ≤ 4) {a1 : Int} (ha1 : a1 = (m' : Int) + 1) (hm' : m' ≤ 4) {p : List Int} (hp : p.length ≤ 8) {self : Int → Int → List Int → σ → Option (Bool × List Int × σ)}
 (hself : ∀ (i : Nat) (s : σ), i < n → self ((i : Int) + 1) (m' : Int) (p ++ [(i : Int)]) s = (runL Y s ((subL n m' (i + 1)).map fun l => (p ++ [(i : Int)]) ++ l)).bind fun r => some (r.2, p ++ [(i : Int)], r.1)) :
 ∀ (d i fuel : Nat) (s : σ), n - i = d → i ≤ n → d < fuel → chg_subsets_1_1_l1 k a1 (n : Int) self fuel (p, (i : Int), s) =
  (runL Y s (((List.range' i (n - i)).flatMap fun (i : Nat) => (subL n m' (i + 1)).map fun l => (i : Int) :: l).map fun l => p ++ l)).bind fun r => some (resL p r) := by
 intro d
 induction d with
 | zero =>
  intro i fuel s h1 h2 h3;obtain ⟨fuel, rfl⟩ : ∃ f, fuel = f + 1 := ⟨fuel - 1, by omega⟩;have : i = n := by omega
  subst this;rw [chg_subsets_1_1_l1, if_neg (by simp)];simp [runL, resL]
 | succ d ih =>
  intro i fuel s h1 h2 h3;obtain ⟨fuel, rfl⟩ : ∃ f, fuel = f + 1 := ⟨fuel - 1, by omega⟩;have hi : i < n := by omega
  have hck : ck ((i : Int) + 1) = some ((i : Int) + 1) := ck_ok (by omega) (by omega);have ih' := fun s => ih (i + 1) fuel s (by omega) (by omega) (by omega);have ed : ((i + 1 : Nat) : Int) = (i : Int) + 1 := by omega
  rw [ed] at ih';rw [chg_subsets_1_1_l1];dsimp only;rw [if_pos (by omega), chk_ok (okLen_of (by simp only [List.length_cons, List.length_nil]; omega)), bs, hck, bs, ck_ok (by omega) (by omega), bs, show a1 - 1 = (m' : Int) by omega, hself i s hi];rw [range'_cons hi, List.flatMap_cons, List.map_append, List.map_map, runL_append];have e1 : ((fun l => p ++ l) ∘ fun (l : List Int) => (i : Int) :: l) = fun l => (p ++ [(i : Int)]) ++ l := by funext l; simp
  rw [e1];cases hR : runL Y s ((subL n m' (i + 1)).map fun l => (p ++ [(i : Int)]) ++ l) with
  | none => simp
  | some x =>
   obtain ⟨s', b⟩ := x;simp only [bs];have hl : ((p ++ [(i : Int)]).length : Int) - 1 = (p.length : Int) := by simp
   rw [hl, ck_ok (by omega) (by omega), bs, chk_ok ⟨by omega, by simp; omega⟩, bs];have htk : List.take (Int.toNat (p.length : Int)) (p ++ [(i : Int)]) = p := by simp
   rw [htk];cases b with
   | false => simp only [Bool.false_eq_true, not_false_eq_true, if_true, if_false, bs, resL]
   | true =>
    simp only [not_true_eq_false, if_false, if_true];exact ih' s'

theorem sub_eq (hk : 50 ≤ k) {n : Nat} (hn : n ≤ 4) : ∀ (m M : Nat) {lo : Nat} {p : List Int} {s : σ}, m ≤ 4 → p.length + m ≤ 8 → lo ≤ n → m < M →
 chg_subsets_1_1 k Y (n : Int) M (lo : Int) (m : Int) p s = (runL Y s ((subL n m lo).map fun l => p ++ l)).bind fun r => some (r.2, p, r.1) := by
 intro m
 induction m with
 | zero =>
  intro M lo p s _ hp _ hM;obtain ⟨M, rfl⟩ : ∃ m', M = m' + 1 := ⟨M - 1, by omega⟩;rw [chg_subsets_1_1, if_pos (by simp)];unfold slc_Clone_int;rw [chk_ok (okLen_of (by omega)), bs, bs];simp only [subL, List.map_cons, List.map_nil, List.append_nil, runL];cases Y s p with
  | none => rfl
  | some r =>
   simp only [bs];obtain ⟨s', b⟩ := r;cases b <;> simp
 | succ m ih =>
  intro M lo p s hm hp hlo hM;obtain ⟨M, rfl⟩ : ∃ m', M = m' + 1 := ⟨M - 1, by omega⟩;rw [chg_subsets_1_1, if_neg (by omega)]
  have e := sub1_eq (Y := Y) (k := k) hn (a1 := ((m + 1 : Nat) : Int)) (m' := m) (by omega) (by omega) (p := p) (by omega) (self := chg_subsets_1_1 k Y (n : Int) M)
   (fun i s hi => by
    have := ih M (lo := i + 1) (p := p ++ [(i : Int)]) (s := s) (by omega) (by rw [List.length_append]; simp only [List.length_cons, List.length_nil]; omega) (by omega) (by omega);rw [show ((i + 1 : Nat) : Int) = (i : Int) + 1 by omega] at this;exact this) (n - lo) lo k s rfl hlo (by omega)
  rw [e, subL];cases runL Y s _ with
  | none => simp [K.bE]
  | some r =>
   obtain ⟨s', b⟩ := r;simp only [bs];cases b with
   | true => simp only [resL, if_true, bE_k]
   | false => simp only [resL, Bool.false_eq_true, if_false, bE_e]

theorem subs_l1 (hk : 50 ≤ k) {n : Nat} (hn : n ≤ 4) : ∀ (d m fuel : Nat) (s : σ), n + 1 - m = d → m ≤ n + 1 → d < fuel → chg_subsets_1_l1 k (n : Int) Y ((n : Int) + 1) fuel ([], (m : Int), s) = (runL Y s (allL n m)).bind fun r => some r.1 := by
 intro d
 induction d with
 | zero =>
  intro m fuel s h1 h2 h3;obtain ⟨fuel, rfl⟩ : ∃ f, fuel = f + 1 := ⟨fuel - 1, by omega⟩;have : m = n + 1 := by omega
  subst this;rw [chg_subsets_1_l1, if_neg (by simp)];simp [allL, runL]
 | succ d ih =>
  intro m fuel s h1 h2 h3;obtain ⟨fuel, rfl⟩ : ∃ f, fuel = f + 1 := ⟨fuel - 1, by omega⟩;have hm : m < n + 1 := by omega
  have hck : ck ((m : Int) + 1) = some ((m : Int) + 1) := ck_ok (by omega) (by omega);have ih' := fun s => ih (m + 1) fuel s (by omega) (by omega) (by omega);have ed : ((m + 1 : Nat) : Int) = (m : Int) + 1 := by omega
  rw [ed] at ih';have e := sub_eq (Y := Y) hk hn m k (lo := 0) (p := []) (s := s) (by omega) (by simp; omega) (by omega) (by omega);rw [chg_subsets_1_l1];dsimp only;rw [if_pos (by omega), show (0 : Int) = ((0 : Nat) : Int) from rfl, e]
  have hall : allL n m = subL n m 0 ++ allL n (m + 1) := by
   unfold allL;rw [range'_cons hm, List.flatMap_cons]
  rw [hall, runL_append];simp only [List.nil_append, List.map_id'];cases runL Y s (subL n m 0) with
  | none => simp
  | some r =>
   obtain ⟨s', b⟩ := r;simp only [bs];cases b with
   | true =>
    simp only [not_true_eq_false, if_false, if_true, hck, bs];exact ih' s'
   | false => simp

/-- **All lists are handed over.** -/
theorem subsets_eq (hk : 50 ≤ k) {n : Nat} (hn : n ≤ 4) {s : σ} : chg_subsets_1 k Y (n : Int) s = (runL Y s (allL n 0)).bind fun r => some r.1 := by
 unfold chg_subsets_1;rw [ck_ok (by omega) (by omega), bs];exact subs_l1 hk hn (n + 1) 0 k s (by omega) (by omega) (by omega)
end

/-- The reference's lists. -/
theorem picks2_eq {k : Nat} {n m i : Nat} (hn : n ≤ 4) (hm : m ≤ 3) {o : List (List Int)} (ho : o.length ≤ 300) (hk : 300 ≤ k) :
 ref_picks_l2 k (o, (i : Int)) (subL n m (i + 1)) k (o, 0) = some (o ++ (subL n m (i + 1)).map fun l => (i : Int) :: l) := by
 have hsl := subL_len hn (m := m) (lo := i + 1);have h64 : 4 ^ m ≤ 64 := Nat.pow_le_pow_right (n := 4) (by decide) hm;have hmem : ∀ l ∈ subL n m (i + 1), l.length ≤ 4 := fun l hl => by have := (subL_mem hl).1; omega
 generalize subL n m (i + 1) = L at *
 have key : W (ref_picks_l2 k (o, (i : Int)) L k (o, 0)) fun x => x = o ++ L.map fun l => (i : Int) :: l := by
  refine W.loop (f := ref_picks_l2 k (o, (i : Int)) L) (fun m y => ∃ j : Nat, y.2 = (j : Int) ∧ j ≤ L.length ∧ m = L.length - j ∧ y.1 = o ++ (L.take j).map fun l => (i : Int) :: l) ?_ L.length k (o, 0) (by omega) ⟨0, rfl, by omega, by omega, by simp⟩;rintro fuel m ⟨x, y⟩ ⟨j, hj, hle, hm, hx⟩ ih;simp only at hj hx;subst hj hx;unfold ref_picks_l2;dsimp only
  refine W.ite (fun hlt => ?_) (fun hge => W.ret (by
   have : j = L.length := by omega
   rw [this, List.take_length]))
  have hlt' : j < L.length := by omega
  have h4 := hmem _ (List.getElem_mem hlt');have htl : (L.take j).length ≤ 64 := by rw [List.length_take]; omega
  rw [geti_W hlt', bs, chk_ok (okLen_of (by simp only [List.length_cons, List.length_nil]; omega)), bs, chk_ok (okLen_of (by simp only [List.length_append, List.length_map, List.length_cons, List.length_nil]; omega)), bs, ck_ok (by omega) (by omega), bs];refine ih (m - 1) (_, (j : Int) + 1) (by omega) ⟨j + 1, rfl, by omega, by omega, ?_⟩;simp only;rw [List.take_add_one, List.getElem?_eq_getElem hlt', List.map_append, ← List.append_assoc];rfl
 obtain ⟨x, e, rfl⟩ := key;exact e

theorem picks_eq {k : Nat} (hk : 300 ≤ k) {n : Nat} (hn : n ≤ 4) : ∀ (m M : Nat) {lo : Nat}, m ≤ 4 → lo ≤ n → m < M → ref_picks k M (lo : Int) (n : Int) (m : Int) = some (subL n m lo) := by
 intro m
 induction m with
 | zero =>
  intro M lo _ _ hM;obtain ⟨M, rfl⟩ : ∃ m', M = m' + 1 := ⟨M - 1, by omega⟩;rw [ref_picks, if_pos (by simp), subL]
 | succ m ih =>
  intro M lo hm hlo hM;obtain ⟨M, rfl⟩ : ∃ m', M = m' + 1 := ⟨M - 1, by omega⟩;rw [ref_picks, if_neg (by omega), subL];have h64 : 4 ^ m ≤ 64 := Nat.pow_le_pow_right (n := 4) (by decide) (show m ≤ 3 by omega)
  have key : W (ref_picks_l1 k (n : Int) ((m + 1 : Nat) : Int) (ref_picks k M) k ([], (lo : Int))) fun x => x = (List.range' lo (n - lo)).flatMap fun (i : Nat) => (subL n m (i + 1)).map fun l => (i : Int) :: l := by
   refine W.loop (f := ref_picks_l1 k (n : Int) ((m + 1 : Nat) : Int) (ref_picks k M)) (fun q y => ∃ i : Nat, y.2 = (i : Int) ∧ lo ≤ i ∧ i ≤ n ∧ q = n - i ∧ y.1 = (List.range' lo (i - lo)).flatMap fun (i : Nat) => (subL n m (i + 1)).map fun l => (i : Int) :: l) ?_ (n - lo) k ([], (lo : Int)) (by omega) ⟨lo, rfl, by omega, hlo, by omega, by simp⟩;rintro fuel q ⟨x, y⟩ ⟨i, hj, h1, h2, hq, hx⟩ ih2;simp only at hj hx;subst hj hx;unfold ref_picks_l1;dsimp only
   refine W.ite (fun hlt => ?_) (fun hge => W.ret (by
    have : i = n := by omega
    rw [this]))
   have hfl := flatMap_len (l := List.range' lo (i - lo)) (f := fun (i : Nat) => (subL n m (i + 1)).map fun l => (i : Int) :: l) (b := 64) fun i _ => by rw [List.length_map]; exact Nat.le_trans (subL_len hn) h64
   rw [List.length_range'] at hfl;have hck : ck ((i : Int) + 1) = some ((i : Int) + 1) := ck_ok (by omega) (by omega);have e := ih M (lo := i + 1) (by omega) (by omega) (by omega);rw [show ((i + 1 : Nat) : Int) = (i : Int) + 1 by omega] at e;rw [hck, bs, ck_ok (by omega) (by omega), bs, show ((m + 1 : Nat) : Int) - 1 = (m : Int) by omega, e, bs, picks2_eq hn (by omega) (by omega) hk, bs, bs];refine ih2 (q - 1) (_, (i : Int) + 1) (by omega) ⟨i + 1, rfl, by omega, by omega, by omega, ?_⟩;simp only;rw [show i + 1 - lo = (i - lo) + 1 by omega, List.range'_concat, List.flatMap_append, show lo + 1 * (i - lo) = i by omega];simp
  obtain ⟨x, e, rfl⟩ := key;rw [e, bs]

/-- A change without the Dues of a list of things. -/
abbrev wL (c : dChange) (l : List Int) : dChange := wO c fun i => decide ((i : Int) ∈ l)
theorem without_eq {k : Nat} (hk : 50 ≤ k) {c : dChange} (hs : Short c) {l : List Int} (hl : l.length ≤ 20) (hr : ∀ x ∈ l, 0 ≤ x ∧ x < (c.1.length : Int)) : ref_Without k c l = some (wL c l) := by
 have h20 := hs.things;unfold ref_Without;rw [chk_ok (okLen_of (by simp only [List.length_nil]; omega)), bs, List.nil_append]
 have key : W (ref_Without_l1 k l k (c.1, 0)) fun r => ∀ i : Nat, r[i]? = (c.1[i]?).map (giveT (decide ((i : Int) ∈ l))) := by
  refine W.loop (f := ref_Without_l1 k l) (fun m y => ∃ j : Nat, y.2 = (j : Int) ∧ j ≤ l.length ∧ m = l.length - j ∧ ∀ i : Nat, y.1[i]? = (c.1[i]?).map (giveT (decide ((i : Int) ∈ l.take j)))) ?_ l.length k (c.1, 0) (by omega)
   ⟨0, rfl, by omega, by omega, fun i => by cases c.1[i]? <;> simp [giveT]⟩
  rintro fuel m ⟨x, y⟩ ⟨j, hj, hle, hm, hx⟩ ih;simp only at hj hx;subst hj;unfold ref_Without_l1;dsimp only
  refine W.ite (fun hlt => ?_) (fun hge => W.ret (by
   have : j = l.length := by omega
   rw [this, List.take_length] at hx;exact hx))
  have hlt' : j < l.length := by omega
  have hrj := hr _ (List.getElem_mem hlt');have hcl : (l[j]).toNat < c.1.length := by omega
  have hxj : x[(l[j]).toNat]? = some (giveT (decide (((l[j]).toNat : Int) ∈ l.take j)) c.1[(l[j]).toNat]) := by rw [hx, List.getElem?_eq_getElem hcl]; rfl
  have hxl := (List.getElem?_eq_some_iff.1 hxj).1;rw [geti_W hlt', bs, geti_q hrj.1 hxj, bs, ck_ok (by omega) (by omega), bs];refine ih (m - 1) (_, (j : Int) + 1) (by omega) ⟨j + 1, rfl, by omega, by omega, fun i => ?_⟩;simp only;rw [List.getElem?_set, giveT_1, giveT_2, giveT_3, giveT_4];by_cases e : (l[j]).toNat = i
  ·subst e
   rw [if_pos rfl, if_pos hxl, List.getElem?_eq_getElem hcl, decide_eq_true (p := (((l[j]).toNat : Nat) : Int) ∈ l.take (j + 1)) (by
    rw [List.take_add_one, List.getElem?_eq_getElem hlt', List.mem_append];exact .inr (by simp; omega))]
   rfl
  ·rw [if_neg e, hx]
   have : ((i : Int) ∈ l.take (j + 1)) ↔ ((i : Int) ∈ l.take j) := by
    rw [List.take_add_one, List.getElem?_eq_getElem hlt', List.mem_append];simp only [Option.toList_some, List.mem_singleton];exact ⟨fun h => h.resolve_right fun h => e (by omega), .inl⟩
   rw [decide_eq_decide.2 this]
 obtain ⟨r, e, h⟩ := key;rw [e, bs]
 have : r = (wL c l).1 := by
  apply List.ext_getElem?;intro i;rw [h, wO_get]
 rw [this];rfl

section
variable {k : Nat} {n : Int} {c : dChange} {mv : List Bool}

/-- Does a plan keep all but these? -/
def keptL (c : dChange) (ts : List (Bool × Int)) (l : List Int) : Bool := ((plansS c ts).find? (keepsB c ts fun x => decide (((x.toNat : Nat) : Int) ∈ l))).isSome

theorem rkeptL (hk : 30000 ≤ k) (hs : Short c) (hc : VC n c) (hF : Fix c mv) (ht : (tsC c mv).length ≤ 4) {l : List Int} : W (ref_kept k (wL c l)) fun r => r.2 = keptL c (tsC c mv) l := by
 have e := rkept_eq hk (wO_vc (B := fun i => decide ((i : Int) ∈ l)) hs hc) (wO_fix hF) (by rw [wO_ts]; exact ht);rw [wO_ts, wO_plans] at e;refine ⟨_, e, ?_⟩;unfold keptL;have : keepsB (wL c l) (tsC c mv) noB = keepsB c (tsC c mv) fun x => decide (((x.toNat : Nat) : Int) ∈ l) := funext fun p => wO_keeps;rw [this];cases (plansS c (tsC c mv)).find? _ <;> rfl

theorem ckeptL (hk : 50 ≤ k) {q : dQuick} (h : QV n c mv q) {l : List Int} (hl : l.length ≤ 20) (hr : ∀ x ∈ l, 0 ≤ x ∧ x < 8) : W ((chg_of k l).bind fun r14 => chg_quick_kept k q r14) fun r => r.2 = keptL c (tsC c mv) l := by
 obtain ⟨m, e, hm, hh⟩ := of_set_ok hk hl hr;rw [e, bs];refine ⟨_, kept_eq hk h hm, ?_⟩;unfold keptL;have : (fun x : Int => decide (Has m x.toNat)) = fun x => decide (((x.toNat : Nat) : Int) ∈ l) := funext fun x => decide_eq_decide.2 (hh _);rw [this];cases (plansS c (tsC c mv)).find? _ <;> rfl

/-- **The reference's answer.** -/
theorem rGives_eq (hk : 30000 ≤ k) (hs : Short c) (hc : VC n c) (hF : Fix c mv) (ht : (tsC c mv).length ≤ 4) (ha : ref_asked k c = some 0) :
 ref_Gives k c = some (match (allL c.1.length 0).find? (keptL c (tsC c mv)) with | some l => (l, 0) | none => ([], 11)) := by
 have h4 : c.1.length ≤ 4 := by have := hc.n4; have := hc.len; omega
 have l2 : ∀ (m : Nat), m ≤ 4 → ref_Gives_l2 k c (subL c.1.length m 0) k 0 = some (match (subL c.1.length m 0).find? (keptL c (tsC c mv)) with | some l => .error (l, 0) | none => .ok ()) := fun m hm => by
  have hsl := subL_len h4 (m := m) (lo := 0);have h256 : 4 ^ m ≤ 256 := Nat.pow_le_pow_right (n := 4) (by decide) hm;have hmem : ∀ l ∈ subL c.1.length m 0, l.length = m ∧ ∀ x ∈ l, 0 ≤ x ∧ x < (c.1.length : Int) := fun l hl => subL_mem hl;generalize subL c.1.length m 0 = L at *
  have hstep : ∀ f (j : Nat) (hj : j < L.length), ref_Gives_l2 k c L (f + 1) (j : Int) = if keptL c (tsC c mv) L[j] = true then some (.error (L[j], 0)) else ref_Gives_l2 k c L f ((j : Int) + 1) := fun f j hj => by
   have hmj := hmem _ (List.getElem_mem hj);have hlt : (j : Int) < (L.length : Int) := by omega
   have hck : ck ((j : Int) + 1) = some ((j : Int) + 1) := ck_ok (by omega) (by omega);obtain ⟨r, e, hr⟩ := rkeptL hk hs hc hF ht (l := L[j]);rw [ref_Gives_l2, if_pos hlt, geti_W hj, bs, without_eq (by omega) hs (by omega) hmj.2, bs, e, bs, hr];simp only [bs, hck]
  have hstop : ∀ f, ref_Gives_l2 k c L (f + 1) (L.length : Int) = some (.ok ()) := fun f => by simp [ref_Gives_l2]
  cases hf : L.find? (keptL c (tsC c mv)) with
  | none =>
   have hn := List.find?_eq_none.1 hf;exact for_all0 (f := ref_Gives_l2 k c L) (N := L.length) (k := k) (by omega) (fun f j hj => by rw [hstep f j hj, if_neg (hn _ (List.getElem_mem hj))]) hstop
  | some p =>
   obtain ⟨h1, i, hi, h2, h3⟩ := List.find?_eq_some_iff_getElem.1 hf
   exact for_find (f := ref_Gives_l2 k c L) (e := (p, (0 : Int))) L.length i hi (fun f j hj => by
    rw [hstep f j (by omega), if_neg (by simpa using h3 j hj)]) (fun f => by rw [hstep f i hi, h2, if_pos h1]) k (by omega)
 have l1 : ∀ (d m fuel : Nat), c.1.length + 1 - m = d → m ≤ c.1.length + 1 → d < fuel → ref_Gives_l1 k c fuel (m : Int) = some (match (allL c.1.length m).find? (keptL c (tsC c mv)) with | some l => .error (l, 0) | none => .ok ()) := by
  intro d
  induction d with
  | zero =>
   intro m fuel h1 h2 h3;obtain ⟨fuel, rfl⟩ : ∃ f, fuel = f + 1 := ⟨fuel - 1, by omega⟩;have : m = c.1.length + 1 := by omega
   subst this;rw [ref_Gives_l1, if_neg (by omega)];simp [allL]
  | succ d ih =>
   intro m fuel h1 h2 h3;obtain ⟨fuel, rfl⟩ : ∃ f, fuel = f + 1 := ⟨fuel - 1, by omega⟩;have hm : m < c.1.length + 1 := by omega
   have ih' := ih (m + 1) fuel (by omega) (by omega) (by omega);rw [show ((m + 1 : Nat) : Int) = (m : Int) + 1 by omega] at ih'
   have hall : allL c.1.length m = subL c.1.length m 0 ++ allL c.1.length (m + 1) := by
    unfold allL;rw [range'_cons hm, List.flatMap_cons]
   have e := picks_eq (k := k) (by omega) h4 m k (lo := 0) (by omega) (by omega) (by omega);rw [ref_Gives_l1, if_pos (by omega), show (0 : Int) = ((0 : Nat) : Int) from rfl, e, bs, show ((0 : Nat) : Int) = (0 : Int) from rfl, l2 m (by omega), hall, List.find?_append];cases (subL c.1.length m 0).find? (keptL c (tsC c mv)) with
   | some l => simp only [bE_e, Option.some_or]
   | none =>
    simp only [bE_k, Option.none_or];rw [ck_ok (by omega) (by omega), bs];exact ih'
 unfold ref_Gives;have := l1 (c.1.length + 1) 0 k (by omega) (by omega) (by omega);rw [ha, bs, if_neg (by simp), show (0 : Int) = ((0 : Nat) : Int) from rfl, this];cases (allL c.1.length 0).find? (keptL c (tsC c mv)) with
 | some l => simp only [bE_e]; rfl
 | none => simp only [bE_k]

/-- **The program's answer.** -/
theorem cGives_eq (hk : 50 ≤ k) {q : dQuick} (h : QV n c mv q) (hb : chg_begin k c = some (some q, 0)) :
 chg_Gives k c = some (match (allL c.1.length 0).find? (keptL c (tsC c mv)) with | some l => (l, 0) | none => ([], 11)) := by
 have hc := h.vc;have h4 : c.1.length ≤ 4 := by have := hc.n4; have := hc.len; omega
 have hcq : (((q.1.1, q.1.2.1, q.1.2.2.1, q.1.2.2.2), q.2.1, q.2.2) : dQuick) = q := rfl;unfold chg_Gives;rw [hb, bs, co_some, if_neg (by simp)];simp only [hcq];rw [h.eq, subsets_eq hk h4]
 have key : ∀ L : List (List Int), (∀ l ∈ L, l.length ≤ c.1.length ∧ ∀ x ∈ l, 0 ≤ x ∧ x < (c.1.length : Int)) → runL (stopY (fun (y10 : List Int) (p12 : List Int) =>
  (chg_of k p12).bind fun r14 =>
  (chg_quick_kept k q r14).bind fun r15 =>
  if r15.2 = true then (some (p12, false)) else (some (y10, true)))) ([], false) L =
  some (match L.find? (keptL c (tsC c mv)) with | some l => ((l, true), false) | none => (([], false), true)) := by
  intro L
  induction L with
  | nil => intro _; rfl
  | cons l L ih =>
   intro hL;obtain ⟨g1, g2⟩ := hL l (by simp);obtain ⟨r, e, hr⟩ := ckeptL hk h (l := l) (by omega) (fun x hx => by have := g2 x hx; omega);obtain ⟨m, em, _⟩ := of_set_ok hk (l := l) (by omega) (fun x hx => by have := g2 x hx; omega);rw [em, bs] at e;rw [runL, stopY];simp only [em, e, bs, hr];rw [List.find?_cons];cases keptL c (tsC c mv) l with
   | true => simp only [if_true, bs, Bool.not_false, Bool.false_eq_true, if_false]
   | false =>
    simp only [Bool.false_eq_true, if_false, bs, Bool.not_true, if_true];exact ih fun x hx => hL x (by simp [hx])
 rw [key _ (fun l hl => allL_mem hl)];cases (allL c.1.length 0).find? (keptL c (tsC c mv)) with
 | some l => simp only [bs, if_true]
 | none => simp only [bs, Bool.false_eq_true, if_false]
end

/-- What the program and the reference say of it. -/
theorem gives_said {k : Nat} (hk : 30000 ≤ k) {c : dChange} (hs : Short c) : ∃ r, chg_Gives k c = some r ∧ ref_Gives k c = some r ∧ r.1.length ≤ 20 := by
 have hk5 : 50 ≤ k := by omega
 rcases ask_cases hk5 hs with ⟨e, he, h1, h2⟩ | ⟨n, mv, q, hq, h1, h2⟩
 ·refine ⟨([], e), ?_, ?_, by simp⟩
  ·unfold chg_Gives;rw [h1, bs, co_none, if_pos he]
  ·unfold ref_Gives;rw [h2, bs, if_pos he]
 ·refine ⟨_, cGives_eq hk5 hq h1, rGives_eq hk hs hq.vc hq.fix hq.t4 h2, ?_⟩;have h20 := hs.things;cases hf : (allL c.1.length 0).find? (keptL c (tsC c mv)) with
  | none => simp
  | some l =>
   have := (allL_mem (List.mem_of_find?_eq_some hf)).1;simp only; omega
end Go.Proofs.YtfhdclhbdmhnmaaGreat

/- Plain law: the plan that is made of the lots. -/
namespace Go.Proofs.YtfhdclhbdmhnmaaGreat
open K Go Go.Proofs

theorem mixed_ok {k : Nat} (hk : 50 ≤ k) {l : dLots} {m : Int} {n : Nat} (hl : Lo l m) (hm : 0 ≤ m ∧ m ≤ 1000) (hn : n ≤ 8) : W (kit_Lots_Mixed k l (n : Int)) fun r => Lo r.2 (m + 10) ∧ r.1.length = n ∧ ∀ x ∈ r.1, 0 ≤ x ∧ x < (n : Int) := by
 unfold kit_Lots_Mixed;refine W.bind (R := fun r => Lo (r.2.1, r.2.2.1, r.2.2.2) (m + 10) ∧ r.1.length = n ∧ ∀ x ∈ r.1, 0 ≤ x ∧ x < (n : Int)) ?_ fun r h => W.ret h
 refine W.loop (f := kit_Lots_Mixed_l1 k (n : Int)) (fun q y => ∃ j : Nat, y.2.2.2.2 = (j : Int) ∧ j ≤ n ∧ q = n - j ∧ Lo (y.1, y.2.1, y.2.2.1) (m + j) ∧ y.2.2.2.1.length = j ∧ ∀ x ∈ y.2.2.2.1, 0 ≤ x ∧ x < (n : Int)) ?_ n k _ (by omega)
  ⟨0, rfl, by omega, by omega, by simpa using hl, rfl, by simp⟩
 rintro fuel q ⟨nums, d, s, o, y⟩ ⟨j, hj, hle, hq, hlo, hlen, hx⟩ ih;simp only at hj hlo hlen hx;subst hj;unfold kit_Lots_Mixed_l1;dsimp only;refine W.ite (fun hlt => ?_) (fun hge => W.ret ⟨hlo.mono (by omega), by show o.length = n; omega, hx⟩);obtain ⟨r5, e5, a5, b5, c5⟩ := upto_ok (k := k) (n := (j : Int)) hlo (by omega) (by omega);have b5 := b5 (by omega);have ho : (o ++ [(j : Int)]).length = j + 1 := by simp [hlen]
 have hr5 : r5.1.toNat < (o ++ [(j : Int)]).length := by omega
 have hmem : ∀ x ∈ o ++ [(j : Int)], 0 ≤ x ∧ x < (n : Int) := fun x hx' => by
  rcases List.mem_append.1 hx' with h | h
  ·exact hx x h
  ·simp only [List.mem_singleton] at h; omega
 rw [e5, bs, chk_ok (okLen_of (by simp only [List.length_cons, List.length_nil]; omega)), bs, geti_at a5 hr5, bs, geti_W (by omega), bs];have hgs : geti (List.set (o ++ [(j : Int)]) (Int.toNat (j : Int)) (o ++ [(j : Int)])[r5.1.toNat]) r5.1 = some ((List.set (o ++ [(j : Int)]) (Int.toNat (j : Int)) (o ++ [(j : Int)])[r5.1.toNat])[r5.1.toNat]'(by rw [List.length_set]; exact hr5)) := geti_at a5 (by rw [List.length_set]; exact hr5);rw [hgs, bs, ck_ok (by omega) (by omega), bs];refine ih (q - 1) (_, _, _, _, (j : Int) + 1) (by omega) ⟨j + 1, by show (j : Int) + 1 = ((j + 1 : Nat) : Int); omega, by omega, by omega, c5.mono (by omega), by simp [hlen], fun x hx' => ?_⟩;rcases List.mem_or_eq_of_mem_set hx' with h | h
 ·rcases List.mem_or_eq_of_mem_set h with h | h
  ·exact hmem x h
  ·subst h; exact hmem _ (List.getElem_mem hr5)
 ·subst h; omega

theorem met_ok {k : Nat} (hk : 50 ≤ k) {y6 : (List Int) × Int × Int × (List dStep)} {y21 : Bool × Int} (hl : y6.2.2.2.length ≤ 8) : W (kit_PlanOf_l4 k y6 y21 k (false, 0)) fun b => (b = true ↔ ∃ s ∈ y6.2.2.2, s.1 = y21.2) := by
 refine W.loop (f := kit_PlanOf_l4 k y6 y21) (fun m y => ∃ j : Nat, y.2 = (j : Int) ∧ j ≤ y6.2.2.2.length ∧ m = y6.2.2.2.length - j ∧ (y.1 = true ↔ ∃ s ∈ y6.2.2.2.take j, s.1 = y21.2)) ?_ y6.2.2.2.length k (false, 0) (by omega) ⟨0, rfl, by omega, by omega, by simp⟩;rintro fuel m ⟨b, y⟩ ⟨j, hj, hle, hm, hb⟩ ih;simp only at hj hb;subst hj;have o1 : j < y6.2.2.2.length → m - 1 < m ∧ m - 1 = y6.2.2.2.length - (j + 1) ∧ j + 1 ≤ y6.2.2.2.length := by clear hb ih; omega
 unfold kit_PlanOf_l4;dsimp only
 refine W.ite (fun hlt => ?_) (fun hge => W.ret (by
  have : j = y6.2.2.2.length := by clear hb ih; omega
  subst this;rw [List.take_length] at hb;exact hb))
 have hlt' : j < y6.2.2.2.length := by clear hb ih; omega
 have hnew : (∃ s ∈ y6.2.2.2.take (j + 1), s.1 = y21.2) ↔ b = true ∨ y6.2.2.2[j].1 = y21.2 := by
  rw [hb, List.take_add_one, List.getElem?_eq_getElem hlt'];simp only [Option.toList_some, List.mem_append, List.mem_singleton];constructor
  ·rintro ⟨s, h | rfl, h'⟩
   ·exact .inl ⟨s, h, h'⟩
   ·exact .inr h'
  ·rintro (⟨s, h, h'⟩ | h)
   ·exact ⟨s, .inl h, h'⟩
   ·exact ⟨_, .inr rfl, h⟩
 have next : ∀ bb : Bool, (bb = true ↔ b = true ∨ y6.2.2.2[j].1 = y21.2) → W ((some bb : Option Bool).bind fun x31 => (ck ((j : Int) + (1 : Int))).bind fun x34 => kit_PlanOf_l4 k y6 y21 fuel (x31, x34)) fun b => (b = true ↔ ∃ s ∈ y6.2.2.2, s.1 = y21.2) := fun bb hbb => by
  rw [bs, ck_ok (by clear hb ih hnew; omega) (by clear hb ih hnew; omega), bs];exact ih (m - 1) (bb, (j : Int) + 1) (o1 hlt').1 ⟨j + 1, rfl, (o1 hlt').2.2, (o1 hlt').2.1, by simp only; rw [hbb, hnew]⟩
 by_cases h1 : b = true
 ·rw [if_pos h1]; exact next true ⟨fun _ => .inl h1, fun _ => rfl⟩
 ·rw [if_neg h1, geti_W hlt', bs]; exact next _ (by rw [decide_eq_true_eq]; exact ⟨fun h => .inr h, fun h => h.elim (absurd · h1) id⟩)

/-- What comes first is looked at: it comes to an answer; a task that is met is not free. -/
theorem free_ok {k : Nat} (hk : 50 ≤ k) {n : Int} {c : dChange} {mv : List Bool} (hc : VC n c) (ht : (tsC c mv).length ≤ 4) {r3 : (List Int) × dLots} {y6 : (List Int) × Int × Int × (List dStep)} {y12 : Int × Int} {x17 : dTask} {o : Nat}
 (hl : y6.2.2.2.length ≤ 8) (h0 : 0 ≤ y12.2) (ho : r3.1[y12.2.toNat]? = some (o : Int)) (hol : o < (tsC c mv).length) (hx : x17 ∈ (tsC c mv).map fun x => (x.2, x.1)) :
 W (kit_PlanOf_l3 k c ((tsC c mv).map fun x => (x.2, x.1)) r3 y6 y12 x17 k (true, 0)) fun b => (b = true → ¬ ∃ s ∈ y6.2.2.2, s.1 = (o : Int)) := by
 obtain ⟨w1, w2, w3, w4, _⟩ := hc.wl
 have rng : ∀ x ∈ (tsC c mv).map (fun x => (x.2, x.1)), ∃ i : Nat, i < c.1.length ∧ x.1 = (i : Int) := fun x hx => by
  obtain ⟨y, hy, rfl⟩ := List.mem_map.1 hx;exact tsC_rng y hy
 have hTl : ((tsC c mv).map fun x => (x.2, x.1)).length = (tsC c mv).length := List.length_map ..;generalize (tsC c mv).map (fun x => (x.2, x.1)) = T at *;obtain ⟨xi, hxi, exi⟩ := rng _ hx;refine W.loop (f := kit_PlanOf_l3 k c T r3 y6 y12 x17) (fun m y => ∃ j : Nat, y.2 = (j : Int) ∧ j ≤ T.length ∧ m = T.length - j ∧ (o < j → y.1 = true → ¬ ∃ s ∈ y6.2.2.2, s.1 = (o : Int))) ?_ T.length k (true, 0) (by omega) ⟨0, rfl, by omega, by omega, fun h => by omega⟩;rintro fuel m ⟨b, y⟩ ⟨j, hj, hle, hm, hb⟩ ih;simp only at hj hb;subst hj;have o1 : j < T.length → m - 1 < m ∧ m - 1 = T.length - (j + 1) ∧ j + 1 ≤ T.length := by clear hb ih; omega
 unfold kit_PlanOf_l3;dsimp only;refine W.ite (fun hlt => ?_) (fun hge => W.ret fun h => hb (by clear hb ih; omega) h);have hlt' : j < T.length := by clear hb ih; omega
 obtain ⟨x27, e27, i27⟩ := met_ok hk (y6 := y6) (y21 := (b, (j : Int))) hl;obtain ⟨ti, hti, eti⟩ := rng _ (List.getElem_mem hlt')
 have next : ∀ bb : Bool, (bb = true → b = true ∧ (j = o → ¬ x27 = true)) → W ((some bb : Option Bool).bind fun x23 => (ck ((j : Int) + (1 : Int))).bind fun x52 => kit_PlanOf_l3 k c T r3 y6 y12 x17 fuel (x23, x52)) fun b => (b = true → ¬ ∃ s ∈ y6.2.2.2, s.1 = (o : Int)) := fun bb hbb => by
  rw [bs, ck_ok (by clear hb ih i27; omega) (by clear hb ih i27; omega), bs];refine ih (m - 1) (bb, (j : Int) + 1) (o1 hlt').1 ⟨j + 1, rfl, (o1 hlt').2.2, (o1 hlt').2.1, fun h1 h2 => ?_⟩;obtain ⟨h3, h4⟩ := hbb h2;by_cases hjo : j = o
  ·subst hjo;exact fun h => h4 rfl (i27.2 h)
  ·exact hb (by clear hb ih i27; omega) h3
 rw [geti_W hlt', bs, e27, bs, geti_q h0 ho, bs];by_cases hjo : (j : Int) = (o : Int)
 ·rw [if_pos hjo];cases b with
  | false => exact next false (fun h => by cases h)
  | true => exact next (!x27) (fun h => ⟨rfl, fun _ => by simpa using h⟩)
 ·rw [if_neg hjo];have ga : geti c.1 x17.1 = some (c.1[xi]) := by rw [exi]; exact geti_W hxi
  have gb : geti c.1 T[j].1 = some (c.1[ti]) := by rw [eti]; exact geti_W hti
  obtain ⟨ra, ea, _⟩ := at_ok (k := k) (l := c.1[xi].1) (x := T[j].1) (by have := w4 _ (List.getElem_mem hxi); omega) (by have := w4 _ (List.getElem_mem hxi); omega);obtain ⟨rb, eb, _⟩ := at_ok (k := k) (l := c.1[ti].1) (x := x17.1) (by have := w4 _ (List.getElem_mem hti); omega) (by have := w4 _ (List.getElem_mem hti); omega);simp only [ga, gb, ea, eb, bs]
  have tot : ∀ X : Option Bool, (∃ z, X = some z) → W (((X.bind fun x38 => if b = true then (if x27 = true then (some true) else (some (!x38))) else (some false)) : Option Bool).bind fun x23 => (ck ((j : Int) + (1 : Int))).bind fun x52 => kit_PlanOf_l3 k c T r3 y6 y12 x17 fuel (x23, x52)) fun b => (b = true → ¬ ∃ s ∈ y6.2.2.2, s.1 = (o : Int)) := by
   rintro X ⟨z, rfl⟩;rw [bs];have hno : j = o → False := fun h => hjo (by rw [h]);cases b with
   | false => exact next false (fun h => by cases h)
   | true =>
    cases x27 with
    | true => exact next true (fun _ => ⟨rfl, fun h => (hno h).elim⟩)
    | false => exact next (!z) (fun _ => ⟨rfl, fun h => (hno h).elim⟩)
  refine tot _ ?_;repeat' split
  all_goals exact ⟨_, rfl⟩

theorem pick_ok {k : Nat} (hk : 50 ≤ k) {n : Int} {c : dChange} {mv : List Bool} (hc : VC n c) (ht : (tsC c mv).length ≤ 4) {r3 : (List Int) × dLots} {y6 : (List Int) × Int × Int × (List dStep)} (hl : y6.2.2.2.length ≤ 8) (hrl : r3.1.length ≤ 8) (hr : ∀ x ∈ r3.1, 0 ≤ x ∧ x < ((tsC c mv).length : Int)) :
 W (kit_PlanOf_l2 k c ((tsC c mv).map fun x => (x.2, x.1)) r3 y6 k (-1, 0)) fun x => x < 0 ∨ (0 ≤ x ∧ x < (tsC c mv).length ∧ ¬ ∃ s ∈ y6.2.2.2, s.1 = x) := by
 refine W.loop (f := kit_PlanOf_l2 k c ((tsC c mv).map fun x => (x.2, x.1)) r3 y6) (fun m y => ∃ j : Nat, y.2 = (j : Int) ∧ j ≤ r3.1.length ∧ m = r3.1.length - j ∧ (y.1 < 0 ∨ (0 ≤ y.1 ∧ y.1 < (tsC c mv).length ∧ ¬ ∃ s ∈ y6.2.2.2, s.1 = y.1))) ?_ r3.1.length k (-1, 0) (by omega) ⟨0, rfl, by omega, by omega, .inl (by decide)⟩;rintro fuel m ⟨x, y⟩ ⟨j, hj, hle, hm, hx⟩ ih;simp only at hj hx;subst hj;have o1 : j < r3.1.length → m - 1 < m ∧ m - 1 = r3.1.length - (j + 1) ∧ j + 1 ≤ r3.1.length := by clear hx ih; omega
 unfold kit_PlanOf_l2;dsimp only;refine W.ite (fun hlt => ?_) (fun hge => W.ret hx);have hlt' : j < r3.1.length := by clear hx ih; omega
 obtain ⟨o0, o2⟩ := hr _ (List.getElem_mem hlt');have hol : r3.1[j].toNat < ((tsC c mv).map fun x => (x.2, x.1)).length := by rw [List.length_map]; clear hx ih; omega
 have e3 : r3.1[j]? = some ((r3.1[j].toNat : Nat) : Int) := by rw [List.getElem?_eq_getElem hlt']; congr 1; clear hx ih; omega
 obtain ⟨x19, e19, h19⟩ := free_ok hk hc ht (r3 := r3) (y6 := y6) (y12 := (x, (j : Int))) (o := r3.1[j].toNat) hl (by clear hx ih; show (0 : Int) ≤ (j : Int); omega) (by simpa using e3) (by rw [List.length_map] at hol; exact hol) (List.getElem_mem hol)
 have next : ∀ z : Int, (z < 0 ∨ (0 ≤ z ∧ z < (tsC c mv).length ∧ ¬ ∃ s ∈ y6.2.2.2, s.1 = z)) → W ((some z : Option Int).bind fun x14 => (ck ((j : Int) + (1 : Int))).bind fun x56 => kit_PlanOf_l2 k c ((tsC c mv).map fun x => (x.2, x.1)) r3 y6 fuel (x14, x56)) fun x => x < 0 ∨ (0 ≤ x ∧ x < (tsC c mv).length ∧ ¬ ∃ s ∈ y6.2.2.2, s.1 = x) := fun z hz => by
  rw [bs, ck_ok (by clear hx ih hz; omega) (by clear hx ih hz; omega), bs];exact ih (m - 1) (z, (j : Int) + 1) (o1 hlt').1 ⟨j + 1, rfl, (o1 hlt').2.2, (o1 hlt').2.1, hz⟩
 rw [geti_W hlt', bs, geti_at o0 hol, bs, e19, bs];cases x19 with
 | false => simp only [Bool.false_eq_true, if_false, bs]; exact (by have := next x hx; rw [bs] at this; exact this)
 | true =>
  simp only [if_true, bs];by_cases hx0 : x < 0
  ·simp only [hx0, decide_true, if_true, bs]
   have hz : r3.1[j] < 0 ∨ (0 ≤ r3.1[j] ∧ r3.1[j] < (tsC c mv).length ∧ ¬ ∃ s ∈ y6.2.2.2, s.1 = r3.1[j]) := by
    refine .inr ⟨o0, o2, fun h => h19 rfl ?_⟩;obtain ⟨s, hs, e⟩ := h;exact ⟨s, hs, by rw [e]; clear hx ih; omega⟩
   have := next _ hz;rw [bs] at this;exact this
  ·simp only [hx0, decide_false, Bool.false_eq_true, if_false, bs];exact (by have := next x hx; rw [bs] at this; exact this)

theorem dres_ok {k : Nat} (hk : 50 ≤ k) {n : Int} {c : dChange} {mv : List Bool} (hc : VC n c) {x10 d0 : Int} (h1 : 0 ≤ x10 ∧ x10 < (tsC c mv).length) (hd : 0 ≤ d0 ∧ d0 < c.2.1.length) :
 W (kit_PlanOf_l5 k c ((tsC c mv).map fun x => (x.2, x.1)) x10 k (d0, 0)) fun d => 0 ≤ d ∧ d < c.2.1.length := by
 have hdl := hc.dl;obtain ⟨_, _, _, _, w5⟩ := hc.wl;refine W.loop (f := kit_PlanOf_l5 k c ((tsC c mv).map fun x => (x.2, x.1)) x10) (fun m y => ∃ j : Nat, y.2 = (j : Int) ∧ j ≤ c.2.1.length ∧ m = c.2.1.length - j ∧ 0 ≤ y.1 ∧ y.1 < c.2.1.length) ?_ c.2.1.length k (d0, 0) (by omega) ⟨0, rfl, by omega, by omega, hd⟩;rintro fuel m ⟨d, y⟩ ⟨j, hj, hle, hm, hd0, hd1⟩ ih;simp only at hj hd0 hd1;subst hj;unfold kit_PlanOf_l5;dsimp only;refine W.ite (fun hlt => ?_) (fun hge => W.ret ⟨hd0, hd1⟩);have hml : x10.toNat < ((tsC c mv).map fun x => (x.2, x.1)).length := by rw [List.length_map]; omega
 obtain ⟨w, hw, ew⟩ := List.mem_map.1 (List.getElem_mem hml);obtain ⟨i, hi, ei⟩ := tsC_rng w hw;have hdn : d.toNat < c.2.1.length := by omega
 have e1 : ((tsC c mv).map fun x => (x.2, x.1))[x10.toNat].1 = (i : Int) := by rw [← ew]; exact ei
 obtain ⟨r70, e70, _⟩ := at_ok (k := k) (l := c.2.1[d.toNat].1) (x := (i : Int)) (by have := w5 _ (List.getElem_mem hdn); omega) (by have := w5 _ (List.getElem_mem hdn); omega);rw [geti_at hd0 hdn, bs, geti_at h1.1 hml, bs];simp only [e1];rw [geti_W hi, bs];simp only [bs, e70, e1]
 have tot : ∀ X : Option Bool, (∃ z, X = some z) → W (X.bind fun x67 => if x67 = true then (some d) else ((ck (d + (1 : Int))).bind fun x71 =>
  (chkP ((c.2.1.length : Int) ≠ 0)).bind fun _ =>
  (ck ((j : Int) + (1 : Int))).bind fun x73 =>
  kit_PlanOf_l5 k c ((tsC c mv).map fun x => (x.2, x.1)) x10 fuel (Int.tmod x71 (c.2.1.length : Int), x73))) fun d => 0 ≤ d ∧ d < c.2.1.length := by
  rintro X ⟨z, rfl⟩;rw [bs];cases z with
  | true => rw [if_pos rfl]; exact W.ret ⟨hd0, hd1⟩
  | false =>
   rw [if_neg (by simp), ck_ok (by omega) (by omega), bs, chk_ok (by omega), bs, ck_ok (by omega) (by omega), bs];have h2 : Int.tmod (d + 1) (c.2.1.length : Int) = (d + 1) % (c.2.1.length : Int) := Int.tmod_eq_emod_of_nonneg (by omega);have h3 := Int.emod_nonneg (d + 1) (show (c.2.1.length : Int) ≠ 0 by omega);have h4 := Int.emod_lt_of_pos (d + 1) (show (0 : Int) < (c.2.1.length : Int) by omega);rw [h2];exact ih (m - 1) (_, (j : Int) + 1) (by omega) ⟨j + 1, rfl, by omega, by omega, h3, h4⟩
 refine tot _ ?_;repeat' split
 all_goals exact ⟨_, rfl⟩

/-- **The plan that is made of the lots.** -/
structure PlanOk (c : dChange) (ts : List (Bool × Int)) (p : List dStep) : Prop where
 len : p.length ≤ ts.length
 ok : ∀ s ∈ p, StepOk c ts s
 once : (p.map (·.1)).Nodup

theorem planOf_ok {k : Nat} (hk : 50 ≤ k) {n : Int} {c : dChange} {mv : List Bool} (hc : VC n c) (hF : Fix c mv) (ht : (tsC c mv).length ≤ 4) {l : dLots} {m : Int} (hl : Lo l m) (hm : 0 ≤ m ∧ m ≤ 900) :
 W (kit_PlanOf k l c) fun r => PlanOk c (tsC c mv) r.1 ∧ Lo r.2 (m + 20) := by
 have hdl := hc.dl;unfold kit_PlanOf;rw [tasksOf_eq hk hc hF, bs, List.length_map];obtain ⟨r3, e3, h3, h3l, h3x⟩ := mixed_ok hk (l := l) (m := m) (n := (tsC c mv).length) hl (by omega) (by omega);rw [show ((l.1, l.2.1, l.2.2) : dLots) = l from rfl, e3, bs]
 have key : W (kit_PlanOf_l1 k c ((tsC c mv).map fun x => (x.2, x.1)) r3 k (r3.2.1, r3.2.2.1, r3.2.2.2, ([] : List dStep))) fun r => match r with
  | .error e => PlanOk c (tsC c mv) e.1 ∧ Lo e.2 (m + 20)
  | .ok e => PlanOk c (tsC c mv) e.1 ∧ Lo (e.2.1, e.2.2.1, e.2.2.2) (m + 20) := by
  refine W.loop (f := kit_PlanOf_l1 k c ((tsC c mv).map fun x => (x.2, x.1)) r3) (fun q y => ∃ j : Nat, y.2.2.2.length = j ∧ q = (tsC c mv).length - j ∧ Lo (y.1, y.2.1, y.2.2.1) (m + 10 + j) ∧ PlanOk c (tsC c mv) y.2.2.2) ?_ (tsC c mv).length k _ (by omega)
   ⟨0, rfl, by omega, h3.mono (by omega), by simp, by simp, by simp⟩
  rintro fuel q ⟨nums, dr, s, out⟩ ⟨j, hj, hq, hlo, hP⟩ ih;simp only at hj hlo hP;have hPl := hP.len;unfold kit_PlanOf_l1;dsimp only;rw [List.length_map];refine W.ite (fun hlt => ?_) (fun hge => W.ret ⟨hP, hlo.mono (by omega)⟩);obtain ⟨x10, e10, h10⟩ := pick_ok hk hc ht (r3 := r3) (y6 := (nums, dr, s, out)) (by show out.length ≤ 8; omega) (by omega) h3x;simp only at h10;rw [e10, bs];by_cases hx0 : x10 < 0
  ·rw [if_pos hx0, bE_e];exact W.ret ⟨hP, hlo.mono (by omega)⟩
  ·rw [if_neg hx0, ck_ok (by omega) (by omega), bs];obtain ⟨hxa, hxb, hxc⟩ := h10.resolve_left hx0;obtain ⟨r58, e58, a58, b58, c58⟩ := upto_ok (k := k) (l := (nums, dr, s)) (n := (c.2.1.length : Int) - 1) hlo (by omega) (by omega);have b58 := b58 (by omega);obtain ⟨x59, e59, h59⟩ := dres_ok hk (mv := mv) hc (x10 := x10) (d0 := r58.1) ⟨hxa, hxb⟩ (by omega);rw [e58, bs, e59, bs, chk_ok (okLen_of (by simp only [List.length_cons, List.length_nil]; omega)), bs, bE_k];refine ih (q - 1) (_, _, _, out ++ [(x10, x59)]) (by omega) ⟨j + 1, by simp [hj], by omega, c58.mono (by omega), ?_, fun st hst => ?_, ?_⟩
   ·simp only [List.length_append, List.length_cons, List.length_nil]; omega
   ·rcases List.mem_append.1 hst with h | h
    ·exact hP.ok st h
    ·simp only [List.mem_singleton] at h;subst h;exact ⟨hxa, hxb, h59.1, h59.2⟩
   ·simp only [List.map_append, List.map_cons, List.map_nil];refine List.nodup_append.2 ⟨hP.once, by simp, fun a ha b hb => ?_⟩;simp only [List.mem_singleton] at hb;subst hb;obtain ⟨st, hst, rfl⟩ := List.mem_map.1 ha;exact fun e => hxc ⟨st, hst, e⟩
 obtain ⟨r, er, hr⟩ := key;rw [er];cases r with
 | error e => rw [bE_e]; exact W.ret hr
 | ok e => rw [bE_k]; exact W.ret hr

end Go.Proofs.YtfhdclhbdmhnmaaGreat

/- Plain law: the plans of a law that compares with the reference; what the program and the reference say of them. -/
namespace Go.Proofs.YtfhdclhbdmhnmaaGreat
open K Go Go.Proofs

theorem in_any {k : Nat} {l : dLots} {m a b : Int} (h : Lo l m) (hm : m ≤ 1000000000) (ha : -1000 ≤ a) (hab : a ≤ b) (hb : b ≤ 1000) : W (kit_Lots_In k l a b) fun r => Lo r.2 (m + 1) := by
 unfold kit_Lots_In;refine W.ck (by omega) (by omega) (W.bind (upto_ok h hm (by omega)) fun r hr => ?_);have h0 := hr.1;have := hr.2.1 (by omega);exact W.ck (by omega) (by omega) (W.ret hr.2.2)

theorem copySteps_ok {k : Nat} {l : List dStep} (h : l.length ≤ 1000) : kit_CopySteps k l = some l := by
 unfold kit_CopySteps;rw [chk_ok (okLen_of (by simp only [List.length_nil]; omega)), bs, List.nil_append]

/-- **The plans of a law.** -/
theorem planned_ok {k : Nat} (hk : 50 ≤ k) {n : Int} {c : dChange} {mv : List Bool} (hc : VC n c) (hF : Fix c mv) (ht : (tsC c mv).length ≤ 4) {p : List dStep} (hp : p.length ≤ 20) {l : dLots} {m : Int} (hl : Lo l m) (hm : 0 ≤ m ∧ m ≤ 800) :
 W (law_planned k p c l) fun r => r.1.length = 4 ∧ ∀ x ∈ r.1, x.length ≤ 20 := by
 obtain ⟨r2, e2, hP, hlo⟩ := planOf_ok hk hc hF ht hl (by omega);have hpl := hP.len;unfold law_planned;rw [show ((l.1, l.2.1, l.2.2) : dLots) = l from rfl, e2, bs, copySteps_ok (by omega), bs]
 have fin : ∀ (x : (List dStep) × (List Int) × Int × Int), x.1.length ≤ 20 → W ((some x).bind fun x5 => some ([p, r2.1, x5.1, p], (x5.2.1, x5.2.2.1, x5.2.2.2))) fun r => r.1.length = 4 ∧ ∀ x ∈ r.1, x.length ≤ 20 := fun x hx => by
  refine W.ret ⟨rfl, fun y hy => ?_⟩;simp only [List.mem_cons, List.not_mem_nil, or_false] at hy;rcases hy with rfl | rfl | rfl | rfl
  ·exact hp
  ·omega
  ·exact hx
  ·exact hp
 by_cases h0 : (0 : Int) < (r2.1.length : Int)
 ·rw [if_pos h0, ck_ok (by omega) (by omega), bs];obtain ⟨r8, e8, a8, b8, h8⟩ := upto_ok (k := k) (l := r2.2) (n := (r2.1.length : Int) - 1) hlo (by omega) (by omega);have b8 := b8 (by omega);rw [show kit_Lots_Upto k (r2.2.1, r2.2.2.1, r2.2.2.2) _ = some r8 from e8, bs];obtain ⟨r9, e9, _, _, h9⟩ := upto_ok (k := k) (l := r8.2) (n := 2) h8 (by omega) (by decide);rw [show kit_Lots_Upto k (r8.2.1, r8.2.2.1, r8.2.2.2) 2 = some r9 from e9, bs];have hgk : geti r2.1 r8.1 = some r2.1[r8.1.toNat] := geti_at a8 (by omega);have hg0 : geti r2.1 0 = some r2.1[0] := geti_W (i := 0) (by omega);by_cases c0 : r9.1 = 0
  ·rw [if_pos c0];obtain ⟨r10, e10, _⟩ := in_any (k := k) (l := r9.2) (a := -1) (b := 3) h9 (by omega) (by decide) (by decide) (by decide);rw [show kit_Lots_In k (r9.2.1, r9.2.2.1, r9.2.2.2) (-1) 3 = some r10 from e10, bs, hgk, bs];exact fin _ (by simp only [List.length_set]; omega)
  ·rw [if_neg c0];by_cases c1 : r9.1 = 1
   ·rw [if_pos c1];obtain ⟨r10, e10, _⟩ := in_any (k := k) (l := r9.2) (a := -1) (b := (r2.1.length : Int)) h9 (by omega) (by decide) (by omega) (by omega);rw [show kit_Lots_In k (r9.2.1, r9.2.2.1, r9.2.2.2) (-1) (r2.1.length : Int) = some r10 from e10, bs, hgk, bs];exact fin _ (by simp only [List.length_set]; omega)
   ·rw [if_neg c1];by_cases c2 : r9.1 = 2
    ·rw [if_pos c2, hg0, bs, hgk, bs, bs, geti_at (Int.le_refl 0) (by simp only [List.length_set]; omega), bs];exact fin _ (by simp only [List.length_set]; omega)
    ·rw [if_neg c2];exact fin _ (by omega)
 ·rw [if_neg h0];exact fin _ (show r2.1.length ≤ 20 by omega)

end Go.Proofs.YtfhdclhbdmhnmaaGreat

/- Plain law: ChangeLates. -/
namespace Go.Proofs.YtfhdclhbdmhnmaaGreat
open K Go Go.Proofs

theorem dressed30000 : law_dressed 30000 = some true := by decide +kernel

/-- **The law.** -/
theorem lates_law {k : Nat} (hk : 30000 ≤ k) (hd : law_dressed k = some true) (a0 : dChange) (a1 : List dStep) (a2 : List Int) : law_ChangeLates k a0 a1 a2 = some true := by
 have hk5 : 50 ≤ k := by omega
 obtain ⟨b, eb, hb⟩ := long_ok hk5 (c := a0);unfold law_ChangeLates;rw [eb, bs];by_cases hx : b = true ∨ 20 < a1.length
 ·have : (if b = true then some true else some (decide ((20 : Int) < (a1.length : Int)))) = some true := by
   rcases hx with rfl | h
   ·simp
   ·rw [decide_eq_true (show (20 : Int) < (a1.length : Int) by omega)]; simp
  rw [this, bs, if_pos rfl, hd, bs]
 ·have hbf : b = false := by cases b <;> simp_all
  have hp : a1.length ≤ 20 := by omega
  subst hbf;have hs := hb rfl;rw [if_neg (by decide), bs, decide_eq_false (show ¬ (20 : Int) < (a1.length : Int) by omega), if_neg (by decide)];obtain ⟨⟨cs, l⟩, e, hlo, h4, hx, hg0, c1, hg1, n, mv, q, hc, _, hq⟩ := sets_ok2 hk5 hs (l := (a2, 0, 1)) (m := 0) newLots_ok (by decide);rw [show kit_NewLots k a2 = some (a2, 0, 1) from rfl, bs, e, bs];simp only at h4 hx hg0 hg1 hlo;rw [geti_q (by decide) (show cs[(1 : Int).toNat]? = some c1 from hg1), bs];obtain ⟨⟨ps, l2⟩, e2, hp4, hpx⟩ := planned_ok hk5 hc hq.fix hq.t4 hp (l := l) (m := 310) (hlo.mono (by omega)) (by decide);simp only at hp4 hpx;rw [show law_planned k a1 c1 (l.1, l.2.1, l.2.2) = some (ps, l2) from e2, bs]
  have key : law_ChangeLates_l1 k (cs, l) (ps, l2) k 0 = some (.ok ()) := for_all0 (N := 3) (by omega) (fun m j hj => by
   have hjp : j < ps.length := by omega
   have hjc : j < cs.length := by omega
   have hpj := hpx _ (List.getElem_mem hjp);have hS := hx _ (List.getElem_mem hjc);have hlt : (j : Int) < 3 := by omega
   have hck : ck ((j : Int) + 1) = some ((j : Int) + 1) := ck_ok (by omega) (by omega);obtain ⟨r1, g1, g2⟩ := late_said hk5 hS hpj;obtain ⟨r2, g3, g4, l2⟩ := kept_said hk hS;obtain ⟨r3, g5, g6, l3⟩ := gives_said hk hS;simp only [law_ChangeLates_l1, hlt, if_true, geti_W hjc, bs, copyF_short hk5 hS, geti_W hjp, copySteps_ok (show ps[j].length ≤ 1000 by omega), g1, g2, g3, g4, g5, g6, not_true_eq_false, if_false, sameSteps_self (show r2.1.length < k by omega) (show r2.1.length ≤ 1000000 by omega), sameInts_self (show r3.1.length < k by omega) (show r3.1.length ≤ 1000000 by omega), sameChanges_self hk5 hS, sameSteps_self (show ps[j].length < k by omega) (show ps[j].length ≤ 1000000 by omega), Bool.not_true, Bool.false_eq_true, hck]) (fun m => by simp [law_ChangeLates_l1])
  rw [key, bE_k, hd, bs]
end Go.Proofs.YtfhdclhbdmhnmaaGreat
