/- Plain law, part 14: all plans, in order; the plan with the fewest bars. -/
import Derived.Test.YtopgphikdglphaaB8
import Derived.Test.YtopgphikdglphaaB7
namespace Go.Proofs.Ytopgphikdglphaa
open K Go Go.Proofs

/-- Can a task be begun, where these are done? -/
def mayB (c : dChange) (ts : List (Bool × Int)) (done : List Int) (t : Nat) : Bool := decide ((t : Int) ∉ done) && (befL c ts t).all fun a => decide ((a : Int) ∈ done)
/-- Who can do a task, from some dresser on. -/
def whoL (c : dChange) (ts : List (Bool × Int)) (t d : Nat) : List dStep := ((List.range' d (c.2.1.length - d)).filter fun (d : Nat) => canB c (d : Int) (tsk ts (t : Int))).map fun (d : Nat) => ((t : Int), (d : Int))
/-- The steps that can be next, from some task on. -/
def extL (c : dChange) (ts : List (Bool × Int)) (done : List Int) (t : Nat) : List dStep := (List.range' t (ts.length - t)).flatMap fun t => if mayB c ts done t = true then whoL c ts t 0 else []
/-- All plans that go on from some steps. -/
def gen (c : dChange) (ts : List (Bool × Int)) : Nat → List Int → List dStep → List (List dStep)
 | 0, _, p => [p]
 | r + 1, done, p => (extL c ts done 0).flatMap fun s => gen c ts r (done ++ [s.1]) (p ++ [s])

section
variable {σ : Type}
/-- Handing over one after the other, as long as more are wanted. -/
def runY (Y : σ → List dStep → Option (σ × Bool)) : σ → List (List dStep) → Option (σ × Bool)
 | s, [] => some (s, true)
 | s, p :: l => (Y s p).bind fun r => if r.2 = true then runY Y r.1 l else some r
theorem runY_append {Y : σ → List dStep → Option (σ × Bool)} : ∀ {l m : List (List dStep)} {s : σ}, runY Y s (l ++ m) = (runY Y s l).bind fun r => if r.2 = true then runY Y r.1 m else some r
 | [], m, s => by simp [runY]
 | p :: l, m, s => by
  simp only [List.cons_append, runY]
  cases hY : Y s p with
  | none => simp
  | some r =>
   simp only [Option.bind_some]
   by_cases hr : r.2 = true
   ·
    rw [if_pos hr, if_pos hr]; exact runY_append
   ·
    rw [if_neg hr, if_neg hr]; simp [hr]

def resY (p : List dStep) (r : σ × Bool) : Except (Bool × List dStep × σ) (List dStep × σ) := if r.2 = true then .ok (p, r.1) else .error (false, p, r.1)

theorem range'_cons {a n : Nat} (h : a < n) : List.range' a (n - a) = a :: List.range' (a + 1) (n - (a + 1)) := by
 have : n - a = (n - (a + 1)) + 1 := by omega
 rw [this, List.range'_succ]

theorem plans2_eq {k : Nat} (hk : 50 ≤ k) {n : Int} {c : dChange} {mv : List Bool} {q : dQuick} (h : QV n c mv q) {Y : σ → List dStep → Option (σ × Bool)} {self : Int → (List dStep) → σ → Option (Bool × (List dStep) × σ)}
 {mask : Int} {done : List Int} {p : List dStep} {r t : Nat} {y6 : (List dStep) × Int × σ} (hp : p.length ≤ 8) (ht : t < (tsC c mv).length) (hy6 : y6.2.1 = (t : Int))
 (hself : ∀ (m' : Int) (d : Nat) (s : σ), (∃ r24, chg_of k [(t : Int)] = some r24 ∧ m' = ior .u8 mask r24) → d < c.2.1.length → self m' (p ++ [((t : Int), (d : Int))]) s = (runY Y s (gen c (tsC c mv) r (done ++ [(t : Int)]) (p ++ [((t : Int), (d : Int))]))).bind fun r => some (r.2, p ++ [((t : Int), (d : Int))], r.1)) :
 ∀ (m d fuel : Nat) (s : σ), c.2.1.length - d = m → d ≤ c.2.1.length → m < fuel → chg_quick_plans_1_1_l2 k mask q self y6 (tsk (tsC c mv) (t : Int)) fuel (p, (d : Int), s) =
  (runY Y s ((whoL c (tsC c mv) t d).flatMap fun s => gen c (tsC c mv) r (done ++ [s.1]) (p ++ [s]))).bind fun r => some (resY p r) := by
 have hdl := h.vc.dl
 have ht4 := h.t4
 intro m
 induction m with
 | zero =>
  intro d fuel s h1 h2 h3;obtain ⟨fuel, rfl⟩ : ∃ f, fuel = f + 1 := ⟨fuel - 1, by omega⟩;have : d = c.2.1.length := by omega
  subst this;rw [chg_quick_plans_1_1_l2, if_neg (by rw [h.eq]; simp)];simp [whoL, runY, resY]
 | succ m ih =>
  intro d fuel s h1 h2 h3;obtain ⟨fuel, rfl⟩ : ∃ f, fuel = f + 1 := ⟨fuel - 1, by omega⟩;have hd : d < c.2.1.length := by omega
  have hS : StepOk c (tsC c mv) ((t : Int), (d : Int)) := ⟨by simp, by simp only; omega, by simp, by simp only; omega⟩;have hcq : (((q.1.1, q.1.2.1, q.1.2.2.1, q.1.2.2.2), q.2.1, q.2.2) : dQuick) = q := rfl;have hck : ck ((d : Int) + 1) = some ((d : Int) + 1) := ck_ok (by omega) (by omega);have ih' := fun s => ih (d + 1) fuel s (by omega) (by omega) (by omega);have ed : ((d + 1 : Nat) : Int) = (d : Int) + 1 := by omega
  rw [ed] at ih';rw [chg_quick_plans_1_1_l2];dsimp only;rw [if_pos (by rw [h.eq]; omega), hcq, can_eq hk h ⟨by omega, by omega⟩ (tsk_mem hS), bs]
  have hw : whoL c (tsC c mv) t d = (if canB c (d : Int) (tsk (tsC c mv) (t : Int)) = true then [((t : Int), (d : Int))] else []) ++ whoL c (tsC c mv) t (d + 1) := by
   unfold whoL;rw [range'_cons hd, List.filter_cons];split <;> simp
  rw [hw];by_cases hc : canB c (d : Int) (tsk (tsC c mv) (t : Int)) = true
  ·rw [if_neg (by simp [hc]), if_pos hc];simp only [hy6];obtain ⟨r24, e24, m24, d24⟩ := of_set_ok (k := k) hk (l := [(t : Int)]) (by simp) (fun x hx => by simp only [List.mem_singleton] at hx; subst hx; omega);rw [chk_ok (okLen_of (by simp only [List.length_cons, List.length_nil]; omega)), bs, e24, bs, hself _ d s ⟨r24, e24, rfl⟩ hd];simp only [List.cons_append, List.nil_append, List.flatMap_cons];rw [runY_append];cases hR : runY Y s (gen c (tsC c mv) r (done ++ [(t : Int)]) (p ++ [((t : Int), (d : Int))])) with
   | none => simp [K.bE]
   | some x =>
    obtain ⟨s', b⟩ := x;simp only [bs];have hl : ((p ++ [((t : Int), (d : Int))]).length : Int) - 1 = (p.length : Int) := by simp
    rw [hl, ck_ok (by omega) (by omega), bs, chk_ok ⟨by omega, by simp; omega⟩, bs];have htk : List.take (Int.toNat (p.length : Int)) (p ++ [((t : Int), (d : Int))]) = p := by simp
    rw [htk];cases b with
    | false => simp only [Bool.false_eq_true, not_false_eq_true, if_true, if_false, bE_e, bs, resY]
    | true =>
     simp only [not_true_eq_false, if_false, if_true, bE_k, hck, bs];exact ih' s'
  ·rw [if_pos (by simpa using hc), if_neg hc];simp only [bE_k, hck, bs, List.nil_append];exact ih' s

theorem plans1_eq {k : Nat} (hk : 50 ≤ k) {n : Int} {c : dChange} {mv : List Bool} {q : dQuick} (h : QV n c mv q) {Y : σ → List dStep → Option (σ × Bool)} {self : Int → (List dStep) → σ → Option (Bool × (List dStep) × σ)}
 {mask : Int} {done : List Int} {p : List dStep} {r : Nat} (hp : p.length ≤ 8) (hM : Mask mask) (hH : ∀ a : Nat, Has mask a ↔ (a : Int) ∈ done)
 (hself : ∀ (m' : Int) (t d : Nat) (s : σ), (∃ r24, chg_of k [(t : Int)] = some r24 ∧ m' = ior .u8 mask r24) → t < (tsC c mv).length → d < c.2.1.length → self m' (p ++ [((t : Int), (d : Int))]) s = (runY Y s (gen c (tsC c mv) r (done ++ [(t : Int)]) (p ++ [((t : Int), (d : Int))]))).bind fun r => some (r.2, p ++ [((t : Int), (d : Int))], r.1)) :
 ∀ (m t fuel : Nat) (s : σ), (tsC c mv).length - t = m → t ≤ (tsC c mv).length → m < fuel → chg_quick_plans_1_1_l1 k mask q self fuel (p, (t : Int), s) =
  (runY Y s ((extL c (tsC c mv) done t).flatMap fun s => gen c (tsC c mv) r (done ++ [s.1]) (p ++ [s]))).bind fun r => some (resY p r) := by
 have hdl := h.vc.dl
 have ht4 := h.t4
 intro m
 induction m with
 | zero =>
  intro t fuel s h1 h2 h3;obtain ⟨fuel, rfl⟩ : ∃ f, fuel = f + 1 := ⟨fuel - 1, by omega⟩;have : t = (tsC c mv).length := by omega
  subst this;rw [chg_quick_plans_1_1_l1, if_neg (by rw [h.tasks]; simp)];simp [extL, runY, resY]
 | succ m ih =>
  intro t fuel s h1 h2 h3;obtain ⟨fuel, rfl⟩ : ∃ f, fuel = f + 1 := ⟨fuel - 1, by omega⟩;have ht : t < (tsC c mv).length := by omega
  have hck : ck ((t : Int) + 1) = some ((t : Int) + 1) := ck_ok (by omega) (by omega);have ih' := fun s => ih (t + 1) fuel s (by omega) (by omega) (by omega);have ed : ((t + 1 : Nat) : Int) = (t : Int) + 1 := by omega
  rw [ed] at ih';rw [chg_quick_plans_1_1_l1];dsimp only;have hgt : (tsC c mv)[t] = tsk (tsC c mv) (t : Int) := by simp [tsk, List.getElem?_eq_getElem ht]
  rw [h.tasks, if_pos (by omega), geti_W ht, bs, has_ok hM (by omega), bs, hgt];obtain ⟨mk, em, hmk, hmb, _⟩ := h.mask (b := t) (by omega);rw [chk_ok (by omega), bs, geti_q (by omega) (by simpa using em), bs]
  have hcond : (if decide (Has mask t) = true then (some (true, s)) else (some (!decide ((iandn .u8 mk mask) = (0 : Int)), s))) = some (!mayB c (tsC c mv) done t, s) := by
   unfold mayB;by_cases h1 : (t : Int) ∈ done
   ·rw [decide_eq_true ((hH t).2 h1)]; simp [h1]
   ·rw [decide_eq_false (fun h => h1 ((hH t).1 h))]
    have e : decide ((iandn .u8 mk mask) = (0 : Int)) = (befL c (tsC c mv) t).all fun a => decide ((a : Int) ∈ done) := by
     rw [Bool.eq_iff_iff, decide_eq_true_eq, iandn_ok hmk hM, List.all_eq_true];constructor
     ·intro hh a ha; exact decide_eq_true ((hH a).1 (hh a ((hmb a).2 (mem_befL.1 ha))))
     ·intro hh a ha; exact (hH a).2 (of_decide_eq_true (hh a (mem_befL.2 ((hmb a).1 ha))))
    rw [e];simp [h1]
  rw [hcond, bs]
  have hw : extL c (tsC c mv) done t = (if mayB c (tsC c mv) done t = true then whoL c (tsC c mv) t 0 else []) ++ extL c (tsC c mv) done (t + 1) := by
   unfold extL;rw [range'_cons ht, List.flatMap_cons]
  rw [hw, List.flatMap_append, runY_append];by_cases hc : mayB c (tsC c mv) done t = true
  ·have := plans2_eq hk h (Y := Y) (self := self) (mask := mask) (done := done) (p := p) (r := r) (t := t) (y6 := (p, (t : Int), s)) hp ht rfl (fun m' d s hm hd => hself m' t d s hm ht hd) c.2.1.length 0 k s (by omega) (by omega) (by omega);simp only [hc, Bool.not_true, Bool.false_eq_true, if_false, if_true];rw [show ((0 : Nat) : Int) = 0 from rfl] at this;rw [this];cases hR : runY Y s ((whoL c (tsC c mv) t 0).flatMap fun s => gen c (tsC c mv) r (done ++ [s.1]) (p ++ [s])) with
   | none => simp [K.bE]
   | some x =>
    obtain ⟨s', b⟩ := x;cases b with
    | false => simp only [bs, resY, Bool.false_eq_true, if_false, bE_e]
    | true =>
     simp only [bs, resY, if_true, bE_k, hck];exact ih' s'
  ·simp only [hc];have hc' : mayB c (tsC c mv) done t = false := by simpa using hc
   simp only [Bool.not_false, if_true, bE_k, hck, bs];exact ih' s

theorem plans_eq {k : Nat} (hk : 50 ≤ k) {n : Int} {c : dChange} {mv : List Bool} {q : dQuick} (h : QV n c mv q) {Y : σ → List dStep → Option (σ × Bool)} : ∀ (r fuel : Nat) {mask : Int} {done : List Int} {p : List dStep} {s : σ}, p.length + r = (tsC c mv).length → r < fuel → Mask mask → (∀ a : Nat, Has mask a ↔ (a : Int) ∈ done) →
 chg_quick_plans_1_1 k Y q fuel mask p s = (runY Y s (gen c (tsC c mv) r done p)).bind fun r => some (r.2, p, r.1) := by
 have ht4 := h.t4
 intro r
 induction r with
 | zero =>
  intro fuel mask done p s h1 h2 hM hH;obtain ⟨fuel, rfl⟩ : ∃ f, fuel = f + 1 := ⟨fuel - 1, by omega⟩;rw [chg_quick_plans_1_1, if_pos (by rw [h.tasks]; omega)];unfold slc_Clone_Step;rw [chk_ok (okLen_of (by omega)), bs, bs];simp only [gen, runY];cases Y s p with
  | none => simp
  | some x =>
   obtain ⟨x1, x2⟩ := x;cases x2 <;> simp
 | succ r ih =>
  intro fuel mask done p s h1 h2 hM hH;obtain ⟨fuel, rfl⟩ : ∃ f, fuel = f + 1 := ⟨fuel - 1, by omega⟩;rw [chg_quick_plans_1_1, if_neg (by rw [h.tasks]; omega)]
  have := plans1_eq hk h (Y := Y) (self := chg_quick_plans_1_1 k Y q fuel) (mask := mask) (done := done) (p := p) (r := r) (by omega) hM hH (fun m' t d s hm ht hd => by
   obtain ⟨r24, e24, rfl⟩ := hm;obtain ⟨r24', e24', m24, d24⟩ := of_set_ok (k := k) hk (l := [(t : Int)]) (by simp) (fun x hx => by simp only [List.mem_singleton] at hx; subst hx; omega);have : r24' = r24 := Option.some.inj (e24'.symm.trans e24);subst this;obtain ⟨m5, d5⟩ := ior_ok hM m24;exact ih fuel (by simp; omega) (by omega) m5 (fun a => by rw [d5, hH, d24, List.mem_append])) (tsC c mv).length 0 k s (by omega) (by omega) (by omega)
  rw [show ((0 : Nat) : Int) = 0 from rfl] at this;rw [this];simp only [gen];cases hR : runY Y s ((extL c (tsC c mv) done 0).flatMap fun s => gen c (tsC c mv) r (done ++ [s.1]) (p ++ [s])) with
  | none => simp [K.bE]
  | some x =>
   obtain ⟨s', b⟩ := x;cases b with
   | false => simp only [bs, resY, Bool.false_eq_true, if_false, bE_e]
   | true => simp only [bs, resY, if_true, bE_k]
end

/-- All plans. -/
def plansS (c : dChange) (ts : List (Bool × Int)) : List (List dStep) := gen c ts ts.length [] []

theorem mem_whoL {c : dChange} {ts : List (Bool × Int)} {t : Nat} {s : dStep} : s ∈ whoL c ts t 0 ↔ s.1 = (t : Int) ∧ 0 ≤ s.2 ∧ s.2 < c.2.1.length ∧ canB c s.2 (tsk ts s.1) = true := by
 unfold whoL;simp only [List.mem_map, List.mem_filter, List.mem_range'_1];constructor
 ·rintro ⟨d, ⟨h1, h2⟩, rfl⟩;exact ⟨rfl, by simp, by simp only; omega, h2⟩
 ·rintro ⟨h1, h2, h3, h4⟩;obtain ⟨a, b⟩ := s;simp only at h1 h2 h3 h4;subst h1;have e : ((b.toNat : Nat) : Int) = b := by omega
  exact ⟨b.toNat, ⟨by omega, by rw [e]; exact h4⟩, by rw [e]⟩
theorem mayB_iff {c : dChange} {ts : List (Bool × Int)} {done : List Int} {t : Nat} : mayB c ts done t = true ↔ (t : Int) ∉ done ∧ ∀ a ∈ befL c ts t, (a : Int) ∈ done := by
 unfold mayB;simp only [Bool.and_eq_true, decide_eq_true_eq, List.all_eq_true]
/-- The steps that can be next are those without an error. -/
theorem mem_extL {c : dChange} {ts : List (Bool × Int)} {done : List Int} {s : dStep} : s ∈ extL c ts done 0 ↔ stepErr c ts done s = 0 := by
 unfold extL stepErr;simp only [List.mem_flatMap, List.mem_range'_1];constructor
 ·rintro ⟨t, h1, h2⟩;by_cases hm : mayB c ts done t = true
  ·rw [if_pos hm] at h2;obtain ⟨e1, e2, e3, e4⟩ := mem_whoL.1 h2;obtain ⟨m1, m2⟩ := mayB_iff.1 hm;rw [if_neg (by omega), if_neg (by rw [e1]; exact m1), if_neg (by omega), if_neg (by show ¬ canB c s.2 (tsk ts s.1) = false; rw [e4]; decide), if_neg (by rw [e1]; simpa using m2)]
  ·rw [if_neg hm] at h2; cases h2
 ·intro h;by_cases a1 : 0 ≤ s.1 ∧ s.1 < ts.length
  ·rw [if_neg (by simpa using a1)] at h;by_cases a2 : s.1 ∈ done
   ·rw [if_pos a2] at h; cases h
   ·rw [if_neg a2] at h;by_cases a3 : 0 ≤ s.2 ∧ s.2 < c.2.1.length
    ·rw [if_neg (by simpa using a3)] at h;by_cases a4 : canB c s.2 (ts[s.1.toNat]?.getD (false, 0)) = false
     ·rw [if_pos a4] at h; cases h
     ·rw [if_neg a4] at h;by_cases a5 : ∀ a ∈ befL c ts s.1.toNat, (a : Int) ∈ done
      ·have e1 : ((s.1.toNat : Nat) : Int) = s.1 := by omega
       refine ⟨s.1.toNat, by omega, ?_⟩;rw [if_pos (mayB_iff.2 ⟨by rw [e1]; exact a2, a5⟩)];exact mem_whoL.2 ⟨e1.symm, a3.1, a3.2, by simpa [tsk] using a4⟩
      ·rw [if_pos a5] at h; cases h
    ·rw [if_pos (by simpa using a3)] at h; cases h
  ·rw [if_pos (by simpa using a1)] at h; cases h

theorem mem_gen {c : dChange} {ts : List (Bool × Int)} : ∀ {r : Nat} {done : List Int} {p x : List dStep}, x ∈ gen c ts r done p ↔ ∃ y, x = p ++ y ∧ y.length = r ∧ cpGo c ts done y = 0
 | 0, done, p, x => by
  simp only [gen, List.mem_singleton]
  constructor
  ·
   intro h; exact ⟨[], by simp [h], rfl, rfl⟩
  ·
   rintro ⟨y, rfl, h, _⟩
   rw [List.length_eq_zero_iff.1 h, List.append_nil]
 | r + 1, done, p, x => by
  simp only [gen, List.mem_flatMap]
  constructor
  ·
   rintro ⟨s, hs, hx⟩
   obtain ⟨y, rfl, h1, h2⟩ := mem_gen.1 hx
   refine ⟨s :: y, by simp, by simp [h1], ?_⟩
   rw [cpGo, if_neg (by simp [mem_extL.1 hs]), h2]
  ·
   rintro ⟨y, rfl, h1, h2⟩
   cases y with
   | nil => simp at h1
   | cons s y =>
    rw [cpGo] at h2
    by_cases h0 : stepErr c ts done s = 0
    ·
     rw [if_neg (by simp [h0])] at h2
     exact ⟨s, mem_extL.2 h0, mem_gen.2 ⟨y, by simp, by simpa using h1, h2⟩⟩
    ·
     rw [if_pos h0] at h2; exact absurd h2 h0
/-- **All plans are the lists of steps without an error.** -/
theorem mem_plansS {c : dChange} {ts : List (Bool × Int)} {p : List dStep} : p ∈ plansS c ts ↔ cpS c ts p = 0 := by
 unfold plansS;rw [mem_gen];constructor
 ·rintro ⟨y, rfl, h1, h2⟩;unfold cpS;rw [if_neg (by omega), if_neg (by omega), h2]
 ·intro h;obtain ⟨h1, h2⟩ := cpS_ok h;exact ⟨p, rfl, h1, h2⟩

def maxE (E : Nat → Int) : Int := imax (imax (imax (E 0) (E 1)) (E 2)) (E 3)
/-- The bars of a plan. -/
def lenS (c : dChange) (ts : List (Bool × Int)) (p : List dStep) : Int := maxE (bge c ts E0 (F0 c) p)

theorem keyOf_eq {k : Nat} (hk : 50 ≤ k) {p : List dStep} (hp : p.length ≤ 4) : chg_keyOf k p = some (keyL p) := by
 have key : chg_keyOf_l1 k k ([((0 : Int), (0 : Int)), ((0 : Int), (0 : Int)), ((0 : Int), (0 : Int)), ((0 : Int), (0 : Int))], (0 : Int)) = some [(-1, -1), (-1, -1), (-1, -1), (-1, -1)] := by
  obtain ⟨k', e⟩ : ∃ k', k = k' + 5 := ⟨k - 5, by omega⟩;rw [show chg_keyOf_l1 k k = chg_keyOf_l1 k (k' + 5) by rw [← e]];rw [chg_keyOf_l1, if_pos (by decide), chk_ok (by decide), bs, ck_ok (by decide) (by decide), bs];rw [chg_keyOf_l1, if_pos (by decide), chk_ok (by decide), bs, ck_ok (by decide) (by decide), bs];rw [chg_keyOf_l1, if_pos (by decide), chk_ok (by decide), bs, ck_ok (by decide) (by decide), bs];rw [chg_keyOf_l1, if_pos (by decide), chk_ok (by decide), bs, ck_ok (by decide) (by decide), bs];rw [chg_keyOf_l1, if_neg (by decide)];rfl
 unfold chg_keyOf;rw [key, bs];unfold keyL;congr 1;match p, hp with
 | [], _ => rfl
 | [a], _ => rfl
 | [a, b], _ => rfl
 | [a, b, d], _ => rfl
 | [a, b, d, e], _ => rfl

theorem length_eq {k : Nat} (hk : 50 ≤ k) {n : Int} {c : dChange} {mv : List Bool} {q : dQuick} (h : QV n c mv q) {p : List dStep} (hp : cpS c (tsC c mv) p = 0) : chg_quick_length k q p = some (lenS c (tsC c mv) p) := by
 obtain ⟨h1, h2⟩ := cpS_ok hp;have h3 := (cpGo_ok h2).1;have ht := h.t4;have hdl := h.vc.dl;have hs : ∀ s ∈ p, StepOk c (tsC c mv) s := fun s hs => (h3 s hs).1;obtain ⟨el, e1, hE⟩ := begins_eq hk h (by omega) hs;unfold chg_quick_length
 have hg : lenGuard q p := ⟨by rw [h.tasks]; exact h1, by omega, fun s hs' => by
  obtain ⟨a, b, d, e⟩ := hs s hs';exact ⟨a, by omega, d, by omega⟩⟩
 rw [chk_ok hg, bs, keyOf_eq hk (by omega), bs, chk_ok rfl, bs, keyOf_eq hk (by simp), bs, chk_ok rfl, bs];by_cases h0 : p = []
 ·subst h0;rw [if_pos rfl];rfl
 ·rw [if_neg h0, e1, bs];obtain ⟨hl, hv⟩ := hE;have v0 := hv 0 (by omega);have v1 := hv 1 (by omega);have v2 := hv 2 (by omega);have v3 := hv 3 (by omega);unfold lenS;generalize bge c (tsC c mv) E0 (F0 c) p = E at *;match el, hl with
  | [a, b, d, e], _ =>
   simp only [List.getElem?_cons_zero, List.getElem?_cons_succ, Option.some.injEq] at v0 v1 v2 v3;subst v0 v1 v2 v3
   have key : slc_Max_int k [E 0, E 1, E 2, E 3] = some (maxE E) := by
    unfold slc_Max_int;rw [if_neg (by simp)];obtain ⟨k', e⟩ : ∃ k', k = k' + 5 := ⟨k - 5, by omega⟩;rw [show slc_Max_int_l1 k [E 0, E 1, E 2, E 3] k = slc_Max_int_l1 k [E 0, E 1, E 2, E 3] (k' + 5) by rw [← e]];rw [show geti [E 0, E 1, E 2, E 3] 0 = some (E 0) from rfl, bs];rw [slc_Max_int_l1, if_pos (by simp), show geti [E 0, E 1, E 2, E 3] 1 = some (E 1) from rfl, bs, ck_ok (by simp) (by simp), bs];rw [slc_Max_int_l1, if_pos (by simp)];simp only [show (1 : Int) + 1 = 2 from rfl];rw [show geti [E 0, E 1, E 2, E 3] 2 = some (E 2) from rfl, bs, ck_ok (by simp) (by simp), bs];rw [slc_Max_int_l1, if_pos (by simp)];simp only [show (2 : Int) + 1 = 3 from rfl];rw [show geti [E 0, E 1, E 2, E 3] 3 = some (E 3) from rfl, bs, ck_ok (by simp) (by simp), bs];rw [slc_Max_int_l1, if_neg (by simp), bs];rfl
   rw [key, bs]

/-- The first of the least. -/
def minL (f : List dStep → Int) : Bool × Int × List dStep → List (List dStep) → Bool × Int × List dStep
 | b, [] => b
 | b, p :: l => minL f (if b.1 = false ∨ f p < b.2.1 then (true, f p, p) else b) l

theorem least_eq {k : Nat} (hk : 50 ≤ k) {n : Int} {c : dChange} {mv : List Bool} {q : dQuick} (h : QV n c mv q) :
 chg_least k q = some ((minL (lenS c (tsC c mv)) (false, 0, []) (plansS c (tsC c mv))).2.2, (minL (lenS c (tsC c mv)) (false, 0, []) (plansS c (tsC c mv))).2.1, (minL (lenS c (tsC c mv)) (false, 0, []) (plansS c (tsC c mv))).1) := by
 have ht := h.t4
 have hcq : (((q.1.1, q.1.2.1, q.1.2.2.1, q.1.2.2.2), q.2.1, q.2.2) : dQuick) = q := rfl
 unfold chg_least chg_quick_plans_1
 simp only [hcq]
 rw [plans_eq hk h (tsC c mv).length k (done := []) (by simp) (by omega) ⟨by decide, by decide⟩ (fun a => by simp [Has])]
 have key : ∀ (l : List (List dStep)) (b : Bool × Int × List dStep), (∀ p ∈ l, cpS c (tsC c mv) p = 0) → runY (stopY (fun (y5 : Bool × Int × (List dStep)) (p7 : (List dStep)) =>
  (chg_quick_length k q p7).bind fun r9 =>
  ((if ¬ (y5.1 = true) then (some true) else (some (decide (r9 < y5.2.1)))) : Option (Bool)).bind fun x10 =>
  if x10 = true then (some ((true, r9, p7), true)) else (some ((y5.1, y5.2.1, y5.2.2), true)))) (b, false) l = some ((minL (lenS c (tsC c mv)) b l, false), true) := by
  intro l
  induction l with
  | nil => intro b _; rfl
  | cons p l ih =>
   intro b hp;have hl := length_eq hk h (hp p (by simp));have ih' := fun b => ih b (fun x hx => hp x (by simp [hx]));rw [runY, stopY];simp only [hl, bs];obtain ⟨b1, b2, b3⟩ := b;cases b1 with
   | false =>
    simp only [Bool.false_eq_true, not_false_eq_true, if_true, bs, Bool.not_true];rw [ih', minL];simp
   | true =>
    by_cases hlt : lenS c (tsC c mv) p < b2
    ·simp only [not_true_eq_false, if_false, hlt, decide_true, if_true, bs, Bool.not_true];rw [ih', minL];simp [hlt]
    ·simp only [not_true_eq_false, if_false, hlt, decide_false, Bool.false_eq_true, bs, if_true, Bool.not_true];rw [ih', minL];simp [hlt]
 have := key (plansS c (tsC c mv)) (false, 0, []) (fun p hp => mem_plansS.1 hp)
 unfold plansS at this ⊢
 rw [this]
 simp only [bs, Bool.false_eq_true, if_false]

/-- What the fewest bars are: the plan, the bars, and whether there is a plan. -/
def fewS (c : dChange) (ts : List (Bool × Int)) : Bool × Int × List dStep := minL (lenS c ts) (false, 0, []) (plansS c ts)

theorem minL_spec {f : List dStep → Int} : ∀ {l : List (List dStep)} {b : Bool × Int × List dStep}, b.1 = true → (minL f b l).1 = true ∧ (minL f b l).2.1 ≤ b.2.1 ∧ (∀ p ∈ l, (minL f b l).2.1 ≤ f p) ∧ ((minL f b l) = b ∨ ∃ p ∈ l, minL f b l = (true, f p, p))
 | [], b, h => ⟨h, Int.le_refl _, by simp, .inl rfl⟩
 | p :: l, b, h => by
  rw [minL]
  by_cases hp : f p < b.2.1
  ·
   rw [if_pos (.inr hp)]
   obtain ⟨h1, h2, h3, h4⟩ := minL_spec (f := f) (l := l) (b := (true, f p, p)) rfl
   simp only at h2
   refine ⟨h1, by omega, fun x hx => ?_, ?_⟩
   ·
    rcases List.mem_cons.1 hx with rfl | hx
    ·
     exact h2
    ·
     exact h3 x hx
   ·
    rcases h4 with h4 | ⟨x, hx, h4⟩
    ·
     exact .inr ⟨p, by simp, h4⟩
    ·
     exact .inr ⟨x, by simp [hx], h4⟩
  ·
   rw [if_neg (by rw [h]; simp [hp])]
   obtain ⟨h1, h2, h3, h4⟩ := minL_spec (f := f) (l := l) h
   refine ⟨h1, h2, fun x hx => ?_, ?_⟩
   ·
    rcases List.mem_cons.1 hx with rfl | hx
    ·
     omega
    ·
     exact h3 x hx
   ·
    rcases h4 with h4 | ⟨x, hx, h4⟩
    ·
     exact .inl h4
    ·
     exact .inr ⟨x, by simp [hx], h4⟩

/-- **The fewest bars.** -/
theorem fewS_spec {c : dChange} {ts : List (Bool × Int)} : ((fewS c ts).1 = false ∧ (fewS c ts).2 = (0, []) ∧ ∀ p, cpS c ts p ≠ 0) ∨
 ((fewS c ts).1 = true ∧ cpS c ts (fewS c ts).2.2 = 0 ∧ (fewS c ts).2.1 = lenS c ts (fewS c ts).2.2 ∧ ∀ p, cpS c ts p = 0 → (fewS c ts).2.1 ≤ lenS c ts p) := by
 unfold fewS
 cases hl : plansS c ts with
 | nil =>
  refine .inl ⟨rfl, rfl, fun p hp => ?_⟩;have := mem_plansS.2 hp;rw [hl] at this;simp at this
 | cons p l =>
  rw [minL, if_pos (.inl rfl)];obtain ⟨h1, h2, h3, h4⟩ := minL_spec (f := lenS c ts) (l := l) (b := (true, lenS c ts p, p)) rfl;have hm : ∀ x, cpS c ts x = 0 ↔ x = p ∨ x ∈ l := fun x => by rw [← mem_plansS, hl]; simp
  refine .inr ⟨h1, ?_, ?_, fun x hx => ?_⟩
  ·rcases h4 with h4 | ⟨x, hx, h4⟩
   ·rw [h4]; exact (hm _).2 (.inl rfl)
   ·rw [h4]; exact (hm _).2 (.inr hx)
  ·rcases h4 with h4 | ⟨x, hx, h4⟩
   ·rw [h4]
   ·rw [h4]
  ·rcases (hm x).1 hx with rfl | hx
   ·exact h2
   ·exact h3 x hx

theorem Fewest_eq {k : Nat} (hk : 50 ≤ k) {n : Int} {c : dChange} {mv : List Bool} {q : dQuick} (h : QV n c mv q) (hb : chg_begin k c = some (some q, 0)) :
 chg_Fewest k c = some (if (fewS c (tsC c mv)).1 = true then ((fewS c (tsC c mv)).2.2, (fewS c (tsC c mv)).2.1, 0) else ([], 0, 11)) := by
 have hcq : (((q.1.1, q.1.2.1, q.1.2.2.1, q.1.2.2.2), q.2.1, q.2.2) : dQuick) = q := rfl
 unfold chg_Fewest
 rw [hb, bs, co_some]
 rw [if_neg (by simp), hcq, least_eq hk h, bs]
 unfold fewS
 cases (minL (lenS c (tsC c mv)) (false, 0, []) (plansS c (tsC c mv))).1 <;> simp

end Go.Proofs.Ytopgphikdglphaa

/- Plain law: a change with other dressers. -/
namespace Go.Proofs.Ytopgphikdglphaa
open K Go Go.Proofs

/-- A change with other dressers. -/
abbrev wD (c : dChange) (ds : List dDresser) : dChange := (c.1, ds, c.2.2.1, c.2.2.2)

theorem vc_with {k : Nat} {n : Int} {c : dChange} {ds : List dDresser} (hG : GoodC k c) (hc : VC n c) (hd : ∀ x ∈ ds, GoodD n x) (hl : 1 ≤ ds.length ∧ ds.length ≤ 3) : VC n (wD c ds) := by
 obtain ⟨⟨up, n', h1, h4, hl', hgo, hw, hv, _⟩, _, _⟩ := hG;have : n' = n := by have := hc.len; omega
 subst this;exact vc_of_good ⟨h1, h4⟩ hl' hgo hw hv hd hl

theorem fix_with {c : dChange} {ds : List dDresser} {mv : List Bool} (h : Fix c mv) : Fix (wD c ds) mv := ⟨h.len, h.sound, h.shut⟩

/-- **A valid change with other dressers is at work as it was.** -/
theorem begin_with {k : Nat} (hk : 50 ≤ k) {k' : Nat} {n : Int} {c : dChange} {mv : List Bool} {q : dQuick} {ds : List dDresser} (hG : GoodC k' c) (hq : QV n c mv q) (hd : ∀ x ∈ ds, GoodD n x) (hl : 1 ≤ ds.length ∧ ds.length ≤ 3) :
 ∃ q', chg_begin k (wD c ds) = some (some q', 0) ∧ QV n (wD c ds) mv q' :=
 (begin_ok hk (vc_with hG hq.vc hd hl) (fix_with hq.fix)).2 hq.t4

theorem drs_set {c : dChange} {ds : List dDresser} {x : dDresser} {d : Nat} (hd : d < ds.length) {i : Int} (hi : 0 ≤ i) : drs (wD c (ds.set d x)) i = if i = (d : Int) then x else drs (wD c ds) i := by
 unfold drs;simp only [List.getElem?_set];by_cases h : d = i.toNat
 ·rw [if_pos h, if_pos hd, if_pos (by omega)]; rfl
 ·rw [if_neg h, if_neg (by omega)]

theorem stepErr_congr {c c' : dChange} {ts : List (Bool × Int)} {done : List Int} {s : dStep} (h1 : c'.1 = c.1) (h2 : c'.2.1.length = c.2.1.length) (h3 : 0 ≤ s.2 → s.2 < c.2.1.length → canB c' s.2 (tsk ts s.1) = canB c s.2 (tsk ts s.1)) : stepErr c' ts done s = stepErr c ts done s := by
 have hb : ∀ b, befL c' ts b = befL c ts b := fun b => by
  unfold befL bef befB thg;rw [h1]
 unfold stepErr;rw [hb, h2];by_cases a1 : 0 ≤ s.1 ∧ s.1 < ts.length
 ·have n1 : ¬ ¬ (0 ≤ s.1 ∧ s.1 < ts.length) := fun h => h a1;simp only [n1, if_false];by_cases a2 : s.1 ∈ done
  ·simp only [a2, if_true]
  ·simp only [a2, if_false];by_cases a3 : 0 ≤ s.2 ∧ s.2 < c.2.1.length
   ·have n3 : ¬ ¬ (0 ≤ s.2 ∧ s.2 < c.2.1.length) := fun h => h a3;have := h3 a3.1 a3.2;unfold tsk at this;simp only [n3, if_false, this]
   ·simp only [a3, not_false_eq_true, if_true]
 ·simp only [a1, not_false_eq_true, if_true]
theorem cpS_congr {c c' : dChange} {ts : List (Bool × Int)} (h1 : c'.1 = c.1) (h2 : c'.2.1.length = c.2.1.length) (h3 : ∀ (i : Int) w, 0 ≤ i → i < c.2.1.length → w ∈ ts → canB c' i w = canB c i w) {p : List dStep} : cpS c' ts p = cpS c ts p := by
 have key : ∀ (p : List dStep) (done : List Int), cpGo c' ts done p = cpGo c ts done p := by
  intro p
  induction p with
  | nil => intro done; rfl
  | cons s p ih =>
   intro done
   have e : stepErr c' ts done s = stepErr c ts done s := by
    by_cases hs : 0 ≤ s.1 ∧ s.1 < ts.length
    ·refine stepErr_congr h1 h2 fun a b => h3 _ _ a b ?_;have hl : s.1.toNat < ts.length := by omega
     rw [tsk, List.getElem?_eq_getElem hl];exact List.getElem_mem hl
    ·unfold stepErr;simp only [hs, not_false_eq_true, if_true]
   rw [cpGo, cpGo, e, ih]
 unfold cpS;rw [key]

/-- Whether there is a plan. -/
theorem fewS_some {c : dChange} {ts : List (Bool × Int)} : (fewS c ts).1 = true ↔ ∃ p, cpS c ts p = 0 := by
 rcases fewS_spec (c := c) (ts := ts) with ⟨h, _, h'⟩ | ⟨h, h', _⟩
 ·rw [h];exact ⟨fun h => (nomatch h), fun ⟨p, hp⟩ => absurd hp (h' p)⟩
 ·exact ⟨fun _ => ⟨_, h'⟩, fun _ => h⟩

theorem good_set {n : Int} {ds : List dDresser} {d : Nat} {x : dDresser} (h : ∀ x ∈ ds, GoodD n x) (hx : GoodD n x) : ∀ y ∈ ds.set d x, GoodD n y := fun y hy => by
 rcases List.mem_or_eq_of_mem_set hy with h' | h'
 ·
  exact h y h'
 ·
  subst h'; exact hx

end Go.Proofs.Ytopgphikdglphaa

/- Plain law: sooner, or able to do more. -/
namespace Go.Proofs.Ytopgphikdglphaa
open K Go Go.Proofs

/-- Who can do more keeps all plans. -/
theorem cpS_more {c c' : dChange} {ts : List (Bool × Int)} (h1 : c'.1 = c.1) (h2 : c'.2.1.length = c.2.1.length) (h3 : ∀ (i : Int) w, 0 ≤ i → i < c.2.1.length → w ∈ ts → canB c i w = true → canB c' i w = true) {p : List dStep} (h : cpS c ts p = 0) : cpS c' ts p = 0 := by
 have hb : ∀ b, befL c' ts b = befL c ts b := fun b => by
  unfold befL bef befB thg;rw [h1]
 have step : ∀ (s : dStep) (done : List Int), stepErr c ts done s = 0 → stepErr c' ts done s = 0 := fun s done hs => by
  unfold stepErr at hs ⊢;rw [hb, h2];by_cases a1 : 0 ≤ s.1 ∧ s.1 < ts.length
  ·have n1 : ¬ ¬ (0 ≤ s.1 ∧ s.1 < ts.length) := fun h => h a1;simp only [n1, if_false] at hs ⊢;by_cases a2 : s.1 ∈ done
   ·simp only [a2, if_true] at hs; cases hs
   ·simp only [a2, if_false] at hs ⊢;by_cases a3 : 0 ≤ s.2 ∧ s.2 < c.2.1.length
    ·have n3 : ¬ ¬ (0 ≤ s.2 ∧ s.2 < c.2.1.length) := fun h => h a3;simp only [n3, if_false] at hs ⊢;by_cases a4 : canB c s.2 (ts[s.1.toNat]?.getD (false, 0)) = false
     ·simp only [a4, if_true] at hs; cases hs
     ·have hl : s.1.toNat < ts.length := by omega
      have a5 : canB c' s.2 (ts[s.1.toNat]?.getD (false, 0)) = true := h3 _ _ a3.1 a3.2 (by rw [List.getElem?_eq_getElem hl]; exact List.getElem_mem hl) (by simpa using a4);rw [if_neg a4] at hs;rw [if_neg (by rw [a5]; decide)];exact hs
    ·simp only [a3, not_false_eq_true, if_true] at hs; cases hs
  ·simp only [a1, not_false_eq_true, if_true] at hs; cases hs
 have key : ∀ (p : List dStep) (done : List Int), cpGo c ts done p = 0 → cpGo c' ts done p = 0 := by
  intro p
  induction p with
  | nil => intro done _; rfl
  | cons s p ih =>
   intro done h;rw [cpGo] at h ⊢;by_cases h0 : stepErr c ts done s = 0
   ·rw [if_neg (by simp [h0])] at h;rw [if_neg (by simp [step s done h0])];exact ih _ h
   ·rw [if_pos h0] at h; exact absurd h h0
 obtain ⟨e1, e2⟩ := cpS_ok h;unfold cpS;rw [if_neg (by omega), if_neg (by omega), key p [] e2]

end Go.Proofs.Ytopgphikdglphaa

/- Plain law: copies. -/
namespace Go.Proofs.Ytopgphikdglphaa
open K Go Go.Proofs

theorem copyInts_ok {k : Nat} {l : List Int} (h : l.length ≤ 1000) : kit_CopyInts k l = some l := by
 unfold kit_CopyInts;rw [chkP, if_pos (okLen_of (by simpa using h))];rfl

theorem copyChange_ok {k : Nat} (hk : 50 ≤ k) {c : dChange} (h1 : c.1.length ≤ 20) (h2 : c.2.1.length ≤ 20) (h3 : ∀ t ∈ c.1, t.1.length ≤ 20) (h4 : ∀ d ∈ c.2.1, d.1.length ≤ 20) (h5 : c.2.2.1.length ≤ 20) (h6 : c.2.2.2.length ≤ 20) : kit_CopyChange k c = some c := by
 have k1 : W (kit_CopyChange_l1 k c k ([], 0)) fun r => r = c.1 := by
  refine W.loop (f := kit_CopyChange_l1 k c) (fun m y => ∃ j : Nat, y.2 = (j : Int) ∧ j ≤ c.1.length ∧ m = c.1.length - j ∧ y.1 = c.1.take j) ?_ c.1.length k _ (by omega) ⟨0, rfl, by omega, by omega, by simp⟩;rintro fuel m ⟨o, y⟩ ⟨j, hj, hle, hq, ho⟩ ih;simp only at hj ho;subst hj ho;unfold kit_CopyChange_l1;dsimp only
  refine W.ite (fun hlt => ?_) (fun hge => W.ret (by have : j = c.1.length := by omega
                                                     subst this; rw [List.take_length]))
  have hlt' : j < c.1.length := by omega
  refine W.bindE (geti_W hlt') (W.bindE (copyInts_ok (by have := h3 _ (List.getElem_mem hlt'); omega)) (W.chk (okLen_of (by simp only [List.length_take, List.length_cons, List.length_nil]; omega)) (W.ck (by omega) (by omega) (ih (m - 1) (_, (j : Int) + 1) (by omega) ⟨j + 1, ?_, by omega, by omega, ?_⟩))))
  ·show (j : Int) + 1 = ((j + 1 : Nat) : Int);omega
  ·show c.1.take j ++ [_] = _;rw [List.take_add_one, List.getElem?_eq_getElem hlt'];rfl
 have k2 : W (kit_CopyChange_l2 k c k ([], 0)) fun r => r = c.2.1 := by
  refine W.loop (f := kit_CopyChange_l2 k c) (fun m y => ∃ j : Nat, y.2 = (j : Int) ∧ j ≤ c.2.1.length ∧ m = c.2.1.length - j ∧ y.1 = c.2.1.take j) ?_ c.2.1.length k _ (by omega) ⟨0, rfl, by omega, by omega, by simp⟩;rintro fuel m ⟨o, y⟩ ⟨j, hj, hle, hq, ho⟩ ih;simp only at hj ho;subst hj ho;unfold kit_CopyChange_l2;dsimp only
  refine W.ite (fun hlt => ?_) (fun hge => W.ret (by have : j = c.2.1.length := by omega
                                                     subst this; rw [List.take_length]))
  have hlt' : j < c.2.1.length := by omega
  refine W.bindE (geti_W hlt') (W.bindE (copyInts_ok (by have := h4 _ (List.getElem_mem hlt'); omega)) (W.chk (okLen_of (by simp only [List.length_take, List.length_cons, List.length_nil]; omega)) (W.ck (by omega) (by omega) (ih (m - 1) (_, (j : Int) + 1) (by omega) ⟨j + 1, ?_, by omega, by omega, ?_⟩))))
  ·show (j : Int) + 1 = ((j + 1 : Nat) : Int);omega
  ·show c.2.1.take j ++ [_] = _;rw [List.take_add_one, List.getElem?_eq_getElem hlt'];rfl
 obtain ⟨x1, e1, rfl⟩ := k1;obtain ⟨x2, e2, rfl⟩ := k2;unfold kit_CopyChange;rw [copyInts_ok (by omega), copyInts_ok (by omega), e1, e2];rfl

end Go.Proofs.Ytopgphikdglphaa

/- Plain law: a change with other dressers, as the laws' kit makes it. -/
namespace Go.Proofs.Ytopgphikdglphaa
open K Go Go.Proofs

theorem copyVC {k : Nat} (hk : 50 ≤ k) {n : Int} {c : dChange} (hc : VC n c) : kit_CopyChange k c = some c := by
 obtain ⟨w1, w2, w3, w4, w5⟩ := hc.wl;have := hc.dl;exact copyChange_ok hk (by omega) (by omega) (fun t ht => by have := w4 t ht; omega) (fun d hd => by have := w5 d hd; omega) (by omega) (by omega)
theorem instead_eq {k : Nat} (hk : 50 ≤ k) {n : Int} {c : dChange} (hc : VC n c) {d : Nat} {x : dDresser} (hd : d < c.2.1.length) : law_instead k c (d : Int) x = some (wD c (c.2.1.set d x)) := by
 unfold law_instead;rw [copyVC hk hc, bs, geti_W hd, bs];rfl

end Go.Proofs.Ytopgphikdglphaa

/- Plain law: a dresser who can do nothing. -/
namespace Go.Proofs.Ytopgphikdglphaa
open K Go Go.Proofs

/-- The ends of a plan do not hang on a dresser without a step. -/
theorem bge_congr {c c' : dChange} {ts : List (Bool × Int)} (hc : c'.1 = c.1) {d : Nat} : ∀ {p : List dStep} {E F F' : Nat → Int}, (∀ s ∈ p, s.2.toNat ≠ d) → (∀ i, i ≠ d → F' i = F i) → bge c' ts E F' p = bge c ts E F p
 | [], _, _, _, _, _ => rfl
 | s :: p, E, F, F', hs, hF => by
  have hb : barsB c' (tsk ts s.1) = barsB c (tsk ts s.1) := by unfold barsB thg; rw [hc]
  have hbf : befL c' ts s.1.toNat = befL c ts s.1.toNat := by
   unfold befL bef befB thg;rw [hc]
  have he : bgEnd c' ts E F' s = bgEnd c ts E F s := by
   unfold bgEnd bgAt;rw [hb, hbf, hF _ (hs s (by simp))]
  rw [bge, bge, he]
  exact bge_congr hc (fun x hx => hs x (List.mem_cons_of_mem _ hx)) fun i hi => by
   unfold upd; split
   ·rfl
   ·exact hF i hi

section
variable {c : dChange} {ts : List (Bool × Int)} {d : Nat} {x y : dDresser} {p : List dStep}

theorem canB_idle (hd : d < c.2.1.length) (hx : x.1 = []) {w : Bool × Int} : canB (wD c (c.2.1.set d x)) (d : Int) w = false := by
 unfold canB;rw [drs_set hd (Int.natCast_nonneg d), if_pos rfl, hx];simp
theorem canB_else (hd : d < c.2.1.length) {i : Int} (hi : 0 ≤ i) (hne : i ≠ d) {w : Bool × Int} : canB (wD c (c.2.1.set d x)) i w = canB c i w := by
 unfold canB;rw [drs_set hd hi, if_neg hne];rfl
theorem cpS_idle (hd : d < c.2.1.length) (hx : x.1 = []) (hy : y.1 = []) : cpS (wD c (c.2.1.set d x)) ts p = cpS (wD c (c.2.1.set d y)) ts p :=
 cpS_congr (c := wD c (c.2.1.set d y)) (c' := wD c (c.2.1.set d x)) rfl (by simp) fun i w h0 _ _ => by
  by_cases h : i = (d : Int)
  ·
   subst h; rw [canB_idle hd hx, canB_idle hd hy]
  ·
   rw [canB_else hd h0 h, canB_else hd h0 h]
/-- Who can do nothing is given nothing to do. -/
theorem idle_off (hd : d < c.2.1.length) (hx : x.1 = []) (h : cpS (wD c (c.2.1.set d x)) ts p = 0) : ∀ s ∈ p, s.2.toNat ≠ d := fun s hs e => by
 obtain ⟨⟨_, _, h0, _⟩, hc, _⟩ := (cpGo_ok (cpS_ok h).2).1 s hs
 have : s.2 = (d : Int) := by omega
 rw [this, canB_idle hd hx] at hc
 cases hc
theorem cpS_off (hd : d < c.2.1.length) (hx : x.1 = []) (h : cpS (wD c (c.2.1.set d x)) ts p = 0) : cpS c ts p = 0 :=
 cpS_more (c := wD c (c.2.1.set d x)) (c' := c) rfl (by simp) (fun i w h0 _ _ hc => by
  by_cases h : i = (d : Int)
  ·
   subst h; rw [canB_idle hd hx] at hc; cases hc
  ·
   rwa [canB_else hd h0 h] at hc) h
theorem lenS_off (hd : d < c.2.1.length) (hx : x.1 = []) (h : cpS (wD c (c.2.1.set d x)) ts p = 0) : lenS (wD c (c.2.1.set d x)) ts p = lenS c ts p := by
 unfold lenS
 rw [bge_congr (c := c) (c' := wD c (c.2.1.set d x)) rfl (d := d) (F := F0 c) (idle_off hd hx h) fun i hi => by
  unfold F0;rw [drs_set hd (Int.natCast_nonneg i), if_neg (by omega)]]
/-- When a dresser comes who can do nothing, is no matter. -/
theorem few_idle (hd : d < c.2.1.length) (hx : x.1 = []) (hy : y.1 = []) : (fewS (wD c (c.2.1.set d x)) ts).1 = (fewS (wD c (c.2.1.set d y)) ts).1 ∧ (fewS (wD c (c.2.1.set d x)) ts).2.1 = (fewS (wD c (c.2.1.set d y)) ts).2.1 := by
 have hcp := fun p => cpS_idle (c := c) (ts := ts) (p := p) hd hx hy;rcases fewS_spec (c := wD c (c.2.1.set d x)) (ts := ts) with ⟨a1, a2, a3⟩ | ⟨a1, a2, a3, a4⟩ <;> rcases fewS_spec (c := wD c (c.2.1.set d y)) (ts := ts) with ⟨b1, b2, b3⟩ | ⟨b1, b2, b3, b4⟩
 ·rw [a1, b1, a2, b2]; exact ⟨rfl, rfl⟩
 ·exact absurd ((hcp _).trans b2) (a3 _)
 ·exact absurd ((hcp _).symm.trans a2) (b3 _)
 ·rw [a1, b1];refine ⟨rfl, ?_⟩;have l1 := lenS_off hd hx a2;have l2 := lenS_off hd hy b2;have m1 := a4 _ ((hcp _).trans b2);have m2 := b4 _ ((hcp _).symm.trans a2);rw [lenS_off hd hx ((hcp _).trans b2)] at m1;rw [lenS_off hd hy ((hcp _).symm.trans a2)] at m2;omega
/-- Without a dresser there are no better plans. -/
theorem few_off (hd : d < c.2.1.length) (hx : x.1 = []) (h : (fewS (wD c (c.2.1.set d x)) ts).1 = true) : (fewS c ts).1 = true ∧ (fewS c ts).2.1 ≤ (fewS (wD c (c.2.1.set d x)) ts).2.1 := by
 rcases fewS_spec (c := wD c (c.2.1.set d x)) (ts := ts) with ⟨a1, _⟩ | ⟨_, a2, a3, _⟩
 ·rw [a1] at h; cases h
 ·have b := cpS_off hd hx a2;have hs : (fewS c ts).1 = true := fewS_some.2 ⟨_, b⟩;refine ⟨hs, ?_⟩;rcases fewS_spec (c := c) (ts := ts) with ⟨hf, _⟩ | ⟨_, _, _, b4⟩
  ·rw [hf] at hs; cases hs
  ·rw [a3, lenS_off hd hx a2];exact b4 _ b
end

theorem QV.with {k' : Nat} {n : Int} {c : dChange} {mv : List Bool} {q : dQuick} {ds : List dDresser} (hG : GoodC k' c) (hq : QV n c mv q) (hd : ∀ x ∈ ds, GoodD n x) (hl : 1 ≤ ds.length ∧ ds.length ≤ 3) : QV n (wD c ds) mv (wD c ds, q.2) :=
 ⟨vc_with hG hq.vc hd hl, fix_with hq.fix, rfl, hq.tasks, hq.t4, hq.len, hq.masks⟩

theorem bitsL_pre {s : Int} {j : Nat} : ∀ {m : Nat}, j ≤ m → ∃ l, bitsL s m = bitsL s j ++ l
 | 0, h => ⟨[], by obtain rfl : j = 0 := by omega
                   simp⟩
 | m + 1, h => by
  by_cases e : j = m + 1
  ·
   subst e; exact ⟨[], by simp⟩
  ·
   obtain ⟨l, hl⟩ := bitsL_pre (s := s) (j := j) (m := m) (by omega)
   exact ⟨l ++ if Has s m then [(m : Int)] else [], by rw [bitsL_succ, hl, List.append_assoc]⟩
theorem bitsL_stop {s : Int} {j : Nat} (h : ∀ i, j ≤ i → ¬ Has s i) : ∀ {m : Nat}, j ≤ m → bitsL s m = bitsL s j
 | 0, h' => by obtain rfl : j = 0 := by omega
               rfl
 | m + 1, h' => by
  by_cases e : j = m + 1
  ·
   subst e; rfl
  ·
   rw [bitsL_succ, if_neg (h m (by omega)), List.append_nil, bitsL_stop h (by omega)]
end Go.Proofs.Ytopgphikdglphaa

/- law_ChangeNeedless, in the mode of the starter. -/
set_option linter.unusedVariables false
set_option maxRecDepth 4000
set_option maxHeartbeats 1000000
namespace Go.Proofs.Ytopgphikdglphaa
open K Go Go.Proofs

def law_ChangeNeedless_l1 (k : Nat) (r3 : dChange × dLots) (r5 : (List Int) × Int) (r6 : (List dStep) × Int × Int) : Nat → (Int × Int) → Option (Except Bool Int)
 | 0, _ => none
 | n + 1, y11 =>
  ((if y11.2 < (r3.1.2.1.length : Int) then (some (decide (r6.2.2 = (0 : Int)))) else (some false)) : Option (Bool)).bind fun x13 =>
  if x13 = true then (bE (α := Int) ((law_instead k r3.1 y11.2 ([], (0 : Int), (0 : Int))).bind fun r17 =>
  (chg_Fewest k r17).bind fun r18 =>
  ((if r18.2.2 = (0 : Int) then (some (decide (r18.2.1 = r6.2.1))) else (some false)) : Option (Bool)).bind fun x19 =>
  if x19 = true then (((if (r5.1.length : Int) ≤ y11.1 then (some true) else ((geti r5.1 y11.1).bind fun x23 =>
  some (!decide (x23 = y11.2)))) : Option (Bool)).bind fun x21 =>
  if x21 = true then (some (.error false)) else ((ck (y11.1 + (1 : Int))).bind fun x24 =>
  some (.ok x24))) else (((if ¬ (r18.2.2 = (11 : Int)) then (if ¬ (r18.2.2 = (0 : Int)) then (some true) else (some (decide (r18.2.1 < r6.2.1)))) else (some false)) : Option (Bool)).bind fun x25 =>
  if x25 = true then (some (.error false)) else (some (.ok y11.1)))) (fun e => some (.error e)) fun x15 =>
  (ck (y11.2 + (1 : Int))).bind fun x27 =>
  law_ChangeNeedless_l1 k r3 r5 r6 n (x15, x27)) else (some (.ok y11.1))
def law_ChangeNeedless (k : Nat) (a0 : (List Int)) : Option Bool :=
 (kit_NewLots k a0).bind fun r1 =>
 (kit_ChangeOf k (r1.1, r1.2.1, r1.2.2)).bind fun r3 =>
 (chg_Needless k r3.1).bind fun r5 =>
 (chg_Fewest k r3.1).bind fun r6 =>
 ((if ¬ (r5.2 = r6.2.2) then (some true) else (if ¬ (r6.2.2 = (0 : Int)) then (some (!decide (r6.2.2 = (11 : Int)))) else (some false))) : Option (Bool)).bind fun x7 =>
 if x7 = true then (some false) else (bE (α := Int) (law_ChangeNeedless_l1 k r3 r5 r6 k ((0 : Int), (0 : Int))) (some) fun x9 =>
 ((if x9 = (r5.1.length : Int) then ((law_dressed k).bind fun r30 =>
 some r30) else (some false)) : Option (Bool)).bind fun x28 =>
 some x28)

theorem law_ChangeNeedless_ok (k : Nat) (a0 : (List Int)) (r : Bool) (h : law_ChangeNeedless k a0 = some r) :
 CtrM (MMain Try.prog) 3 [Ri a0] [] (fun _ : Unit => (resA [.eq (.bool r)], [])) := by
 unfold law_ChangeNeedless at h
 replace h := b_top h
 refine CtrM.of 98 Try.func3 rfl Try.ntmps3 rfl fun S w0 => ?_
 refine sr ?_
 refine cq ?_
 refine nt ?_
 refine sr ?_
 refine mq ?_
 obtain ⟨r1, er1, h⟩ := b_bind h
 have cr1 := kit_NewLots_ok k a0 r1 er1
 refine JO.s01 rfl rfl rfl (o_call [.tmp 14] rfl rfl en6 rfl cr1) ⟨rfl, trivial⟩ fun b2 => ?_
 obtain ⟨r3, er3, h⟩ := b_bind h
 have cr3 := kit_ChangeOf_ok k (r1.1, r1.2.1, r1.2.2) b2 r3 er3
 refine ka (o_call [.tmp 15] rfl rfl en5 rfl cr3) ?_
 refine JO.s01 rfl rfl rfl (o_alloc rfl za26 al26) trivial fun b4 => ?_
 refine JO.n11 rfl rfl (o_store rfl sz26 rfl rfl rfl) ⟨rfl, rfl, trivial⟩ ?_
 refine nt ?_
 refine sr ?_
 refine lo sz26 ?_
 obtain ⟨r5, er5, h⟩ := b_bind h
 have cr5 := chg_Needless_ok k r3.1 r5 er5
 refine ja (o_callM [.tmp 18] rfl rfl en7 rfl cr5) ?_
 refine mq ?_
 refine xr ?_
 refine xr ?_
 refine aq ?_
 refine aq ?_
 refine nt ?_
 refine sr ?_
 refine lo sz26 ?_
 obtain ⟨r6, er6, h⟩ := b_bind h
 have cr6 := chg_Fewest_ok k r3.1 r6 er6
 refine ja (o_call [.tmp 23] rfl rfl en8 rfl cr6) ?_
 refine mq ?_
 refine xr ?_
 refine xr ?_
 refine xr ?_
 refine aq ?_
 refine aq ?_
 refine aq ?_
 refine nt ?_
 refine JC.seq ?_
 refine JC.cutB (Z := Unit) (α := Bool) (fun z8 x7 => [(3, Pt b4), (4, Ri r5.1), (7, I r6.2.1), (8, I r6.2.2), (38, .eq (.bool x7))]) (fun z8 x7 => [.obj b4 26 (.rep tChange r3.1)]) h (fun K h => ?_) (fun z8 x7 h => ?_)
 ·
  refine JC.region ?_;iterate 2 refine mq ?_
  refine jb (o_neq rfl) ?_;refine mq ?_;refine JO.bool (s := 31) rfl (fun hb => ?_) (fun hb => ?_)
  ·replace h := b_if (n_t hb) h;iterate 3 refine gn ?_
   refine gu ?_;refine gu ?_;refine gn ?_;refine pt (nl ?_);exact jz ((), true) h [0]
  ·replace h := b_ifn (n_fn hb) h;refine gm ?_;refine gb (o_neq rfl) ?_;refine gm ?_;refine JO.bool (s := 34) rfl (fun hb => ?_) (fun hb => ?_)
   ·replace h := b_if (n_t hb) h;refine gm ?_;refine gb (o_neq rfl) ?_;refine gb (o_pick_t rfl) ?_;refine pf (nl ?_);exact jz ((), !decide (r6.2.2 = (11 : Int))) h [0]
   ·replace h := b_ifn (n_fn hb) h;iterate 2 refine gn ?_
    refine gb (o_pick_f rfl) ?_;refine pf (nl ?_);exact jz ((), false) h [0]
 ·
  refine cv h (fun h => ?_) (fun h => ?_)
  ·refine sr (cq (nt (rx ?_)));cases h;exact ra
  ·refine sk (sr (cq (nt ?_)));refine JC.cutE (Z := Unit) (α := Int) (fun z10 x9 => [(4, Ri r5.1), (9, I x9)]) (fun z10 x9 => []) (fun e => e = r) h (fun e h => Option.some.inj h) (fun K hR h => ?_) (fun z10 x9 h => ?_)
   ·refine sr (cq (nt (JC.block ?_)));refine JC.loopB (Z := Unit) (α := Int × Int) (fun z12 y11 => [(3, Pt b4), (4, Ri r5.1), (7, I r6.2.1), (8, I r6.2.2), (9, I y11.1), (10, I y11.2)]) (fun z12 y11 => [.obj b4 26 (.rep tChange r3.1)]) (law_ChangeNeedless_l1 k r3 r5 r6) k () ((0 : Int), (0 : Int)) (fun _ => rfl) h (SE.fin [0] ⟨rfl, rfl, rfl, rfl, rfl, rfl, trivial⟩ rfl) (fun n z12 y11 h => ?_);unfold law_ChangeNeedless_l1 at h;refine JC.seq (JC.cutB (Z := Unit) (α := Bool) (fun z14 x13 => [(3, Pt b4), (4, Ri r5.1), (7, I r6.2.1), (8, I r6.2.2), (9, I y11.1), (10, I y11.2), (47, .eq (.bool x13))]) (fun z14 x13 => [.obj b4 26 (.rep tChange r3.1)]) h (fun K h => ?_) (fun z14 x13 h => ?_))
    ·refine JC.region (mq ?_);refine fl fo26_1 ?_;refine lo sz24 ?_;refine ol U24 ?_;refine jb (o_lss rfl) ?_;refine mq ?_;refine JO.bool (s := 44) rfl (fun hb => ?_) (fun hb => ?_)
     ·replace h := b_if (d_t hb) h;refine gm ?_;refine gb (o_eql rfl) ?_;refine pt (nl ?_);exact jz ((), decide (r6.2.2 = (0 : Int))) h [0]
     ·replace h := b_ifn (d_f hb) h;iterate 2 refine gn ?_
      refine pf (nl ?_);exact jz ((), false) h [0]
    ·refine cv h (fun h => ?_) (fun h => ?_)
     ·refine sk (JC.cutE (Z := Unit) (α := Int) (fun z16 x15 => [(3, Pt b4), (4, Ri r5.1), (7, I r6.2.1), (8, I r6.2.2), (9, I x15), (10, I y11.2)]) (fun z16 x15 => [.obj b4 26 (.rep tChange r3.1)]) (fun e => e = r) h (fun e h => hR e h) (fun K hR h => ?_) (fun z16 x15 h => ?_))
      ·refine JC.block (sr (lo sz26 ?_));refine mq ?_;refine JO.s rfl (o_buildT [] rfl pl38 za38 alb38 (stors trivial) rfl) trivial ?_;obtain ⟨r17, er17, h⟩ := b_bind h;refine jc (OpT.need (N := [(.tmp 51, .rep tChange r3.1), (.tmp 52, I y11.2), (.tmp 53, .agg (.pair (.eq (.slice none 0 0)) (.pair (I (0 : Int)) (I (0 : Int)))))]) (o_call [.tmp 51, .tmp 52, .tmp 53] rfl rfl en9 rfl (law_instead_ok k r3.1 y11.2 ([], (0 : Int), (0 : Int)) r17 er17)) fun _ _ _ hn => ⟨hn.1, hn.2.1, (ent_holds (t := tDresser) (x := ([], (0 : Int), (0 : Int))) (.agg (.pair .nil (.pair .int .int))) trivial rfl hn.2.2.1), trivial⟩) ?_;obtain ⟨r18, er18, h⟩ := b_bind h;refine ja (o_call [.tmp 54] rfl rfl en8 rfl (chg_Fewest_ok k r17 r18 er18)) ?_;refine mq ?_;refine xr ?_;refine xr ?_;refine xr ?_;refine aq ?_;refine aq ?_;refine aq (nt ?_);refine JC.cutB (Z := Unit) (α := Bool) (fun z20 x19 => [(3, Pt b4), (4, Ri r5.1), (7, I r6.2.1), (8, I r6.2.2), (9, I y11.1), (10, I y11.2), (12, I r18.2.1), (13, I r18.2.2), (65, .eq (.bool x19))]) (fun z20 x19 => [.obj b4 26 (.rep tChange r3.1)]) h (fun K h => ?_) (fun z20 x19 h => ?_)
       ·refine JC.region (mq ?_);refine jb (o_eql rfl) ?_;refine mq ?_;refine JO.bool (s := 61) rfl (fun hb => ?_) (fun hb => ?_)
        ·replace h := b_if (d_t hb) h;refine gm ?_;refine gm ?_;refine gb (o_eql rfl) ?_;refine pt (nl ?_);exact jz ((), decide (r18.2.1 = r6.2.1)) h [0]
        ·replace h := b_ifn (d_f hb) h;iterate 3 refine gn ?_
         refine pf (nl ?_);exact jz ((), false) h [0]
       ·refine cv h (fun h => ?_) (fun h => ?_)
        ·refine JC.seq (JC.cutB (Z := Unit) (α := Bool) (fun z22 x21 => [(3, Pt b4), (4, Ri r5.1), (7, I r6.2.1), (8, I r6.2.2), (9, I y11.1), (10, I y11.2), (77, .eq (.bool x21))]) (fun z22 x21 => [.obj b4 26 (.rep tChange r3.1)]) h (fun K h => ?_) (fun z22 x21 h => ?_))
         ·refine JC.region ?_;iterate 2 refine mq ?_
          refine ol U22 ?_;refine jb (o_geq rfl) ?_;refine mq ?_;refine JO.bool (s := 70) rfl (fun hb => ?_) (fun hb => ?_)
          ·replace h := b_if (d_t hb) h;iterate 6 refine gn ?_
           refine pt (nl ?_);exact jz ((), true) h [0]
          ·replace h := b_ifn (d_f hb) h;refine gm ?_;refine gm ?_;obtain ⟨x23, ex23, h⟩ := b_bind h;refine gb (o_index (t := (.int .i64)) rfl U22 sz3 ex23) ?_;refine ga (o_load_at (t := (.int .i64)) rfl sz3 rfl) ?_;refine gm ?_;refine gb (o_neq rfl) ?_;refine pf (nl ?_);exact jz ((), !decide (x23 = y11.2)) h [0]
         ·refine cv h (fun h => ?_) (fun h => ?_)
          ·refine sr (cq (nt (rx (br (JN.blk_r (JN.then_r ?_))))));obtain rfl := hR _ h;exact ra
          ·refine sk (JC.region (mq ?_));obtain ⟨x24, ex24, h⟩ := b_bind h;refine jb (o_add rfl ex24) ?_;refine aq (JO.nil (bn ?_));exact jz ((), x24) h [0]
        ·refine JC.cutB (Z := Unit) (α := Bool) (fun z26 x25 => [(3, Pt b4), (4, Ri r5.1), (7, I r6.2.1), (8, I r6.2.2), (9, I y11.1), (10, I y11.2), (90, .eq (.bool x25))]) (fun z26 x25 => [.obj b4 26 (.rep tChange r3.1)]) h (fun K h => ?_) (fun z26 x25 h => ?_)
         ·refine JC.region (mq ?_);refine jb (o_neq rfl) ?_;refine mq ?_;refine JO.bool (s := 82) rfl (fun hb => ?_) (fun hb => ?_)
          ·replace h := b_if (n_t hb) h;refine gm ?_;refine gb (o_neq rfl) ?_;refine gm ?_;refine JO.bool (s := 85) rfl (fun hb => ?_) (fun hb => ?_)
           ·replace h := b_if (n_t hb) h;iterate 3 refine gn ?_
            refine gb (o_pick_t rfl) ?_;refine pt (nl ?_);exact jz ((), true) h [0]
           ·replace h := b_ifn (n_fn hb) h;refine gm ?_;refine gm ?_;refine gb (o_lss rfl) ?_;refine gb (o_pick_f rfl) ?_;refine pt (nl ?_);exact jz ((), decide (r18.2.1 < r6.2.1)) h [0]
          ·replace h := b_ifn (n_fn hb) h;iterate 3 refine gn ?_
           refine gu ?_;refine gu ?_;refine gu ?_;refine gn ?_;refine pf (nl ?_);exact jz ((), false) h [0]
         ·refine cv h (fun h => ?_) (fun h => ?_)
          ·refine sr (cq (nt (JC.ret (br (JN.blk_r (JN.then_r ?_))))));obtain rfl := hR _ h;exact ra
          ·refine JC.skip (bn ?_);exact jz ((), y11.1) h [0]
      ·refine JC.region (mq ?_);obtain ⟨x27, ex27, h⟩ := b_bind h;refine jb (o_add rfl ex27) ?_;refine aq (nl ?_);exact jz ((), (x15, x27)) h [0]
     ·refine xa ?_;exact jz ((), y11.1) h []
   ·refine JC.cutB (Z := Unit) (α := Bool) (fun z29 x28 => [(2, .eq (.bool x28))]) (fun z29 x28 => []) h (fun K h => ?_) (fun z29 x28 h => ?_)
    ·refine JC.region ?_;iterate 2 refine mq ?_
     refine ol U22 ?_;refine jb (o_eql rfl) ?_;refine mq ?_;refine JO.bool (s := 95) rfl (fun hb => ?_) (fun hb => ?_)
     ·replace h := b_if (d_t hb) h;obtain ⟨r30, er30, h⟩ := b_bind h;refine JO.g00 rfl rfl rfl rfl rfl rfl (o_call [] rfl rfl en10 rfl (law_dressed_ok k  r30 er30)) trivial ?_;refine pt ?_;refine aq (nl ?_);exact jz ((), r30) h []
     ·replace h := b_ifn (d_f hb) h;refine gn ?_;refine pf ?_;refine aq (nl ?_);exact jz ((), false) h []
    ·refine JC.ret ?_;cases h;exact ra


end Go.Proofs.Ytopgphikdglphaa

/- Plain law: dressers who are not needed. -/
namespace Go.Proofs.Ytopgphikdglphaa
open K Go Go.Proofs

theorem clone_dr {k : Nat} {l : List dDresser} (h : l.length ≤ 1000) : slc_Clone_Dresser k l = some l := by
 unfold slc_Clone_Dresser;rw [chk_ok (okLen_of h), bs]

/-- The fewest bars without a dresser. -/
theorem without_eq {k : Nat} (hk : 50 ≤ k) {k' : Nat} {n : Int} {c : dChange} {mv : List Bool} {q : dQuick} (hG : GoodC k' c) (hq : QV n c mv q) {d : Nat} (hd : d < c.2.1.length) :
 chg_quick_without k (q.1, q.2.1, q.2.2, ()) (d : Int) = some ((fewS (wD c (c.2.1.set d ([], c.2.1[d].2.1, c.2.1[d].2.2))) (tsC c mv)).2.1, (fewS (wD c (c.2.1.set d ([], c.2.1[d].2.1, c.2.1[d].2.2))) (tsC c mv)).1) := by
 have hdl := hq.vc.dl
 have hxG := hq.vc.dressers _ (List.getElem_mem hd)
 have hq' := QV.with hG hq (ds := c.2.1.set d ([], c.2.1[d].2.1, c.2.1[d].2.2)) (good_set hq.vc.dressers ⟨Asc.nil, hxG.side, hxG.start⟩) (by simpa using hdl)
 unfold chg_quick_without
 simp only [hq.eq]
 rw [clone_dr (by omega), bs, geti_W hd, bs]
 rw [show Int.toNat (d : Int) = d from by omega]
 have e := least_eq hk hq'
 rw [show chg_least k ((c.1, List.set c.2.1 d ([], c.2.1[d].2.1, c.2.1[d].2.2), c.2.2), q.2.1, q.2.2) = _ from e, bs]
 rfl

theorem ndFold {rs : Nat → Int × Bool} {o : Nat → Int} {now : Int} : ∀ {l : List Nat} {s : Int}, Mask s → (∀ i ∈ l, Mask (o i) ∧ ∀ j : Nat, Has (o i) j ↔ j = i) → Mask (l.foldl (ndStep rs o now) s) ∧ ∀ j, Has (l.foldl (ndStep rs o now) s) j ↔ Has s j ∨ (j ∈ l ∧ ndFree (rs j) now = true)
 | [], s, hs, _ => ⟨hs, fun j => by simp⟩
 | i :: l, s, hs, ho => by
  obtain ⟨h1, h2⟩ := ho i (by simp)
  by_cases hf : ndFree (rs i) now = true
  ·
   obtain ⟨g1, g2⟩ := ior_ok hs h1
   obtain ⟨r1, r2⟩ := ndFold (rs := rs) (o := o) (now := now) (l := l) g1 fun x hx => ho x (List.mem_cons_of_mem _ hx)
   rw [List.foldl_cons, show ndStep rs o now s i = ior .u8 s (o i) by rw [ndStep, if_pos hf]]
   refine ⟨r1, fun j => ?_⟩
   rw [r2, g2, h2, List.mem_cons]
   constructor
   ·
    rintro ((h | rfl) | h)
    ·
     exact .inl h
    ·
     exact .inr ⟨.inl rfl, hf⟩
    ·
     exact .inr ⟨.inr h.1, h.2⟩
   ·
    rintro (h | ⟨rfl | h, h'⟩)
    ·
     exact .inl (.inl h)
    ·
     exact .inl (.inr rfl)
    ·
     exact .inr ⟨h, h'⟩
  ·
   obtain ⟨r1, r2⟩ := ndFold (rs := rs) (o := o) (now := now) (l := l) hs fun x hx => ho x (List.mem_cons_of_mem _ hx)
   rw [List.foldl_cons, show ndStep rs o now s i = s by rw [ndStep, if_neg hf]]
   refine ⟨r1, fun j => ?_⟩
   rw [r2, List.mem_cons]
   constructor
   ·
    rintro (h | h)
    ·
     exact .inl h
    ·
     exact .inr ⟨.inr h.1, h.2⟩
   ·
    rintro (h | ⟨rfl | h, h'⟩)
    ·
     exact .inl h
    ·
     exact absurd h' hf
    ·
     exact .inr ⟨h, h'⟩

theorem ndAll_of {α : Type} {d : α} {f : Nat → Option α} {N : Nat} {g : Nat → α} (h : ∀ i, i < N → f i = some (g i)) : ∃ g', ndAll d f N = some g' ∧ ∀ i, i < N → g' i = g i := by
 refine ⟨fun i => (f i).getD d, ?_, fun i hi => by simp only [h i hi, Option.getD_some]⟩;unfold ndAll;rw [if_pos];rw [List.all_eq_true];intro i hi;rw [h i (List.mem_range.1 hi)];rfl

/-- What Needless finds. -/
theorem needless_ok {k : Nat} (hk : 50 ≤ k) {k' : Nat} {n : Int} {c : dChange} {mv : List Bool} {q : dQuick} (hG : GoodC k' c) (hq : QV n c mv q) (hb : chg_begin k c = some (some q, 0)) :
 W (chg_Needless k c) fun r => if (fewS c (tsC c mv)).1 = true then r.2 = 0 ∧ ∃ s, r.1 = bitsL s 8 ∧ (∀ i, c.2.1.length ≤ i → ¬ Has s i) ∧ ∀ (i : Nat) (h : i < c.2.1.length), Has s i ↔ (fewS (wD c (c.2.1.set i ([], c.2.1[i].2.1, c.2.1[i].2.2))) (tsC c mv)).1 = true ∧ (fewS (wD c (c.2.1.set i ([], c.2.1[i].2.1, c.2.1[i].2.2))) (tsC c mv)).2.1 ≤ (fewS c (tsC c mv)).2.1
  else r = ([], 11) := by
 have hdl := hq.vc.dl
 unfold chg_Needless
 rw [hb, bs, co_some, if_neg (by simp)]
 have hcq : (((q.1.1, q.1.2.1, q.1.2.2.1, q.1.2.2.2), q.2.1, q.2.2) : dQuick) = q := rfl
 rw [hcq, least_eq hk hq, bs]
 have hfe : minL (lenS c (tsC c mv)) (false, 0, []) (plansS c (tsC c mv)) = fewS c (tsC c mv) := rfl
 rw [hfe]
 by_cases hf : (fewS c (tsC c mv)).1 = true
 ·
  simp only [hf, not_true_eq_false, if_false, if_true];unfold nd_rest;have hN : ∀ i, i < q.1.2.1.length ↔ i < c.2.1.length := fun i => by rw [hq.eq]
  obtain ⟨rs, e1, h1⟩ := ndAll_of (d := ((0 : Int), false)) (f := fun i => chg_quick_without k (q.1, q.2.1, q.2.2, ()) (i : Int)) (N := c.2.1.length)
   (g := fun i => if h : i < c.2.1.length then ((fewS (wD c (c.2.1.set i ([], c.2.1[i].2.1, c.2.1[i].2.2))) (tsC c mv)).2.1, (fewS (wD c (c.2.1.set i ([], c.2.1[i].2.1, c.2.1[i].2.2))) (tsC c mv)).1) else (0, false)) (fun i hi => by
    simp only [hi, dif_pos];exact without_eq hk hG hq hi)
  have hof : ∀ i, i < c.2.1.length → ∃ m, chg_of k [(i : Int)] = some m ∧ Mask m ∧ ∀ j : Nat, Has m j ↔ j = i := fun i hi => by
   obtain ⟨m, em, h1, h2⟩ := of_set_ok hk (l := [(i : Int)]) (by simp) (by simp; omega);exact ⟨m, em, h1, fun j => by rw [h2, List.mem_singleton]; omega⟩
  obtain ⟨o, e2, h2⟩ := ndAll_of (d := (0 : Int)) (f := fun i => chg_of k [(i : Int)]) (N := c.2.1.length) (g := fun i => (chg_of k [(i : Int)]).getD 0) (fun i hi => by
   obtain ⟨m, em, _⟩ := hof i hi;simp only [em, Option.getD_some])
  have ho : ∀ i ∈ List.range c.2.1.length, Mask (o i) ∧ ∀ j : Nat, Has (o i) j ↔ j = i := fun i hi => by
   have hi := List.mem_range.1 hi;obtain ⟨m, em, hm⟩ := hof i hi;rw [h2 i hi, em];exact hm
  obtain ⟨m1, m2⟩ := ndFold (rs := rs) (o := o) (now := (fewS c (tsC c mv)).2.1) (l := List.range c.2.1.length) (s := 0) ⟨by decide, by decide⟩ ho;have el : ((q.1, q.2.1, q.2.2, ()) : dquick).1.2.1.length = c.2.1.length := by simp only [hq.eq]
  rw [show ((q.1.1, q.1.2.1, q.1.2.2.1, q.1.2.2.2), q.2.1, q.2.2, ()) = ((q.1, q.2.1, q.2.2, ()) : dquick) from rfl];rw [el, e1, bs, e2, bs, if_pos (by omega)];rw [show ndAcc rs o (fewS c (tsC c mv)).2.1 (List.range c.2.1.length) = (List.range c.2.1.length).foldl (ndStep rs o (fewS c (tsC c mv)).2.1) 0 from rfl];rw [set_list_ok hk m1, bs];refine W.ret ⟨rfl, _, rfl, fun i hi h => ?_, fun i hi => ?_⟩
  ·rw [m2] at h;rcases h with h | h
   ·simp [Has] at h
   ·have := List.mem_range.1 h.1; omega
  ·rw [m2, h1 i hi];simp only [hi, dif_pos, ndFree, Bool.and_eq_true, decide_eq_true_eq, List.mem_range, true_and];constructor
   ·rintro (h | h)
    ·simp [Has] at h
    ·exact h
   ·exact .inr
 ·
  have hf' : (fewS c (tsC c mv)).1 = false := by simpa using hf
  simp only [hf', Bool.false_eq_true, not_false_eq_true, if_true, if_false];exact W.ret rfl

/-- **Dressers who are not needed.** -/
theorem needless_law {k : Nat} (hk : 50 ≤ k) (hdr : law_dressed k = some true) (a0 : List Int) : law_ChangeNeedless k a0 = some true := by
 unfold law_ChangeNeedless;rw [show kit_NewLots k a0 = some (a0, 0, 1) from rfl, bs];obtain ⟨⟨c, l⟩, e3, hlo, hG, n, mv, q, hc, hb, hq⟩ := lots_ok hk (l := (a0, 0, 1)) (m := 0) newLots_ok (by decide);simp only at hc hb hq hG;have hdl := hc.dl;obtain ⟨⟨got, ge⟩, er, hr⟩ := needless_ok hk hG hq hb;rw [e3, bs];simp only;rw [er, bs, Fewest_eq hk hq hb, bs];by_cases hf : (fewS c (tsC c mv)).1 = true
 ·rw [if_pos hf] at hr;obtain ⟨rfl, s, hs, hno, hhas⟩ := hr;simp only at hs;rw [if_pos hf]
  have key : ∀ (m d fuel : Nat), c.2.1.length - d = m → d ≤ c.2.1.length → m < fuel → law_ChangeNeedless_l1 k (c, l) (got, 0) ((fewS c (tsC c mv)).2.2, (fewS c (tsC c mv)).2.1, 0) fuel (((bitsL s d).length : Int), (d : Int)) = some (.ok ((bitsL s c.2.1.length).length : Int)) := by
   intro m
   induction m with
   | zero =>
    intro d fuel h1 h2 h3;obtain ⟨f, rfl⟩ : ∃ f, fuel = f + 1 := ⟨fuel - 1, by omega⟩;have : d = c.2.1.length := by omega
    subst this;rw [law_ChangeNeedless_l1];simp only [Int.lt_irrefl, if_false, bs, Bool.false_eq_true]
   | succ m ih =>
    intro d fuel h1 h2 h3;obtain ⟨f, rfl⟩ : ∃ f, fuel = f + 1 := ⟨fuel - 1, by omega⟩;have hd : d < c.2.1.length := by omega
    have hd' : (d : Int) < (c.2.1.length : Int) := by omega
    have hxG := hc.dressers _ (List.getElem_mem hd);have g1 : law_instead k c (d : Int) ([], 0, 0) = _ := instead_eq hk hc hd;obtain ⟨q1, hb1, hq1⟩ := begin_with hk hG hq (ds := c.2.1.set d ([], 0, 0)) (good_set hc.dressers ⟨Asc.nil, by decide, by decide⟩) (by simpa using hdl);have f1 := Fewest_eq hk hq1 hb1;have ets : ∀ ds, tsC (wD c ds) mv = tsC c mv := fun _ => rfl;rw [ets] at f1;obtain ⟨i1, i2⟩ := few_idle (c := c) (ts := tsC c mv) (x := ([], 0, 0)) (y := ([], c.2.1[d].2.1, c.2.1[d].2.2)) hd rfl rfl;have hh := hhas d hd;rw [← i1, ← i2] at hh;have hbl := bitsL_len (s := s) (j := d);have hck : ck ((d : Int) + 1) = some ((d : Int) + 1) := ck_ok (by omega) (by omega);have hck2 : ck (((bitsL s d).length : Int) + 1) = some (((bitsL s d).length : Int) + 1) := ck_ok (by omega) (by omega);have nx := ih (d + 1) f (by omega) (by omega) (by omega);have hoff := few_off (c := c) (ts := tsC c mv) (x := ([], 0, 0)) hd rfl;rw [law_ChangeNeedless_l1];by_cases hH : Has s d
    ·obtain ⟨a1, a2⟩ := hh.1 hH;have a3 := (hoff a1).2;have a4 : (fewS (wD c (c.2.1.set d ([], 0, 0))) (tsC c mv)).2.1 = (fewS c (tsC c mv)).2.1 := by omega
     obtain ⟨l', hl'⟩ := bitsL_pre (s := s) (j := d + 1) (m := 8) (by omega);have hsu : bitsL s (d + 1) = bitsL s d ++ [(d : Int)] := by rw [bitsL_succ, if_pos hH]
     rw [hsu] at hl' nx;have hg : geti got ((bitsL s d).length : Int) = some (d : Int) := geti_q (by omega) (by rw [hs, hl']; simp);have hgl : ¬ (got.length : Int) ≤ ((bitsL s d).length : Int) := by rw [hs, hl']; simp; omega
     rw [if_pos a1] at f1;have e2 : ((bitsL s d ++ [(d : Int)]).length : Int) = ((bitsL s d).length : Int) + 1 := by simp
     rw [e2] at nx;simp only [hd', if_true, decide_true, bs, g1, f1, a4, hgl, if_false, hg, Bool.not_true, Bool.false_eq_true, hck2, bE_k, hck];exact nx
    ·have hsu : bitsL s (d + 1) = bitsL s d := by rw [bitsL_succ, if_neg hH, List.append_nil]
     rw [hsu] at nx;by_cases a1 : (fewS (wD c (c.2.1.set d ([], 0, 0))) (tsC c mv)).1 = true
     ·have a3 := (hoff a1).2;have a4 : ¬ (fewS (wD c (c.2.1.set d ([], 0, 0))) (tsC c mv)).2.1 ≤ (fewS c (tsC c mv)).2.1 := fun h => hH (hh.2 ⟨a1, h⟩);have a5 : ¬ (fewS (wD c (c.2.1.set d ([], 0, 0))) (tsC c mv)).2.1 = (fewS c (tsC c mv)).2.1 := by omega
      have a6 : ¬ (fewS (wD c (c.2.1.set d ([], 0, 0))) (tsC c mv)).2.1 < (fewS c (tsC c mv)).2.1 := by omega
      rw [if_pos a1] at f1;simp only [hd', if_true, decide_true, bs, g1, f1, a5, a6, decide_false, Bool.false_eq_true, if_false, not_true_eq_false, show ¬ ((0 : Int) = 11) by decide, not_false_eq_true, bE_k, hck];exact nx
     ·rw [if_neg a1] at f1;simp only [hd', if_true, decide_true, bs, g1, f1, show ¬ ((11 : Int) = 0) by decide, if_false, Bool.false_eq_true, not_true_eq_false, bE_k, hck];exact nx
  have kk := key c.2.1.length 0 k (by omega) (by omega) (by omega);have e0 : (((bitsL s 0).length : Int), ((0 : Nat) : Int)) = ((0 : Int), (0 : Int)) := by simp [bitsL]
  rw [e0] at kk;have e8 : bitsL s 8 = bitsL s c.2.1.length := bitsL_stop hno (by omega);rw [hs, e8] at kk;simp only [not_true_eq_false, if_false, bs, Bool.false_eq_true, kk, bE_k, hs, e8, if_true, hdr]
 ·rw [if_neg hf] at hr;rw [if_neg hf];obtain ⟨rfl, rfl⟩ := Prod.mk.inj hr
  have kk : law_ChangeNeedless_l1 k (c, l) ([], 11) ([], 0, 11) k (0, 0) = some (.ok 0) := by
   obtain ⟨k1, e⟩ : ∃ k1, k = k1 + 1 := ⟨k - 1, by omega⟩;rw [show law_ChangeNeedless_l1 k (c, l) ([], 11) ([], 0, 11) k (0, 0) = law_ChangeNeedless_l1 k (c, l) ([], 11) ([], 0, 11) (k1 + 1) (0, 0) by rw [← e]];rw [law_ChangeNeedless_l1];have : (0 : Int) < (c.2.1.length : Int) := by omega
   simp only [this, if_true, show ¬ ((11 : Int) = 0) by decide, decide_false, bs, Bool.false_eq_true, if_false]
  simp only [not_true_eq_false, if_false, show ¬ ((11 : Int) = 0) by decide, not_false_eq_true, if_true, decide_true, Bool.not_true, bs, Bool.false_eq_true, kk, bE_k, List.length_nil, Int.ofNat_zero, hdr];try simp [hdr]
end Go.Proofs.Ytopgphikdglphaa
