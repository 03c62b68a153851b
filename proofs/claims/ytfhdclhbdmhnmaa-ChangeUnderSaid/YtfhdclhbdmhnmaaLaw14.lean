/- Plain law, part 14: all plans, in order; the plan with the fewest bars. -/
import Derived.Test.YtfhdclhbdmhnmaaLaw13
namespace Go.Proofs.Ytfhdclhbdmhnmaa
open K Go Go.Proofs

/-- Can a task be begun, where these are done? -/
def mayB (c : dChange) (ts : List (Bool × Int)) (done : List Int) (t : Nat) : Bool := decide ((t : Int) ∉ done) && (befL c ts t).all fun a => decide ((a : Int) ∈ done)
/-- Who can do a task, from some dresser on. -/
def whoL (c : dChange) (ts : List (Bool × Int)) (t d : Nat) : List dStep := ((List.range' d (c.2.1.length - d)).filter fun (d : Nat) => canB c (d : Int) (tsk ts (t : Int))).map fun (d : Nat) => ((t : Int), (d : Int))
/-- The steps that can be next, from some task on. -/
def extL (c : dChange) (ts : List (Bool × Int)) (done : List Int) (t : Nat) : List dStep := (List.range' t (ts.length - t)).flatMap fun t => if mayB c ts done t = true then whoL c ts t 0 else []
/-- All plans that go on from some steps. -/
def gen (c : dChange) (ts : List (Bool × Int)) : Nat → List Int → List dStep → List (List dStep)
  | 0, _, p => [p]
  | r + 1, done, p => (extL c ts done 0).flatMap fun s => gen c ts r (done ++ [s.1]) (p ++ [s])

section
variable {σ : Type}
/-- Handing over one after the other, as long as more are wanted. -/
def runY (Y : σ → List dStep → Option (σ × Bool)) : σ → List (List dStep) → Option (σ × Bool)
  | s, [] => some (s, true)
  | s, p :: l => (Y s p).bind fun r => if r.2 = true then runY Y r.1 l else some r
theorem runY_append {Y : σ → List dStep → Option (σ × Bool)} : ∀ {l m : List (List dStep)} {s : σ}, runY Y s (l ++ m) = (runY Y s l).bind fun r => if r.2 = true then runY Y r.1 m else some r
  | [], m, s => by simp [runY]
  | p :: l, m, s => by
    simp only [List.cons_append, runY]
    cases hY : Y s p with
    | none => simp
    | some r =>
      simp only [Option.bind_some]
      by_cases hr : r.2 = true
      · rw [if_pos hr, if_pos hr]; exact runY_append
      · rw [if_neg hr, if_neg hr]; simp [hr]

def resY (p : List dStep) (r : σ × Bool) : Except (Bool × List dStep × σ) (List dStep × σ) := if r.2 = true then .ok (p, r.1) else .error (false, p, r.1)

theorem range'_cons {a n : Nat} (h : a < n) : List.range' a (n - a) = a :: List.range' (a + 1) (n - (a + 1)) := by
  have : n - a = (n - (a + 1)) + 1 := by omega
  rw [this, List.range'_succ]

theorem plans2_eq {k : Nat} (hk : 50 ≤ k) {n : Int} {c : dChange} {mv : List Bool} {q : dQuick} (h : QV n c mv q) {Y : σ → List dStep → Option (σ × Bool)} {self : Int → (List dStep) → σ → Option (Bool × (List dStep) × σ)}
    {mask : Int} {done : List Int} {p : List dStep} {r t : Nat} {y6 : (List dStep) × Int × σ} (hp : p.length ≤ 8) (ht : t < (tsC c mv).length) (hy6 : y6.2.1 = (t : Int))
    (hself : ∀ (m' : Int) (d : Nat) (s : σ), (∃ r24, chg_of k [(t : Int)] = some r24 ∧ m' = ior .u8 mask r24) → d < c.2.1.length → self m' (p ++ [((t : Int), (d : Int))]) s = (runY Y s (gen c (tsC c mv) r (done ++ [(t : Int)]) (p ++ [((t : Int), (d : Int))]))).bind fun r => some (r.2, p ++ [((t : Int), (d : Int))], r.1)) :
    ∀ (m d fuel : Nat) (s : σ), c.2.1.length - d = m → d ≤ c.2.1.length → m < fuel → chg_quick_plans_1_1_l2 k mask q self y6 (tsk (tsC c mv) (t : Int)) fuel (p, (d : Int), s) =
      (runY Y s ((whoL c (tsC c mv) t d).flatMap fun s => gen c (tsC c mv) r (done ++ [s.1]) (p ++ [s]))).bind fun r => some (resY p r) := by
  have hdl := h.vc.dl
  have ht4 := h.t4
  intro m
  induction m with
  | zero =>
    intro d fuel s h1 h2 h3
    obtain ⟨fuel, rfl⟩ : ∃ f, fuel = f + 1 := ⟨fuel - 1, by omega⟩
    have : d = c.2.1.length := by omega
    subst this
    rw [chg_quick_plans_1_1_l2, if_neg (by rw [h.eq]; simp)]
    simp [whoL, runY, resY]
  | succ m ih =>
    intro d fuel s h1 h2 h3
    obtain ⟨fuel, rfl⟩ : ∃ f, fuel = f + 1 := ⟨fuel - 1, by omega⟩
    have hd : d < c.2.1.length := by omega
    have hS : StepOk c (tsC c mv) ((t : Int), (d : Int)) := ⟨by simp, by simp only; omega, by simp, by simp only; omega⟩
    have hcq : (((q.1.1, q.1.2.1, q.1.2.2.1, q.1.2.2.2), q.2.1, q.2.2) : dQuick) = q := rfl
    have hck : ck ((d : Int) + 1) = some ((d : Int) + 1) := ck_ok (by omega) (by omega)
    have ih' := fun s => ih (d + 1) fuel s (by omega) (by omega) (by omega)
    have ed : ((d + 1 : Nat) : Int) = (d : Int) + 1 := by omega
    rw [ed] at ih'
    rw [chg_quick_plans_1_1_l2]
    dsimp only
    rw [if_pos (by rw [h.eq]; omega), hcq, can_eq hk h ⟨by omega, by omega⟩ (tsk_mem hS), bs]
    have hw : whoL c (tsC c mv) t d = (if canB c (d : Int) (tsk (tsC c mv) (t : Int)) = true then [((t : Int), (d : Int))] else []) ++ whoL c (tsC c mv) t (d + 1) := by
      unfold whoL
      rw [range'_cons hd, List.filter_cons]
      split <;> simp
    rw [hw]
    by_cases hc : canB c (d : Int) (tsk (tsC c mv) (t : Int)) = true
    · rw [if_neg (by simp [hc]), if_pos hc]
      simp only [hy6]
      obtain ⟨r24, e24, m24, d24⟩ := of_set_ok (k := k) hk (l := [(t : Int)]) (by simp) (fun x hx => by simp only [List.mem_singleton] at hx; subst hx; omega)
      rw [chk_ok (okLen_of (by simp only [List.length_cons, List.length_nil]; omega)), bs, e24, bs, hself _ d s ⟨r24, e24, rfl⟩ hd]
      simp only [List.cons_append, List.nil_append, List.flatMap_cons]
      rw [runY_append]
      cases hR : runY Y s (gen c (tsC c mv) r (done ++ [(t : Int)]) (p ++ [((t : Int), (d : Int))])) with
      | none => simp [K.bE]
      | some x =>
        obtain ⟨s', b⟩ := x
        simp only [bs]
        have hl : ((p ++ [((t : Int), (d : Int))]).length : Int) - 1 = (p.length : Int) := by simp
        rw [hl, ck_ok (by omega) (by omega), bs, chk_ok ⟨by omega, by simp; omega⟩, bs]
        have htk : List.take (Int.toNat (p.length : Int)) (p ++ [((t : Int), (d : Int))]) = p := by simp
        rw [htk]
        cases b with
        | false => simp only [Bool.false_eq_true, not_false_eq_true, if_true, if_false, bE_e, bs, resY]
        | true =>
          simp only [not_true_eq_false, if_false, if_true, bE_k, hck, bs]
          exact ih' s'
    · rw [if_pos (by simpa using hc), if_neg hc]
      simp only [bE_k, hck, bs, List.nil_append]
      exact ih' s

theorem plans1_eq {k : Nat} (hk : 50 ≤ k) {n : Int} {c : dChange} {mv : List Bool} {q : dQuick} (h : QV n c mv q) {Y : σ → List dStep → Option (σ × Bool)} {self : Int → (List dStep) → σ → Option (Bool × (List dStep) × σ)}
    {mask : Int} {done : List Int} {p : List dStep} {r : Nat} (hp : p.length ≤ 8) (hM : Mask mask) (hH : ∀ a : Nat, Has mask a ↔ (a : Int) ∈ done)
    (hself : ∀ (m' : Int) (t d : Nat) (s : σ), (∃ r24, chg_of k [(t : Int)] = some r24 ∧ m' = ior .u8 mask r24) → t < (tsC c mv).length → d < c.2.1.length → self m' (p ++ [((t : Int), (d : Int))]) s = (runY Y s (gen c (tsC c mv) r (done ++ [(t : Int)]) (p ++ [((t : Int), (d : Int))]))).bind fun r => some (r.2, p ++ [((t : Int), (d : Int))], r.1)) :
    ∀ (m t fuel : Nat) (s : σ), (tsC c mv).length - t = m → t ≤ (tsC c mv).length → m < fuel → chg_quick_plans_1_1_l1 k mask q self fuel (p, (t : Int), s) =
      (runY Y s ((extL c (tsC c mv) done t).flatMap fun s => gen c (tsC c mv) r (done ++ [s.1]) (p ++ [s]))).bind fun r => some (resY p r) := by
  have hdl := h.vc.dl
  have ht4 := h.t4
  intro m
  induction m with
  | zero =>
    intro t fuel s h1 h2 h3
    obtain ⟨fuel, rfl⟩ : ∃ f, fuel = f + 1 := ⟨fuel - 1, by omega⟩
    have : t = (tsC c mv).length := by omega
    subst this
    rw [chg_quick_plans_1_1_l1, if_neg (by rw [h.tasks]; simp)]
    simp [extL, runY, resY]
  | succ m ih =>
    intro t fuel s h1 h2 h3
    obtain ⟨fuel, rfl⟩ : ∃ f, fuel = f + 1 := ⟨fuel - 1, by omega⟩
    have ht : t < (tsC c mv).length := by omega
    have hck : ck ((t : Int) + 1) = some ((t : Int) + 1) := ck_ok (by omega) (by omega)
    have ih' := fun s => ih (t + 1) fuel s (by omega) (by omega) (by omega)
    have ed : ((t + 1 : Nat) : Int) = (t : Int) + 1 := by omega
    rw [ed] at ih'
    rw [chg_quick_plans_1_1_l1]
    dsimp only
    have hgt : (tsC c mv)[t] = tsk (tsC c mv) (t : Int) := by simp [tsk, List.getElem?_eq_getElem ht]
    rw [h.tasks, if_pos (by omega), geti_W ht, bs, has_ok hM (by omega), bs, hgt]
    obtain ⟨mk, em, hmk, hmb, _⟩ := h.mask (b := t) (by omega)
    rw [chk_ok (by omega), bs, geti_q (by omega) (by simpa using em), bs]
    have hcond : (if decide (Has mask t) = true then (some (true, s)) else (some (!decide ((iandn .u8 mk mask) = (0 : Int)), s))) = some (!mayB c (tsC c mv) done t, s) := by
      unfold mayB
      by_cases h1 : (t : Int) ∈ done
      · rw [decide_eq_true ((hH t).2 h1)]; simp [h1]
      · rw [decide_eq_false (fun h => h1 ((hH t).1 h))]
        have e : decide ((iandn .u8 mk mask) = (0 : Int)) = (befL c (tsC c mv) t).all fun a => decide ((a : Int) ∈ done) := by
          rw [Bool.eq_iff_iff, decide_eq_true_eq, iandn_ok hmk hM, List.all_eq_true]
          constructor
          · intro hh a ha; exact decide_eq_true ((hH a).1 (hh a ((hmb a).2 (mem_befL.1 ha))))
          · intro hh a ha; exact (hH a).2 (of_decide_eq_true (hh a (mem_befL.2 ((hmb a).1 ha))))
        rw [e]
        simp [h1]
    rw [hcond, bs]
    have hw : extL c (tsC c mv) done t = (if mayB c (tsC c mv) done t = true then whoL c (tsC c mv) t 0 else []) ++ extL c (tsC c mv) done (t + 1) := by
      unfold extL
      rw [range'_cons ht, List.flatMap_cons]
    rw [hw, List.flatMap_append, runY_append]
    by_cases hc : mayB c (tsC c mv) done t = true
    · have := plans2_eq hk h (Y := Y) (self := self) (mask := mask) (done := done) (p := p) (r := r) (t := t) (y6 := (p, (t : Int), s)) hp ht rfl (fun m' d s hm hd => hself m' t d s hm ht hd) c.2.1.length 0 k s (by omega) (by omega) (by omega)
      simp only [hc, Bool.not_true, Bool.false_eq_true, if_false, if_true]
      rw [show ((0 : Nat) : Int) = 0 from rfl] at this
      rw [this]
      cases hR : runY Y s ((whoL c (tsC c mv) t 0).flatMap fun s => gen c (tsC c mv) r (done ++ [s.1]) (p ++ [s])) with
      | none => simp [K.bE]
      | some x =>
        obtain ⟨s', b⟩ := x
        cases b with
        | false => simp only [bs, resY, Bool.false_eq_true, if_false, bE_e]
        | true =>
          simp only [bs, resY, if_true, bE_k, hck]
          exact ih' s'
    · simp only [hc]
      have hc' : mayB c (tsC c mv) done t = false := by simpa using hc
      simp only [Bool.not_false, if_true, bE_k, hck, bs]
      exact ih' s

theorem plans_eq {k : Nat} (hk : 50 ≤ k) {n : Int} {c : dChange} {mv : List Bool} {q : dQuick} (h : QV n c mv q) {Y : σ → List dStep → Option (σ × Bool)} : ∀ (r fuel : Nat) {mask : Int} {done : List Int} {p : List dStep} {s : σ}, p.length + r = (tsC c mv).length → r < fuel → Mask mask → (∀ a : Nat, Has mask a ↔ (a : Int) ∈ done) →
    chg_quick_plans_1_1 k Y q fuel mask p s = (runY Y s (gen c (tsC c mv) r done p)).bind fun r => some (r.2, p, r.1) := by
  have ht4 := h.t4
  intro r
  induction r with
  | zero =>
    intro fuel mask done p s h1 h2 hM hH
    obtain ⟨fuel, rfl⟩ : ∃ f, fuel = f + 1 := ⟨fuel - 1, by omega⟩
    rw [chg_quick_plans_1_1, if_pos (by rw [h.tasks]; omega)]
    unfold slc_Clone_Step
    rw [chk_ok (okLen_of (by omega)), bs, bs]
    simp only [gen, runY]
    cases Y s p with
    | none => simp
    | some x =>
      obtain ⟨x1, x2⟩ := x
      cases x2 <;> simp
  | succ r ih =>
    intro fuel mask done p s h1 h2 hM hH
    obtain ⟨fuel, rfl⟩ : ∃ f, fuel = f + 1 := ⟨fuel - 1, by omega⟩
    rw [chg_quick_plans_1_1, if_neg (by rw [h.tasks]; omega)]
    have := plans1_eq hk h (Y := Y) (self := chg_quick_plans_1_1 k Y q fuel) (mask := mask) (done := done) (p := p) (r := r) (by omega) hM hH (fun m' t d s hm ht hd => by
      obtain ⟨r24, e24, rfl⟩ := hm
      obtain ⟨r24', e24', m24, d24⟩ := of_set_ok (k := k) hk (l := [(t : Int)]) (by simp) (fun x hx => by simp only [List.mem_singleton] at hx; subst hx; omega)
      have : r24' = r24 := Option.some.inj (e24'.symm.trans e24)
      subst this
      obtain ⟨m5, d5⟩ := ior_ok hM m24
      exact ih fuel (by simp; omega) (by omega) m5 (fun a => by rw [d5, hH, d24, List.mem_append])) (tsC c mv).length 0 k s (by omega) (by omega) (by omega)
    rw [show ((0 : Nat) : Int) = 0 from rfl] at this
    rw [this]
    simp only [gen]
    cases hR : runY Y s ((extL c (tsC c mv) done 0).flatMap fun s => gen c (tsC c mv) r (done ++ [s.1]) (p ++ [s])) with
    | none => simp [K.bE]
    | some x =>
      obtain ⟨s', b⟩ := x
      cases b with
      | false => simp only [bs, resY, Bool.false_eq_true, if_false, bE_e]
      | true => simp only [bs, resY, if_true, bE_k]
end

/-- All plans. -/
def plansS (c : dChange) (ts : List (Bool × Int)) : List (List dStep) := gen c ts ts.length [] []

theorem mem_whoL {c : dChange} {ts : List (Bool × Int)} {t : Nat} {s : dStep} : s ∈ whoL c ts t 0 ↔ s.1 = (t : Int) ∧ 0 ≤ s.2 ∧ s.2 < c.2.1.length ∧ canB c s.2 (tsk ts s.1) = true := by
  unfold whoL
  simp only [List.mem_map, List.mem_filter, List.mem_range'_1]
  constructor
  · rintro ⟨d, ⟨h1, h2⟩, rfl⟩
    exact ⟨rfl, by simp, by simp only; omega, h2⟩
  · rintro ⟨h1, h2, h3, h4⟩
    obtain ⟨a, b⟩ := s
    simp only at h1 h2 h3 h4
    subst h1
    have e : ((b.toNat : Nat) : Int) = b := by omega
    exact ⟨b.toNat, ⟨by omega, by rw [e]; exact h4⟩, by rw [e]⟩
theorem mayB_iff {c : dChange} {ts : List (Bool × Int)} {done : List Int} {t : Nat} : mayB c ts done t = true ↔ (t : Int) ∉ done ∧ ∀ a ∈ befL c ts t, (a : Int) ∈ done := by
  unfold mayB
  simp only [Bool.and_eq_true, decide_eq_true_eq, List.all_eq_true]
/-- The steps that can be next are those without an error. -/
theorem mem_extL {c : dChange} {ts : List (Bool × Int)} {done : List Int} {s : dStep} : s ∈ extL c ts done 0 ↔ stepErr c ts done s = 0 := by
  unfold extL stepErr
  simp only [List.mem_flatMap, List.mem_range'_1]
  constructor
  · rintro ⟨t, h1, h2⟩
    by_cases hm : mayB c ts done t = true
    · rw [if_pos hm] at h2
      obtain ⟨e1, e2, e3, e4⟩ := mem_whoL.1 h2
      obtain ⟨m1, m2⟩ := mayB_iff.1 hm
      rw [if_neg (by omega), if_neg (by rw [e1]; exact m1), if_neg (by omega), if_neg (by show ¬ canB c s.2 (tsk ts s.1) = false; rw [e4]; decide), if_neg (by rw [e1]; simpa using m2)]
    · rw [if_neg hm] at h2; cases h2
  · intro h
    by_cases a1 : 0 ≤ s.1 ∧ s.1 < ts.length
    · rw [if_neg (by simpa using a1)] at h
      by_cases a2 : s.1 ∈ done
      · rw [if_pos a2] at h; cases h
      · rw [if_neg a2] at h
        by_cases a3 : 0 ≤ s.2 ∧ s.2 < c.2.1.length
        · rw [if_neg (by simpa using a3)] at h
          by_cases a4 : canB c s.2 (ts[s.1.toNat]?.getD (false, 0)) = false
          · rw [if_pos a4] at h; cases h
          · rw [if_neg a4] at h
            by_cases a5 : ∀ a ∈ befL c ts s.1.toNat, (a : Int) ∈ done
            · have e1 : ((s.1.toNat : Nat) : Int) = s.1 := by omega
              refine ⟨s.1.toNat, by omega, ?_⟩
              rw [if_pos (mayB_iff.2 ⟨by rw [e1]; exact a2, a5⟩)]
              exact mem_whoL.2 ⟨e1.symm, a3.1, a3.2, by simpa [tsk] using a4⟩
            · rw [if_pos a5] at h; cases h
        · rw [if_pos (by simpa using a3)] at h; cases h
    · rw [if_pos (by simpa using a1)] at h; cases h

theorem mem_gen {c : dChange} {ts : List (Bool × Int)} : ∀ {r : Nat} {done : List Int} {p x : List dStep}, x ∈ gen c ts r done p ↔ ∃ y, x = p ++ y ∧ y.length = r ∧ cpGo c ts done y = 0
  | 0, done, p, x => by
    simp only [gen, List.mem_singleton]
    constructor
    · intro h; exact ⟨[], by simp [h], rfl, rfl⟩
    · rintro ⟨y, rfl, h, _⟩
      rw [List.length_eq_zero_iff.1 h, List.append_nil]
  | r + 1, done, p, x => by
    simp only [gen, List.mem_flatMap]
    constructor
    · rintro ⟨s, hs, hx⟩
      obtain ⟨y, rfl, h1, h2⟩ := mem_gen.1 hx
      refine ⟨s :: y, by simp, by simp [h1], ?_⟩
      rw [cpGo, if_neg (by simp [mem_extL.1 hs]), h2]
    · rintro ⟨y, rfl, h1, h2⟩
      cases y with
      | nil => simp at h1
      | cons s y =>
        rw [cpGo] at h2
        by_cases h0 : stepErr c ts done s = 0
        · rw [if_neg (by simp [h0])] at h2
          exact ⟨s, mem_extL.2 h0, mem_gen.2 ⟨y, by simp, by simpa using h1, h2⟩⟩
        · rw [if_pos h0] at h2; exact absurd h2 h0
/-- **All plans are the lists of steps without an error.** -/
theorem mem_plansS {c : dChange} {ts : List (Bool × Int)} {p : List dStep} : p ∈ plansS c ts ↔ cpS c ts p = 0 := by
  unfold plansS
  rw [mem_gen]
  constructor
  · rintro ⟨y, rfl, h1, h2⟩
    unfold cpS
    rw [if_neg (by omega), if_neg (by omega), h2]
  · intro h
    obtain ⟨h1, h2⟩ := cpS_ok h
    exact ⟨p, rfl, h1, h2⟩

def maxE (E : Nat → Int) : Int := imax (imax (imax (E 0) (E 1)) (E 2)) (E 3)
/-- The bars of a plan. -/
def lenS (c : dChange) (ts : List (Bool × Int)) (p : List dStep) : Int := maxE (bge c ts E0 (F0 c) p)

theorem keyOf_eq {k : Nat} (hk : 50 ≤ k) {p : List dStep} (hp : p.length ≤ 4) : chg_keyOf k p = some (keyL p) := by
  have key : chg_keyOf_l1 k k ([((0 : Int), (0 : Int)), ((0 : Int), (0 : Int)), ((0 : Int), (0 : Int)), ((0 : Int), (0 : Int))], (0 : Int)) = some [(-1, -1), (-1, -1), (-1, -1), (-1, -1)] := by
    obtain ⟨k', e⟩ : ∃ k', k = k' + 5 := ⟨k - 5, by omega⟩
    rw [show chg_keyOf_l1 k k = chg_keyOf_l1 k (k' + 5) by rw [← e]]
    rw [chg_keyOf_l1, if_pos (by decide), chk_ok (by decide), bs, ck_ok (by decide) (by decide), bs]
    rw [chg_keyOf_l1, if_pos (by decide), chk_ok (by decide), bs, ck_ok (by decide) (by decide), bs]
    rw [chg_keyOf_l1, if_pos (by decide), chk_ok (by decide), bs, ck_ok (by decide) (by decide), bs]
    rw [chg_keyOf_l1, if_pos (by decide), chk_ok (by decide), bs, ck_ok (by decide) (by decide), bs]
    rw [chg_keyOf_l1, if_neg (by decide)]
    rfl
  unfold chg_keyOf
  rw [key, bs]
  unfold keyL
  congr 1
  match p, hp with
  | [], _ => rfl
  | [a], _ => rfl
  | [a, b], _ => rfl
  | [a, b, d], _ => rfl
  | [a, b, d, e], _ => rfl

theorem length_eq {k : Nat} (hk : 50 ≤ k) {n : Int} {c : dChange} {mv : List Bool} {q : dQuick} (h : QV n c mv q) {p : List dStep} (hp : cpS c (tsC c mv) p = 0) : chg_quick_length k q p = some (lenS c (tsC c mv) p) := by
  obtain ⟨h1, h2⟩ := cpS_ok hp
  have h3 := (cpGo_ok h2).1
  have ht := h.t4
  have hdl := h.vc.dl
  have hs : ∀ s ∈ p, StepOk c (tsC c mv) s := fun s hs => (h3 s hs).1
  obtain ⟨el, e1, hE⟩ := begins_eq hk h (by omega) hs
  unfold chg_quick_length
  have hg : lenGuard q p := ⟨by rw [h.tasks]; exact h1, by omega, fun s hs' => by
    obtain ⟨a, b, d, e⟩ := hs s hs'
    exact ⟨a, by omega, d, by omega⟩⟩
  rw [chk_ok hg, bs, keyOf_eq hk (by omega), bs, chk_ok rfl, bs, keyOf_eq hk (by simp), bs, chk_ok rfl, bs]
  by_cases h0 : p = []
  · subst h0
    rw [if_pos rfl]
    rfl
  · rw [if_neg h0, e1, bs]
    obtain ⟨hl, hv⟩ := hE
    have v0 := hv 0 (by omega)
    have v1 := hv 1 (by omega)
    have v2 := hv 2 (by omega)
    have v3 := hv 3 (by omega)
    unfold lenS
    generalize bge c (tsC c mv) E0 (F0 c) p = E at *
    match el, hl with
    | [a, b, d, e], _ =>
      simp only [List.getElem?_cons_zero, List.getElem?_cons_succ, Option.some.injEq] at v0 v1 v2 v3
      subst v0 v1 v2 v3
      have key : slc_Max_int k [E 0, E 1, E 2, E 3] = some (maxE E) := by
        unfold slc_Max_int
        rw [if_neg (by simp)]
        obtain ⟨k', e⟩ : ∃ k', k = k' + 5 := ⟨k - 5, by omega⟩
        rw [show slc_Max_int_l1 k [E 0, E 1, E 2, E 3] k = slc_Max_int_l1 k [E 0, E 1, E 2, E 3] (k' + 5) by rw [← e]]
        rw [show geti [E 0, E 1, E 2, E 3] 0 = some (E 0) from rfl, bs]
        rw [slc_Max_int_l1, if_pos (by simp), show geti [E 0, E 1, E 2, E 3] 1 = some (E 1) from rfl, bs, ck_ok (by simp) (by simp), bs]
        rw [slc_Max_int_l1, if_pos (by simp)]
        simp only [show (1 : Int) + 1 = 2 from rfl]
        rw [show geti [E 0, E 1, E 2, E 3] 2 = some (E 2) from rfl, bs, ck_ok (by simp) (by simp), bs]
        rw [slc_Max_int_l1, if_pos (by simp)]
        simp only [show (2 : Int) + 1 = 3 from rfl]
        rw [show geti [E 0, E 1, E 2, E 3] 3 = some (E 3) from rfl, bs, ck_ok (by simp) (by simp), bs]
        rw [slc_Max_int_l1, if_neg (by simp), bs]
        rfl
      rw [key, bs]

/-- The first of the least. -/
def minL (f : List dStep → Int) : Bool × Int × List dStep → List (List dStep) → Bool × Int × List dStep
  | b, [] => b
  | b, p :: l => minL f (if b.1 = false ∨ f p < b.2.1 then (true, f p, p) else b) l

theorem least_eq {k : Nat} (hk : 50 ≤ k) {n : Int} {c : dChange} {mv : List Bool} {q : dQuick} (h : QV n c mv q) :
    chg_least k q = some ((minL (lenS c (tsC c mv)) (false, 0, []) (plansS c (tsC c mv))).2.2, (minL (lenS c (tsC c mv)) (false, 0, []) (plansS c (tsC c mv))).2.1, (minL (lenS c (tsC c mv)) (false, 0, []) (plansS c (tsC c mv))).1) := by
  have ht := h.t4
  have hcq : (((q.1.1, q.1.2.1, q.1.2.2.1, q.1.2.2.2), q.2.1, q.2.2) : dQuick) = q := rfl
  unfold chg_least chg_quick_plans_1
  simp only [hcq]
  rw [plans_eq hk h (tsC c mv).length k (done := []) (by simp) (by omega) ⟨by decide, by decide⟩ (fun a => by simp [Has])]
  have key : ∀ (l : List (List dStep)) (b : Bool × Int × List dStep), (∀ p ∈ l, cpS c (tsC c mv) p = 0) → runY (stopY (fun (y5 : Bool × Int × (List dStep)) (p7 : (List dStep)) =>
      (chg_quick_length k q p7).bind fun r9 =>
      ((if ¬ (y5.1 = true) then (some true) else (some (decide (r9 < y5.2.1)))) : Option (Bool)).bind fun x10 =>
      if x10 = true then (some ((true, r9, p7), true)) else (some ((y5.1, y5.2.1, y5.2.2), true)))) (b, false) l = some ((minL (lenS c (tsC c mv)) b l, false), true) := by
    intro l
    induction l with
    | nil => intro b _; rfl
    | cons p l ih =>
      intro b hp
      have hl := length_eq hk h (hp p (by simp))
      have ih' := fun b => ih b (fun x hx => hp x (by simp [hx]))
      rw [runY, stopY]
      simp only [hl, bs]
      obtain ⟨b1, b2, b3⟩ := b
      cases b1 with
      | false =>
        simp only [Bool.false_eq_true, not_false_eq_true, if_true, bs, Bool.not_true]
        rw [ih', minL]
        simp
      | true =>
        by_cases hlt : lenS c (tsC c mv) p < b2
        · simp only [not_true_eq_false, if_false, hlt, decide_true, if_true, bs, Bool.not_true]
          rw [ih', minL]
          simp [hlt]
        · simp only [not_true_eq_false, if_false, hlt, decide_false, Bool.false_eq_true, bs, if_true, Bool.not_true]
          rw [ih', minL]
          simp [hlt]
  have := key (plansS c (tsC c mv)) (false, 0, []) (fun p hp => mem_plansS.1 hp)
  unfold plansS at this ⊢
  rw [this]
  simp only [bs, Bool.false_eq_true, if_false]

/-- What the fewest bars are: the plan, the bars, and whether there is a plan. -/
def fewS (c : dChange) (ts : List (Bool × Int)) : Bool × Int × List dStep := minL (lenS c ts) (false, 0, []) (plansS c ts)

theorem minL_spec {f : List dStep → Int} : ∀ {l : List (List dStep)} {b : Bool × Int × List dStep}, b.1 = true → (minL f b l).1 = true ∧ (minL f b l).2.1 ≤ b.2.1 ∧ (∀ p ∈ l, (minL f b l).2.1 ≤ f p) ∧ ((minL f b l) = b ∨ ∃ p ∈ l, minL f b l = (true, f p, p))
  | [], b, h => ⟨h, Int.le_refl _, by simp, .inl rfl⟩
  | p :: l, b, h => by
    rw [minL]
    by_cases hp : f p < b.2.1
    · rw [if_pos (.inr hp)]
      obtain ⟨h1, h2, h3, h4⟩ := minL_spec (f := f) (l := l) (b := (true, f p, p)) rfl
      simp only at h2
      refine ⟨h1, by omega, fun x hx => ?_, ?_⟩
      · rcases List.mem_cons.1 hx with rfl | hx
        · exact h2
        · exact h3 x hx
      · rcases h4 with h4 | ⟨x, hx, h4⟩
        · exact .inr ⟨p, by simp, h4⟩
        · exact .inr ⟨x, by simp [hx], h4⟩
    · rw [if_neg (by rw [h]; simp [hp])]
      obtain ⟨h1, h2, h3, h4⟩ := minL_spec (f := f) (l := l) h
      refine ⟨h1, h2, fun x hx => ?_, ?_⟩
      · rcases List.mem_cons.1 hx with rfl | hx
        · omega
        · exact h3 x hx
      · rcases h4 with h4 | ⟨x, hx, h4⟩
        · exact .inl h4
        · exact .inr ⟨x, by simp [hx], h4⟩

/-- **The fewest bars.** -/
theorem fewS_spec {c : dChange} {ts : List (Bool × Int)} : ((fewS c ts).1 = false ∧ (fewS c ts).2 = (0, []) ∧ ∀ p, cpS c ts p ≠ 0) ∨
    ((fewS c ts).1 = true ∧ cpS c ts (fewS c ts).2.2 = 0 ∧ (fewS c ts).2.1 = lenS c ts (fewS c ts).2.2 ∧ ∀ p, cpS c ts p = 0 → (fewS c ts).2.1 ≤ lenS c ts p) := by
  unfold fewS
  cases hl : plansS c ts with
  | nil =>
    refine .inl ⟨rfl, rfl, fun p hp => ?_⟩
    have := mem_plansS.2 hp
    rw [hl] at this
    simp at this
  | cons p l =>
    rw [minL, if_pos (.inl rfl)]
    obtain ⟨h1, h2, h3, h4⟩ := minL_spec (f := lenS c ts) (l := l) (b := (true, lenS c ts p, p)) rfl
    have hm : ∀ x, cpS c ts x = 0 ↔ x = p ∨ x ∈ l := fun x => by rw [← mem_plansS, hl]; simp
    refine .inr ⟨h1, ?_, ?_, fun x hx => ?_⟩
    · rcases h4 with h4 | ⟨x, hx, h4⟩
      · rw [h4]; exact (hm _).2 (.inl rfl)
      · rw [h4]; exact (hm _).2 (.inr hx)
    · rcases h4 with h4 | ⟨x, hx, h4⟩
      · rw [h4]
      · rw [h4]
    · rcases (hm x).1 hx with rfl | hx
      · exact h2
      · exact h3 x hx

theorem Fewest_eq {k : Nat} (hk : 50 ≤ k) {n : Int} {c : dChange} {mv : List Bool} {q : dQuick} (h : QV n c mv q) (hb : chg_begin k c = some (some q, 0)) :
    chg_Fewest k c = some (if (fewS c (tsC c mv)).1 = true then ((fewS c (tsC c mv)).2.2, (fewS c (tsC c mv)).2.1, 0) else ([], 0, 11)) := by
  have hcq : (((q.1.1, q.1.2.1, q.1.2.2.1, q.1.2.2.2), q.2.1, q.2.2) : dQuick) = q := rfl
  unfold chg_Fewest
  rw [hb, bs, co_some]
  rw [if_neg (by simp), hcq, least_eq hk h, bs]
  unfold fewS
  cases (minL (lenS c (tsC c mv)) (false, 0, []) (plansS c (tsC c mv))).1 <;> simp

theorem fewest_eq {k : Nat} (hk : 50 ≤ k) {n : Int} {c : dChange} {mv : List Bool} {q : dQuick} {a0 : dQuick} {ds : List dDresser} (hc : (a0.1.1, ds, a0.1.2.2.1, a0.1.2.2.2) = c) (h : QV n c mv q) (hb : chg_begin k c = some (some q, 0)) :
    chg_quick_fewest k a0 ds = some ((fewS c (tsC c mv)).2.1, (fewS c (tsC c mv)).1) := by
  have hcq : (((q.1.1, q.1.2.1, q.1.2.2.1, q.1.2.2.2), q.2.1, q.2.2) : dQuick) = q := rfl
  unfold chg_quick_fewest
  rw [hc, hb, bs, co_some, if_neg (by simp), hcq, least_eq hk h, bs]
  rfl
theorem fewestF_eq {k : Nat} (hk : 50 ≤ k) {n : Int} {c : dChange} {mv : List Bool} {q : dQuick} {a0 : dquick} {ds : List dDresser} (hc : (a0.1.1, ds, a0.1.2.2) = c) (h : QV n c mv q) (hb : chg_begin k c = some (some q, 0)) :
    chg_quick_fewestF k a0 ds = some ((fewS c (tsC c mv)).2.1, (fewS c (tsC c mv)).1) := by
  have hcq : (((q.1.1, q.1.2.1, q.1.2.2.1, q.1.2.2.2), q.2.1, q.2.2) : dQuick) = q := rfl
  unfold chg_quick_fewestF
  rw [hc, hb, bs, co_some, if_neg (by simp), hcq, least_eq hk h, bs]
  rfl
end Go.Proofs.Ytfhdclhbdmhnmaa
