/- Plain law, part 15: the order of plans; the bars; the first plan that keeps all. -/
import Derived.Test.YtfhdclhbdmhnmaaLawB
namespace Go.Proofs.Ytfhdclhbdmhnmaa
open K Go Go.Proofs

/-- Does a plan keep all but some? -/
def keepsB (c : dChange) (ts : List (Bool × Int)) (but : Int → Bool) (p : List dStep) : Bool := decide ((lateS c ts (bge c ts E0 (F0 c) p) but p).1 < 0)

theorem kept_eq {k : Nat} (hk : 50 ≤ k) {n : Int} {c : dChange} {mv : List Bool} {q : dQuick} (h : QV n c mv q) {but : Int} (hbut : Mask but) :
    chg_quick_kept k q but = some (match (plansS c (tsC c mv)).find? (keepsB c (tsC c mv) fun x => decide (Has but x.toNat)) with | some p => (p, true) | none => ([], false)) := by
  have ht := h.t4
  have hcq : (((q.1.1, q.1.2.1, q.1.2.2.1, q.1.2.2.2), q.2.1, q.2.2) : dQuick) = q := rfl
  unfold chg_quick_kept chg_quick_plans_1
  simp only [hcq]
  rw [plans_eq hk h (tsC c mv).length k (done := []) (by simp) (by omega) ⟨by decide, by decide⟩ (fun a => by simp [Has])]
  have key : ∀ l : List (List dStep), (∀ p ∈ l, cpS c (tsC c mv) p = 0) → runY (stopY (fun (y6 : Bool × (List dStep)) (p8 : (List dStep)) =>
      (chg_quick_late k q p8 but).bind fun r10 =>
      if r10.1 < (0 : Int) then (some ((true, p8), false)) else (some ((y6.1, y6.2), true)))) ((false, []), false) l =
      some (match l.find? (keepsB c (tsC c mv) fun x => decide (Has but x.toNat)) with | some p => (((true, p), true), false) | none => (((false, []), false), true)) := by
    intro l
    induction l with
    | nil => intro _; rfl
    | cons p l ih =>
      intro hp
      have hcp := hp p (by simp)
      obtain ⟨h1, h2⟩ := cpS_ok hcp
      have hs : ∀ s ∈ p, StepOk c (tsC c mv) s := fun s hs => ((cpGo_ok h2).1 s hs).1
      have hl := late_eq hk h (p := p) (by omega) hs hbut
      rw [runY, stopY]
      simp only [hl, bs]
      rw [List.find?_cons]
      unfold keepsB at ih ⊢
      by_cases hlt : (lateS c (tsC c mv) (bge c (tsC c mv) E0 (F0 c) p) (fun x => decide (Has but x.toNat)) p).1 < 0
      · simp only [hlt, if_true, bs, Bool.not_false, Bool.false_eq_true, if_false, decide_true]
      · simp only [hlt, if_false, bs, Bool.not_true, if_true, decide_false]
        exact ih fun x hx => hp x (by simp [hx])
  have := key (plansS c (tsC c mv)) (fun p hp => mem_plansS.1 hp)
  unfold plansS at this ⊢
  rw [this]
  cases (gen c (tsC c mv) (tsC c mv).length [] []).find? _ with
  | none => simp only [bs, Bool.false_eq_true, if_false]
  | some p => simp only [bs, if_true]

theorem Kept_eq {k : Nat} (hk : 50 ≤ k) {n : Int} {c : dChange} {mv : List Bool} {q : dQuick} (h : QV n c mv q) (hb : chg_begin k c = some (some q, 0)) :
    chg_Kept k c = some (match (plansS c (tsC c mv)).find? (keepsB c (tsC c mv) fun _ => false) with | some p => (p, 0) | none => ([], 11)) := by
  have hcq : (((q.1.1, q.1.2.1, q.1.2.2.1, q.1.2.2.2), q.2.1, q.2.2) : dQuick) = q := rfl
  unfold chg_Kept
  rw [hb, bs, co_some, if_neg (by simp), hcq, kept_eq hk h ⟨by decide, by decide⟩, bs]
  have : (fun x : Int => decide (Has 0 x.toNat)) = fun _ => false := funext fun x => by simp [Has]
  rw [this]
  cases (plansS c (tsC c mv)).find? (keepsB c (tsC c mv) fun _ => false) <;> simp

/-! The order of plans. -/
def stepLt (x y : dStep) : Bool := decide (x.1 < y.1) || (decide (x.1 = y.1) && decide (x.2 < y.2))
def soonB : List dStep → List dStep → Bool
  | x :: a, y :: b => if x = y then soonB a b else stepLt x y
  | _, _ => false

theorem stepLt_ne {x y : dStep} (h : stepLt x y = true) : x ≠ y := fun e => by
  subst e
  unfold stepLt at h
  simp at h
theorem stepLt_asym {x y : dStep} (h : stepLt x y = true) : stepLt y x = false := by
  unfold stepLt at h ⊢
  simp only [Bool.or_eq_true, Bool.and_eq_true, decide_eq_true_eq, Bool.or_eq_false_iff, Bool.and_eq_false_imp, decide_eq_false_iff_not] at h ⊢
  omega
theorem stepLt_total {x y : dStep} (h : x ≠ y) : stepLt x y = true ∨ stepLt y x = true := by
  obtain ⟨a, b⟩ := x
  obtain ⟨a', b'⟩ := y
  unfold stepLt
  simp only [Bool.or_eq_true, Bool.and_eq_true, decide_eq_true_eq]
  by_cases h1 : a = a'
  · subst h1
    have : b ≠ b' := fun e => h (by rw [e])
    omega
  · omega
theorem soonB_pre : ∀ {p a b : List dStep}, soonB (p ++ a) (p ++ b) = soonB a b
  | [], _, _ => rfl
  | x :: p, a, b => by simp [soonB, soonB_pre (p := p)]
theorem soonB_asym : ∀ {a b : List dStep}, soonB a b = true → soonB b a = false
  | [], _, h => by simp [soonB] at h
  | _ :: _, [], h => by simp [soonB] at h
  | x :: a, y :: b, h => by
    simp only [soonB] at h ⊢
    by_cases e : x = y
    · subst e
      rw [if_pos rfl] at h ⊢
      exact soonB_asym h
    · rw [if_neg e] at h
      rw [if_neg (Ne.symm e)]
      exact stepLt_asym h
theorem soonB_total : ∀ {a b : List dStep}, a.length = b.length → a ≠ b → soonB a b = true ∨ soonB b a = true
  | [], [], _, h => absurd rfl h
  | [], _ :: _, h, _ => by simp at h
  | _ :: _, [], h, _ => by simp at h
  | x :: a, y :: b, h, hn => by
    simp only [soonB]
    by_cases e : x = y
    · subst e
      rw [if_pos rfl, if_pos rfl]
      exact soonB_total (by simpa using h) fun e => hn (by rw [e])
    · rw [if_neg e, if_neg (Ne.symm e)]
      exact stepLt_total e

theorem whoL_pw {c : dChange} {ts : List (Bool × Int)} {t : Nat} : (whoL c ts t 0).Pairwise fun x y => stepLt x y = true := by
  unfold whoL
  rw [List.pairwise_map]
  refine ((List.pairwise_lt_range' (s := 0) (n := c.2.1.length - 0)).filter _).imp fun {a b} h => ?_
  have h' : (a : Int) < (b : Int) := by omega
  simp [stepLt, h']
theorem extL_pw {c : dChange} {ts : List (Bool × Int)} {done : List Int} : (extL c ts done 0).Pairwise fun x y => stepLt x y = true := by
  unfold extL
  rw [List.pairwise_flatMap]
  refine ⟨fun t _ => ?_, (List.pairwise_lt_range' (s := 0) (n := ts.length - 0)).imp fun {a b} h x hx y hy => ?_⟩
  · split
    · exact whoL_pw
    · exact List.Pairwise.nil
  · have e1 : x.1 = (a : Int) := by
      split at hx
      · exact (mem_whoL.1 hx).1
      · cases hx
    have e2 : y.1 = (b : Int) := by
      split at hy
      · exact (mem_whoL.1 hy).1
      · cases hy
    unfold stepLt
    simp only [Bool.or_eq_true, Bool.and_eq_true, decide_eq_true_eq]
    omega
theorem gen_pw {c : dChange} {ts : List (Bool × Int)} : ∀ {r : Nat} {done : List Int} {p : List dStep}, (gen c ts r done p).Pairwise fun x y => soonB x y = true
  | 0, _, _ => by simp [gen]
  | r + 1, done, p => by
    rw [gen, List.pairwise_flatMap]
    refine ⟨fun s _ => gen_pw, extL_pw.imp fun {s s'} h x hx y hy => ?_⟩
    obtain ⟨a, rfl, _, _⟩ := mem_gen.1 hx
    obtain ⟨b, rfl, _, _⟩ := mem_gen.1 hy
    rw [List.append_assoc, List.append_assoc, soonB_pre]
    simp only [List.cons_append, List.nil_append, soonB]
    rw [if_neg (stepLt_ne h)]
    exact h
/-- **The plans stand in their order.** -/
theorem plansS_pw {c : dChange} {ts : List (Bool × Int)} : (plansS c ts).Pairwise fun x y => soonB x y = true := gen_pw

theorem minL_lt {f : List dStep → Int} : ∀ {l : List (List dStep)} {b : Bool × Int × List dStep}, b.1 = true → minL f b l = b ∨ (minL f b l).2.1 < b.2.1
  | [], b, _ => .inl rfl
  | p :: l, b, h => by
    rw [minL]
    by_cases hp : f p < b.2.1
    · rw [if_pos (.inr hp)]
      have := (minL_spec (f := f) (l := l) (b := (true, f p, p)) rfl).2.1
      simp only at this
      exact .inr (by omega)
    · rw [if_neg (by rw [h]; simp [hp])]
      exact minL_lt h

/-- The first of the least comes ahead of the others of its kind. -/
theorem minL_first {f : List dStep → Int} : ∀ {l : List (List dStep)} {b : Bool × Int × List dStep}, b.1 = true → b.2.1 = f b.2.2 → (b.2.2 :: l).Pairwise (fun x y => soonB x y = true) →
    ∀ p ∈ b.2.2 :: l, (minL f b l).2.1 < f p ∨ ((minL f b l).2.1 = f p ∧ soonB p (minL f b l).2.2 = false)
  | [], b, h, hf, _, p, hp => by
    simp only [List.mem_singleton] at hp
    subst hp
    refine .inr ⟨hf, ?_⟩
    simp only [minL]
    cases hs : soonB b.2.2 b.2.2 with
    | false => rfl
    | true => have := soonB_asym hs; rw [hs] at this; cases this
  | x :: l, b, h, hf, hpw, p, hp => by
    obtain ⟨h1, h2⟩ := List.pairwise_cons.1 hpw
    obtain ⟨h3, h4⟩ := List.pairwise_cons.1 h2
    rw [minL]
    by_cases hx : f x < b.2.1
    · rw [if_pos (.inr hx)]
      have ih := minL_first (f := f) (l := l) (b := (true, f x, x)) rfl rfl h2
      have hle := (minL_spec (f := f) (l := l) (b := (true, f x, x)) rfl).2.1
      simp only at hle
      rcases List.mem_cons.1 hp with rfl | hp
      · exact .inl (by omega)
      · exact ih p hp
    · rw [if_neg (by rw [h]; simp [hx])]
      have ih := minL_first (f := f) (l := l) (b := b) h hf (List.pairwise_cons.2 ⟨fun y hy => h1 y (List.mem_cons_of_mem _ hy), h4⟩)
      rcases List.mem_cons.1 hp with rfl | hp
      · exact ih _ (by simp)
      · rcases List.mem_cons.1 hp with rfl | hp
        · have hle := (minL_spec (f := f) (l := l) (b := b) h).2.1
          by_cases hlt : (minL f b l).2.1 < f p
          · exact .inl hlt
          · refine .inr ⟨by omega, ?_⟩
            -- then b itself is the least
            rcases minL_lt (f := f) (l := l) h with hb | hb
            · rw [hb]; exact soonB_asym (h1 p (by simp))
            · omega
        · exact ih p (by simp [hp])

theorem fewS_first {c : dChange} {ts : List (Bool × Int)} {p : List dStep} (hp : cpS c ts p = 0) : (fewS c ts).2.1 < lenS c ts p ∨ ((fewS c ts).2.1 = lenS c ts p ∧ soonB p (fewS c ts).2.2 = false) := by
  have hm := mem_plansS.2 hp
  have hpw := plansS_pw (c := c) (ts := ts)
  unfold fewS
  cases hl : plansS c ts with
  | nil => rw [hl] at hm; cases hm
  | cons x l =>
    rw [hl] at hm hpw
    rw [minL, if_pos (.inl rfl)]
    exact minL_first (f := lenS c ts) (l := l) (b := (true, lenS c ts x, x)) rfl rfl hpw p hm

theorem find_first {f : List dStep → Bool} {l : List (List dStep)} {x : List dStep} (hpw : l.Pairwise fun x y => soonB x y = true) (h : l.find? f = some x) : ∀ p ∈ l, f p = true → soonB p x = false := by
  induction l with
  | nil => cases h
  | cons y l ih =>
    intro p hp hf
    obtain ⟨h1, h2⟩ := List.pairwise_cons.1 hpw
    rw [List.find?_cons] at h
    cases hy : f y with
    | true =>
      rw [hy] at h
      simp only [Option.some.injEq] at h
      subst h
      rcases List.mem_cons.1 hp with rfl | hp
      · cases hs : soonB p p with
        | false => rfl
        | true => have := soonB_asym hs; rw [hs] at this; cases this
      · exact soonB_asym (h1 p hp)
    | false =>
      rw [hy] at h
      simp only at h
      rcases List.mem_cons.1 hp with rfl | hp
      · rw [hy] at hf; cases hf
      · exact ih h2 h p hp hf
end Go.Proofs.Ytfhdclhbdmhnmaa
