/- Plain law, the tools: computations in Option by rewriting; loops as folds. -/
import Derived.Test.YtfhdclhbdmhnmaaLaw8
namespace Go.Proofs.Ytfhdclhbdmhnmaa
open K Go Go.Proofs

section
variable {α β γ ε σ T : Type}
theorem bs {a : α} {f : α → Option β} : (some a).bind f = f a := by cases h : f a <;> simp [h]
theorem ck_ok {n : Int} (h1 : -9223372036854775808 ≤ n) (h2 : n ≤ 9223372036854775807) : K.ck n = some n := by rw [K.ck, if_pos ⟨h1, h2⟩]
theorem chk_ok {p : Prop} [Decidable p] (h : p) : chkP p = some () := by rw [chkP, if_pos h]
theorem geti_at {l : List α} {i : Int} (h0 : 0 ≤ i) (h : i.toNat < l.length) : geti l i = some l[i.toNat] := by rw [geti, if_pos h0]; exact List.getElem?_eq_getElem h
theorem geti_q {l : List α} {i : Int} {x : α} (h0 : 0 ≤ i) (h : l[i.toNat]? = some x) : geti l i = some x := by rw [geti, if_pos h0]; exact h
theorem bE_k {a : α} {g : ε → Option β} {f : α → Option β} : K.bE (some (.ok a)) g f = f a := by cases h : f a <;> simp [K.bE, h]
theorem bE_e {e : ε} {g : ε → Option β} {f : α → Option β} : K.bE (some (.error e)) g f = g e := by cases h : g e <;> simp [K.bE, h]
theorem co_some {q : α} {a : β} {b : α → β} : casesO (some q) a b = b q := by unfold casesO; exact Eq.refl _
theorem co_none {a : β} {b : α → β} : casesO none a b = a := by unfold casesO; exact Eq.refl _
/-- The same, with a way out. -/
def foldE (g : σ → Nat → α → Except ε σ) : Nat → List α → σ → Except ε σ
  | _, [], s => .ok s
  | j, x :: l, s => match g s j x with
    | .error e => .error e
    | .ok s' => foldE g (j + 1) l s'

theorem for_foldE (l : List α) (mk : σ → Int → T) (g : σ → Nat → α → Except ε σ) (P : Nat → σ → Prop) {f : Nat → T → Option β} (fin : Except ε σ → Option β)
    (step : ∀ n s (j : Nat) (h : j < l.length), P j s → (∃ e, g s j l[j] = .error e ∧ f (n + 1) (mk s j) = fin (.error e)) ∨ (∃ s', g s j l[j] = .ok s' ∧ f (n + 1) (mk s j) = f n (mk s' ((j : Int) + 1)) ∧ P (j + 1) s'))
    (stop : ∀ n s, P l.length s → f (n + 1) (mk s l.length) = fin (.ok s)) {s0 : σ} {n : Nat} (hn : l.length < n) (h0 : P 0 s0) : f n (mk s0 0) = fin (foldE g 0 l s0) := by
  have key : ∀ (m : List α) (pre : List α) (n : Nat) (s : σ), l = pre ++ m → m.length < n → P pre.length s → f n (mk s pre.length) = fin (foldE g pre.length m s) := by
    intro m
    induction m with
    | nil =>
      intro pre n s e hn hp
      obtain ⟨n, rfl⟩ : ∃ n', n = n' + 1 := ⟨n - 1, by omega⟩
      have : l.length = pre.length := by rw [e]; simp
      rw [← this] at hp ⊢
      exact stop n s hp
    | cons x m ih =>
      intro pre n s e hn hp
      simp only [List.length_cons] at hn
      obtain ⟨n, rfl⟩ : ∃ n', n = n' + 1 := ⟨n - 1, by omega⟩
      have hl : pre.length < l.length := by rw [e]; simp
      have hx : l[pre.length] = x := by simp [e]
      rcases step n s pre.length hl hp with ⟨e', h1, h2⟩ | ⟨s', h1, h2, h3⟩
      · rw [hx] at h1
        rw [h2, foldE, h1]
      · rw [hx] at h1
        have := ih (pre ++ [x]) n s' (by rw [e]; simp) (by omega) (by rw [List.length_append]; exact h3)
        rw [List.length_append] at this
        simp only [List.length_cons, List.length_nil, Nat.zero_add] at this
        rw [h2, foldE, h1]
        exact this
  exact key l [] n s0 rfl hn h0
end

/-! Numbers of tasks. -/
def numS (ts : List (Bool × Int)) (t : Int) (b : Bool) : Int := match ts.findIdx? (fun x => decide (x = (b, t))) with
  | some i => (i : Int)
  | none => -1

theorem foldE_find {α : Type} (p : α → Bool) : ∀ (l : List α) (j : Nat), foldE (fun (_ : Unit) j x => if p x then Except.error (j : Int) else .ok ()) j l () = match l.findIdx? p with | some i => .error ((i + j : Nat) : Int) | none => .ok ()
  | [], j => by simp [foldE]
  | x :: l, j => by
    rw [foldE, List.findIdx?_cons]
    by_cases h : p x = true
    · simp [h]
    · simp only [h, if_false, Bool.false_eq_true]
      rw [foldE_find p l (j + 1)]
      cases l.findIdx? p with
      | none => rfl
      | some i => simp only [Option.map_some]; congr 2; omega

theorem number_eq {k : Nat} (hk : 50 ≤ k) {a0 : dChange × (List (Bool × Int)) × (List Int)} {t : Int} {b : Bool} (h8 : a0.2.1.length ≤ 8) : chg_quick_number k a0 t b = some (numS a0.2.1 t b) := by
  have key := for_foldE (f := chg_quick_number_l1 k a0 t b) a0.2.1 (fun (_ : Unit) j => j) (fun _ j x => if decide (x = (b, t)) then Except.error (j : Int) else .ok ()) (fun _ _ => True)
    (fun r => some r) (fun n s j h _ => ?_) (fun n s _ => by simp [chg_quick_number_l1]) (n := k) (s0 := ()) (by omega) trivial
  · unfold chg_quick_number
    rw [show chg_quick_number_l1 k a0 t b k 0 = _ from key, foldE_find]
    unfold numS
    cases a0.2.1.findIdx? _ with
    | none => simp only [bE_k]
    | some i => simp only [bE_e, Nat.add_zero]
  · simp only [chg_quick_number_l1, Int.ofNat_lt, h, if_true, geti_W h, bs]
    obtain ⟨xb, xt⟩ := a0.2.1[j]
    cases xb <;> cases b <;> simp (disch := omega) only [chg_on_thing, chg_off_thing, cond, bs, Bool.false_eq_true, not_true_eq_false, not_false_eq_true, if_true, if_false, bE_k, ck_ok, Prod.mk.injEq, false_and, true_and, decide_false, reduceCtorEq] <;> by_cases hx : xt = t <;> simp (disch := omega) [hx, bE_k, bE_e]
end Go.Proofs.Ytfhdclhbdmhnmaa
