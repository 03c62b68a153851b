/- The calculus, part 11: how the walk follows a function in Option: binds, tests, cuts; short forms of the rules. -/
import Derived.Test.YtfhdclhbdmhnmaaCore10
namespace Go.Proofs.Ytfhdclhbdmhnmaa
namespace K
open Go

/-! ### Following a computation in Option -/

section
variable {α β γ ρ : Type} {K : β → Option ρ} {r : ρ}

theorem b_bind {X : Option α} {f : α → Option β} (h : (X.bind f).bind K = some r) : ∃ x, X = some x ∧ (f x).bind K = some r := by
  cases X with
  | none => cases h
  | some x => exact ⟨x, rfl, h⟩

theorem b_if {p : Prop} [Decidable p] {X Y : Option β} (hp : p) (h : (if p then X else Y).bind K = some r) : X.bind K = some r := by rwa [if_pos hp] at h
theorem b_ifn {p : Prop} [Decidable p] {X Y : Option β} (hp : ¬ p) (h : (if p then X else Y).bind K = some r) : Y.bind K = some r := by rwa [if_neg hp] at h

theorem d_t {p : Prop} [Decidable p] (h : decide p = true) : p := of_decide_eq_true h
theorem d_f {p : Prop} [Decidable p] (h : decide p = false) : ¬ p := of_decide_eq_false h
theorem n_t {p : Prop} [Decidable p] (h : (!decide p) = true) : ¬ p := by simpa using h
theorem n_f {p : Prop} [Decidable p] (h : (!decide p) = false) : p := by simpa using h
theorem v_f {b : Bool} (h : b = false) : ¬ b = true := by simp [h]
theorem nv_t {b : Bool} (h : (!b) = true) : ¬ b = true := by simpa using h
theorem nv_f {b : Bool} (h : (!b) = false) : b = true := by simpa using h

theorem b_top {X : Option ρ} (h : X = some r) : X.bind some = some r := by rw [h]; rfl

/-- An inner piece of code that may return: 'g' says what a return comes to, 'f' goes on. -/
def bE {ε : Type} (X : Option (Except ε α)) (g : ε → Option β) (f : α → Option β) : Option β := match X with
  | none => none
  | some (.error e) => g e
  | some (.ok x) => f x

/-- A condition without which there is no answer. -/
def chkP (p : Prop) [Decidable p] : Option Unit := if p then some () else none
theorem chkP_some {p : Prop} [Decidable p] {u : Unit} (h : chkP p = some u) : p := by
  unfold chkP at h
  split at h
  · assumption
  · cases h
end

section
variable {c : Cx} {ops : Array Oper} {o : Oper} {l : List Oper} {Q : Exit → Act → World → Prop} {Γ Γ' : Ga} {Δ Δ' F : List D} {N : List (Operand × A)} {d : Nat} {X : Type} {r r' : A} {C C' : Code}

/-- A cut behind a piece of code that does not return. -/
theorem JC.cutB {α β ρ Z : Type} {Y : Option α} {f : α → Option β} {K : β → Option ρ} {q : ρ} (G : Z → α → Ga) (E : Z → α → List D) (h : (Y.bind f).bind K = some q)
    (h1 : ∀ K' : α → Option ρ, Y.bind K' = some q → JC c C (Exit.then (fun a w => ∃ z : Z × α, K' z.2 = some q ∧ St c (G z.1 z.2) (E z.1 z.2) a w) Q) Γ Δ)
    (h2 : ∀ z x, (f x).bind K = some q → JC c C' Q (G z x) (E z x)) : JC c (.seq C C') Q Γ Δ :=
  JC.cut (Z := Z × α) (fun z => G z.1 z.2) (fun z => E z.1 z.2) (fun z => (f z.2).bind K = some q) (h1 (fun x => (f x).bind K) (by
    cases Y with
    | none => cases h
    | some x => exact h)) fun z h => h2 z.1 z.2 h

/-- A cut behind a piece of code that may return. -/
theorem JC.cutE {α β ρ ε Z : Type} {Y : Option (Except ε α)} {g : ε → Option β} {f : α → Option β} {K : β → Option ρ} {q : ρ} (G : Z → α → Ga) (E : Z → α → List D) (p : ε → Prop) (h : (bE Y g f).bind K = some q) (hg : ∀ e, (g e).bind K = some q → p e)
    (h1 : ∀ K' : Except ε α → Option ρ, (∀ e, K' (.error e) = some q → p e) → Y.bind K' = some q → JC c C (Exit.then (fun a w => ∃ z : Z × α, K' (.ok z.2) = some q ∧ St c (G z.1 z.2) (E z.1 z.2) a w) Q) Γ Δ)
    (h2 : ∀ z x, (f x).bind K = some q → JC c C' Q (G z x) (E z x)) : JC c (.seq C C') Q Γ Δ :=
  JC.cut (Z := Z × α) (fun z => G z.1 z.2) (fun z => E z.1 z.2) (fun z => (f z.2).bind K = some q) (h1 (fun | .error e => (g e).bind K | .ok x => (f x).bind K) hg (by
    cases Y with
    | none => cases h
    | some x => cases x with
      | error e => exact h
      | ok x => exact h)) fun z h => h2 z.1 z.2 h

/-! ### States -/

def pickD (Δ : List D) : List Nat → Option (List D)
  | [] => some []
  | k :: ks => match Δ[k]?, pickD Δ ks with
    | some d, some l => some (d :: l)
    | _, _ => none

theorem mem_of_pickD {Δ : List D} : ∀ {ks : List Nat} {Δ' : List D}, pickD Δ ks = some Δ' → ∀ d ∈ Δ', ∃ k ∈ ks, Δ[k]? = some d
  | [], _, h, d, hd => by cases h; simp at hd
  | k :: ks, _, h, d, hd => by
    simp only [pickD] at h
    split at h
    · rename_i d' l h1 h2
      cases h
      rcases List.mem_cons.1 hd with rfl | hd
      · exact ⟨k, List.mem_cons_self .., h1⟩
      · obtain ⟨k', h3, h4⟩ := mem_of_pickD h2 d hd
        exact ⟨k', List.mem_cons_of_mem _ h3, h4⟩
    · cases h

theorem pairwise_idx {α : Type} {R : α → α → Prop} (hR : ∀ a b, R a b → R b a) : ∀ {l : List α}, l.Pairwise R → ∀ {i j : Nat} {a b : α}, i ≠ j → l[i]? = some a → l[j]? = some b → R a b
  | [], _, i, _, _, _, _, h, _ => by simp at h
  | x :: l, hp, i, j, a, b, hne, hi, hj => by
    obtain ⟨h1, h2⟩ := List.pairwise_cons.1 hp
    cases i with
    | zero =>
      cases j with
      | zero => exact absurd rfl hne
      | succ j =>
        simp at hi hj
        subst hi
        exact h1 b (List.mem_of_getElem? hj)
    | succ i =>
      cases j with
      | zero =>
        simp at hi hj
        subst hj
        exact hR _ _ (h1 a (List.mem_of_getElem? hi))
      | succ j => exact pairwise_idx hR h2 (i := i) (j := j) (by omega) (by simpa using hi) (by simpa using hj)

theorem pickD_pairwise {Δ : List D} {R : D → D → Prop} (hR : ∀ a b, R a b → R b a) (hp : Δ.Pairwise R) : ∀ {ks : List Nat} {Δ' : List D}, ks.Nodup → pickD Δ ks = some Δ' → Δ'.Pairwise R
  | [], _, _, h => by cases h; exact List.Pairwise.nil
  | k :: ks, _, hn, h => by
    simp only [pickD] at h
    split at h
    · rename_i d' l h1 h2
      cases h
      obtain ⟨hn1, hn2⟩ := List.nodup_cons.1 hn
      refine List.pairwise_cons.2 ⟨fun d hd => ?_, pickD_pairwise hR hp hn2 h2⟩
      obtain ⟨k', h3, h4⟩ := mem_of_pickD h2 d hd
      exact pairwise_idx hR hp (fun e => hn1 (by rw [e]; exact h3)) h1 h4
    · cases h

/-- What is kept: these slots, and the resources of these numbers. -/
theorem SE.fin (ks : List Nat) (hs : Sub Γ' Γ) (hk : pickD Δ ks = some Δ') (hn : ks.Nodup := by decide) : SE c Γ Δ Γ' Δ' := fun a w ⟨h1, h2, S, h3, h4, h5, h6⟩ => by
  have hm : ∀ d ∈ Δ', d ∈ Δ := fun d hd => by
    obtain ⟨k, _, h⟩ := mem_of_pickD hk d hd
    exact List.mem_of_getElem? h
  exact ⟨h1, h2, S, h3, fun b ⟨d, hd, e⟩ => h4 b ⟨d, hm d hd, e⟩, ⟨fun d hd => h5.holds d (hm d hd), fun b ⟨d, hd, e⟩ => h5.own b ⟨d, hm d hd, e⟩, pickD_pairwise (fun _ _ h b e e' => h b e' e) h5.apart hn hk⟩, fun s r hl => h6 s r (hs.lk hl)⟩

theorem JO.bool {s : Nat} {b : Bool} (hl : lk Γ s = some (.eq (.bool b))) (h1 : b = true → JO c ops l Q ((s, .eq (.bool true)) :: Γ) Δ) (h2 : b = false → JO c ops l Q ((s, .eq (.bool false)) :: Γ) Δ) : JO c ops l Q Γ Δ := by
  have key : ∀ b' : Bool, b = b' → ∀ a w, St c Γ Δ a w → St c ((s, .eq (.bool b')) :: Γ) Δ a w := fun b' e a w ⟨g1, g2, S, g3, g4, g5, g6⟩ => ⟨g1, g2, S, g3, g4, g5, fun s' q hq => by
    simp only [lk] at hq
    split at hq
    · rename_i e'; subst e' e; cases hq; exact g6 s _ hl
    · exact g6 s' q hq⟩
  intro a w st
  cases b
  · exact h2 rfl a w (key _ rfl a w st)
  · exact h1 rfl a w (key _ rfl a w st)

/-- An own slice that lies in a variable of the call's own, and in slots, is frozen. -/
theorem SE.frzBoth {v : Value} {T T' : TypeId} {t : Ty} {dd : List t.den} {b off : Nat} {a0 a1 : A} (ss : List Nat) (hh : Holding Γ v ss) (hg : a0.get off 1 false = some (.eq v)) (hs : a0.set off 1 false (.rep (.slice t) dd) = some a1) :
    SE c Γ (.sl v T t dd :: .obj b T' a0 :: F) (setAll Γ (.rep (.slice t) dd) ss) (.obj b T' a1 :: F) := fun a w h => by
  have k1 := SE.frz (F := .obj b T' a0 :: F) ss hh a w h
  have k2 := SE.frzIn hg hs a w h
  obtain ⟨h1, h2, S, h3, h4, h5, h6, h7⟩ := frz_core h
  obtain ⟨_, _, S2, p3, p4, p5, p6⟩ := k2
  have hK : Keep S2 w w := fun _ _ => rfl
  have hK1 : Keep S w w := fun _ _ => rfl
  -- one frozen set for both
  obtain ⟨cs, q1, q2⟩ := h5.holds _ (List.mem_cons_self ..)
  obtain ⟨g1, g2⟩ := A.get_spec a0 q2 hg
  have l0 := a0.cells_length q2
  have gv : mk false ((cs.drop off).take 1) = v := g1
  have hlt : off < cs.length := by omega
  have hc : (cs.drop off).take 1 = [v] := by
    have e9 : (cs.drop off).take 1 = [cs[off]] := by rw [List.drop_eq_getElem_cons hlt]; rfl
    rw [e9] at gv ⊢
    have e10 : cs[off] = v := gv
    rw [e10]
  obtain ⟨xs, e1, e2⟩ := h7
  have e3 : xs = [v] := by
    have l1 := rd_length (.slice t) e1
    match xs, l1 with
    | [u], _ => simp [mk] at e2; rw [e2]
  subst e3
  obtain ⟨m1, _⟩ := A.set_spec a0 q2 (r := .rep (.slice t) dd) (new := [v]) e1 rfl hs
  have e4 : cs.take off ++ [v] ++ cs.drop (off + [v].length) = cs := by
    show cs.take off ++ [v] ++ cs.drop (off + 1) = cs
    rw [← hc, ← List.take_add, List.take_append_drop]
  rw [e4] at m1
  refine ⟨h1, h2, S, h3, fun x ⟨e, he, hb⟩ => ?_, ⟨fun e he => ?_, fun x ⟨e, he, hb⟩ => ?_, ?_⟩, fun s q hq => ?_⟩
  · rcases List.mem_cons.1 he with rfl | he
    · exact h4 x ⟨_, List.mem_cons_self .., hb⟩
    · exact h4 x ⟨e, List.mem_cons_of_mem _ he, hb⟩
  · rcases List.mem_cons.1 he with rfl | he
    · exact ⟨cs, q1, m1⟩
    · exact h5.holds e (List.mem_cons_of_mem _ he)
  · rcases List.mem_cons.1 he with rfl | he
    · exact h5.own x ⟨_, List.mem_cons_self .., hb⟩
    · exact h5.own x ⟨e, List.mem_cons_of_mem _ he, hb⟩
  · have hp := List.pairwise_cons.1 h5.apart
    exact List.pairwise_cons.2 ⟨fun e he => hp.1 e he, hp.2⟩
  · rcases lk_setAll hq with ⟨hs', rfl⟩ | hq
    · have := h6 s _ (hh.mem hs')
      have e : a.tmps.getD s undef = v := this
      rw [e]
      exact ⟨_, e1, rfl⟩
    · exact h6 s q hq

/-! ### Short forms -/

theorem JO.s {op : Op} {ty : TypeId} {pos : String} {af : Array Edge} (hdN : Nat.blt d c.N = true) (ht : OpT c.P ⟨some d, op, ty, pos, af, none⟩ N [] (fun _ : Unit => (r, []))) (hh : Has Γ N) (h : JO c ops l Q ((d, r) :: Γ) Δ) :
    JO c ops (⟨some d, op, ty, pos, af, none⟩ :: l) Q Γ Δ := JO.s00 rfl rfl hdN ht hh h

theorem JO.mv {t : Nat} {ty : TypeId} {pos : String} {af : Array Edge} (hdN : Nat.blt d c.N = true) (hl : lk Γ t = some r) (h : JO c ops l Q ((d, r) :: Γ) Δ) :
    JO c ops (⟨some d, .move (.tmp t), ty, pos, af, none⟩ :: l) Q Γ Δ := JO.s hdN (o_move rfl) ⟨hl, trivial⟩ h
theorem JO.mc {v : Value} {ty : TypeId} {pos : String} {af : Array Edge} (hdN : Nat.blt d c.N = true) (h : JO c ops l Q ((d, .eq v) :: Γ) Δ) :
    JO c ops (⟨some d, .move (.const v), ty, pos, af, none⟩ :: l) Q Γ Δ := JO.s hdN (o_move rfl) ⟨rfl, trivial⟩ h
theorem JO.as {t : Nat} {ty : TypeId} {pos : String} {af : Array Edge} (hdN : Nat.blt d c.N = true) (hl : lk Γ t = some r) (h : JO c ops l Q ((d, r) :: Γ) Δ) :
    JO c ops (⟨some d, .assign (.tmp t), ty, pos, af, none⟩ :: l) Q Γ Δ := JO.s hdN (o_assign rfl) ⟨hl, trivial⟩ h
theorem JO.ac {v : Value} {ty : TypeId} {pos : String} {af : Array Edge} (hdN : Nat.blt d c.N = true) (h : JO c ops l Q ((d, .eq v) :: Γ) Δ) :
    JO c ops (⟨some d, .assign (.const v), ty, pos, af, none⟩ :: l) Q Γ Δ := JO.s hdN (o_assign rfl) ⟨rfl, trivial⟩ h

end
end K
end Go.Proofs.Ytfhdclhbdmhnmaa
