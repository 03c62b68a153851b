/- The calculus, part 26: scopes, the label walked where it stands. -/
import Derived.Test.YtfhdclhbdmhnmaaCore25
namespace Go.Proofs.Ytfhdclhbdmhnmaa
namespace K
open Go

section
variable {c : Cx} {Q : Exit → Act → World → Prop} {Γ Γ' : Ga} {Δ Δ' : List D} {C : Code}

theorem fl_hit {a b r : Code} {l : Nat} (h : findLabel a l = some r) : findLabel (.seq a b) l = some (.seq r b) := by rw [findLabel, h]
theorem fl_miss {a b r : Code} {l : Nat} (h : findLabel a l = none) (h' : findLabel b l = some r) : findLabel (.seq a b) l = some r := by rw [findLabel, h]; exact h'
theorem fl_lab {l : Nat} : findLabel (.label l) l = some .skip := by simp [findLabel]

/-- From here the rest is right, with less than n jumps back. -/
def Jn (P : Program) (rest : Code) (i : Nat) (Q : Exit → Act → World → Prop) : Nat → Act → World → Prop
  | 0 => fun _ _ => False
  | n + 1 => fun a w => rest.wpIn Fence.wide 0 P (Exit.jump i (Jn P rest i Q n) Q) a w

def Ja (P : Program) (rest : Code) (i : Nat) (Q : Exit → Act → World → Prop) : Act → World → Prop := fun a w => ∃ n, Jn P rest i Q n a w

theorem JC.scopeS {i : Nat} {rest : Code} (hrd : c.rd = none) (hf : findLabel C i = some rest) (first : JC c C (Exit.jump i (Ja c.P rest i Q) Q) Γ Δ) : JC c (.scope C) Q Γ Δ := by
  intro a w st
  have hw : FW c.rd = Fence.wide := by rw [hrd]; rfl
  have first := first a w st
  rw [hw] at first ⊢
  refine wpIn_wide.2 ?_
  have hleast : ∀ a w, Ja c.P rest i Q a w → ∃ m, Jn c.P rest i Q m a w ∧ ∀ k, Jn c.P rest i Q k a w → m ≤ k := fun a w ⟨n, h⟩ => least_nat n h
  let μ : Act → World → Nat := fun a w => open Classical in if h : Ja c.P rest i Q a w then Classical.choose (hleast a w h) else 0
  have hμ : ∀ a w (h : Ja c.P rest i Q a w), Jn c.P rest i Q (μ a w) a w ∧ ∀ k, Jn c.P rest i Q k a w → μ a w ≤ k := fun a w h => by
    have e : μ a w = Classical.choose (hleast a w h) := dif_pos h
    rw [e]
    exact Classical.choose_spec (hleast a w h)
  refine wp_scope_jumps i (Ja c.P rest i Q) μ hf (wpIn_wide.1 first) ?_
  intro a w hJ
  have h1 := (hμ a w hJ).1
  generalize hm : μ a w = m at h1
  cases m with
  | zero => cases h1
  | succ n =>
    refine Code.wp_mono (fun e a' w' hq => ?_) (wpIn_wide.1 h1)
    cases e with
    | goto l' =>
      obtain ⟨g1, g2⟩ := hq
      have := (hμ a' w' ⟨n, g2⟩).2 n g2
      exact ⟨g1, ⟨n, g2⟩, by omega⟩
    | _ => exact hq

/-- The label, following a function L with fuel. -/
theorem JC.atLabel {α β ρ Z : Type} {K : β → Option ρ} {q : ρ} {i : Nat} {rest : Code} (hrd : c.rd = none) (G : Z → α → Ga) (E : Z → α → List D) (L : Nat → α → Option β) (n : Nat) (z : Z) (x : α) (h0 : ∀ x, L 0 x = none) (h : (L n x).bind K = some q) (hs : SE c Γ Δ (G z x) (E z x))
    (pass : ∀ n z x, (L (n + 1) x).bind K = some q → JC c rest (Exit.jump i (fun a w => ∃ z' : Z × α, (L n z'.2).bind K = some q ∧ St c (G z'.1 z'.2) (E z'.1 z'.2) a w) Q) (G z x) (E z x)) :
    JC c rest (Exit.jump i (Ja c.P (.seq .skip rest) i Q) Q) Γ Δ := by
  have hw : FW c.rd = Fence.wide := by rw [hrd]; rfl
  have key : ∀ n a w, (∃ z' : Z × α, (L n z'.2).bind K = some q ∧ St c (G z'.1 z'.2) (E z'.1 z'.2) a w) → Jn c.P (.seq .skip rest) i Q n a w := by
    intro n
    induction n with
    | zero => rintro a w ⟨z', h, _⟩; rw [h0] at h; cases h
    | succ n ih =>
      rintro a w ⟨z', h, st⟩
      have hp := JC.seq (JC.skip (JN.then_n (pass n z'.1 z'.2 h))) a w st
      rw [hw] at hp
      refine Code.wpIn_mono (fun e a' w' hq => ?_) hp
      cases e with
      | goto l' => exact ⟨hq.1, ih a' w' hq.2⟩
      | _ => exact hq
  intro a w st
  cases n with
  | zero => rw [h0] at h; cases h
  | succ n =>
    refine Code.wpIn_mono (fun e a' w' hq => ?_) (pass n z x h a w (hs a w st))
    cases e with
    | goto l' => exact ⟨hq.1, _, key n a' w' hq.2⟩
    | _ => exact hq

/-- The jump back. -/
theorem JN.jmpz {Z : Type} {i : Nat} {G : Z → Ga} {E : Z → List D} {p : Z → Prop} (z : Z) (hp : p z) (h : SE c Γ Δ (G z) (E z)) :
    JN c (Exit.jump i (fun a w => ∃ z, p z ∧ St c (G z) (E z) a w) Q (.goto i)) Γ Δ := fun a w st => ⟨rfl, z, hp, h a w st⟩
/-! ### A slice of structs whose first part is own for a while -/
@[reducible] def altF {α β : Type} (x : α × β) : (α ⊕ Value) × β := (.inl x.1, x.2)

theorem rdAll_to {α β : Type} {R : α → List Value → Prop} {R' : β → List Value → Prop} {f : α → β} (h : ∀ x cs, R x cs → R' (f x) cs) : ∀ {l : List α} {cs : List Value}, rdAll R l cs → rdAll R' (l.map f) cs
  | [], _, e => e
  | _ :: _, _, ⟨c1, c2, e, h1, h2⟩ => ⟨c1, c2, e, h _ _ h1, rdAll_to h h2⟩

theorem rdAll_of {α β : Type} {R : α → List Value → Prop} {R' : β → List Value → Prop} {f : α → β} (h : ∀ x cs, R' (f x) cs → R x cs) {y : β} {z : α} (hy : ∀ cs, R' y cs → R z cs) : ∀ {l : List α} {i : Nat} {cs : List Value}, rdAll R' ((l.map f).set i y) cs → rdAll R (l.set i z) cs
  | [], _, _, e => e
  | x :: l, 0, _, ⟨c1, c2, e, h1, h2⟩ => ⟨c1, c2, e, hy _ h1, by
    have key : ∀ {l : List α} {cs : List Value}, rdAll R' (l.map f) cs → rdAll R l cs := by
      intro l
      induction l with
      | nil => intro cs e; exact e
      | cons x l ih => rintro cs ⟨c1, c2, e, h1, h2⟩; exact ⟨c1, c2, e, h _ _ h1, ih h2⟩
    exact key h2⟩
  | x :: l, i + 1, _, ⟨c1, c2, e, h1, h2⟩ => ⟨c1, c2, e, h _ _ h1, rdAll_of h hy h2⟩

theorem geti_map {α β : Type} {f : α → β} {l : List α} {i : Int} {x : α} (h : geti l i = some x) : geti (List.map f l) i = some (f x) := by
  obtain ⟨h0, h1, h2⟩ := geti_some h
  unfold geti
  rw [if_pos h0, List.getElem?_map, h2]
  rfl
theorem geti_set {α : Type} {l : List α} {i : Int} {x : α} (y : α) (h : geti l i = some x) : geti (List.set l (Int.toNat i) y) i = some y := by
  obtain ⟨h0, h1, h2⟩ := geti_some h
  unfold geti
  rw [if_pos h0, List.getElem?_set]
  simp only [if_true]
  rw [if_pos (by omega)]

section
variable {u r : Ty} {v : Value} {T : TypeId} {F : List D}

theorem SE.toAlt {l : List (Ty.agg (.pair (.slice u) r)).den} : SE c Γ (.sl v T (.agg (.pair (.slice u) r)) l :: F) Γ (.sl v T (.agg (.pair (.alt (.slice u)) r)) (List.map altF l) :: F) := fun a w h =>
  h.swap (d := .sl v T (.agg (.pair (.slice u) r)) l) (d' := .sl v T (.agg (.pair (.alt (.slice u)) r)) (List.map altF l)) (fun _ => Iff.rfl) fun S hs => by
    rcases hs with ⟨h1, rfl⟩ | ⟨b, cap, cc, rfl, q1, q1', q2, q3, q4⟩
    · exact .inl ⟨h1, rfl⟩
    · refine .inr ⟨b, cap, cc, by rw [List.length_map], by rw [List.length_map]; exact q1, q1', q2, q3, ?_⟩
      rw [List.length_map]
      refine rdAll_to (R' := rd S w (.agg (.pair (.alt (.slice u)) r))) (fun x cs hx => ?_) q4
      obtain ⟨c1, c2, e, g1, g2⟩ := hx
      exact ⟨c1, c2, e, ⟨g1, rd_length (.slice u) g1⟩, g2⟩

theorem SE.ofAlt {nm : Value} {Tu : TypeId} {d : List u.den} {l : List (Ty.agg (.pair (.slice u) r)).den} {i : Nat} {q : r.den} :
    SE c Γ (.sl nm Tu u d :: .sl v T (.agg (.pair (.alt (.slice u)) r)) (List.set (List.map altF l) i (.inr nm, q)) :: F) Γ (.sl v T (.agg (.pair (.slice u) r)) (List.set l i (d, q)) :: F) := fun a w h => by
  obtain ⟨h1, h2, S, h3, h4, h5, h6, h7⟩ := frz_core h
  have st : St c Γ (.sl v T (.agg (.pair (.alt (.slice u)) r)) (List.set (List.map altF l) i (.inr nm, q)) :: F) a w := ⟨h1, h2, S, h3, h4, h5, h6⟩
  obtain ⟨xs, e1, e2⟩ := h7
  have e3 : xs = [nm] := by
    have l1 := rd_length (.slice u) e1
    match xs, l1 with
    | [x], _ => simp [mk] at e2; rw [e2]
  subst e3
  have hd : (D.sl v T (.agg (.pair (.slice u) r)) (List.set l i (d, q))).holds S w := by
    rcases h5.holds _ (List.mem_cons_self ..) with ⟨g1, g2⟩ | ⟨b, cap, cc, rfl, q1, q1', q2, q3, q4⟩
    · refine .inl ⟨g1, ?_⟩
      cases l with
      | nil => rfl
      | cons x l => cases i <;> cases g2
    · have hlen : (List.set (List.map altF l) i (.inr nm, q)).length = (List.set l i (d, q)).length := by simp
      refine .inr ⟨b, cap, cc, by rw [hlen], by rw [← hlen]; exact q1, q1', q2, q3, ?_⟩
      rw [hlen] at q4
      refine rdAll_of (R := rd S w (.agg (.pair (.slice u) r))) (fun x cs hx => ?_) (fun cs hx => ?_) q4
      · obtain ⟨c1, c2, e, g1, g2⟩ := hx
        exact ⟨c1, c2, e, g1.1, g2⟩
      · obtain ⟨c1, c2, e, g1, g2⟩ := hx
        obtain ⟨rfl, _⟩ := g1
        exact ⟨_, c2, e, e1, g2⟩
  have hp := List.pairwise_cons.1 h5.apart
  refine ⟨h1, h2, S, h3, fun x ⟨e, he, hb⟩ => ?_, ⟨fun e he => ?_, fun x ⟨e, he, hb⟩ => ?_, List.pairwise_cons.2 ⟨fun e he => hp.1 e he, hp.2⟩⟩, h6⟩
  · rcases List.mem_cons.1 he with rfl | he
    · exact h4 x ⟨_, List.mem_cons_self .., hb⟩
    · exact h4 x ⟨e, List.mem_cons_of_mem _ he, hb⟩
  · rcases List.mem_cons.1 he with rfl | he
    · exact hd
    · exact h5.holds e (List.mem_cons_of_mem _ he)
  · rcases List.mem_cons.1 he with rfl | he
    · exact h5.own x ⟨_, List.mem_cons_self .., hb⟩
    · exact h5.own x ⟨e, List.mem_cons_of_mem _ he, hb⟩

/-- A slot, known otherwise. -/
theorem SE.altR {t : Ty} {v : Value} (s : Nat) (ht : t.isAgg = false) (hl : lk Γ s = some (.rep (.alt t) (.inr v))) : SE c Γ Δ ((s, .eq v) :: Γ) Δ := fun a w h => by
  obtain ⟨h1, h2, S, h3, h4, h5, h6⟩ := h
  refine ⟨h1, h2, S, h3, h4, h5, fun s' q hq => ?_⟩
  simp only [lk] at hq
  split at hq
  · rename_i e
    subst e
    cases hq
    obtain ⟨xs, e1, e2⟩ := h6 _ _ hl
    obtain ⟨rfl, _⟩ := e1
    exact e2
  · exact h6 s' q hq
end
end
end K
end Go.Proofs.Ytfhdclhbdmhnmaa
