/- The calculus, part 21: the statement that ranges over a function; a body that leaves with a mark; contracts over a tail of resources. -/
import Derived.Test.YtfhdclhbdmhnmaaCore20
namespace Go.Proofs.Ytfhdclhbdmhnmaa
namespace K
open Go

/-- The record of a loop, its function having ended. -/
@[reducible] def recEnd (rec : Loop) (j : Option Code) : Loop := { rec with state := if j.isNone then .ready else .done, pending := j }

/-- What a loop that was left by a jump goes on with. -/
def onJump (j : Option Code) (M : Prop) (N : Code → Prop) : Prop := match j with
  | none => M
  | some jc => N jc
theorem stop_cases {b : Bool} {M : Prop} {N : Code → Prop} (h0 : b = false → M) (h1 : b = true → N .ret) : onJump (cond b (some .ret) none) M N := by
  cases b
  · exact h0 rfl
  · exact h1 rfl

def markOf (dl : Nat) : Deferred := { target := .collected dl, args := #[] }

theorem JC.rangeFunc {c : Cx} {Q : Exit → Act → World → Prop} {Γ : Ga} {Δ F : List D} {s g p : Nat} {cs : List Value} {asg bd : Code} {X : Type} {J : X → Option Code} {E : X → List D} {r0 : X → A} (hrd : c.rd = none)
    (hl : lk Γ s = some (.eq (.func (.func g) #[] cs.toArray))) (hen : EnterOk c.P g)
    (hcall : ∀ (rec : Loop), rec.params = #[p] → rec.assign = asg → rec.body = bd → rec.state = .ready → rec.pending = none → rec.tmps.size = c.N → (∀ s v, lk Γ s = some (.eq v) → rec.tmps.getD s undef = v) → ∀ l,
      Ctr c.P g (.eq (.func (.yield l) #[] #[]) :: cs.map .eq) (.raw l (.loop rec) :: Δ) (fun x => (r0 x, .raw l (.loop (recEnd rec (J x))) :: E x)))
    (hnext : ∀ dl x, onJump (J x) (JN { c with dfs := markOf dl :: c.dfs } (Q .normal) Γ (.raw dl (.deferred (some [])) :: (E x ++ F)))
      (fun jc => JC { c with dfs := markOf dl :: c.dfs } jc Q Γ (.raw dl (.deferred (some [])) :: (E x ++ F)))) : JC c (.rangeFunc (.tmp s) #[p] asg bd) Q Γ (Δ ++ F) := by
  rintro a w ⟨h1, h2, S, h3, h4, h5, h6⟩
  refine wpIn_rangeFunc (fun fn _ => ?_)
  have hv : a.tmps.getD s undef = .func (.func g) #[] cs.toArray := h6 s _ hl
  let dl := w.heap.size
  let rec0 : Loop := { state := .ready, pending := none, fn, tmps := a.tmps, params := #[p], assign := asg, body := bd, defers := dl }
  let w1 := (w.alloc (.deferred (some []))).alloc (.loop rec0)
  have hsz1 : (w.alloc (.deferred (some []))).heap.size = dl + 1 := by simp [dl]
  have hd1 : ∀ b, S b → b < (w.alloc (.deferred (some []))).heap.size := fun b hb => by have := h3.dom b hb; omega
  refine ⟨dl + 1, [markOf dl], w1, { target := .fn (.func g) cs.toArray, args := #[.func (.yield (dl + 1)) #[] #[]] }, w1, g, (.func (.yield (dl + 1)) #[] #[] :: cs).toArray, w1, ?_, ?_, fun _ _ => trivial, ?_, fun h => (by cases h), ?_⟩
  · have : (FW c.rd).round = none := hrd
    rw [this]
    exact run_enterLoop_outer fn a.tmps #[p] asg bd
  · have e1 : a.eval (.tmp s) = .func (.func g) #[] cs.toArray := hv
    have e2 : a.eval (.const (.func (.yield (dl + 1)) #[] #[])) = .func (.yield (dl + 1)) #[] #[] := rfl
    simp [resolve, e1, e2, Deferred.ofValue]
  · have := hen (.func (.yield (dl + 1)) #[] #[] :: cs).toArray w1
    simpa [invoke] using this
  · -- resources: the record, the call's, the mark's block, the others
    have hA := (h5.alloc h3.dom (.deferred (some []))).alloc hd1 (.loop rec0)
    have hS1 : Step c.X c.S0 c.w0 S w1 := (h3.trans (step_alloc (X := fun _ => False) h3.dom _) (fun b hb => hb.elim)).trans (step_alloc (X := fun _ => False) hd1 _) (fun b hb => hb.elim)
    have hd2 : ∀ b, S b → b < w1.heap.size := hS1.dom
    rw [hsz1] at hA
    have hp : (D.raw (dl + 1) (.loop rec0) :: .raw dl (.deferred (some [])) :: (Δ ++ F)).Perm ((.raw (dl + 1) (.loop rec0) :: Δ) ++ (.raw dl (.deferred (some [])) :: F)) := by
      refine List.Perm.cons _ ?_
      exact (List.perm_middle (l₁ := Δ)).symm
    have hO := hA.perm hp
    have hOc : Owns (.raw (dl + 1) (.loop rec0) :: Δ) S w1 := ⟨fun d hd => hO.holds d (List.mem_append.2 (.inl hd)), fun b ⟨d, hd, e⟩ => hO.own b ⟨d, List.mem_append.2 (.inl hd), e⟩, (List.pairwise_append.1 hO.apart).1⟩
    have hfeet : ∀ b, feet ((D.raw (dl + 1) (.loop rec0) :: Δ) ++ (.raw dl (.deferred (some [])) :: F)) b → c.X b ∨ c.w0.heap.size ≤ b := fun b ⟨d, hd, e⟩ => by
      have hle : c.w0.heap.size ≤ dl := h3.size
      rcases List.mem_append.1 hd with hd | hd
      · rcases List.mem_cons.1 hd with rfl | hd
        · simp only [D.foot, Option.some.injEq] at e; exact .inr (by omega)
        · exact h4 b ⟨d, List.mem_append.2 (.inl hd), e⟩
      · rcases List.mem_cons.1 hd with rfl | hd
        · simp only [D.foot, Option.some.injEq] at e; exact .inr (by omega)
        · exact h4 b ⟨d, List.mem_append.2 (.inr hd), e⟩
    have hK1 : Keep S w w1 := fun b hb => by
      have hlt := h3.dom b hb
      have e1 := alloc_old w (.deferred (some [])) b hlt
      have e2 := alloc_old (w.alloc (.deferred (some []))) (.loop rec0) b (hd1 b hb)
      exact e2.trans e1
    have hG1 : ∀ s r, lk Γ s = some r → r.holds S w1 (a.tmps.getD s undef) := fun s r hl => A.mono (fun _ h => h) hK1 r (h6 s r hl)
    refine callsFW ((hcall rec0 rfl rfl rfl rfl rfl h2 (fun s v hl => h6 s _ hl) (dl + 1) S w1 _ hd2 ⟨_, _, rfl, rfl, (?_ : All2 S w1 (cs.map .eq) cs)⟩ hOc).mono ?_)
    · have heq : ∀ vs : List Value, All2 S w1 (vs.map .eq) vs := fun vs => by
        induction vs with
        | nil => rfl
        | cons v vs ih => exact ⟨v, vs, rfl, rfl, ih⟩
      exact heq cs
    · rintro e w' ⟨x, S', v, rfl, g1, _, g3, g4⟩
      have hO2 := hO.frame hd2 g1 g3 g4
      have hS2 := hS1.trans g1 fun b ⟨d, hd, e⟩ => hfeet b ⟨d, List.mem_append.2 (.inl hd), e⟩
      have hl1 : w'.heap[dl + 1]? = some (.loop (recEnd rec0 (J x))) := g3.holds _ (List.mem_cons_self ..)
      have hnb : (recEnd rec0 (J x)).state ≠ .busy := by
        show (if (J x).isNone then LoopState.ready else .done) ≠ .busy
        split <;> simp
      refine ⟨_, _, run_endLoop hl1 hnb, ?_⟩
      have hK2 : Keep S w1 w' := fun b hb => g1.keep b (hd2 b hb) fun hx => (hOc.own b hx).1 hb
      have hfeet2 : ∀ b, feet (.raw (dl + 1) (.loop (recEnd rec0 (J x))) :: E x ++ (.raw dl (.deferred (some [])) :: F)) b → c.X b ∨ c.w0.heap.size ≤ b := fun b ⟨d, hd, e⟩ => by
        rcases List.mem_append.1 hd with hd | hd
        · rcases g4 b ⟨d, hd, e⟩ with hh | hh
          · obtain ⟨d', hd', e'⟩ := hh
            exact hfeet b ⟨d', List.mem_append.2 (.inl hd'), e'⟩
          · exact .inr (Nat.le_trans hS1.size hh)
        · exact hfeet b ⟨d, List.mem_append.2 (.inr hd), e⟩
      have hst : St { c with dfs := markOf dl :: c.dfs } Γ (.raw (dl + 1) (.loop (recEnd rec0 (J x))) :: (E x ++ (.raw dl (.deferred (some [])) :: F))) { a with defers := [markOf dl] ++ a.defers } w' :=
        ⟨by simp [h1], h2, S', hS2, hfeet2, hO2, fun s r hl => A.mono g1.sub hK2 r (hG1 s r hl)⟩
      have hst2 := hst.putRaw (.loop { recEnd rec0 (J x) with state := .exhausted })
      have hp2 : (E x ++ (D.raw dl (.deferred (some [])) :: F)).Perm (.raw dl (.deferred (some [])) :: (E x ++ F)) := List.perm_middle
      obtain ⟨q1, q2, S2, q3, q4, q5, q6⟩ := hst2
      have hst3 : St { c with dfs := markOf dl :: c.dfs } Γ (.raw dl (.deferred (some [])) :: (E x ++ F)) { a with defers := [markOf dl] ++ a.defers } (w'.putObj (dl + 1) (.loop { recEnd rec0 (J x) with state := .exhausted })) := by
        refine ⟨q1, q2, S2, q3, fun b hb => ?_, q5.tail.perm hp2, q6⟩
        rw [feet_perm hp2.symm] at hb
        obtain ⟨d, hd, e⟩ := hb
        exact q4 b ⟨d, List.mem_cons_of_mem _ hd, e⟩
      have hn := hnext dl x
      show (match (recEnd rec0 (J x)).pending with | none => _ | some cc => _)
      show (match J x with | none => _ | some cc => _)
      split
      · rename_i hj
        unfold onJump at hn
        rw [hj] at hn
        exact hn _ _ hst3
      · rename_i cc hj
        unfold onJump at hn
        rw [hj] at hn
        exact hn _ _ hst3

/-! ### Marks -/
theorem JN.retM {P : Program} {N dl : Nat} {S : FS} {w0 : World} {X : Nat → Prop} {fn : Func} {R : Ending → World → Prop} {Γ : Ga} {Δ : List D} (h : JN ⟨P, N, S, w0, X, none, []⟩ (bodyPost P fn R .ret) Γ Δ) :
    JN ⟨P, N, S, w0, X, none, [markOf dl]⟩ (bodyPostM Fence.wide 0 P fn R .ret) Γ (.raw dl (.deferred (some [])) :: Δ) := by
  intro a w st
  have hd := st.headRaw
  have st2 := st.putRaw (.deferred none)
  obtain ⟨h1, h2, S', h3, h4, h5, h6⟩ := st2
  have st3 : St ⟨P, N, S, w0, X, none, []⟩ Γ Δ { tmps := a.tmps, defers := [] } (w.putObj dl (.deferred none)) :=
    ⟨rfl, h2, S', h3, fun b ⟨d, hd, e⟩ => h4 b ⟨d, List.mem_cons_of_mem _ hd, e⟩, h5.tail, h6⟩
  obtain ⟨_, v, g2, g3⟩ := h _ _ st3
  show LeavesInM Fence.wide 0 P fn a.tmps R a.defers .returning w
  rw [h1]
  refine ⟨by simp, .inl ⟨dl, _, rfl, run_takeDeferred hd, ?_⟩⟩
  exact ⟨v, g2, g3⟩

/-- **A body's contract, with marks.** -/
theorem Ctr.ofM {P : Program} {f : Nat} {fn : Func} {C : Code} {as : List A} {Δ : List D} {X : Type} {R : X → A × List D} (N : Nat) (hf : P.funcs[f]? = some fn) (hb : fn.body = some C) (hN : fn.ntmps = N) (hn : Nat.ble as.length N = true)
    (h : ∀ S w0, JC ⟨P, N, S, w0, feet Δ, none, []⟩ C (bodyPostM Fence.wide 0 P fn (RPost S w0 Δ R)) (entry 0 as) Δ) : Ctr P f as Δ R := by
  subst hN
  intro S w vs hd hall hO
  have hn := Nat.le_of_ble_eq_true hn
  refine callsIn_wide.1 (callsIn_of_wp_marks (n := 0) hf hb trivial (h S w _ _ ⟨rfl, ?_, S, Step.refl hd, fun b hb => .inl hb, hO, fun s r hl => ?_⟩))
  · have := hall.length
    simp only [Array.size_append, List.size_toArray, Array.size_replicate]
    omega
  · obtain ⟨j, e, hj, hr⟩ := entry_spec hall hl
    have e' : s = j := by omega
    subst e'
    have e2 : (vs.toArray ++ Array.replicate (fn.ntmps - vs.toArray.size) undef).getD s undef = vs.getD s undef := by
      simp [Array.getD_eq_getD_getElem?, Array.getElem?_append, hj]
    rw [e2]
    exact hr
end K
end Go.Proofs.Ytfhdclhbdmhnmaa
