/- The calculus, part 7: what may be forgotten, converted, frozen; calls; control; loops; returns. -/
import Derived.Test.YtfhdclhbdmhnmaaCore6
namespace Go.Proofs.Ytfhdclhbdmhnmaa
namespace K
open Go

/-! ### Entailments between states -/

section
variable {c : Cx} {ops : Array Oper} {l : List Oper} {Q : Exit → Act → World → Prop} {Γ Γ' : Ga} {Δ Δ' F : List D}

/-- From one state to another. -/
def SE (c : Cx) (Γ : Ga) (Δ : List D) (Γ' : Ga) (Δ' : List D) : Prop := ∀ a w, St c Γ Δ a w → St c Γ' Δ' a w

theorem JO.se (h : SE c Γ Δ Γ' Δ') (j : JO c ops l Q Γ' Δ') : JO c ops l Q Γ Δ := fun a w s => j a w (h a w s)
theorem JC.se {C : Code} (h : SE c Γ Δ Γ' Δ') (j : JC c C Q Γ' Δ') : JC c C Q Γ Δ := fun a w s => j a w (h a w s)
theorem JN.se {M : Act → World → Prop} (h : SE c Γ Δ Γ' Δ') (j : JN c M Γ' Δ') : JN c M Γ Δ := fun a w s => j a w (h a w s)
theorem SE.trans {Γ'' : Ga} {Δ'' : List D} (h : SE c Γ Δ Γ' Δ') (h' : SE c Γ' Δ' Γ'' Δ'') : SE c Γ Δ Γ'' Δ'' := fun a w s => h' a w (h a w s)

/-- Γ' says no more than Γ. -/
def Sub : Ga → Ga → Prop
  | [], _ => True
  | (s, r) :: l, Γ => lk Γ s = some r ∧ Sub l Γ

theorem Sub.lk {Γ Γ' : Ga} (h : Sub Γ' Γ) {s : Nat} {r : A} (hl : lk Γ' s = some r) : lk Γ s = some r := by
  induction Γ' with
  | nil => cases hl
  | cons p Γ' ih =>
    obtain ⟨s', r'⟩ := p
    simp only [K.lk] at hl
    split at hl
    · rename_i e; subst e; cases hl; exact h.1
    · exact ih h.2 hl

theorem SE.sub (h : Sub Γ' Γ) : SE c Γ Δ Γ' Δ := fun _ _ ⟨h1, h2, S, h3, h4, h5, h6⟩ => ⟨h1, h2, S, h3, h4, h5, fun s r hl => h6 s r (h.lk hl)⟩

/-- Resources may be dropped. -/
theorem SE.drop (k : Nat) : SE c Γ Δ Γ (Δ.take k) := fun _ _ ⟨h1, h2, S, h3, h4, h5, h6⟩ => by
  have hm : ∀ d, d ∈ Δ.take k → d ∈ Δ := fun d hd => List.mem_of_mem_take hd
  exact ⟨h1, h2, S, h3, fun b ⟨d, hd, e⟩ => h4 b ⟨d, hm d hd, e⟩, ⟨fun d hd => h5.holds d (hm d hd), fun b ⟨d, hd, e⟩ => h5.own b ⟨d, hm d hd, e⟩, h5.apart.sublist (List.take_sublist k Δ)⟩, h6⟩

theorem SE.front (k : Nat) {e : D} (h : Δ[k]? = some e) : SE c Γ Δ Γ (e :: Δ.eraseIdx k) := fun _ _ s => s.perm (perm_front k e h)

/-- A nil slice is the call's own. -/
theorem SE.nil (T : TypeId) (t : Ty) : SE c Γ Δ Γ (.sl (.slice none 0 0) T t [] :: Δ) := fun a w ⟨h1, h2, S, h3, h4, h5, h6⟩ => by
  have hf : ∀ b, (D.sl (.slice none 0 0) T t []).foot ≠ some b := fun b e => by simp [D.foot, Value.ownBlock] at e
  have hfe : ∀ b, feet (.sl (.slice none 0 0) T t [] :: Δ) b → feet Δ b := fun b ⟨d, hd, e⟩ => by
    rcases List.mem_cons.1 hd with rfl | hd
    · exact absurd e (hf b)
    · exact ⟨d, hd, e⟩
  refine ⟨h1, h2, S, h3, fun b hb => h4 b (hfe b hb), ⟨fun d hd => ?_, fun b hb => h5.own b (hfe b hb), List.pairwise_cons.2 ⟨fun d _ b e => absurd e (hf b), h5.apart⟩⟩, h6⟩
  rcases List.mem_cons.1 hd with rfl | hd
  · exact .inl ⟨rfl, rfl⟩
  · exact h5.holds d hd

/-- A slot is known as something weaker. -/
theorem SE.conv {r r' : A} (s : Nat) (hl : lk Γ s = some r) (hi : ∀ S w v, r.holds S w v → r'.holds S w v) : SE c Γ Δ ((s, r') :: Γ) Δ := fun a w ⟨h1, h2, S, h3, h4, h5, h6⟩ =>
  ⟨h1, h2, S, h3, h4, h5, fun s' q hq => by
    simp only [lk] at hq
    split at hq
    · rename_i e; subst e; cases hq; exact hi _ _ _ (h6 s r hl)
    · exact h6 s' q hq⟩

/-- A value that reads as a datum. -/
theorem SE.ent {r : A} {t : Ty} {x : t.den} (s : Nat) (hl : lk Γ s = some r) (h : Ent r t x) (hs : r.stor) (hg : r.isAgg = t.isAgg) : SE c Γ Δ ((s, mkA t x) :: Γ) Δ :=
  SE.conv s hl fun _ _ _ hv => h.holds hs hg hv

/-- What an own value is: of one cell. -/
theorem JO.one {v : Value} {T : TypeId} {t : Ty} {d : List t.den} (h : oneCell v = true → JO c ops l Q Γ (.sl v T t d :: F)) : JO c ops l Q Γ (.sl v T t d :: F) := fun a w s => by
  refine h ?_ a w s
  obtain ⟨_, _, S, _, _, h5, _⟩ := s
  rcases h5.holds _ (by simp : D.sl v T t d ∈ D.sl v T t d :: F) with ⟨rfl, _⟩ | ⟨b, cap, cc, rfl, _⟩ <;> rfl
theorem JC.one {C : Code} {v : Value} {T : TypeId} {t : Ty} {d : List t.den} (h : oneCell v = true → JC c C Q Γ (.sl v T t d :: F)) : JC c C Q Γ (.sl v T t d :: F) := fun a w s => by
  refine h ?_ a w s
  obtain ⟨_, _, S, _, _, h5, _⟩ := s
  rcases h5.holds _ (by simp : D.sl v T t d ∈ D.sl v T t d :: F) with ⟨rfl, _⟩ | ⟨b, cap, cc, rfl, _⟩ <;> rfl

/-- What happens to knowledge when an own slice is frozen. -/
theorem frz_core {v : Value} {T : TypeId} {t : Ty} {d : List t.den} {a : Act} {w : World} (h : St c Γ (.sl v T t d :: F) a w) :
    a.defers = c.dfs ∧ a.tmps.size = c.N ∧ ∃ S : FS, Step c.X c.S0 c.w0 S w ∧ (∀ b, feet F b → c.X b ∨ c.w0.heap.size ≤ b) ∧ Owns F S w ∧ (∀ s r, lk Γ s = some r → r.holds S w (a.tmps.getD s undef)) ∧ (mkA (.slice t) d).holds S w v := by
  obtain ⟨h1, h2, S, h3, h4, h5, h6⟩ := h
  have hs := h5.holds _ (by simp : D.sl v T t d ∈ D.sl v T t d :: F)
  have hp := List.pairwise_cons.1 h5.apart
  rcases hs with ⟨rfl, rfl⟩ | ⟨b, cap, cc, rfl, q1, q1', q2, q3, q4⟩
  · exact ⟨h1, h2, S, h3, fun b ⟨e, he, hb⟩ => h4 b ⟨e, List.mem_cons_of_mem _ he, hb⟩, ⟨fun e he => h5.holds e (List.mem_cons_of_mem _ he), fun b ⟨e, he, hb⟩ => h5.own b ⟨e, List.mem_cons_of_mem _ he, hb⟩, hp.2⟩, h6, ⟨_, .inl ⟨none, 0, rfl, rfl⟩, rfl⟩⟩
  · have hfe : feet (.sl (.slice (some ⟨b, 0, none⟩) d.length cap) T t d :: F) b := ⟨_, List.mem_cons_self .., rfl⟩
    have hown := h5.own b hfe
    have hK : Keep S w w := fun _ _ => rfl
    refine ⟨h1, h2, fun x => S x ∨ x = b, ⟨fun x hx => .inl (h3.sub x hx), fun x hx => ?_, fun x hx => ?_, h3.size, h3.keep, h3.os, h3.tape, h3.output⟩, fun x ⟨e, he, hb⟩ => h4 x ⟨e, List.mem_cons_of_mem _ he, hb⟩, ⟨fun e he => ?_, fun x ⟨e, he, hb⟩ => ?_, hp.2⟩, fun s r hl => A.mono (fun _ h => .inl h) hK r (h6 s r hl), ?_⟩
    · rcases hx with hx | hx
      · exact h3.new x hx
      · subst hx; exact .inr ((h4 x hfe).symm)
    · rcases hx with hx | hx
      · exact h3.dom x hx
      · subst hx; exact hown.2
    · exact D.holds_mono (fun _ h => .inl h) hK e (fun _ _ => rfl) (h5.holds e (List.mem_cons_of_mem _ he))
    · have h7 := h5.own x ⟨e, List.mem_cons_of_mem _ he, hb⟩
      refine ⟨fun hx => ?_, h7.2⟩
      rcases hx with hx | hx
      · exact h7.1 hx
      · subst hx; exact hp.1 e he x rfl hb
    · refine ⟨_, .inr ⟨b, 0, cap, cc, T, (0, 0), rfl, q1, .inr rfl, q2, ?_⟩, rfl⟩
      rw [List.drop_zero]
      exact rdAll_mono (fun _ _ h => rd_mono (fun _ h => .inl h) hK t h) q4

/-- Slots that hold v. -/
def Holding (Γ : Ga) (v : Value) : List Nat → Prop
  | [] => True
  | s :: l => lk Γ s = some (.eq v) ∧ Holding Γ v l

def setAll (Γ : Ga) (r : A) : List Nat → Ga
  | [] => Γ
  | s :: l => (s, r) :: setAll Γ r l

theorem lk_setAll {Γ : Ga} {r : A} {ss : List Nat} {s : Nat} {q : A} (h : lk (setAll Γ r ss) s = some q) : (s ∈ ss ∧ q = r) ∨ lk Γ s = some q := by
  induction ss with
  | nil => exact .inr h
  | cons s' ss ih =>
    simp only [setAll, lk] at h
    split at h
    · rename_i e; subst e; cases h; exact .inl ⟨List.mem_cons_self .., rfl⟩
    · rcases ih h with ⟨h1, h2⟩ | h1
      · exact .inl ⟨List.mem_cons_of_mem _ h1, h2⟩
      · exact .inr h1

theorem Holding.mem {Γ : Ga} {v : Value} {ss : List Nat} (h : Holding Γ v ss) {s : Nat} (hs : s ∈ ss) : lk Γ s = some (.eq v) := by
  induction ss with
  | nil => simp at hs
  | cons s' ss ih =>
    rcases List.mem_cons.1 hs with rfl | hs
    · exact h.1
    · exact ih h.2 hs

/-- An own slice is frozen: the slots that hold it. -/
theorem SE.frz {v : Value} {T : TypeId} {t : Ty} {d : List t.den} (ss : List Nat) (hh : Holding Γ v ss) : SE c Γ (.sl v T t d :: F) (setAll Γ (.rep (.slice t) d) ss) F := fun a w h => by
  obtain ⟨h1, h2, S, h3, h4, h5, h6, h7⟩ := frz_core h
  refine ⟨h1, h2, S, h3, h4, h5, fun s q hq => ?_⟩
  rcases lk_setAll hq with ⟨hs, rfl⟩ | hq
  · have := h6 s _ (hh.mem hs)
    have e : a.tmps.getD s undef = v := this
    rw [e]
    exact h7
  · exact h6 s q hq

/-- An own slice that lies in a variable of the call's own is frozen. -/
theorem SE.frzIn {v : Value} {T T' : TypeId} {t : Ty} {d : List t.den} {b off : Nat} {a0 a1 : A} (hg : a0.get off 1 false = some (.eq v)) (hs : a0.set off 1 false (.rep (.slice t) d) = some a1) :
    SE c Γ (.sl v T t d :: .obj b T' a0 :: F) Γ (.obj b T' a1 :: F) := fun a w h => by
  obtain ⟨h1, h2, S, h3, h4, h5, h6, h7⟩ := frz_core h
  refine ⟨h1, h2, S, h3, fun x ⟨e, he, hb⟩ => ?_, ⟨fun e he => ?_, fun x ⟨e, he, hb⟩ => ?_, ?_⟩, h6⟩
  · rcases List.mem_cons.1 he with rfl | he
    · exact h4 x ⟨_, List.mem_cons_self .., hb⟩
    · exact h4 x ⟨e, List.mem_cons_of_mem _ he, hb⟩
  · rcases List.mem_cons.1 he with rfl | he
    · obtain ⟨cs, q1, q2⟩ := h5.holds _ (List.mem_cons_self ..)
      obtain ⟨g1, g2⟩ := A.get_spec a0 q2 hg
      have l0 := a0.cells_length q2
      have gv : mk false ((cs.drop off).take 1) = v := g1
      have hlt : off < cs.length := by omega
      have hc : (cs.drop off).take 1 = [v] := by
        have e9 : (cs.drop off).take 1 = [cs[off]] := by rw [List.drop_eq_getElem_cons hlt]; rfl
        rw [e9] at gv ⊢
        have e10 : cs[off] = v := gv
        rw [e10]
      obtain ⟨xs, e1, e2⟩ := h7
      have e3 : xs = [v] := by
        have l1 := rd_length (.slice t) e1
        match xs, l1 with
        | [u], _ => simp [mk] at e2; rw [e2]
      subst e3
      obtain ⟨k1, _⟩ := A.set_spec a0 q2 (r := .rep (.slice t) d) (new := [v]) e1 rfl hs
      refine ⟨cs, q1, ?_⟩
      have e4 : cs.take off ++ [v] ++ cs.drop (off + [v].length) = cs := by
        show cs.take off ++ [v] ++ cs.drop (off + 1) = cs
        rw [← hc, ← List.take_add, List.take_append_drop]
      rw [e4] at k1
      exact k1
    · exact h5.holds e (List.mem_cons_of_mem _ he)
  · rcases List.mem_cons.1 he with rfl | he
    · exact h5.own x ⟨_, List.mem_cons_self .., hb⟩
    · exact h5.own x ⟨e, List.mem_cons_of_mem _ he, hb⟩
  · have hp := List.pairwise_cons.1 h5.apart
    exact List.pairwise_cons.2 ⟨fun e he => hp.1 e he, hp.2⟩

/-- A variable of the call's own is frozen: pointers to it. -/
theorem SE.frzObj {b : Nat} {T : TypeId} {t : Ty} {x : t.den} {a0 : A} (ss : List Nat) (he : Ent a0 t x) (hh : Holding Γ (.pointer (some ⟨b, 0, none⟩)) ss) : SE c Γ (.obj b T a0 :: F) (setAll Γ (.at t x) ss) F := fun a w h => by
  obtain ⟨h1, h2, S, h3, h4, h5, h6⟩ := h
  obtain ⟨cs, q1, q2⟩ := h5.holds _ (List.mem_cons_self ..)
  have hp := List.pairwise_cons.1 h5.apart
  have hfe : feet (.obj b T a0 :: F) b := ⟨_, List.mem_cons_self .., rfl⟩
  have hown := h5.own b hfe
  have hK : Keep S w w := fun _ _ => rfl
  refine ⟨h1, h2, fun x => S x ∨ x = b, ⟨fun x hx => .inl (h3.sub x hx), fun x hx => ?_, fun x hx => ?_, h3.size, h3.keep, h3.os, h3.tape, h3.output⟩, fun x ⟨e, he, hb⟩ => h4 x ⟨e, List.mem_cons_of_mem _ he, hb⟩, ⟨fun e he => ?_, fun x ⟨e, he, hb⟩ => ?_, hp.2⟩, fun s q hq => ?_⟩
  · rcases hx with hx | hx
    · exact h3.new x hx
    · subst hx; exact .inr ((h4 x hfe).symm)
  · rcases hx with hx | hx
    · exact h3.dom x hx
    · subst hx; exact hown.2
  · exact D.holds_mono (fun _ h => .inl h) hK e (fun _ _ => rfl) (h5.holds e (List.mem_cons_of_mem _ he))
  · have h7 := h5.own x ⟨e, List.mem_cons_of_mem _ he, hb⟩
    refine ⟨fun hx => ?_, h7.2⟩
    rcases hx with hx | hx
    · exact h7.1 hx
    · subst hx; exact hp.1 e he x rfl hb
  · rcases lk_setAll hq with ⟨hs, rfl⟩ | hq
    · have e1 : a.tmps.getD s undef = .pointer (some ⟨b, 0, none⟩) := h6 s _ (hh.mem hs)
      rw [e1]
      have hr := he.cells q2
      have l := rd_length t hr
      refine ⟨b, 0, cs.toArray, T, (0, 0), rfl, .inr rfl, q1, ?_⟩
      rw [List.toList_toArray, List.drop_zero, List.take_of_length_le (by omega)]
      exact rd_mono (fun _ h => .inl h) hK t hr
    · exact A.mono (fun _ h => .inl h) hK q (h6 s q hq)
end

/-! ### Calls -/

def All2 (S : FS) (w : World) : List A → List Value → Prop
  | [], vs => vs = []
  | r :: l, vs => ∃ v vs', vs = v :: vs' ∧ r.holds S w v ∧ All2 S w l vs'

/-- What a call comes to. -/
def RPost (S : FS) (w : World) (Δ : List D) {X : Type} (R : X → A × List D) : Ending → World → Prop := fun e w' =>
  ∃ x S' v, e = .returned v ∧ Step (feet Δ) S w S' w' ∧ (R x).1.holds S' w' v ∧ Owns (R x).2 S' w' ∧ ∀ b, feet (R x).2 b → feet Δ b ∨ w.heap.size ≤ b

/-- **A function's contract.** -/
def Ctr (P : Program) (f : Nat) (as : List A) (Δ : List D) {X : Type} (R : X → A × List D) : Prop :=
  ∀ (S : FS) (w : World) (vs : List Value), (∀ b, S b → b < w.heap.size) → All2 S w as vs → Owns Δ S w → Calls P f vs.toArray w (RPost S w Δ R)

/-- Function f can be entered. -/
def EnterOk (P : Program) (f : Nat) : Prop := ∀ args w, (callFunc f args).run P w = .ok (.enter f args) w

theorem EnterOk.of {P : Program} {f : Nat} {fn : Func} (h : P.funcs[f]? = some fn) (hn : (fn.name == "runtime.NumGoroutine") = false) (hb : fn.body.isNone = false) : EnterOk P f := fun args w => by
  simp only [callFunc, Sem.run_bind, program, Sem.run, Result.andThen_ok, h, hn, hb, Bool.false_eq_true, if_false, Sem.run_pure]

theorem All2.of {S : FS} {w : World} {a : Act} : ∀ {xs : List Operand} {as : List A}, xs.length = as.length → Needs S w a (xs.zip as) → All2 S w as (xs.map a.eval)
  | [], [], _, _ => rfl
  | x :: xs, r :: as, h, hN => ⟨_, _, rfl, hN.1, All2.of (by simpa using h) hN.2⟩
  | [], _ :: _, h, _ => by simp at h
  | _ :: _, [], h, _ => by simp at h

section
variable {P : Program} {o : Oper} {x y z : Operand} {T : TypeId} {Δ : List D} {X : Type} {R : X → A × List D} {r : A}

theorem callsFW {rd : Option Nat} {n : Nat} {f : FuncId} {args : Array Value} {w : World} {R : Ending → World → Prop} (h : Calls P f args w R) : CallsIn (FW rd) n P f args w R :=
  (callsIn_wide.2 h : CallsIn Fence.wide n P f args w R)

theorem o_call {f : Nat} {as : List A} {c : Call} (xs : List Operand) {ts : Array TypeId} (ho : o.op = .call c) (hc : c = { callee := .value (.func f), args := xs.toArray, argTypes := ts }) (hf : EnterOk P f) (hlen : xs.length = as.length)
    (h : Ctr P f as Δ R) : OpT P o (xs.zip as) Δ R := by
  refine ⟨by simp only [nd, *], fun ro S w a next Q hd hN hO k => ?_⟩
  have hr : (execOp a.eval o).run P w = .ok (.enter f (xs.map a.eval).toArray) w := by
    have e1 : a.eval (.func f) = .func (.func f) #[] #[] := rfl
    simp [execOp, ho, hc, resolve, e1, Deferred.ofValue, invoke, hf _ w]
  rw [hr]
  refine ⟨fun h => (by cases h), callsFW ((h S w _ hd (All2.of hlen hN) hO).mono ?_)⟩
  rintro e w' ⟨x, S', v, rfl, h1, h2, h3, h4⟩
  exact k x S' w' v h1 h2 h3 h4

/-- A call of a function value that the code knows: bound values first, then the arguments, then what it has captured. -/
theorem o_callv {f : Nat} {fs cs : List Value} {ags : List A} {c : Call} (xs : List Operand) {ts : Array TypeId} (ho : o.op = .call c) (hc : c = { callee := .value x, args := xs.toArray, argTypes := ts }) (hf : EnterOk P f) (hlen : xs.length = ags.length)
    (h : Ctr P f (fs.map .eq ++ ags ++ cs.map .eq) Δ R) : OpT P o ((x, .eq (.func (.func f) fs.toArray cs.toArray)) :: xs.zip ags) Δ R := by
  refine ⟨by simp only [nd, *], fun ro S w a next Q hd hN hO k => ?_⟩
  have hr : (execOp a.eval o).run P w = .ok (.enter f (fs ++ xs.map a.eval ++ cs).toArray) w := by
    have e1 : a.eval x = .func (.func f) fs.toArray cs.toArray := hN.1
    simp [execOp, ho, hc, resolve, e1, Deferred.ofValue, invoke, hf _ w]
  have hall : All2 S w (fs.map .eq ++ ags ++ cs.map .eq) (fs ++ xs.map a.eval ++ cs) := by
    have heq : ∀ vs : List Value, All2 S w (vs.map .eq) vs := fun vs => by
      induction vs with
      | nil => rfl
      | cons v vs ih => exact ⟨v, vs, rfl, rfl, ih⟩
    have happ : ∀ {a1 a2 : List A} {v1 v2 : List Value}, All2 S w a1 v1 → All2 S w a2 v2 → All2 S w (a1 ++ a2) (v1 ++ v2) := by
      intro a1
      induction a1 with
      | nil => intro a2 v1 v2 h1 h2; have : v1 = [] := h1; subst this; exact h2
      | cons r a1 ih => rintro a2 v1 v2 ⟨v, vs', rfl, h1, h2⟩ h3; exact ⟨v, _, rfl, h1, ih h2 h3⟩
    exact happ (happ (heq fs) (All2.of hlen hN.2)) (heq cs)
  rw [hr]
  refine ⟨fun h => (by cases h), callsFW ((h S w _ hd hall hO).mono ?_)⟩
  rintro e w' ⟨x, S', v, rfl, h1, h2, h3, h4⟩
  exact k x S' w' v h1 h2 h3 h4

@[reducible] def A.flat : A → Bool
  | .eq _ => true
  | .rep t _ => t.flat
  | .at _ _ => false
  | .pair a b => a.flat && b.flat
  | .agg a => a.flat
  | .tup a => a.flat
  | .any => true

theorem A.cells_flat {S S' : FS} {w : World} (r : A) : ∀ {cs : List Value}, r.flat = true → r.cells S w cs → r.cells S' w cs := by
  induction r with
  | eq v => intro cs _ h; exact h
  | rep t x => intro cs hf h; exact rd_flat t hf h
  | «at» t x => intro cs hf h; simp [A.flat] at hf
  | pair a b iha ihb =>
    rintro cs hf ⟨c1, c2, e, h1, h2⟩
    simp [A.flat] at hf
    exact ⟨c1, c2, e, iha hf.1 h1, ihb hf.2 h2⟩
  | agg a ih => intro cs hf h; exact ih hf h
  | tup a _ => intro cs hf h; exact h
  | any => intro cs hf h; exact h

theorem A.flat_both {S S' : FS} {w : World} (r : A) : r.flat = true → (∀ {v : Value}, r.holds S w v → r.holds S' w v) ∧ (∀ {vs : List Value}, A.holds.holdsAll S w r vs → A.holds.holdsAll S' w r vs) := by
  induction r with
  | eq v => exact fun _ => ⟨fun h => h, fun h => h⟩
  | rep t x => exact fun hf => ⟨fun ⟨cs, h, e⟩ => ⟨cs, rd_flat t hf h, e⟩, fun h => h⟩
  | «at» t x => intro hf; simp [A.flat] at hf
  | pair a b iha ihb =>
    intro hf
    simp [A.flat] at hf
    exact ⟨fun h => h, fun ⟨v, vs, e, h1, h2⟩ => ⟨v, vs, e, (iha hf.1).1 h1, (ihb hf.2).2 h2⟩⟩
  | agg a _ => exact fun hf => ⟨fun ⟨cs, h, e⟩ => ⟨cs, A.cells_flat a hf h, e⟩, fun h => h⟩
  | tup a ih => exact fun hf => ⟨fun ⟨vs, e, h⟩ => ⟨vs, e, (ih hf).2 h⟩, fun h => h⟩
  | any => exact fun _ => ⟨fun h => h, fun h => h⟩

@[reducible] def D.flat : D → Bool
  | .obj _ _ a => a.flat
  | .sl _ _ t _ => t.flat
  | .raw _ _ => true
  | .inv _ _ => true

theorem D.holds_flat {S S' : FS} {w : World} (d : D) (hf : d.flat = true) (h : d.holds S w) : d.holds S' w := by
  cases d with
  | obj b T a => obtain ⟨cs, h1, h2⟩ := h; exact ⟨cs, h1, a.cells_flat hf h2⟩
  | sl v T t l =>
    rcases h with h | ⟨b, cap, c, e, h1, h1', h2, h3, h4⟩
    · exact .inl h
    · exact .inr ⟨b, cap, c, e, h1, h1', h2, h3, rdAll_mono (fun _ _ h => rd_flat t hf h) h4⟩
  | raw b o => exact h
  | inv b p => exact h

/-- **An own slice may be lent to an operation that only reads it and hands back nothing that leads to it.** -/
theorem OpT.borrow {v : Value} {t : Ty} {l : List t.den} {N N' : List (Operand × A)} (h : OpT P o N' Δ R) (hN : ∀ S w a, (A.rep (.slice t) l).holds S w v → Needs S w a N → Needs S w a N')
    (hf : ∀ x, (R x).1.flat = true ∧ ∀ d ∈ (R x).2, d.flat = true) : OpT P o N (.sl v T t l :: Δ) (fun x => ((R x).1, .sl v T t l :: (R x).2)) := by
  refine ⟨h.1, fun ro S w a next Q hd hNN hO k => ?_⟩
  have hs := hO.holds _ (List.mem_cons_self ..)
  have hp := List.pairwise_cons.1 hO.apart
  have hOΔ : Owns Δ S w := ⟨fun e he => hO.holds e (List.mem_cons_of_mem _ he), fun b ⟨e, he, hb⟩ => hO.own b ⟨e, List.mem_cons_of_mem _ he, hb⟩, hp.2⟩
  have hK : Keep S w w := fun _ _ => rfl
  rcases hs with ⟨rfl, rfl⟩ | ⟨b, cap, cc, rfl, q1, q1', q2, q3, q4⟩
  · refine h.2 ro S w a next Q hd (hN S w a ⟨_, .inl ⟨none, 0, rfl, rfl⟩, rfl⟩ hNN) hOΔ fun x S' w' v' h1 h2 h3 h4 => ?_
    have hff : ∀ b, (D.sl (.slice none 0 0) T t []).foot ≠ some b := fun b e => by simp [D.foot, Value.ownBlock] at e
    have hfe : ∀ {E : List D} b, feet (.sl (.slice none 0 0) T t [] :: E) b → feet E b := fun b ⟨d, hd, e⟩ => by
      rcases List.mem_cons.1 hd with rfl | hd
      · exact absurd e (hff b)
      · exact ⟨d, hd, e⟩
    refine k x S' w' v' (h1.mono fun b ⟨d, hd, e⟩ => ⟨d, List.mem_cons_of_mem _ hd, e⟩) h2 ⟨fun d hd => ?_, fun b hb => h3.own b (hfe b hb), List.pairwise_cons.2 ⟨fun d _ b e => absurd e (hff b), h3.apart⟩⟩ (fun b hb => (h4 b (hfe b hb)).imp (fun ⟨d, hd, e⟩ => ⟨d, List.mem_cons_of_mem _ hd, e⟩) id)
    rcases List.mem_cons.1 hd with rfl | hd
    · exact .inl ⟨rfl, rfl⟩
    · exact h3.holds d hd
  · have hown := hO.own b ⟨_, List.mem_cons_self .., rfl⟩
    have hnb : ¬ feet Δ b := fun ⟨e, he, hb⟩ => hp.1 e he b rfl hb
    have hmono : ∀ x, S x → S x ∨ x = b := fun _ h => .inl h
    have hread : (A.rep (.slice t) l).holds (fun x => S x ∨ x = b) w (.slice (some ⟨b, 0, none⟩) l.length cap) := by
      refine ⟨_, .inr ⟨b, 0, cap, cc, T, (0, 0), rfl, q1, .inr rfl, q2, ?_⟩, rfl⟩
      rw [List.drop_zero]
      exact rdAll_mono (fun _ _ h => rd_mono hmono hK t h) q4
    have hNN' : ∀ {N : List (Operand × A)}, Needs S w a N → Needs (fun x => S x ∨ x = b) w a N := by
      intro N
      induction N with
      | nil => exact fun h => h
      | cons p N ih => obtain ⟨x, r⟩ := p; exact fun h => ⟨A.mono hmono hK r h.1, ih h.2⟩
    have hd' : ∀ x, (S x ∨ x = b) → x < w.heap.size := fun x hx => hx.elim (hd x) (fun e => by subst e; exact hown.2)
    have hOΔ' : Owns Δ (fun x => S x ∨ x = b) w := ⟨fun e he => D.holds_mono hmono hK e (fun _ _ => rfl) (hOΔ.holds e he), fun x hx => ⟨fun h => h.elim (hOΔ.own x hx).1 (fun e => by subst e; exact hnb hx), (hOΔ.own x hx).2⟩, hOΔ.apart⟩
    refine h.2 ro _ w a next Q hd' (hN _ w a hread (hNN' hNN)) hOΔ' fun x S' w' v' h1 h2 h3 h4 => ?_
    obtain ⟨f1, f2⟩ := hf x
    have hbk : w'.heap[b]? = w.heap[b]? := h1.keep b hown.2 hnb
    have hSb : ∀ y, S y → y ≠ b := fun y hy e => hown.1 (e ▸ hy)
    have hKw : Keep S w w' := fun y hy => h1.keep y (hd y hy) (fun hx => (hOΔ.own y hx).1 hy)
    refine k x (fun y => S' y ∧ y ≠ b) w' v' ⟨fun y hy => ⟨h1.sub y (.inl hy), hSb y hy⟩, fun y hy => ?_, fun y hy => h1.dom y hy.1, h1.size, fun y hy hx => h1.keep y hy (fun ⟨e, he, hb⟩ => hx ⟨e, List.mem_cons_of_mem _ he, hb⟩), h1.os, h1.tape, h1.output⟩ ((A.flat_both _ f1).1 h2) ⟨fun d hd => ?_, fun y ⟨d, hd, e⟩ => ?_, List.pairwise_cons.2 ⟨fun d hd y e e' => ?_, h3.apart⟩⟩ fun y ⟨d, hd, e⟩ => ?_
    · rcases h1.new y hy.1 with (hh | hh) | hh | ⟨e, he, hb⟩
      · exact .inl hh
      · exact absurd hh hy.2
      · exact .inr (.inl hh)
      · exact .inr (.inr ⟨e, List.mem_cons_of_mem _ he, hb⟩)
    · rcases List.mem_cons.1 hd with rfl | hd
      · refine .inr ⟨b, cap, cc, rfl, q1, q1', hbk.trans q2, q3, rdAll_mono (fun _ _ h => rd_mono (fun y hy => ⟨h1.sub y (.inl hy), hSb y hy⟩) hKw t h) q4⟩
      · exact D.holds_flat d (f2 d hd) (h3.holds d hd)
    · rcases List.mem_cons.1 hd with rfl | hd
      · have : y = b := by simpa [D.foot, Value.ownBlock, eq_comm] using e
        subst this
        exact ⟨fun h => h.2 rfl, Nat.lt_of_lt_of_le hown.2 h1.size⟩
      · have := h3.own y ⟨d, hd, e⟩
        exact ⟨fun h => this.1 h.1, this.2⟩
    · have : y = b := by simpa [D.foot, Value.ownBlock, eq_comm] using e
      subst this
      rcases h4 y ⟨d, hd, e'⟩ with hh | hh
      · exact hnb hh
      · have := hown.2; omega
    · rcases List.mem_cons.1 hd with rfl | hd
      · exact .inl ⟨_, List.mem_cons_self .., e⟩
      · exact (h4 y ⟨d, hd, e⟩).imp (fun ⟨d, hd, e⟩ => ⟨d, List.mem_cons_of_mem _ hd, e⟩) id
end

end K
end Go.Proofs.Ytfhdclhbdmhnmaa
