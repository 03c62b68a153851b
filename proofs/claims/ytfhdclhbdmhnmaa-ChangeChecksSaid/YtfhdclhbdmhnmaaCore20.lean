/- The calculus, part 20: a range over a function; its rounds; yield; marks. -/
import Derived.Test.YtfhdclhbdmhnmaaCore19
import Derived.RangeFuncRecord
namespace Go.Proofs.Ytfhdclhbdmhnmaa
namespace K
open Go

theorem put_at {w : World} {b : Nat} {ob : Obj} (hb : b < w.heap.size) : (w.putObj b ob).heap[b]? = some ob := by
  simp [World.putObj, Array.getElem?_setIfInBounds, hb]
theorem put_other {w : World} {b b' : Nat} {ob : Obj} (h : b ≠ b') : (w.putObj b ob).heap[b']? = w.heap[b']? := by
  simp [World.putObj, Array.getElem?_setIfInBounds_ne h]
theorem put_size {w : World} {b : Nat} {ob : Obj} : (w.putObj b ob).heap.size = w.heap.size := by simp [World.putObj]

theorem step_put {X : Nat → Prop} {S : FS} {w : World} (hd : ∀ b, S b → b < w.heap.size) {b : Nat} (hX : X b) (ob : Obj) : Step X S w S (w.putObj b ob) := step_set hd hX ob

/-- A resource more: a new block. -/
theorem Owns.alloc {Δ : List D} {S : FS} {w : World} (hd : ∀ b, S b → b < w.heap.size) (h : Owns Δ S w) (ob : Obj) : Owns (.raw w.heap.size ob :: Δ) S (w.alloc ob) := by
  have hlt : ∀ b, feet Δ b → b < w.heap.size := fun b hb => (h.own b hb).2
  refine ⟨fun d hd' => ?_, fun b ⟨d, hd', e⟩ => ?_, List.pairwise_cons.2 ⟨fun d hd' b e e' => ?_, h.apart⟩⟩
  · rcases List.mem_cons.1 hd' with rfl | hd'
    · exact heap_alloc_new w ob
    · exact D.holds_mono (fun _ h => h) (fun b hb => alloc_old w ob b (hd b hb)) d (fun b e => alloc_old w ob b (hlt b ⟨d, hd', e⟩)) (h.holds d hd')
  · rcases List.mem_cons.1 hd' with rfl | hd'
    · simp only [D.foot, Option.some.injEq] at e
      subst e
      exact ⟨fun hs => by have := hd _ hs; omega, by simp⟩
    · have := h.own b ⟨d, hd', e⟩
      exact ⟨this.1, by simp; omega⟩
  · simp only [D.foot, Option.some.injEq] at e
    subst e
    have := hlt _ ⟨d, hd', e'⟩
    omega

/-- The first resource's block is written. -/
theorem Owns.put {Δ : List D} {S : FS} {w : World} {b : Nat} {o ob : Obj} (h : Owns (.raw b o :: Δ) S w) : Owns (.raw b ob :: Δ) S (w.putObj b ob) := by
  have hp := List.pairwise_cons.1 h.apart
  have hb := h.own b ⟨_, List.mem_cons_self .., rfl⟩
  have hne : ∀ d ∈ Δ, ∀ b', d.foot = some b' → b ≠ b' := fun d hd b' e e' => hp.1 d hd b rfl (e' ▸ e)
  refine ⟨fun d hd => ?_, fun b' ⟨d, hd, e⟩ => ?_, List.pairwise_cons.2 ⟨hp.1, hp.2⟩⟩
  · rcases List.mem_cons.1 hd with rfl | hd
    · exact put_at hb.2
    · exact D.holds_mono (fun _ h => h) (fun b' hb' => put_other (fun e => hb.1 (by rw [e]; exact hb'))) d (fun b' e => put_other (hne d hd b' e)) (h.holds d (List.mem_cons_of_mem _ hd))
  · rw [put_size]
    rcases List.mem_cons.1 hd with rfl | hd
    · simp only [D.foot, Option.some.injEq] at e
      subst e
      exact hb
    · exact h.own b' ⟨d, List.mem_cons_of_mem _ hd, e⟩

theorem Owns.tail {Δ : List D} {d : D} {S : FS} {w : World} (h : Owns (d :: Δ) S w) : Owns Δ S w :=
  ⟨fun e he => h.holds e (List.mem_cons_of_mem _ he), fun b ⟨e, he, hb⟩ => h.own b ⟨e, List.mem_cons_of_mem _ he, hb⟩, (List.pairwise_cons.1 h.apart).2⟩

/-- What happens to a state when its first resource, a raw block, is written. -/
theorem St.putRaw {c : Cx} {Γ : Ga} {Δ : List D} {a : Act} {w : World} {b : Nat} {o : Obj} (ob : Obj) (h : St c Γ (.raw b o :: Δ) a w) : St c Γ (.raw b ob :: Δ) a (w.putObj b ob) := by
  obtain ⟨h1, h2, S, h3, h4, h5, h6⟩ := h
  have hb := h5.own b ⟨_, List.mem_cons_self .., rfl⟩
  refine ⟨h1, h2, S, h3.trans (step_put (X := fun x => x = b) h3.dom rfl ob) (fun x e => by subst e; exact h4 x ⟨_, List.mem_cons_self .., rfl⟩), fun x ⟨d, hd, e⟩ => ?_, h5.put, fun s r hl => A.mono (fun _ h => h) (fun x hx => put_other (fun e => hb.1 (by rw [e]; exact hx))) r (h6 s r hl)⟩
  rcases List.mem_cons.1 hd with rfl | hd
  · exact h4 x ⟨_, List.mem_cons_self .., e⟩
  · exact h4 x ⟨d, List.mem_cons_of_mem _ hd, e⟩

theorem St.headRaw {c : Cx} {Γ : Ga} {Δ : List D} {a : Act} {w : World} {b : Nat} {o : Obj} (h : St c Γ (.raw b o :: Δ) a w) : w.heap[b]? = some o := by
  obtain ⟨_, _, S, _, _, h5, _⟩ := h
  exact h5.holds _ (List.mem_cons_self ..)

/-! ### yield -/
/-- **A round's contract**: the value yield, called with these. -/
def YT (P : Program) (l : Nat) (as : List A) (Δ : List D) {X : Type} (R : X → A × List D) : Prop :=
  ∀ (S : FS) (w : World) (vs : List Value), (∀ b, S b → b < w.heap.size) → All2 S w as vs → Owns Δ S w →
    ∃ fn tm asg bd, (Instr.yield l vs.toArray).run P w = .ok (.round l fn tm asg bd) w ∧ RoundIn Fence.wide 0 P l fn tm asg bd w (RPost S w Δ R)

section
variable {P : Program} {o : Oper} {x : Operand} {Δ : List D} {X : Type} {R : X → A × List D}
theorem o_yield {l : Nat} {as : List A} {c : Call} (xs : List Operand) {ts : Array TypeId} (ho : o.op = .call c) (hc : c = { callee := .value x, args := xs.toArray, argTypes := ts }) (hlen : xs.length = as.length) (h : YT P l as Δ R) :
    OpT P o ((x, .eq (.func (.yield l) #[] #[])) :: xs.zip as) Δ R := by
  refine ⟨by simp only [nd, *], fun ro S w a next Q hd hN hO k => ?_⟩
  obtain ⟨fn, tm, asg, bd, h1, h2⟩ := h S w _ hd (All2.of hlen hN.2) hO
  have hr : (execOp a.eval o).run P w = .ok (.round l fn tm asg bd) w := by
    have e1 : a.eval x = .func (.yield l) #[] #[] := hN.1
    simp [execOp, ho, hc, resolve, e1, Deferred.ofValue, invoke]
    simpa using h1
  rw [hr]
  refine ⟨fun h => (by cases h), (?_ : RoundIn Fence.wide _ P l fn tm asg bd w _)⟩
  refine h2.mono ?_
  rintro e w' ⟨x, S', v, rfl, h1, h2, h3, h4⟩
  exact k x S' w' v h1 h2 h3 h4
end

/-- The entries of a frame that say a value. -/
def Vals (tm : Array Value) : Ga → Prop
  | [] => True
  | (s, r) :: l => r = .eq (tm.getD s undef) ∧ Vals tm l
theorem Vals.lk {tm : Array Value} : ∀ {Γ : Ga} {s : Nat} {r : A}, Vals tm Γ → lk Γ s = some r → r = .eq (tm.getD s undef)
  | (s0, r0) :: l, s, r, h, hl => by
    simp only [K.lk] at hl
    split at hl
    · rename_i e; subst e; cases hl; exact h.1
    · exact Vals.lk h.2 hl

/-- What a round's assignment must come to: the record is ready, and becomes busy; the body. -/
def rdBegin (P : Program) (l : Nat) (bd : Code) (Q : Exit → Act → World → Prop) (a : Act) (w : World) : Prop :=
  ∃ w', (Instr.beginRound l).run P w = .ok () w' ∧ bd.wpIn (FW (some l)) 0 P Q a w'

theorem JN.begin {c : Cx} {l : Nat} {rec : Loop} {bd : Code} {Q : Exit → Act → World → Prop} {Γ : Ga} {Δ : List D} (hc : c.rd = some l) (hs : rec.state = .ready) (h : JC c bd Q Γ (.raw l (.loop { rec with state := .busy }) :: Δ)) :
    JN c (rdBegin c.P l bd Q) Γ (.raw l (.loop rec) :: Δ) := by
  intro a w st
  have hb := st.headRaw
  refine ⟨_, run_beginRound hb hs, ?_⟩
  have := h a _ (St.putRaw (.loop { rec with state := .busy }) st)
  rwa [hc] at this

/-- **A round, out of its body's walk.** -/
theorem YT.of {P : Program} {N l p : Nat} {rec : Loop} {as : A} {Δ : List D} {Γ : Ga} {X : Type} {R : X → A × List D} (hp : rec.params = #[p]) (hN : rec.tmps.size = N) (hpN : p < N) (hΓ : Vals rec.tmps Γ)
    (h : ∀ S w, JC ⟨P, N, S, w, feet (.raw l (.loop rec) :: Δ), some l, []⟩ rec.assign (Exit.then (rdBegin P l rec.body (roundPost P l (RPost S w (.raw l (.loop rec) :: Δ) R))) (fun _ _ _ => False)) ((p, as) :: Γ) (.raw l (.loop rec) :: Δ)) :
    YT P l [as] (.raw l (.loop rec) :: Δ) R := by
  intro S w vs hd hall hO
  obtain ⟨v, vs', rfl, hv, hn⟩ := hall
  have hn : vs' = [] := hn
  subst hn
  have hb := hO.holds _ (List.mem_cons_self ..)
  have hst : St ⟨P, N, S, w, feet (.raw l (.loop rec) :: Δ), some l, []⟩ ((p, as) :: Γ) (.raw l (.loop rec) :: Δ) { tmps := rec.tmps.setIfInBounds p v, defers := [] } w := by
    refine ⟨rfl, by simpa using hN, S, Step.refl hd, fun b hb => .inl hb, hO, fun s r hl => ?_⟩
    simp only [lk] at hl
    split at hl
    · rename_i e
      subst e
      cases hl
      simpa [Array.getD_eq_getD_getElem?, Array.getElem?_setIfInBounds, hN, hpN] using hv
    · rename_i e
      rw [hΓ.lk hl]
      show _ = _
      simp [Array.getD_eq_getD_getElem?, Array.getElem?_setIfInBounds_ne e]
  refine ⟨rec.fn, rec.tmps.setIfInBounds p v, rec.assign, rec.body, ?_, ?_⟩
  · have := run_yield (P := P) (w := w) (args := #[v]) hb (by simp [hp])
    rw [this]
    simp [hp]
  · refine roundIn_of_wpIn trivial ?_
    exact h S w _ _ hst

/-- The round's end: on to the next. -/
theorem JN.roundN {P : Program} {N l : Nat} {rec : Loop} {S : FS} {w0 : World} {Δ0 Δ : List D} {Γ : Ga} {X : Type} {R : X → A × List D} (x : X) (k : Nat)
    (hR : R x = (.eq (.bool true), .raw l (.loop { rec with state := .ready, pending := none }) :: Δ.take k)) :
    JN ⟨P, N, S, w0, feet Δ0, some l, []⟩ (roundPost P l (RPost S w0 Δ0 R) .normal) Γ (.raw l (.loop rec) :: Δ) := by
  intro a w st
  have hb := st.headRaw
  refine ⟨_, _, run_endRound none hb, ?_⟩
  have st' := St.putRaw (.loop { rec with state := .ready, pending := none }) st
  obtain ⟨h1, h2, S', h3, h4, h5, h6⟩ := (SE.drop (k + 1)) a _ st'
  exact ⟨x, S', _, rfl, h3, by rw [hR]; rfl, by rw [hR]; exact h5, by rw [hR]; exact h4⟩

end K
end Go.Proofs.Ytfhdclhbdmhnmaa
