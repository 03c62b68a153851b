/- The calculus, part 8: control, loops, returns, and a body's contract. -/
import Derived.Test.YtfhdclhbdmhnmaaCore7
namespace Go.Proofs.Ytfhdclhbdmhnmaa
namespace K
open Go

section
variable {c : Cx} {Q : Exit → Act → World → Prop} {Γ Γ' : Ga} {Δ Δ' : List D} {C C' : Code} {M : Act → World → Prop}

theorem JC.seq (h : JC c C (Exit.then (C'.wpIn (FW c.rd) 0 c.P Q) Q) Γ Δ) : JC c (.seq C C') Q Γ Δ := fun a w s => wpIn_seq (h a w s)

/-- A cut: what holds between two pieces of code, for some z. -/
theorem JC.cut {Z : Type} (G : Z → Ga) (E : Z → List D) (p : Z → Prop) (h : JC c C (Exit.then (fun a w => ∃ z, p z ∧ St c (G z) (E z) a w) Q) Γ Δ) (h' : ∀ z, p z → JC c C' Q (G z) (E z)) : JC c (.seq C C') Q Γ Δ :=
  fun a w s => wpIn_seq (Code.wpIn_mono (fun e a w q => by
    cases e with
    | normal => obtain ⟨z, hp, hs⟩ := q; exact h' z hp a w hs
    | _ => exact q) (h a w s))

theorem JN.z {Z : Type} {G : Z → Ga} {E : Z → List D} {p : Z → Prop} (z : Z) (hp : p z) (h : SE c Γ Δ (G z) (E z)) : JN c (fun a w => ∃ z, p z ∧ St c (G z) (E z) a w) Γ Δ := fun a w s => ⟨z, hp, h a w s⟩

theorem JC.region {id : Nat} {l : List Oper} (h : JO c l.toArray l Q Γ Δ) : JC c (.region id l.toArray false) Q Γ Δ := fun a w s => wpIn_region_lit (h a w s)

theorem JC.cond {s : Nat} {b : Bool} (hl : lk Γ s = some (.eq (.bool b))) (ht : b = true → JC c C Q Γ Δ) (hf : b = false → JC c C' Q Γ Δ) : JC c (.cond (.tmp s) C C') Q Γ Δ := fun a w st =>
  wpIn_cond_split (t := b) (by
    obtain ⟨_, _, S, _, _, _, h6⟩ := st
    exact h6 s _ hl) (fun h => ht h a w st) (fun h => hf h a w st)

theorem JC.condc {b : Bool} (ht : b = true → JC c C Q Γ Δ) (hf : b = false → JC c C' Q Γ Δ) : JC c (.cond (.const (.bool b)) C C') Q Γ Δ := fun a w st =>
  wpIn_cond_split (t := b) rfl (fun h => ht h a w st) (fun h => hf h a w st)

theorem JC.block {id : Nat} (h : JC c C (Exit.inBlock id Q) Γ Δ) : JC c (.block id C) Q Γ Δ := fun a w s => wpIn_block (h a w s)
theorem JC.skip (h : JN c (Q .normal) Γ Δ) : JC c .skip Q Γ Δ := fun a w s => wpIn_skip (h a w s)
theorem JC.exit {id : Nat} (h : JN c (Q (.exit id)) Γ Δ) : JC c (.exit id) Q Γ Δ := fun a w s => wpIn_exit (h a w s)
theorem JC.ret (h : JN c (Q .ret) Γ Δ) : JC c .ret Q Γ Δ := fun a w s => wpIn_ret (h a w s)

theorem JN.then_n (h : JN c M Γ Δ) : JN c (Exit.then M Q .normal) Γ Δ := h
theorem JN.then_x {id : Nat} (h : JN c (Q (.exit id)) Γ Δ) : JN c (Exit.then M Q (.exit id)) Γ Δ := h
theorem JN.then_r (h : JN c (Q .ret) Γ Δ) : JN c (Exit.then M Q .ret) Γ Δ := h
theorem JN.blk_n {id : Nat} (h : JN c (Q .normal) Γ Δ) : JN c (Exit.inBlock id Q .normal) Γ Δ := h
theorem JN.blk_r {id : Nat} (h : JN c (Q .ret) Γ Δ) : JN c (Exit.inBlock id Q .ret) Γ Δ := h
theorem JN.blk_hit {id : Nat} (h : JN c (Q .normal) Γ Δ) : JN c (Exit.inBlock id Q (.exit id)) Γ Δ := fun a w s => by
  show if id = id then Q .normal a w else Q (.exit id) a w
  rw [if_pos rfl]
  exact h a w s
/-- A loop, by fuel. -/
theorem wp_loop_fuel {F : Fence} {f : Nat} {P : Program} {C : Code} (I : Nat → Act → World → Prop) (round : ∀ n a w, I n a w → C.wpIn F f P (Exit.then (fun a' w' => ∃ m, m < n ∧ I m a' w') Q) a w) :
    ∀ n a w, I n a w → (Code.loop C).wpIn F f P Q a w := by
  intro n a w hI b k cs hro hb hr
  have key : ∀ n a w, I n a w → ∃ e a' w', Q e a' w' ∧ ArrivesIn (Machine.fenced P F) P (lone (b.atR a (.code C :: .inLoop C :: k)) cs w) b k cs e a' w' := by
    intro n
    induction n using Nat.strongRecOn with
    | _ n ih =>
      intro a w hI
      obtain ⟨e, a₁, w₁, hq, harr⟩ := round n a w hI b (.inLoop C :: k) cs hro hb hr
      cases e with
      | normal =>
        obtain ⟨m, hm, hI₁⟩ := hq
        obtain ⟨e₂, a₂, w₂, hq₂, harr₂⟩ := ih m hm a₁ w₁ hI₁
        exact ⟨e₂, a₂, w₂, hq₂, .of_steps (StepsIn.trans harr (.one (fenced_calm hb hr rfl) stepR_inLoop)) harr₂⟩
      | exit id => exact ⟨_, a₁, w₁, hq, .pass (x := .inLoop C) rfl (fun _ _ => .inl (by simp)) harr⟩
      | goto l => exact ⟨_, a₁, w₁, hq, .pass (x := .inLoop C) rfl (fun _ _ => .inl (by simp)) harr⟩
      | ret => exact ⟨_, a₁, w₁, hq, .pass (x := .inLoop C) rfl (fun _ _ => .inl (by simp)) harr⟩
      | panic ch => exact ⟨_, a₁, w₁, hq, .pass (x := .inLoop C) rfl (fun _ _ => .inl (by simp)) harr⟩
      | outgrown => exact ⟨_, a₁, w₁, hq, .pass (x := .inLoop C) rfl (fun _ _ => .inl (by simp)) harr⟩
  obtain ⟨e, a', w', hq, harr⟩ := key n a w hI
  exact ⟨e, a', w', hq, .of_steps (.one (fenced_calm hb hr rfl) stepR_loop) harr⟩

/-- A loop: G, E: what the frame holds at every round's head, for some z; p n z: what is known of z with n rounds' fuel. -/
theorem JC.loop {Z : Type} (G : Z → Ga) (E : Z → List D) (p : Nat → Z → Prop) (n : Nat) (z : Z) (hp : p n z) (hs : SE c Γ Δ (G z) (E z))
    (round : ∀ n z, p n z → JC c C (Exit.then (fun a w => ∃ z' : Nat × Z, (z'.1 < n ∧ p z'.1 z'.2) ∧ St c (G z'.2) (E z'.2) a w) Q) (G z) (E z)) : JC c (.loop C) Q Γ Δ := fun a w st =>
  wp_loop_fuel (fun n a w => ∃ z, p n z ∧ St c (G z) (E z) a w) (fun n a w ⟨z, hp, hs⟩ => Code.wpIn_mono (fun e a w q => by
    cases e with
    | normal => obtain ⟨⟨m, z'⟩, ⟨hm, hp'⟩, hs'⟩ := q; exact ⟨m, hm, z', hp', hs'⟩
    | _ => exact q) (round n z hp a w hs)) n a w ⟨z, hp, hs a w st⟩

/-- What a function hands back. -/
def Res (P : Program) (Γ : Ga) (Δ : List D) : List ResultVar → List A → Prop
  | [], [] => True
  | .tmp s :: l, r :: rs => lk Γ s = some r ∧ Res P Γ Δ l rs
  | .cell s T :: l, r :: rs => (∃ b T0 a0 n g, lk Γ s = some (.eq (.pointer (some ⟨b, 0, none⟩))) ∧ D.obj b T0 a0 ∈ Δ ∧ SzOk P T n g ∧ (g = false → n = 1) ∧ a0.get 0 n g = some r) ∧ Res P Γ Δ l rs
  | _, _ => False

def tupA : List A → A
  | [] => .any
  | r :: l => .pair r (tupA l)

/-- The assertion on all results together. -/
@[reducible] def resA : List A → A
  | [r] => r
  | l => .tup (tupA l)

def resOne (tmps : Array Value) : ResultVar → Sem Value
  | .tmp t => pure (tmps.getD t undef)
  | .cell s t => do loadVar t (← asAddr (tmps.getD s undef))

theorem Res.run {P : Program} {S : FS} {w : World} {a : Act} (hO : ∀ d ∈ Δ, d.holds S w) (h6 : ∀ s r, lk Γ s = some r → r.holds S w (a.tmps.getD s undef)) : ∀ {rv : List ResultVar} {rs : List A}, Res P Γ Δ rv rs →
    ∃ vs : List Value, (rv.mapM (resOne a.tmps)).run P w = .ok vs w ∧ A.holds.holdsAll S w (tupA rs) vs ∧ vs.length = rs.length
  | [], [], _ => ⟨[], by simp, rfl, rfl⟩
  | .tmp s :: l, r :: rs, h => by
    obtain ⟨vs, h1, h2, h3⟩ := Res.run hO h6 h.2
    exact ⟨a.tmps.getD s undef :: vs, by simp only [List.mapM_cons, resOne, Sem.run_bind, Sem.run_pure, h1, Result.andThen_ok], ⟨_, vs, rfl, h6 s r h.1, h2⟩, by simp [h3]⟩
  | .cell s T :: l, r :: rs, h => by
    obtain ⟨⟨b, T0, a0, n, g, q1, q2, q3, q4, q5⟩, hr⟩ := h
    obtain ⟨vs, h1, h2, h3⟩ := Res.run hO h6 hr
    have e : a.tmps.getD s undef = .pointer (some ⟨b, 0, none⟩) := h6 s _ q1
    obtain ⟨cs, g1, g2⟩ := hO _ q2
    obtain ⟨k1, k2⟩ := A.get_spec a0 g2 q5
    have l0 := a0.cells_length g2
    have hl := run_loadVar' q3 q4 g1 (off := 0) (by simp only [Nat.zero_add, List.size_toArray]; omega)
    refine ⟨_ :: vs, ?_, ⟨_, vs, rfl, k1, h2⟩, by simp [h3]⟩
    simp only [List.mapM_cons, resOne, Sem.run_bind, Sem.run_pure, h1, e, asAddr, hl, Result.andThen_ok]
  | [], _ :: _, h => h.elim
  | .tmp _ :: _, [], h => h.elim
  | .cell _ _ :: _, [], h => h.elim

theorem results_eq (fn : Func) (tmps : Array Value) : results fn tmps = (do
    let vs ← fn.results.mapM (resOne tmps)
    pure (if h : vs.size = 1 then vs[0] else .tuple vs)) := by
  unfold results
  have : (fun x : ResultVar => (match x with
    | .tmp t => pure (tmps.getD t undef)
    | .cell a t => do loadVar t (← asAddr (tmps.getD a undef)) : Sem Value)) = resOne tmps := by
    funext x
    cases x <;> rfl
  rw [← this]
  rfl

/-- **The return.** k: how many of the resources are handed back. -/
theorem JN.ret {P : Program} {S : FS} {w0 : World} {Δ0 : List D} {X : Type} {R : X → A × List D} {N : Nat} {fn : Func} (x : X) (rs : List A) (k : Nat)
    (hr : Res P Γ Δ fn.results.toList rs) (hR : R x = (resA rs, Δ.take k)) : JN ⟨P, N, S, w0, feet Δ0, none, []⟩ (bodyPost P fn (RPost S w0 Δ0 R) .ret) Γ Δ := by
  rintro a w ⟨h1, h2, S', h3, h4, h5, h6⟩
  obtain ⟨vs, q1, q2, q3⟩ := Res.run h5.holds h6 hr
  have hrun : (results fn a.tmps).run P w = .ok (if h : vs.length = 1 then vs[0] else .tuple vs.toArray) w := by
    rw [results_eq]
    have e1 : (fn.results.mapM (resOne a.tmps)).run P w = .ok vs.toArray w := by
      rw [Array.mapM_eq_mapM_toList]
      simp only [Sem.run_map, q1, Result.andThen_ok]
    simp only [Sem.run_bind, e1, Result.andThen_ok, Sem.run_pure, List.size_toArray, List.getElem_toArray]
  have hv : (resA rs).holds S' w (if h : vs.length = 1 then vs[0] else .tuple vs.toArray) := by
    match rs, vs, q2, q3 with
    | [r], [v], q2, _ =>
      obtain ⟨v', vs', e, h, _⟩ := q2
      cases e
      simpa [resA] using h
    | [], [], q2, _ => exact ⟨[], rfl, q2⟩
    | r :: r' :: rs, v :: v' :: vs, q2, _ => exact ⟨v :: v' :: vs, by simp, q2⟩
  have hm : ∀ d, d ∈ Δ.take k → d ∈ Δ := fun d hd => List.mem_of_mem_take hd
  refine ⟨h1, _, hrun, x, S', _, rfl, h3, by rw [hR]; exact hv, by rw [hR]; exact ⟨fun d hd => h5.holds d (hm d hd), fun b ⟨d, hd, e⟩ => h5.own b ⟨d, hm d hd, e⟩, h5.apart.sublist (List.take_sublist k Δ)⟩, ?_⟩
  rw [hR]
  exact fun b ⟨d, hd, e⟩ => h4 b ⟨d, hm d hd, e⟩

/-- The frame at the entry. -/
def entry : Nat → List A → Ga
  | _, [] => []
  | k, r :: l => (k, r) :: entry (k + 1) l

theorem entry_spec {S : FS} {w : World} : ∀ {as : List A} {vs : List Value} {k s : Nat} {r : A}, All2 S w as vs → lk (entry k as) s = some r → ∃ j, s = k + j ∧ j < vs.length ∧ r.holds S w (vs.getD j undef)
  | [], _, _, _, _, _, h => by cases h
  | r0 :: as, _, k, s, r, ⟨v, vs', rfl, h1, h2⟩, h => by
    simp only [entry, lk] at h
    split at h
    · rename_i e; cases h; exact ⟨0, by omega, by simp, h1⟩
    · obtain ⟨j, e, hj, hr⟩ := entry_spec h2 h
      exact ⟨j + 1, by omega, by simpa using hj, by simpa using hr⟩

theorem All2.length {S : FS} {w : World} : ∀ {as : List A} {vs : List Value}, All2 S w as vs → vs.length = as.length
  | [], _, h => by have : _ = [] := h; subst this; rfl
  | _ :: _, _, ⟨_, _, rfl, _, h⟩ => by simp [All2.length h]

/-- **A body's contract.** -/
theorem Ctr.of {P : Program} {f : Nat} {fn : Func} {C : Code} {as : List A} {Δ : List D} {X : Type} {R : X → A × List D} (N : Nat) (hf : P.funcs[f]? = some fn) (hb : fn.body = some C) (hN : fn.ntmps = N) (hn : Nat.ble as.length N = true)
    (h : ∀ S w0, JC ⟨P, N, S, w0, feet Δ, none, []⟩ C (bodyPost P fn (RPost S w0 Δ R)) (entry 0 as) Δ) : Ctr P f as Δ R := by
  subst hN
  intro S w vs hd hall hO
  have hn := Nat.le_of_ble_eq_true hn
  refine callsIn_wide.1 (callsIn_of_wp (n := 0) hf hb trivial (h S w _ _ ⟨rfl, ?_, S, Step.refl hd, fun b hb => .inl hb, hO, fun s r hl => ?_⟩))
  · have := hall.length
    simp only [Array.size_append, List.size_toArray, Array.size_replicate]
    omega
  · obtain ⟨j, e, hj, hr⟩ := entry_spec hall hl
    have e' : s = j := by omega
    subst e'
    have e2 : (vs.toArray ++ Array.replicate (fn.ntmps - vs.toArray.size) undef).getD s undef = vs.getD s undef := by
      simp [Array.getD_eq_getD_getElem?, Array.getElem?_append, hj]
    rw [e2]
    exact hr
end

end K
end Go.Proofs.Ytfhdclhbdmhnmaa
