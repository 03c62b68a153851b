/- The calculus, part 27: one deferred call that recovers; panics that carry a number. -/
import Derived.Test.YtfhdclhbdmhnmaaCore26
namespace Go.Proofs.Ytfhdclhbdmhnmaa
namespace K
open Go

section
variable {P : Program}

/-- A panic that carries a number of this type. -/
def chain1 (T : TypeId) (n : Int) (r : Bool) : List PanicEntry := [{ v := .iface T (.int .i64 n), recovered := r }]

/-- A function that is deferred: what a panic carries it puts into the variable b. -/
structure CatchOk (P : Program) (g : Nat) (T Tc : TypeId) : Prop where
  enter : EnterOk P g
  calm : ∀ b w e0, w.heap[b]? = some (.cells #[.int .i64 e0] Tc (0, 0)) → CallsDIn Fence.wide 0 P g #[.pointer (some ⟨b, 0, none⟩)] .returning w fun e u' w' => (∃ v, e = .returned v) ∧ u' = .returning ∧ w' = w
  caught : ∀ b w e0 n, w.heap[b]? = some (.cells #[.int .i64 e0] Tc (0, 0)) → CallsDIn Fence.wide 0 P g #[.pointer (some ⟨b, 0, none⟩)] (.panicking (chain1 T n false)) w fun e u' w' => (∃ v, e = .returned v) ∧ u' = .panicking (chain1 T n true) ∧ w' = w.putObj b (.cells #[.int .i64 n] Tc (0, 0))

/-- The deferred call. -/
def dfr (g b : Nat) : Deferred := { target := .fn (.func g) #[.pointer (some ⟨b, 0, none⟩)], args := #[] }

variable {N : Nat} {S : FS} {w0 : World} {X : Nat → Prop} {ops : Array Oper} {o : Oper} {l : List Oper} {Q : Exit → Act → World → Prop} {Γ : Ga} {Δ F : List D} {b g s : Nat} {T Tc : TypeId} {fn : Func} {R : Ending → World → Prop} {n e0 : Int} {a0 : A}

theorem wide_about {o : Oper} {P : Program} {w : World} {ρ : Operand → Value} : ∀ f, o.about P w ρ = some f → Fence.wide.fn f := fun _ _ => trivial

theorem JO.defer {cl : Call} {ts : Array TypeId} (hg : o.guard = none) (hd : o.dst = none) (ho : o.op = .defer cl) (hcl : cl = { callee := .value (.tmp s), args := #[], argTypes := ts }) (hl : lk Γ s = some (.eq (.func (.func g) #[] #[.pointer (some ⟨b, 0, none⟩)])))
    (h : JO ⟨P, N, S, w0, X, none, [dfr g b]⟩ ops l Q Γ Δ) : JO ⟨P, N, S, w0, X, none, []⟩ ops (o :: l) Q Γ Δ := by
  intro a w hst
  have hw : Region.wanted o (yielded ops a.tmps) = true := wanted_none hg _
  refine wpListIn_step fun K hK => ?_
  rw [if_pos hw]
  obtain ⟨h1, h2, S', h3, h4, h5, h6⟩ := hst
  have e1 : a.eval (.tmp s) = .func (.func g) #[] #[.pointer (some ⟨b, 0, none⟩)] := h6 s _ hl
  refine ⟨wide_about, ?_⟩
  have hs : o.semAt (FW none).round a.eval = execOp a.eval o := Oper.semAt_none _ _
  show o.uponIn (FW none) 0 P a K Q ((o.semAt (FW none).round a.eval).run P w)
  rw [hs]
  have hr : (execOp a.eval o).run P w = .ok (.defer (dfr g b)) w := by
    simp [execOp, ho, hcl, resolve, Deferred.ofValue, e1, dfr]
  rw [hr, Oper.uponIn_defer, hd]
  refine hK _ _ (h _ _ ⟨?_, by simpa [Act.put] using h2, S', h3, h4, h5, fun s r hl => by simpa [Act.put] using h6 s r hl⟩)
  have h1 : a.defers = [] := h1
  simp [Act.put, h1]

theorem JO.panicN {c : Cx} (hrd : c.rd = none) (hg : o.guard = none) (ho : o.op = .panic (.tmp s)) (hl : lk Γ s = some (.eq (.iface T (.int .i64 n)))) (h : JN c (Q (.panic (chain1 T n false))) Γ Δ) : JO c ops (o :: l) Q Γ Δ := by
  intro a w hst
  have hw : Region.wanted o (yielded ops a.tmps) = true := wanted_none hg _
  refine wpListIn_step fun K hK => ?_
  rw [if_pos hw]
  have hst' := hst
  obtain ⟨h1, h2, S', h3, h4, h5, h6⟩ := hst
  have e1 : a.eval (.tmp s) = .iface T (.int .i64 n) := h6 s _ hl
  rw [hrd]
  refine ⟨wide_about, ?_⟩
  have hs : o.semAt (FW none).round a.eval = execOp a.eval o := Oper.semAt_none _ _
  show o.uponIn (FW none) 0 _ a K Q ((o.semAt (FW none).round a.eval).run _ w)
  rw [hs]
  have hr : (execOp a.eval o).run c.P w = .halt (.panic (.iface T (.int .i64 n))) w := by
    simp [execOp, ho, Instr.panic, goPanic, e1]
  rw [hr, Oper.uponIn_panic]
  exact h a w hst'

theorem JN.then_p {c : Cx} {M : Act → World → Prop} {ch : List PanicEntry} (h : JN c (Q (.panic ch)) Γ Δ) : JN c (Exit.then M Q (.panic ch)) Γ Δ := h
theorem JN.blk_p {c : Cx} {id : Nat} {ch : List PanicEntry} (h : JN c (Q (.panic ch)) Γ Δ) : JN c (Exit.inBlock id Q (.panic ch)) Γ Δ := h

theorem run_dfr (hE : EnterOk P g) {w : World} : (invoke (.fn (.func g) #[.pointer (some ⟨b, 0, none⟩)]) #[]).run P w = .ok (.enter g #[.pointer (some ⟨b, 0, none⟩)]) w := by
  have := hE #[.pointer (some ⟨b, 0, none⟩)] w
  simpa [invoke] using this

theorem JN.retD (hc : CatchOk P g T Tc) (h : JN ⟨P, N, S, w0, X, none, []⟩ (bodyPost P fn R .ret) Γ (.obj b Tc (.eq (.int .i64 e0)) :: F)) :
    JN ⟨P, N, S, w0, X, none, [dfr g b]⟩ (bodyPostDIn Fence.wide 0 P fn R .ret) Γ (.obj b Tc (.eq (.int .i64 e0)) :: F) := by
  intro a w st
  obtain ⟨h1, h2, S', h3, h4, h5, h6⟩ := st
  have hb : w.heap[b]? = some (.cells #[.int .i64 e0] Tc (0, 0)) := by
    obtain ⟨cs, g1, rfl, _⟩ := h5.holds _ (List.mem_cons_self ..)
    exact g1
  show LeavesIn Fence.wide 0 P fn a.tmps R a.defers .returning w
  have h1 : a.defers = [dfr g b] := h1
  rw [h1]
  refine leavesIn_cons (by simp) (fun h => by cases h) (run_dfr hc.enter) (fun _ _ => trivial) ((hc.calm b w e0 hb).mono ?_)
  rintro e u' w' ⟨⟨v, rfl⟩, rfl, rfl⟩
  obtain ⟨_, v, g2, g3⟩ := h { tmps := a.tmps, defers := [] } w' ⟨rfl, h2, S', h3, h4, h5, h6⟩
  exact ⟨v, g2, g3⟩

theorem JN.panicD (hc : CatchOk P g T Tc) (h : JN ⟨P, N, S, w0, X, none, []⟩ (bodyPost P fn R .ret) Γ (.obj b Tc (.eq (.int .i64 n)) :: F)) :
    JN ⟨P, N, S, w0, X, none, [dfr g b]⟩ (bodyPostDIn Fence.wide 0 P fn R (.panic (chain1 T n false))) Γ (.obj b Tc (.eq (.int .i64 e0)) :: F) := by
  intro a w st
  obtain ⟨h1, h2, S', h3, h4, h5, h6⟩ := st
  have hb : w.heap[b]? = some (.cells #[.int .i64 e0] Tc (0, 0)) := by
    obtain ⟨cs, g1, rfl, _⟩ := h5.holds _ (List.mem_cons_self ..)
    exact g1
  have st0 : St ⟨P, N, S, w0, X, none, []⟩ Γ (.obj b Tc (.eq (.int .i64 e0)) :: F) { tmps := a.tmps, defers := [] } w := ⟨rfl, h2, S', h3, h4, h5, h6⟩
  have st1 := (st0.swap (d := .obj b Tc (.eq (.int .i64 e0))) (d' := .raw b (.cells #[.int .i64 e0] Tc (0, 0))) (fun _ => Iff.rfl) fun _ _ => hb).putRaw (.cells #[.int .i64 n] Tc (0, 0))
  have hb2 := st1.headRaw
  have st2 := st1.swap (d := .raw b (.cells #[.int .i64 n] Tc (0, 0))) (d' := .obj b Tc (.eq (.int .i64 n))) (fun _ => Iff.rfl) fun _ _ => ⟨[.int .i64 n], hb2, rfl, rfl⟩
  show LeavesIn Fence.wide 0 P fn a.tmps R a.defers (.panicking (chain1 T n false)) w
  have h1 : a.defers = [dfr g b] := h1
  rw [h1]
  refine leavesIn_cons (by simp) (fun h => by cases h) (run_dfr hc.enter) (fun _ _ => trivial) ((hc.caught b w e0 n hb).mono ?_)
  rintro e u' w' ⟨⟨v, rfl⟩, rfl, rfl⟩
  obtain ⟨_, v, g2, g3⟩ := h _ _ st2
  exact ⟨v, g2, g3⟩

theorem Ctr.ofD {f : Nat} {C : Code} {as : List A} {X : Type} {R : X → A × List D} (N : Nat) (hf : P.funcs[f]? = some fn) (hb : fn.body = some C) (hN : fn.ntmps = N) (hn : Nat.ble as.length N = true)
    (h : ∀ S w0, JC ⟨P, N, S, w0, feet Δ, none, []⟩ C (bodyPostDIn Fence.wide 0 P fn (RPost S w0 Δ R)) (entry 0 as) Δ) : Ctr P f as Δ R := by
  subst hN
  intro S w vs hd hall hO
  have hn := Nat.le_of_ble_eq_true hn
  refine callsIn_wide.1 (callsIn_of_wp_defers (n := 0) hf hb trivial (h S w _ _ ⟨rfl, ?_, S, Step.refl hd, fun b hb => .inl hb, hO, fun s r hl => ?_⟩))
  · have := hall.length
    simp only [Array.size_append, List.size_toArray, Array.size_replicate]
    omega
  · obtain ⟨j, e, hj, hr⟩ := entry_spec hall hl
    have e' : s = j := by omega
    subst e'
    have e2 : (vs.toArray ++ Array.replicate (fn.ntmps - vs.toArray.size) undef).getD s undef = vs.getD s undef := by
      simp [Array.getD_eq_getD_getElem?, Array.getElem?_append, hj]
    rw [e2]
    exact hr
end
section
variable {F : Fence} {n : Nat} {P : Program} {Q : Exit → Act → List Frame → World → Prop} {a : Act} {cs cs' : List Frame} {w w' : World} {ops : Array Oper} {i : Nat} {o : Oper} {rest : List Nat} {v : Value}
theorem opsS_val (ho : ops[i]? = some o) (hg : o.guard = none) (hr : (execOp a.eval o).run P w = .ok (.value v) w') (h : wpOpsSIn Fence.wide n P ops Q rest (a.put o.dst v) cs w') : wpOpsSIn Fence.wide n P ops Q (i :: rest) a cs w := by
  simp only [wpOpsSIn, ho]
  refine ⟨fun _ _ => trivial, ?_⟩
  rw [if_pos (wanted_none hg _), hr]
  exact h
theorem opsS_skip (ho : ops[i]? = some o) (hg : o.guard = none) (hr : (execOp a.eval o).run P w = .ok .skip w') (h : wpOpsSIn Fence.wide n P ops Q rest (a.put o.dst undef) cs w') : wpOpsSIn Fence.wide n P ops Q (i :: rest) a cs w := by
  simp only [wpOpsSIn, ho]
  refine ⟨fun _ _ => trivial, ?_⟩
  rw [if_pos (wanted_none hg _), hr]
  exact h
theorem opsS_rec0 (ho : ops[i]? = some o) (hg : o.guard = none) (hr : (execOp a.eval o).run P w = .ok .recover w') (hc : recoverD cs = none) (h : wpOpsSIn Fence.wide n P ops Q rest (a.put o.dst .nilIface) cs w') : wpOpsSIn Fence.wide n P ops Q (i :: rest) a cs w := by
  simp only [wpOpsSIn, ho]
  refine ⟨fun _ _ => trivial, ?_⟩
  rw [if_pos (wanted_none hg _), hr]
  simp only [hc]
  exact h
theorem opsS_rec1 (ho : ops[i]? = some o) (hg : o.guard = none) (hr : (execOp a.eval o).run P w = .ok .recover w') (hc : recoverD cs = some (v, cs')) (h : wpOpsSIn Fence.wide n P ops Q rest (a.put o.dst v) cs' w') : wpOpsSIn Fence.wide n P ops Q (i :: rest) a cs w := by
  simp only [wpOpsSIn, ho]
  refine ⟨fun _ _ => trivial, ?_⟩
  rw [if_pos (wanted_none hg _), hr]
  simp only [hc]
  exact h
end

/-- A field of a struct at hand. -/
theorem o_field {P : Program} {o : Oper} {x : Operand} {T : TypeId} {f n : Nat} {g : Bool} {fs : Array Field} {fd : Field} {a1 r : A} (ho : o.op = .field T x f) (hu : P.underlying T = some (.struct fs)) (hf : fs[f]? = some fd) (hz : SzOk P fd.type n g) (hg : g = false → n = 1)
    (hget : a1.get fd.offset n g = some r) (hag : a1.isAgg = true) (hs : a1.stor) : OpT P o [(x, a1)] [] (fun _ : Unit => (r, [])) :=
  .val0 fun S w a hN => by
    obtain ⟨h1, h2, h3⟩ := A.holds_cells hN.1 hs
    obtain ⟨g1, g2⟩ := A.get_spec a1 h1 hget
    generalize hcs : (a.eval x).cells.toList = cs at h1 h2 h3 g1
    have e1 : a.eval x = .agg cs.toArray := by rw [h3, hag]; rfl
    refine ⟨_, ?_, g1⟩
    have hp : (part fd.type cs.toArray fd.offset).run P w = .ok (mk g ((cs.drop fd.offset).take n)) w := by
      unfold part
      cases g with
      | true =>
        simp only [Sem.run_bind, hz.agg, Result.andThen_ok, if_true, hz.size, Sem.run_pure]
        simp only [mk, if_true, Result.ok.injEq, and_true, Value.agg.injEq]
        apply Array.ext'
        simp [List.extract_eq_take_drop, Nat.add_sub_cancel_left]
      | false =>
        obtain rfl := hg rfl
        have hlt : fd.offset < cs.length := by omega
        have e9 : (cs.drop fd.offset).take 1 = [cs[fd.offset]] := by rw [List.drop_eq_getElem_cons hlt]; rfl
        have e8 : cs.toArray[fd.offset]? = some cs[fd.offset] := by simp [hlt]
        rw [e9]
        simp only [Sem.run_bind, hz.agg, Result.andThen_ok, e8]
        rfl
    simp [execOp, ho, e1, Instr.field, Sem.run_bind, run_underlying hu, hf, asAgg, hp]
end K
end Go.Proofs.Ytfhdclhbdmhnmaa
