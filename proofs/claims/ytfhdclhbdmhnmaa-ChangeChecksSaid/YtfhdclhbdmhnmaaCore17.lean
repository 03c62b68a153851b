/- The calculus, part 17: interfaces of two types: which one it is, and a method's call; new maps; parts of own slices; an own array as a slice, and back; copying into an own slice; a slice held against nil. -/
import Derived.Test.YtfhdclhbdmhnmaaCore16
namespace Go.Proofs.Ytfhdclhbdmhnmaa
namespace K
open Go

section
variable {P : Program} {o : Oper} {x y z : Operand} {T T' e : TypeId} {r r' : A} {t u : Ty}

/-- A type of integers, as a type assertion takes it. -/
def TaOk (P : Program) (T : TypeId) : Prop := P.underlying T = some (.int .i64) ∧ ∀ w, (zeroValue T).run P w = .ok (.int .i64 0) w

theorem run_assert {t0 : TypeId} {n : Int} (h : TaOk P T) (w : World) : (Instr.typeAssert (.iface t0 (.int .i64 n)) T' T true).run P w = .ok (.tuple #[.int .i64 (if t0 = T then n else 0), .bool (decide (t0 = T))]) w := by
  unfold Instr.typeAssert
  simp only [Sem.run_bind, run_underlying h.1, Result.andThen_ok]
  by_cases e : t0 = T
  · simp [e]
  · simp [e, h.2]

theorem o_as {t0 t1 : TypeId} {v : Bool × Int} {n : Int} {b : Bool} (ho : o.op = .typeAssert x T' T true) (h : TaOk P T) (hn : (if (if v.1 then t1 else t0) = T then v.2 else 0) = n) (hb : decide ((if v.1 then t1 else t0) = T) = b) :
    OpT P o [(x, .rep (.tag t0 t1) v)] [] (fun _ : Unit => (.tup (.pair (.eq (.int .i64 n)) (.pair (.eq (.bool b)) .any)), [])) :=
  .val0 fun S w a hN => by
    obtain ⟨cs, h1, h2⟩ := hN.1
    have e1 : a.eval x = .iface (if v.1 then t1 else t0) (.int .i64 v.2) := by
      have h1 : cs = _ := h1
      rw [h2, h1]; rfl
    refine ⟨.tuple #[.int .i64 (if (if v.1 then t1 else t0) = T then v.2 else 0), .bool (decide ((if v.1 then t1 else t0) = T))], by simp only [execOp, ho, e1, Sem.run_bind, run_assert h, Result.andThen_ok, Sem.run_pure], ?_⟩
    subst hn hb
    exact ⟨[_, _], rfl, _, _, rfl, rfl, _, _, rfl, rfl, rfl⟩

theorem as_n1 {t0 t1 : TypeId} (hne : t0 ≠ t1) (v : Bool × Int) : (if (if v.1 then t1 else t0) = t1 then v.2 else 0) = cond v.1 v.2 0 := by
  cases v.1 <;> simp [hne]
theorem as_b1 {t0 t1 : TypeId} (hne : t0 ≠ t1) (v : Bool × Int) : decide ((if v.1 then t1 else t0) = t1) = v.1 := by
  cases v.1 <;> simp [hne]
theorem as_n0 {t0 t1 : TypeId} (hne : t0 ≠ t1) (v : Bool × Int) : (if (if v.1 then t1 else t0) = t0 then v.2 else 0) = cond v.1 0 v.2 := by
  cases v.1 <;> simp [hne.symm]
theorem as_b0 {t0 t1 : TypeId} (hne : t0 ≠ t1) (v : Bool × Int) : decide ((if v.1 then t1 else t0) = t0) = !v.1 := by
  cases v.1 <;> simp [hne.symm]

/-- The assertion that asks for the second type, and for the first. -/
theorem o_as1 {t0 : TypeId} {v : Bool × Int} (ho : o.op = .typeAssert x T' T true) (h : TaOk P T) (hne : t0 ≠ T) :
    OpT P o [(x, .rep (.tag t0 T) v)] [] (fun _ : Unit => (.tup (.pair (.eq (.int .i64 (cond v.1 v.2 0))) (.pair (.eq (.bool v.1)) .any)), [])) := o_as ho h (as_n1 hne v) (as_b1 hne v)
theorem o_as0 {t1 : TypeId} {v : Bool × Int} (ho : o.op = .typeAssert x T' T true) (h : TaOk P T) (hne : T ≠ t1) :
    OpT P o [(x, .rep (.tag T t1) v)] [] (fun _ : Unit => (.tup (.pair (.eq (.int .i64 (cond v.1 0 v.2))) (.pair (.eq (.bool (!v.1))) .any)), [])) := o_as ho h (as_n0 hne v) (as_b0 hne v)

/-- A method of a type of integers. -/
def MthOk (P : Program) (T : TypeId) (name : String) (f : Nat) : Prop := ∀ n w, (callMethod (.iface T (.int .i64 n)) name #[]).run P w = .ok (.enter f #[.int .i64 n]) w

theorem o_invoke {t0 t1 : TypeId} {f0 f1 : Nat} {name : String} {v : Bool × Int} {q : Int} {c : Call} {ts : Array TypeId} (ho : o.op = .call c) (hc : c = { callee := .invoke x name, args := #[], argTypes := ts })
    (h0 : MthOk P t0 name f0) (h1 : MthOk P t1 name f1) (hr : Ctr P (cond v.1 f1 f0) [.eq (.int .i64 v.2)] [] (fun _ : Unit => (.eq (.int .i64 q), []))) : OpT P o [(x, .rep (.tag t0 t1) v)] [] (fun _ : Unit => (.eq (.int .i64 q), [])) := by
  refine ⟨by simp only [nd, *], fun ro S w a next Q hd hN hO k => ?_⟩
  obtain ⟨cs, g1, g2⟩ := hN.1
  have e1 : a.eval x = .iface (if v.1 then t1 else t0) (.int .i64 v.2) := by
    have g1 : cs = _ := g1
    rw [g2, g1]; rfl
  have hrun : (execOp a.eval o).run P w = .ok (.enter (cond v.1 f1 f0) #[.int .i64 v.2]) w := by
    have e2 : (callMethod (a.eval x) name #[]).run P w = .ok (.enter (cond v.1 f1 f0) #[.int .i64 v.2]) w := by
      rw [e1]
      cases v.1
      · exact h0 _ _
      · exact h1 _ _
    simp [execOp, ho, hc, resolve, invoke, e2]
  rw [hrun]
  refine ⟨fun h => (by cases h), callsFW ((hr S w [.int .i64 v.2] hd ⟨_, _, rfl, rfl, rfl⟩ hO).mono ?_)⟩
  rintro e w' ⟨x, S', v, rfl, h1, h2, h3, h4⟩
  exact k x S' w' v h1 h2 h3 h4

theorem ctr_cond {b : Bool} {f0 f1 : Nat} {as : List A} {Δ : List D} {X : Type} {R : X → A × List D} (h0 : b = false → Ctr P f0 as Δ R) (h1 : b = true → Ctr P f1 as Δ R) : Ctr P (cond b f1 f0) as Δ R := by
  cases b
  · exact h0 rfl
  · exact h1 rfl

/-- A new map. -/
theorem o_makeMap (ho : o.op = .makeMap T none) : OpT P o [] [] (fun z : Nat => (.eq (.map (some z)), [.raw z (.map #[] 0)])) := by
  refine ⟨by simp only [nd, *], fun ro S w a next Q hd hN _ k => ?_⟩
  have hr : (execOp a.eval o).run P w = .ok (.value (.map (some w.heap.size))) (w.alloc (.map #[] 0)) := by
    have h1 : (Instr.makeMap T none).run P w = .ok (.map (some w.heap.size)) (w.alloc (.map #[] 0)) := rfl
    simp [execOp, ho, h1]
  rw [hr]
  refine k w.heap.size S _ _ (step_alloc hd _) rfl (owns_one (heap_alloc_new w _) ?_) ?_
  · intro b hb
    simp only [D.foot, Option.some.injEq] at hb
    subst hb
    exact ⟨fun h => by have := hd _ h; omega, by simp⟩
  · intro b hb
    have : b = w.heap.size := by simpa [D.foot, eq_comm] using feet_one.1 hb
    exact .inr (by omega)

/-- A slice held against nil. -/
theorem o_eqnil {l : List t.den} (ho : o.op = .binOp .eql T x y T') (hT : P.underlying T = some (.slice e)) :
    OpT P o [(x, .rep (.slice t) l), (y, .eq (.slice none 0 0))] [] (fun b : { b : Bool // b = true → l = [] } => (.eq (.bool b.1), [])) := by
  refine ⟨by simp only [nd, *], fun ro S w a next Q hd hN hO k => ?_⟩
  obtain ⟨c, cap, e1, hr⟩ := rep_slice hN.1
  have e2 : a.eval y = .slice none 0 0 := hN.2.1
  have hrun : (execOp a.eval o).run P w = .ok (.value (.bool c.isNone)) w := by
    have h1 : (Op.equalIn 10000 T (.slice c l.length cap) (.slice none 0 0)).run P w = .ok c.isNone w := by
      unfold Op.equalIn
      cases c <;> simp only [Sem.run_bind, run_underlying hT, Result.andThen_ok, Sem.run_pure, Option.isNone_none, Option.isNone_some]
    have h2 : (do eqGuard .eql T x y (.slice c l.length cap) (.slice none 0 0); binOp .eql T (.slice c l.length cap) (.slice none 0 0) : Sem Value).run P w = .ok (.bool c.isNone) w := by
      simp [eqGuard, binOp, Op.equal, Op.maxDepth, h1]
    simp only [Sem.run_bind] at h2
    simp only [execOp, ho, e1, e2, Sem.run_bind, h2]
    rfl
  rw [hrun]
  refine k ⟨c.isNone, fun h => ?_⟩ S w _ (Step.refl hd) rfl hO (fun b hb => .inl hb)
  rcases hr with ⟨_, _, _, h2⟩ | ⟨b, off, cap', _, _, _, h2, _⟩
  · exact h2
  · simp at h2; obtain ⟨rfl, _⟩ := h2; simp at h

/-- A part of an own slice: from its head. -/
theorem o_slice_own {v : Value} {TE : TypeId} {l : List t.den} {k : IntKind} {j : Int} {g : Bool} (ho : o.op = .slice T x none (some y) none) (hT : P.underlying T = some (.slice e)) (he : SzOk P e t.cells g) (h0 : 0 ≤ j) (h1 : j ≤ l.length) :
    OpT P o [(x, .eq v), (y, .eq (.int k j))] [.sl v TE t l] (fun v' : Value => (.eq v', [.sl v' TE t (l.take j.toNat)])) := by
  refine ⟨by simp only [nd, *], fun ro S w a next Q hd hN hO kk => ?_⟩
  have e1 : a.eval x = v := hN.1
  have e2 : a.eval y = .int k j := hN.2.1
  have hel : P.elem T = e := by simp [Program.elem, hT]
  have hu : P.underlying T = some (.slice (P.elem T)) := by rw [hel]; exact hT
  have hown := hO.holds _ (List.mem_singleton.2 rfl)
  rcases hown with ⟨rfl, rfl⟩ | ⟨b, cap, c, rfl, hle, hcap, hb, hsz, hrd⟩
  · have hj : j = 0 := by simp at h1; omega
    subst hj
    have := run_slice_h (P := P) w T none 0 0 hu k 0 (Int.le_refl _) (by omega)
    have hr : (execOp a.eval o).run P w = .ok (.value (.slice none 0 0)) w := by
      simp [execOp, ho, e1, e2, run_sliceAt_slice w T _ _ _ _ hu, this, hel, he.size, sliced]
    rw [hr]
    exact kk _ S w _ (Step.refl hd) rfl (by simpa using hO) (fun b hb => .inl (by simpa using hb))
  · have := run_slice_h (P := P) w T (some ⟨b, 0, none⟩) l.length cap hu k j h0 (by omega)
    have hsl : sliced (some ⟨b, 0, none⟩) 0 j.toNat cap t.cells = .slice (some ⟨b, 0, none⟩) j.toNat cap := by
      unfold sliced
      by_cases hc : cap = 0
      · simp [hc]
      · simp [hc, Addr.add]
    have hr : (execOp a.eval o).run P w = .ok (.value (.slice (some ⟨b, 0, none⟩) j.toNat cap)) w := by
      simp [execOp, ho, e1, e2, run_sliceAt_slice w T _ _ _ _ hu, this, hel, he.size, hsl]
    rw [hr]
    have hlen : (l.take j.toNat).length = j.toNat := by simp; omega
    have hfoot : ∀ b', feet [D.sl (.slice (some ⟨b, 0, none⟩) j.toNat cap) TE t (l.take j.toNat)] b' → feet [D.sl (.slice (some ⟨b, 0, none⟩) l.length cap) TE t l] b' := fun b' h => by
      have := feet_one.1 h
      exact feet_one.2 (by simpa [D.foot, Value.ownBlock] using this)
    refine kk _ S w _ (Step.refl hd) rfl (owns_one ?_ fun b' h => hO.own b' (hfoot b' (feet_one.2 h))) (fun b' hb => .inl (hfoot b' hb))
    refine .inr ⟨b, cap, c, by rw [hlen], by omega, hcap, hb, hsz, ?_⟩
    rw [hlen]
    have h2 := rdAll_take (fun _ _ h => rd_length t h) j.toNat hrd
    have hm : j.toNat * t.cells ≤ l.length * t.cells := Nat.mul_le_mul_right _ (by omega)
    rw [List.take_take, Nat.min_eq_left hm] at h2
    exact h2
end

section
variable {c : Cx} {ops : Array Oper} {l : List Oper} {Q : Exit → Act → World → Prop} {Γ Γ' : Ga} {Δ Δ' F : List D} {P : Program} {o : Oper} {x y : Operand} {T e : TypeId} {t : Ty}

theorem St.swap {d d' : D} {a : Act} {w : World} (hf : ∀ b, d'.foot = some b ↔ d.foot = some b) (hh : ∀ S, d.holds S w → d'.holds S w) (h : St c Γ (d :: F) a w) : St c Γ (d' :: F) a w := by
  obtain ⟨h1, h2, S, h3, h4, h5, h6⟩ := h
  have hfe : ∀ b, feet (d' :: F) b → feet (d :: F) b := fun b ⟨q, hq, hb⟩ => by
    rcases List.mem_cons.1 hq with rfl | hq
    · exact ⟨d, List.mem_cons_self .., (hf b).1 hb⟩
    · exact ⟨q, List.mem_cons_of_mem _ hq, hb⟩
  have hp := List.pairwise_cons.1 h5.apart
  refine ⟨h1, h2, S, h3, fun b hb => h4 b (hfe b hb), ⟨fun q hq => ?_, fun b hb => h5.own b (hfe b hb), List.pairwise_cons.2 ⟨fun q hq b hb => hp.1 q hq b ((hf b).1 hb), hp.2⟩⟩, h6⟩
  rcases List.mem_cons.1 hq with rfl | hq
  · exact hh S (h5.holds _ (List.mem_cons_self ..))
  · exact h5.holds q (List.mem_cons_of_mem _ hq)

/-- An own array, as an own slice. -/
theorem SE.arrSl {b n : Nat} {dd : List t.den} (hn : dd.length = n) (hm : n ≤ maxLen) : SE c Γ (.obj b T (.rep (.arr n t) dd) :: F) Γ (.sl (.slice (some ⟨b, 0, none⟩) n n) T t dd :: F) := fun a w h =>
  h.swap (fun b' => by simp [D.foot, Value.ownBlock]) fun S hs => by
    obtain ⟨cs, h1, h2⟩ := hs
    have hl := rdAll_length (fun _ _ h => rd_length t h) h2.2
    subst hn
    refine .inr ⟨b, dd.length, cs.toArray, rfl, Nat.le_refl _, hm, h1, by simpa using hl, ?_⟩
    rw [List.toList_toArray, List.take_of_length_le (by omega)]
    exact h2.2

/-- And back. -/
theorem SE.slArr {b n : Nat} {dd : List t.den} (hn : dd.length = n) : SE c Γ (.sl (.slice (some ⟨b, 0, none⟩) n n) T t dd :: F) Γ (.obj b T (.rep (.arr n t) dd) :: F) := fun a w h =>
  h.swap (fun b' => by simp [D.foot, Value.ownBlock]) fun S hs => by
    rcases hs with ⟨h1, _⟩ | ⟨b', cap, cc, h1, h2, h3, h4, h5, h6⟩
    · simp at h1
    · simp only [Value.slice.injEq, Option.some.injEq, Addr.mk.injEq, and_true, true_and] at h1
      obtain ⟨rfl, hn', rfl⟩ := h1
      refine ⟨cc.toList, by simpa using h4, hn, ?_⟩
      have : cc.toList.take (dd.length * t.cells) = cc.toList := List.take_of_length_le (by simp [h5, hn])
      rwa [this] at h6
end
end K
end Go.Proofs.Ytfhdclhbdmhnmaa
