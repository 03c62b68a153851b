/- The calculus, part 24: an own array looked at as a slice; copying into it. -/
import Derived.Test.YtfhdclhbdmhnmaaCore23
namespace Go.Proofs.Ytfhdclhbdmhnmaa
namespace K
open Go

section
variable {P : Program} {o : Oper} {x y : Operand} {T T' e : TypeId} {t : Ty}

/-- All of an own array, as a slice. -/
theorem o_slice_arr {b n m : Nat} {g : Bool} (ho : o.op = .slice T x none none none) (hT : P.underlying T = some (.array n e)) (he : SzOk P e m g) :
    OpT P o [(x, .eq (.pointer (some ⟨b, 0, none⟩)))] [] (fun _ : Unit => (.eq (.slice (some ⟨b, 0, none⟩) n n), [])) :=
  .val0 fun S w a hN => by
    have e1 : a.eval x = .pointer (some ⟨b, 0, none⟩) := hN.1
    refine ⟨.slice (some ⟨b, 0, none⟩) n n, ?_, rfl⟩
    simp [execOp, ho, e1, Instr.sliceAt, Instr.sureAddr, run_underlying hT, Instr.sliceBounds, he.size, Addr.add]

/-- Copying into an own array. -/
theorem o_copy_arr {b n : Nat} {T0 T1 : TypeId} {g : Bool} {l l2 : List t.den} {c : Call} (ho : o.op = .call c) (hc : c = { callee := .builtin .copy, args := #[x, y], argTypes := #[T, T1] }) (hT : P.underlying T = some (.slice e)) (he : SzOk P e t.cells g) :
    OpT P o [(x, .eq (.slice (some ⟨b, 0, none⟩) n n)), (y, .rep (.slice t) l2)] [.obj b T0 (.rep (.arr n t) l)] (fun _ : Unit => (.eq (.int .i64 (min l2.length n : Nat)), [.obj b T0 (.rep (.arr n t) (l2.take n ++ l.drop l2.length))])) := by
  refine ⟨by simp only [nd, *], fun ro S w a next Q hd hN hO k => ?_⟩
  have e1 : a.eval x = .slice (some ⟨b, 0, none⟩) n n := hN.1
  obtain ⟨a2, cap2, e2, hr2⟩ := rep_slice hN.2.1
  obtain ⟨cs, h3, h4⟩ := hO.holds _ (List.mem_singleton.2 rfl)
  obtain ⟨hlen, hrd⟩ := (h4 : l.length = n ∧ rdAll (rd S w t) l cs)
  obtain ⟨hnb, hbs⟩ := hO.own b (feet_obj.2 rfl)
  have hcl := rdAll_length (fun _ _ h => rd_length t h) hrd
  -- the cells that are copied
  have main : ∃ news : List Value, (Builtin.firstCells t.cells (Nat.min l2.length n) (a.eval y)).run P w = .ok news.toArray w ∧ rdAll (rd S w t) (l2.take n) news := by
    rcases hr2 with ⟨a3, cap3, h5, h6⟩ | ⟨b2, off2, cap3, c2, T2, fz, h5, hle, hS, hb2, hr⟩
    · subst h6
      refine ⟨[], ?_, by simp [rdAll]⟩
      rw [e2]
      cases a2 with
      | none => simp [Builtin.firstCells]
      | some q => simp [Builtin.firstCells, loadCells, loadCellsFrom]
    · simp only [List.cons.injEq, Value.slice.injEq, true_and, and_true] at h5
      obtain ⟨rfl, rfl⟩ := h5
      have h7 := rdAll_take (fun _ _ h => rd_length t h) n hr
      have h8 := rdAll_length (fun _ _ h => rd_length t h) h7
      refine ⟨_, ?_, h7⟩
      rw [e2]
      refine run_firstCells_some (P := P) w t.cells (Nat.min l2.length n) ⟨b2, off2, none⟩ _ _ _ (by rw [h8, List.length_take, Nat.min_comm]) fun j v hj => ?_
      rw [Addr.add_mk]
      rw [List.getElem?_take] at hj
      split at hj
      · rw [List.getElem?_take] at hj
        split at hj
        · simp only [List.getElem?_drop, Array.getElem?_toList] at hj
          simp [World.cell?, hb2, hj]
        · cases hj
      · cases hj
  obtain ⟨news, hn1, hn2⟩ := main
  have hnl := rdAll_length (fun _ _ h => rd_length t h) hn2
  have hone := rdAll_one (fun _ _ h => rd_one t h) hn2
  have hbnd : news.length ≤ cs.length := by
    rw [hnl, hcl, List.length_take, hlen]
    exact Nat.mul_le_mul_right _ (Nat.min_le_left _ _)
  have hst := run_storeCells P b T0 0 news 0 w cs.toArray h3 hone (by simpa using hbnd)
  simp only [Nat.add_zero, Nat.zero_add, List.take_zero, List.nil_append] at hst
  have hrun : (execOp a.eval o).run P w = .ok (.value (.int .i64 (min l2.length n : Nat))) { w with heap := w.heap.setIfInBounds b (.cells (news ++ cs.drop news.length).toArray T0 (0, 0)) } := by
    have h1 : (Builtin.copy_ #[T, T1] o.type #[a.eval x, a.eval y]).run P w = .ok (.int .i64 (min l2.length n : Nat)) { w with heap := w.heap.setIfInBounds b (.cells (news ++ cs.drop news.length).toArray T0 (0, 0)) } := by
      have hlo : (Builtin.lenOf (a.eval y)).run P w = .ok l2.length w := by rw [e2]; rfl
      simp only [Builtin.copy_, List.getElem?_toArray, List.getElem?_cons_zero, List.getElem?_cons_succ, e1, Sem.run_bind, run_underlying hT, Result.andThen_ok, hlo, he.size, hn1, hst, Sem.run_pure]
      rfl
    simp [execOp, ho, hc, resolve, invoke, builtin, h1]
  rw [hrun]
  have hset := step_set (X := feet [D.obj b T0 (.rep (.arr n t) l)]) hd (feet_obj.2 rfl) (.cells (news ++ cs.drop news.length).toArray T0 (0, 0))
  have hK : Keep S w { w with heap := w.heap.setIfInBounds b (.cells (news ++ cs.drop news.length).toArray T0 (0, 0)) } := fun b' hb' => by
    have hne : b ≠ b' := fun e => hnb (by rw [e]; exact hb')
    simp [Array.getElem?_setIfInBounds_ne hne]
  refine k () S _ _ hset rfl (owns_one ⟨news ++ cs.drop news.length, by simp [hbs], ?_⟩ fun b' hb' => ?_) fun b' hb' => .inl ?_
  · refine ⟨?_, ?_⟩
    · simp only [List.length_append, List.length_take, List.length_drop]
      rw [hlen]
      omega
    · refine rdAll_append (rdAll_mono (R := rd S w t) (fun _ _ h => rd_mono (fun _ h => h) hK t h) hn2) ?_
      have h9 := rdAll_drop (fun _ _ h => rd_length t h) l2.length hrd
      have e9 : cs.drop news.length = cs.drop (l2.length * t.cells) := by
        rw [hnl, List.length_take]
        rcases Nat.le_total n l2.length with hh | hh
        · rw [Nat.min_eq_left hh]
          rw [List.drop_eq_nil_of_le (by rw [hcl, hlen]; exact Nat.le_refl _), List.drop_eq_nil_of_le (by rw [hcl, hlen]; exact Nat.mul_le_mul_right _ hh)]
        · rw [Nat.min_eq_right hh]
      rw [← e9] at h9
      exact rdAll_mono (R := rd S w t) (fun _ _ h => rd_mono (fun _ h => h) hK t h) h9
  · simp only [D.foot, Option.some.injEq] at hb'
    subst hb'
    exact ⟨hnb, by simpa using hbs⟩
  · exact feet_obj.2 (feet_obj.1 hb')
end

section
variable {c : Cx} {Γ : Ga} {F : List D} {T : TypeId} {t : Ty}
/-- An own array, as an own slice, and back. -/
theorem SE.arrSl' {b n : Nat} {dd : List t.den} (hm : n ≤ maxLen) : SE c Γ (.obj b T (.rep (.arr n t) dd) :: F) Γ (.sl (.slice (some ⟨b, 0, none⟩) n n) T t dd :: F) := fun a w h => by
  have hn : dd.length = n := by
    obtain ⟨_, _, S, _, _, h5, _⟩ := h
    obtain ⟨cs, _, h2⟩ := h5.holds _ (List.mem_cons_self ..)
    exact h2.1
  exact SE.arrSl hn hm a w h
theorem SE.slArr' {b n : Nat} {dd : List t.den} : SE c Γ (.sl (.slice (some ⟨b, 0, none⟩) n n) T t dd :: F) Γ (.obj b T (.rep (.arr n t) dd) :: F) := fun a w h => by
  have hn : dd.length = n := by
    obtain ⟨_, _, S, _, _, h5, _⟩ := h
    rcases h5.holds _ (List.mem_cons_self ..) with ⟨h1, _⟩ | ⟨b', cap, cc, h1, _⟩
    · simp at h1
    · simp only [Value.slice.injEq] at h1
      exact h1.2.1.symm
  exact SE.slArr hn a w h
end

/-! ### A byte of a literal string -/
section
variable {P : Program} {o : Oper} {y : Operand} {T : TypeId}
/-- The byte of a string at an index of Go. -/
def idxStr (s : ByteArray) (i : Int) : Option UInt8 := if 0 ≤ i then s[i.toNat]? else none
theorem o_index_str {s : ByteArray} {k : IntKind} {i : Int} {b : UInt8} (ho : o.op = .index T (.const (.string s)) y) (hT : P.underlying T = some .string) (hd : idxStr s i = some b) :
    OpT P o [(y, .eq (.int k i))] [] (fun _ : Unit => (.eq (.int .u8 b.toNat), [])) :=
  .val0 fun S w a hN => by
    have e1 : a.eval y = .int k i := hN.1
    have e2 : a.eval (.const (.string s)) = .string s := rfl
    refine ⟨.int .u8 b.toNat, ?_, rfl⟩
    unfold idxStr at hd
    have h1 : (Instr.index T (.string s) (.int k i)).run P w = .ok (.int .u8 b.toNat) w := by
      unfold Instr.index
      simp only [asIntOf, Sem.run_bind, Sem.run_pure, Result.andThen_ok, run_underlying hT, hd]
    simp only [execOp, ho, e1, e2, Sem.run_bind, h1, Result.andThen_ok, Sem.run_pure]
end
end K
end Go.Proofs.Ytfhdclhbdmhnmaa
