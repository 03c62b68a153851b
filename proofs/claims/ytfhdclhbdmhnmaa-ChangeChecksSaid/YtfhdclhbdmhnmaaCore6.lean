/- The calculus, part 6: slices that are made; what may be forgotten, converted and frozen; calls. -/
import Derived.Test.YtfhdclhbdmhnmaaCore5
import Derived.Maps.AppendAt
namespace Go.Proofs.Ytfhdclhbdmhnmaa
namespace K
open Go

theorem one_eq (v : Value) : v.oneCell' = oneCell v := by cases v <;> rfl

/-- A slice type and its elements. -/
structure SlOk (P : Program) (T e : TypeId) (n bytes : Nat) : Prop where
  und : P.underlying T = some (.slice e)
  ex : ∃ i z, P.info? e = some i ∧ i.zero = some z ∧ i.size = n ∧ i.bytes = bytes ∧ z.cells.size = n
  pos : 0 < n
  small : bytes ≤ 32768

theorem SlOk.of {P : Program} {T e : TypeId} {n bytes : Nat} {z : Value} (hu : P.underlying T = some (.slice e)) (h : (P.info? e).map (fun i => (i.zero, i.size, i.bytes)) = some (some z, n, bytes)) (hz : z.cells.size = n) (hp : Nat.blt 0 n = true) (hb : Nat.ble bytes 32768 = true) : SlOk P T e n bytes := by
  obtain ⟨i, h1, h2⟩ := Option.map_eq_some_iff.1 h
  simp only [Prod.mk.injEq] at h2
  exact ⟨hu, ⟨i, z, h1, h2.1, h2.2.1, h2.2.2, hz⟩, Nat.blt_eq ▸ hp, Nat.le_of_ble_eq_true hb⟩

theorem SlOk.size {P : Program} {T e : TypeId} {n bytes : Nat} (h : SlOk P T e n bytes) (w : World) : (sizeOf e).run P w = .ok n w := by
  obtain ⟨i, z, h1, _, h3, _⟩ := h.ex
  simp [sizeOf, typeInfo, h1, h3]

theorem sl_row {S : FS} {w : World} {v : Value} {T : TypeId} {t : Ty} {l : List t.den} : (D.sl v T t l).holds S w ↔ ∃ xs, w.ownsRow 0 T t.cells v l.length xs ∧ rdAll (rd S w t) l xs := by
  constructor
  · rintro (⟨rfl, rfl⟩ | ⟨b, cap, c, rfl, h1, h1', h2, h3, h4⟩)
    · exact ⟨[], World.ownsRow_nil w 0 T t.cells, rfl⟩
    · exact ⟨_, ⟨rdAll_length (fun _ _ h => rd_length t h) h4, .inr ⟨b, cap, c, rfl, Nat.zero_le _, h2, h1, h1', h3, rfl⟩⟩, h4⟩
  · rintro ⟨xs, ⟨h1, h2⟩, h3⟩
    rcases h2 with ⟨rfl, h2⟩ | ⟨g, cap, cur, rfl, _, h4, h5, h6, h7, h8⟩
    · exact .inl ⟨rfl, List.length_eq_zero_iff.1 h2⟩
    · exact .inr ⟨g, cap, cur, rfl, h5, h6, h4, h7, by rw [h8]; exact h3⟩

theorem step_grown {X : Nat → Prop} {S : FS} {w w' : World} (hd : ∀ b, S b → b < w.heap.size) {row : Option Nat} (hX : ∀ b, row = some b → X b) (h : w.grownBy w' row) : Step X S w S w' :=
  ⟨fun _ h => h, fun _ h => .inl h, fun b hb => Nat.lt_of_lt_of_le (hd b hb) h.size, h.size, fun b hb hx => h.block b hb (fun e => hx (hX b e.symm)), h.os, h.tape, h.output⟩

theorem rdAll_append {α : Type} {R : α → List Value → Prop} : ∀ {l1 l2 : List α} {c1 c2 : List Value}, rdAll R l1 c1 → rdAll R l2 c2 → rdAll R (l1 ++ l2) (c1 ++ c2)
  | [], _, _, _, h1, h2 => by simp [rdAll] at h1; subst h1; exact h2
  | x :: l1, _, _, _, ⟨a, b, rfl, h, h1⟩, h2 => ⟨a, b ++ _, by rw [List.append_assoc], h, rdAll_append h1 h2⟩

theorem rdAll_take {α : Type} {R : α → List Value → Prop} {m : Nat} (hR : ∀ x cs, R x cs → cs.length = m) (k : Nat) : ∀ {l : List α} {cs : List Value}, rdAll R l cs → rdAll R (l.take k) (cs.take (k * m)) := by
  induction k with
  | zero => intro l cs _; simp [rdAll]
  | succ k ih =>
    intro l cs h
    cases l with
    | nil => simp [rdAll] at h; subst h; simp [rdAll]
    | cons x l =>
      obtain ⟨a, b, rfl, h1, h2⟩ := h
      have la := hR _ _ h1
      refine ⟨a, b.take (k * m), ?_, h1, ih h2⟩
      rw [List.take_append, List.take_of_length_le (by rw [la, Nat.add_mul]; omega), la, Nat.add_mul, Nat.one_mul, Nat.add_sub_cancel]

theorem rdAll_rep {α : Type} {R : α → List Value → Prop} {d : α} {cs : List Value} (h : R d cs) : ∀ m : Nat, rdAll R (List.replicate m d) (List.replicate m cs).flatten
  | 0 => rfl
  | m + 1 => ⟨_, _, rfl, h, rdAll_rep h m⟩

section
variable {P : Program} {o : Oper} {x y z : Operand} {T T' e : TypeId} {r r' : A} {t : Ty}

/-- A list that may be made: it is not too long. -/
def okLen (n : Nat) : Prop := n ≤ 4294967296

instance (n : Nat) : Decidable (okLen n) := by unfold okLen; infer_instance

theorem o_append {v : Value} {l l2 : List t.den} {bytes : Nat} {c : Call} (ho : o.op = .call c) (hc : c = { callee := .builtin .append, args := #[x, y], argTypes := #[T, T] }) (hT : SlOk P T e t.cells bytes)
    (hl : okLen (l.length + l2.length)) : OpT P o [(x, .eq v), (y, .rep (.slice t) l2)] [.sl v e t l] (fun v' : Value => (.eq v', [.sl v' e t (l ++ l2)])) := by
  refine ⟨by simp only [nd, *], fun ro S w a next Q hd hN hO k => ?_⟩
  have e1 : a.eval x = v := hN.1
  obtain ⟨cs2, h2, e2⟩ := hN.2.1
  have hown := hO.holds _ (by simp : D.sl v e t l ∈ [D.sl v e t l])
  obtain ⟨xs, hrow, hrd⟩ := sl_row.1 hown
  obtain ⟨i, zv, q1, q2, q3, q4, q5⟩ := hT.ex
  unfold okLen at hl
  have hsm := hT.small
  -- what the append comes to
  have main : ∃ v' w' news, (Builtin.append_ #[T, T] o.type #[v, a.eval y]).run P w = .ok v' w' ∧ w'.ownsRow 0 e t.cells v' (l.length + l2.length) (xs ++ news) ∧ w.grownBy w' v.ownBlock ∧ rdAll (rd S w t) l2 news ∧ (v'.ownBlock = v.ownBlock ∨ v'.ownBlock = some w.heap.size) := by
    rcases h2 with ⟨a0, cap, rfl, rfl⟩ | ⟨b, off, cap, cc, T0, fz, rfl, hle, hS, hb, hr⟩
    · have ey : a.eval y = .slice a0 0 cap := e2
      have hr0 : (Builtin.append_ #[T, T] o.type #[v, .slice a0 0 cap]).run P w = .ok v w := by
        rcases hrow.2 with ⟨rfl, hn⟩ | ⟨g, cap', cur, rfl, _, _, hnc, _⟩
        · cases a0 <;> simp [Builtin.append_, run_underlying hT.und, sizeOf, typeInfo, q1, Builtin.lenOf, Builtin.firstCells, loadCells, loadCellsFrom]
        · cases a0 <;> simp [Builtin.append_, run_underlying hT.und, sizeOf, typeInfo, q1, Builtin.lenOf, Builtin.firstCells, hnc, storeCells, loadCells, loadCellsFrom]
      exact ⟨v, w, [], by rw [ey]; exact hr0, by simpa using hrow, ⟨rfl, rfl, rfl, Nat.le_refl _, fun _ _ _ => rfl⟩, rfl, .inl rfl⟩
    · have ey : a.eval y = .slice (some ⟨b, off, none⟩) l2.length cap := e2
      have hlen := rdAll_length (fun _ _ h => rd_length t h) hr
      have hone := rdAll_one (fun _ _ h => rd_one t h) hr
      have hb1 : l.length + l2.length ≤ maxLen := by unfold maxLen; omega
      have hb2 : (l.length + l2.length) * bytes ≤ 140737488355328 := by
        calc (l.length + l2.length) * bytes ≤ 4294967296 * 32768 := Nat.mul_le_mul hl hsm
          _ ≤ 140737488355328 := by decide
      obtain ⟨v', w', g1, g2, g3, _, g5⟩ := run_append_own_at (P := P) w 0 T o.type e i zv t.cells bytes hT.und q1 q2 q3 q4 q5 hT.pos v l.length xs hrow ⟨b, off, none⟩ l2.length cap _ hlen
        (fun j u hu => by
          rw [Addr.add_mk]
          rw [List.getElem?_take] at hu
          split at hu
          · simp only [List.getElem?_drop, Array.getElem?_toList] at hu
            simp [World.cell?, hb, hu]
          · cases hu) (fun u hu => by rw [one_eq]; exact hone u hu) hb1 hb2 (Nat.zero_le _)
      exact ⟨v', w', _, by rw [ey]; exact g1, g2, g3, hr, g5⟩
  obtain ⟨v', w', news, g1, g2, g3, g4, g5⟩ := main
  have hr : (execOp a.eval o).run P w = .ok (.value v') w' := by
    simp [execOp, ho, hc, resolve, invoke, builtin, e1, g1]
  have hX : ∀ b, v.ownBlock = some b → feet [D.sl v e t l] b := fun b h => feet_one.2 h
  have hK : Keep S w w' := fun b hb => g3.block b (hd b hb) (fun h => (hO.own b (hX b h.symm)).1 hb)
  have hlen' : (l ++ l2).length = l.length + l2.length := by simp
  rw [hr]
  refine k v' S w' v' (step_grown hd hX g3) rfl (owns_one (sl_row.2 ⟨xs ++ news, by rw [hlen']; exact g2, rdAll_append (rdAll_mono (fun _ _ h => rd_mono (fun _ h => h) hK t h) hrd) (rdAll_mono (fun _ _ h => rd_mono (fun _ h => h) hK t h) g4)⟩) ?_) ?_
  · intro b hb
    have hb' : v'.ownBlock = some b := hb
    refine ⟨fun hS => ?_, (g2.lt b hb).2⟩
    rcases g5 with g5 | g5
    · exact (hO.own b (hX b (by rw [← g5]; exact hb'))).1 hS
    · rw [g5] at hb'
      cases hb'
      have := hd _ hS
      omega
  · intro b hb
    have hb' : v'.ownBlock = some b := feet_one.1 hb
    rcases g5 with g5 | g5
    · exact .inl (hX b (by rw [← g5]; exact hb'))
    · rw [g5] at hb'
      cases hb'
      exact .inr (Nat.le_refl _)

/-- Operands, what is known of them, and that they read as these data. -/
inductive Ents (t : Ty) : List (Operand × A) → List t.den → Prop
  | nil : Ents t [] []
  | cons {x : Operand} {r : A} {d : t.den} {ps : List (Operand × A)} {l : List t.den} (hs : r.stor) (h : Ent r t d) (ht : Ents t ps l) : Ents t ((x, r) :: ps) (d :: l)

theorem fill_slice {S : FS} {w : World} {a : Act} {m : Nat} (hm : t.cells = m) : ∀ (ps : List (Operand × A)) (l : List t.den) (k : Nat) (cs : Array Value), Ents t ps l → Needs S w a ps → (k + ps.length) * m ≤ cs.size →
    ∃ news cs', Instr.fill (fun i => some (i * m, m)) cs ((ps.zipIdx k).map fun p => (p.2, a.eval p.1.1)) = some cs' ∧ rdAll (rd S w t) l news ∧ news.length = l.length * m ∧
      cs'.toList = cs.toList.take (k * m) ++ news ++ cs.toList.drop (k * m + news.length) := by
  intro ps
  induction ps with
  | nil =>
    intro l k cs he _ hk
    cases he
    exact ⟨[], cs, rfl, rfl, by simp, by simp⟩
  | cons p ps ih =>
    obtain ⟨x, r⟩ := p
    intro l k cs he hN hk
    cases he with
    | cons hs h ht =>
    rename_i d l
    obtain ⟨h1, h2, _⟩ := A.holds_cells hN.1 hs
    have h3 := h.cells h1
    have l3 := rd_length t h3
    simp only [List.length_cons] at hk
    have e1 : (k + 1) * m = k * m + m := by rw [Nat.add_mul]; omega
    have e2 : (k + (ps.length + 1)) * m = k * m + m + ps.length * m := by rw [Nat.add_mul, Nat.add_mul]; omega
    have hsz : (a.eval x).cells.size = m := by rw [← Array.length_toList]; omega
    have hfold := foldl_set (a.eval x).cells.toList (k * m) 0 cs (by simp only [Array.length_toList]; omega)
    have hcs : ((a.eval x).cells.zipIdx.foldl (fun cs (c, j) => cs.setIfInBounds (k * m + j) c) cs).toList = cs.toList.take (k * m) ++ (a.eval x).cells.toList ++ cs.toList.drop (k * m + m) := by
      rw [← Array.foldl_toList, Array.toList_zipIdx]
      simp only [Nat.add_zero, Array.length_toList, hsz] at hfold
      exact hfold
    have hsize : ((a.eval x).cells.zipIdx.foldl (fun cs (c, j) => cs.setIfInBounds (k * m + j) c) cs).size = cs.size := by
      rw [← Array.length_toList, hcs, ← Array.length_toList (xs := cs)]
      simp only [List.length_append, List.length_take, List.length_drop, Array.length_toList, hsz]
      omega
    obtain ⟨news, cs', e, g1, g2, g3⟩ := ih l (k + 1) _ ht hN.2 (by rw [hsize]; have : (k + 1 + ps.length) * m = k * m + m + ps.length * m := by rw [Nat.add_mul, Nat.add_mul]; omega
                                                                    omega)
    refine ⟨(a.eval x).cells.toList ++ news, cs', ?_, ⟨_, _, rfl, h3, g1⟩, by simp only [List.length_append, List.length_cons, Array.length_toList, hsz, g2, Nat.add_mul]; omega, ?_⟩
    · simp only [List.zipIdx_cons, List.map_cons, Instr.fill]
      rw [if_neg (by simp [hsz]; omega)]
      exact e
    · rw [g3, hcs, e1]
      have e5 : (a.eval x).cells.toList.length = m := by rw [Array.length_toList, hsz]
      have lt : (cs.toList.take (k * m) ++ (a.eval x).cells.toList).length = k * m + m := by
        simp only [List.length_append, List.length_take, Array.length_toList, hsz]; omega
      rw [List.take_append_of_le_length (by omega), List.take_of_length_le (by omega), List.drop_append, List.drop_eq_nil_of_le (by omega), List.nil_append, lt, List.drop_drop, List.length_append, e5]
      rw [show k * m + m + (k * m + m + news.length - (k * m + m)) = k * m + (m + news.length) by omega, List.append_assoc (cs.toList.take (k * m))]

theorem run_buildSlice {bytes : Nat} (hT : SlOk P T e t.cells bytes) {S : FS} {w : World} {a : Act} (ps : List (Operand × A)) (l : List t.den) (he : Ents t ps l) (hN : Needs S w a ps) (hn : ps.length * t.cells ≤ 16777216) (hl : l.length = ps.length) :
    ∃ news, (Instr.buildSlice T ps.length (ps.zipIdx.map fun p => (p.2, a.eval p.1.1)).toArray).run P w = .ok (.slice (some ⟨w.heap.size, 0, none⟩) l.length l.length) (w.alloc (.cells news.toArray e)) ∧ rdAll (rd S w t) l news ∧ news.length = l.length * t.cells := by
  obtain ⟨i, zv, q1, q2, q3, q4, q5⟩ := hT.ex
  have hsz := hT.size w
  by_cases hz : ps.length * t.cells = 0
  · have hp : ps = [] := by
      have := hT.pos
      rcases Nat.mul_eq_zero.1 hz with h | h
      · exact List.length_eq_zero_iff.1 h
      · omega
    subst hp
    cases he
    refine ⟨[], ?_, rfl, by simp⟩
    simp [Instr.buildSlice, run_underlying hT.und, hsz, Instr.fill, newRow, Array.range_zero']
  · obtain ⟨news, cs', e1, g1, g2, g3⟩ := fill_slice rfl ps l 0 ((Array.range (ps.length * t.cells)).map (zv.cells[· % zv.cells.size]!)) he hN (by simp)
    refine ⟨news, ?_, g1, g2⟩
    have e2 : cs' = news.toArray := by
      apply Array.ext'
      rw [g3, Nat.zero_mul, List.take_zero, List.nil_append, Nat.zero_add, List.drop_eq_nil_of_le (by simp [g2, hl]), List.append_nil]
    subst e2
    have hn' : ¬ (16777216 < ps.length * t.cells) := by omega
    simp only [Instr.buildSlice, Sem.run_bind, run_underlying hT.und, Result.andThen_ok, hsz]
    simp [hn', hz, zeroValue, typeInfo, q1, q2, newRow]
    rw [e1]
    simp [hl]

/-- A literal slice, the call's own. -/
theorem o_lit_own {bytes n : Nat} (ps : List (Operand × A)) (l : List t.den) (ho : o.op = .buildSlice T n (ps.zipIdx.map fun p => (p.2, p.1.1)).toArray) (hn : n = ps.length) (hT : SlOk P T e t.cells bytes) (he : Ents t ps l)
    (hsz : ps.length * t.cells ≤ 16777216) (hl : l.length = ps.length) : OpT P o ps [] (fun v : Value => (.eq v, [.sl v e t l])) := by
  refine ⟨by simp only [nd, *], fun ro S w a next Q hd hN _ k => ?_⟩
  obtain ⟨news, h1, h2, h3⟩ := run_buildSlice hT ps l he hN hsz hl
  have hr : (execOp a.eval o).run P w = .ok (.value (.slice (some ⟨w.heap.size, 0, none⟩) l.length l.length)) (w.alloc (.cells news.toArray e)) := by
    have e1 : (ps.zipIdx.map fun p => (p.2, p.1.1)).toArray.map (fun (q : Nat × Operand) => (q.1, a.eval q.2)) = (ps.zipIdx.map fun p => (p.2, a.eval p.1.1)).toArray := by simp
    simp only [execOp, ho, hn, e1, Sem.run_bind, h1, Result.andThen_ok, Sem.run_pure]
  rw [hr]
  have hK : Keep S w (w.alloc (.cells news.toArray e)) := fun b hb => alloc_old w _ b (hd b hb)
  refine k _ S _ _ (step_alloc hd _) rfl (owns_one (.inr ⟨w.heap.size, l.length, news.toArray, rfl, Nat.le_refl _, by unfold maxLen; have := hT.pos; have : l.length * 1 ≤ l.length * t.cells := Nat.mul_le_mul_left _ hT.pos; rw [← hl] at hsz; omega, heap_alloc_new w _, by simpa using h3, ?_⟩) ?_) ?_
  · rw [List.toList_toArray, List.take_of_length_le (by omega)]
    exact rdAll_mono (fun _ _ h => rd_mono (fun _ h => h) hK t h) h2
  · intro b hb
    have hb' : b = w.heap.size := by simpa [D.foot, Value.ownBlock, eq_comm] using hb
    subst hb'
    exact ⟨fun h => by have := hd _ h; omega, by simp⟩
  · intro b hb
    have hb' : b = w.heap.size := by simpa [D.foot, Value.ownBlock, eq_comm] using feet_one.1 hb
    exact .inr (by omega)

/-- A literal slice, frozen at once. -/
theorem o_lit {bytes n : Nat} (ps : List (Operand × A)) (l : List t.den) (ho : o.op = .buildSlice T n (ps.zipIdx.map fun p => (p.2, p.1.1)).toArray) (hn : n = ps.length) (hT : SlOk P T e t.cells bytes) (he : Ents t ps l)
    (hsz : ps.length * t.cells ≤ 16777216) (hl : l.length = ps.length) : OpT P o ps [] (fun _ : Unit => (.rep (.slice t) l, [])) := by
  refine ⟨by simp only [nd, *], fun ro S w a next Q hd hN _ k => ?_⟩
  obtain ⟨news, h1, h2, h3⟩ := run_buildSlice hT ps l he hN hsz hl
  have hr : (execOp a.eval o).run P w = .ok (.value (.slice (some ⟨w.heap.size, 0, none⟩) l.length l.length)) (w.alloc (.cells news.toArray e)) := by
    have e1 : (ps.zipIdx.map fun p => (p.2, p.1.1)).toArray.map (fun (q : Nat × Operand) => (q.1, a.eval q.2)) = (ps.zipIdx.map fun p => (p.2, a.eval p.1.1)).toArray := by simp
    simp only [execOp, ho, hn, e1, Sem.run_bind, h1, Result.andThen_ok, Sem.run_pure]
  rw [hr]
  have hK : Keep S w (w.alloc (.cells news.toArray e)) := fun b hb => alloc_old w _ b (hd b hb)
  refine k () _ _ _ (step_alloc_frz hd _) ⟨_, .inr ⟨w.heap.size, 0, l.length, news.toArray, e, (0, 0), rfl, Nat.le_refl _, .inr rfl, heap_alloc_new w _, ?_⟩, rfl⟩ owns_nil (fun b hb => (feet_nil hb).elim)
  rw [List.toList_toArray, List.drop_zero, List.take_of_length_le (by omega)]
  exact rdAll_mono (fun _ _ h => rd_mono (fun _ h => .inl h) hK t h) h2

/-- 'make' of a slice: all zero. -/
theorem o_make {bytes : Nat} {n : Int} {d : t.den} (ho : o.op = .makeSlice T x y) (hT : SlOk P T e t.cells bytes) (hz : ∀ i z, P.info? e = some i → i.zero = some z → ∀ S w, rd S w t d z.cells.toList) (h0 : 0 ≤ n) (hn : okLen n.toNat) :
    OpT P o [(x, .eq (.int .i64 n)), (y, .eq (.int .i64 n))] [] (fun v : Value => (.eq v, [.sl v e t (List.replicate n.toNat d)])) := by
  refine ⟨by simp only [nd, *], fun ro S w a next Q hd hN _ k => ?_⟩
  have e1 : a.eval x = .int .i64 n := hN.1
  have e2 : a.eval y = .int .i64 n := hN.2.1
  obtain ⟨i, zv, q1, q2, q3, q4, q5⟩ := hT.ex
  have hsm := hT.small
  unfold okLen at hn
  obtain ⟨m, rfl⟩ := Int.eq_ofNat_of_zero_le h0
  simp only [Int.toNat_natCast] at hn ⊢
  have hb : i.bytes * m ≤ 281474976710656 := by
    rw [q4]
    calc bytes * m ≤ 32768 * 4294967296 := Nat.mul_le_mul hsm hn
      _ ≤ 281474976710656 := by decide
  have hb' : (i.bytes : Int) * (m : Int) ≤ 281474976710656 := by
    have h : ((i.bytes * m : Nat) : Int) ≤ 281474976710656 := by omega
    rwa [Int.natCast_mul] at h
  have hr0 := run_make (P := P) w T e i zv hT.und q1 q2 .i64 .i64 m m h0 (Int.le_refl _) hb' (by omega)
  simp only [Int.toNat_natCast] at hr0
  have hr : (execOp a.eval o).run P w = .ok (.value (.slice (some ⟨w.heap.size, 0, none⟩) m m)) (w.alloc (.cells (madeCells zv.cells (m * i.size)) e)) := by
    simp only [execOp, ho, e1, e2, Sem.run_bind, hr0, Result.andThen_ok, Sem.run_pure]
  have hall : rdAll (rd S (w.alloc (.cells (madeCells zv.cells (m * i.size)) e)) t) (List.replicate m d) (madeCells zv.cells (m * i.size)).toList := by
    rw [q3]
    have hzz := hz i zv q1 q2 S (w.alloc (.cells (madeCells zv.cells (m * i.size)) e))
    rw [q3] at hzz
    generalize (w.alloc (.cells (madeCells zv.cells (m * t.cells)) e)) = w1 at hzz
    clear hr hr0
    have key : ∀ m : Nat, (madeCells zv.cells (m * t.cells)).toList = (List.replicate m zv.cells.toList).flatten := by
      intro m
      apply List.ext_getElem?
      intro j
      have hp := hT.pos
      simp only [madeCells, Array.toList_map, Array.toList_range, List.getElem?_map]
      have hfl : ∀ (m j : Nat), (List.replicate m zv.cells.toList).flatten[j]? = if j < m * t.cells then zv.cells[j % t.cells]? else none := by
        intro m
        induction m with
        | zero => intro j; simp
        | succ m ih =>
          intro j
          rw [List.replicate_succ, List.flatten_cons, List.getElem?_append]
          simp only [Array.length_toList, q5]
          split
          · rename_i hj
            rw [if_pos (by rw [Nat.add_mul]; omega), Nat.mod_eq_of_lt hj]
            simp
          · rename_i hj
            rw [ih, show (m + 1) * t.cells = m * t.cells + t.cells by rw [Nat.add_mul]; omega]
            have : (j - t.cells) % t.cells = j % t.cells := by
              rw [← Nat.mod_eq_sub_mod (by omega)]
            rw [this]
            by_cases hj2 : j < m * t.cells + t.cells
            · rw [if_pos hj2, if_pos (by omega)]
            · rw [if_neg hj2, if_neg (by omega)]
      rw [hfl]
      by_cases hj : j < m * t.cells
      · rw [if_pos hj, List.getElem?_range hj]
        have hlt : j % t.cells < zv.cells.size := by rw [q5]; exact Nat.mod_lt _ hp
        simp only [Option.map_some, q5]
        rw [Array.getElem?_eq_getElem hlt]
        congr 1
        exact getElem!_pos zv.cells (j % t.cells) hlt
      · rw [if_neg hj, List.getElem?_eq_none (by simpa using hj)]
        rfl
    rw [key]
    exact rdAll_rep hzz m
  have hmsz : (madeCells zv.cells (m * i.size)).size = m * t.cells := by simp [madeCells, q3]
  rw [hr]
  refine k _ S _ _ (step_alloc hd _) rfl (owns_one (.inr ⟨w.heap.size, m, madeCells zv.cells (m * i.size), by simp, by simp, by unfold maxLen; omega, heap_alloc_new w _, hmsz, ?_⟩) ?_) ?_
  · rw [List.length_replicate, List.take_of_length_le (by rw [Array.length_toList, hmsz]; exact Nat.le_refl _)]
    exact hall
  · intro b hb
    have hb' : b = w.heap.size := by simpa [D.foot, Value.ownBlock, eq_comm] using hb
    subst hb'
    exact ⟨fun h => by have := hd _ h; omega, by simp⟩
  · intro b hb
    have hb' : b = w.heap.size := by simpa [D.foot, Value.ownBlock, eq_comm] using feet_one.1 hb
    exact .inr (by omega)

end
end K
end Go.Proofs.Ytfhdclhbdmhnmaa
