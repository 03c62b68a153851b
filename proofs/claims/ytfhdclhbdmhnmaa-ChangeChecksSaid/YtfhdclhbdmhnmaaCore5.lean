/- The calculus, part 5: new variables, stores, slices that are made; freezing; calls; control; loops; returns. -/
import Derived.Test.YtfhdclhbdmhnmaaCore4
namespace Go.Proofs.Ytfhdclhbdmhnmaa
namespace K
open Go

/-- What is known of a row of cells says that it reads as a datum. -/
inductive Ent : A → (t : Ty) → t.den → Prop
  | int {k : IntKind} {n : Int} : Ent (.eq (.int k n)) (.int k) n
  | bool {b : Bool} : Ent (.eq (.bool b)) .bool b
  | val {v : Value} (h : oneCell v = true) : Ent (.eq v) .val v
  | rep {t : Ty} {x : t.den} : Ent (.rep t x) t x
  | ptr {t : Ty} {x : t.den} : Ent (.at t x) (.ptr t) x
  | pair {a b : A} {t u : Ty} {x : t.den} {y : u.den} : Ent a t x → Ent b u y → Ent (.pair a b) (.pair t u) (x, y)
  | agg {a : A} {t : Ty} {x : t.den} : Ent a t x → Ent (.agg a) (.agg t) x
  | nil {t : Ty} {a : Option Addr} {c : Nat} : Ent (.eq (.slice a 0 c)) (.slice t) []
  | tag0 {t0 t1 : TypeId} {n : Int} : Ent (.eq (.iface t0 (.int .i64 n))) (.tag t0 t1) (false, n)
  | tag1 {t0 t1 : TypeId} {n : Int} : Ent (.eq (.iface t1 (.int .i64 n))) (.tag t0 t1) (true, n)
  | ign {v : Value} (h : oneCell v = true) : Ent (.eq v) .ign ()
  | altL {a : A} {t : Ty} {x : t.den} (h : t.cells = 1) : Ent a t x → Ent a (.alt t) (.inl x)
  | altR {v : Value} {t : Ty} (h : oneCell v = true) : Ent (.eq v) (.alt t) (.inr v)

theorem Ent.cells {S : FS} {w : World} {a : A} {t : Ty} {x : t.den} (h : Ent a t x) : ∀ {cs : List Value}, a.cells S w cs → rd S w t x cs := by
  induction h with
  | int => intro cs h; exact h.1
  | bool => intro cs h; exact h.1
  | val hv => intro cs h; exact h
  | rep => intro cs h; exact h
  | ptr => intro cs h; exact h
  | pair _ _ ih1 ih2 => rintro cs ⟨c1, c2, e, h1, h2⟩; exact ⟨c1, c2, e, ih1 h1, ih2 h2⟩
  | agg _ ih => intro cs h; exact ih h
  | nil => intro cs h; exact .inl ⟨_, _, h.1, rfl⟩
  | tag0 => intro cs h; exact h.1
  | tag1 => intro cs h; exact h.1
  | ign hv => intro cs h; exact ⟨_, h⟩
  | altL ht _ ih => intro cs h; exact ⟨ih h, (rd_length _ (ih h)).trans ht⟩
  | altR hv => intro cs h; exact h

/-- The same of a value. -/
theorem Ent.holds {S : FS} {w : World} {a : A} {t : Ty} {x : t.den} (h : Ent a t x) (hs : a.stor) (hg : a.isAgg = t.isAgg) {v : Value} (hv : a.holds S w v) : (mkA t x).holds S w v := by
  obtain ⟨h1, _, h3⟩ := A.holds_cells hv hs
  rw [h3, hg]
  exact mkA_holds (h.cells h1)

section
variable {P : Program} {o : Oper} {x y z : Operand} {T T' : TypeId} {r r' : A}

theorem alloc_old (w : World) (ob : Obj) (b : Nat) (hb : b < w.heap.size) : (w.alloc ob).heap[b]? = w.heap[b]? := heap_alloc_old w ob hb

theorem feet_nil {b : Nat} (h : feet [] b) : False := by obtain ⟨d, hd, _⟩ := h; simp at hd
theorem feet_one {d : D} {b : Nat} : feet [d] b ↔ d.foot = some b := ⟨fun ⟨e, he, h⟩ => by simp at he; subst he; exact h, fun h => ⟨d, by simp, h⟩⟩
theorem feet_obj {b b' : Nat} {T : TypeId} {a : A} : feet [.obj b T a] b' ↔ b' = b := by rw [feet_one]; simp [D.foot, eq_comm]

theorem owns_one {d : D} {S : FS} {w : World} (h : d.holds S w) (hf : ∀ b, d.foot = some b → ¬ S b ∧ b < w.heap.size) : Owns [d] S w :=
  ⟨fun e he => by simp at he; subst he; exact h, fun b hb => hf b (feet_one.1 hb), List.pairwise_singleton _ _⟩
theorem owns_nil {S : FS} {w : World} : Owns [] S w := ⟨fun e he => by simp at he, fun b hb => (feet_nil hb).elim, List.Pairwise.nil⟩

/-- A new block, S unchanged. -/
theorem step_alloc {X : Nat → Prop} {S : FS} {w : World} (hd : ∀ b, S b → b < w.heap.size) (ob : Obj) : Step X S w S (w.alloc ob) :=
  ⟨fun _ h => h, fun _ h => .inl h, fun b h => by have := hd b h; simp; omega, by simp, fun b hb _ => alloc_old w ob b hb, rfl, rfl, rfl⟩

/-- A new block that is frozen at once. -/
theorem step_alloc_frz {X : Nat → Prop} {S : FS} {w : World} (hd : ∀ b, S b → b < w.heap.size) (ob : Obj) : Step X S w (fun b => S b ∨ b = w.heap.size) (w.alloc ob) :=
  ⟨fun _ h => .inl h, fun b h => h.imp id (fun e => .inl (by omega)), fun b h => h.elim (fun h => by have := hd b h; simp; omega) (fun h => by subst h; simp), by simp, fun b hb _ => alloc_old w ob b hb, rfl, rfl, rfl⟩

theorem o_box (ho : o.op = .box T x) (hs : r.stor) : OpT P o [(x, r)] [] (fun b : Nat => (.eq (.pointer (some ⟨b, 0, none⟩)), [.obj b T r])) := by
  refine ⟨by simp only [nd, *], fun ro S w a next Q hd hN _ k => ?_⟩
  obtain ⟨h1, h2, _⟩ := A.holds_cells hN.1 hs
  have hr : (execOp a.eval o).run P w = .ok (.value (.pointer (some ⟨w.heap.size, 0, none⟩))) (w.alloc (.cells (a.eval x).cells T)) := by
    simp [execOp, ho, Instr.box, newVar, newRow]
  rw [hr]
  refine k w.heap.size S _ _ (step_alloc hd _) rfl (owns_one ⟨(a.eval x).cells.toList, ?_, ?_⟩ ?_) ?_
  · rw [Array.toArray_toList]; exact heap_alloc_new w _
  · exact A.cells_mono (fun _ h => h) (fun b hb => alloc_old w _ b (hd b hb)) r h1
  · intro b hb
    simp only [D.foot, Option.some.injEq] at hb
    subst hb
    exact ⟨fun h => by have := hd _ h; omega, by simp⟩
  · intro b hb
    rw [feet_obj] at hb
    subst hb
    exact .inr (Nat.le_refl _)

theorem o_alloc {zv : Value} {a0 : A} (ho : o.op = .alloc T) (hz : ∀ w, (zeroValue T).run P w = .ok zv w) (ha : ∀ S w, a0.cells S w zv.cells.toList) :
    OpT P o [] [] (fun b : Nat => (.eq (.pointer (some ⟨b, 0, none⟩)), [.obj b T a0])) := by
  refine ⟨by simp only [nd, *], fun ro S w a next Q hd hN _ k => ?_⟩
  have hr : (execOp a.eval o).run P w = .ok (.value (.pointer (some ⟨w.heap.size, 0, none⟩))) (w.alloc (.cells zv.cells T)) := by
    simp [execOp, ho, Instr.alloc, hz, newVar, newRow]
  rw [hr]
  refine k w.heap.size S _ _ (step_alloc hd _) rfl (owns_one ⟨zv.cells.toList, ?_, ha _ _⟩ ?_) ?_
  · rw [Array.toArray_toList]; exact heap_alloc_new w _
  · intro b hb
    simp only [D.foot, Option.some.injEq] at hb
    subst hb
    exact ⟨fun h => by have := hd _ h; omega, by simp⟩
  · intro b hb
    rw [feet_obj] at hb
    subst hb
    exact .inr (Nat.le_refl _)

/-- A block that is owned is written. -/
theorem step_set {X : Nat → Prop} {S : FS} {w : World} (hd : ∀ b, S b → b < w.heap.size) {b : Nat} (hX : X b) (ob : Obj) : Step X S w S { w with heap := w.heap.setIfInBounds b ob } :=
  ⟨fun _ h => h, fun _ h => .inl h, fun b h => by simpa using hd b h, by simp, fun b' _ hx => by
    have hne : b ≠ b' := fun e => hx (by rw [← e]; exact hX)
    simp [Array.getElem?_setIfInBounds_ne hne], rfl, rfl, rfl⟩

theorem o_store {b off n : Nat} {g : Bool} {T0 : TypeId} {a0 a1 : A} (ho : o.op = .store T x y) (ht : SzOk P T n g) (hs : r.stor) (hset : a0.set off n r.isAgg r = some a1) (hn : r.n = n) :
    OpT P o [(x, .eq (.pointer (some ⟨b, off, none⟩))), (y, r)] [.obj b T0 a0] (fun _ : Unit => (.eq undef, [.obj b T0 a1])) := by
  refine ⟨by simp only [nd, *], fun ro S w a next Q hd hN hO k => ?_⟩
  have e1 : a.eval x = .pointer (some ⟨b, off, none⟩) := hN.1
  obtain ⟨h1, h2, _⟩ := A.holds_cells hN.2.1 hs
  obtain ⟨cs, h3, h4⟩ := hO.holds _ (by simp : D.obj b T0 a0 ∈ [D.obj b T0 a0])
  obtain ⟨hnb, hbs⟩ := hO.own b (feet_obj.2 rfl)
  have l := a0.cells_length h4
  obtain ⟨q1, q2⟩ := A.set_spec a0 h4 h1 (h2.trans hn) hset
  have hst := run_storeCells P b T0 off (a.eval y).cells.toList 0 w cs.toArray h3 (fun v hv => A.cells_one r h1 v hv) (by simp only [Nat.add_zero, List.size_toArray]; omega)
  have hsz : (a.eval y).cells.size = n := by rw [← Array.length_toList]; omega
  have hr : (execOp a.eval o).run P w = .ok .skip { w with heap := w.heap.setIfInBounds b (.cells (cs.take off ++ (a.eval y).cells.toList ++ cs.drop (off + n)).toArray T0 (0, 0)) } := by
    simp only [Nat.add_zero, h2, hn] at hst
    simp [execOp, ho, Instr.storeAt, e1, Instr.sureAddr, storeVar, ht.size, hsz, hst]
  rw [hr]
  have hK : Keep S w { w with heap := w.heap.setIfInBounds b (.cells (cs.take off ++ (a.eval y).cells.toList ++ cs.drop (off + n)).toArray T0 (0, 0)) } := fun b' hb' => by
    have hne : b ≠ b' := fun e => hnb (by rw [e]; exact hb')
    simp [Array.getElem?_setIfInBounds_ne hne]
  refine k () S _ _ (step_set hd (feet_obj.2 rfl) _) rfl (owns_one ⟨_, by simp [hbs], A.cells_mono (fun _ h => h) hK a1 q1⟩ ?_) (fun b' hb' => .inl ?_)
  · intro b' hb'
    simp only [D.foot, Option.some.injEq] at hb'
    subst hb'
    exact ⟨hnb, by simpa using hbs⟩
  · rw [feet_obj] at hb' ⊢; exact hb'

/-! ### Composite values -/

@[reducible] def fillA (places : Array (Nat × Nat)) : A → List (Nat × Operand × A) → Option A
  | a, [] => some a
  | a, (i, _, r) :: rest => match places[i]? with
    | some (off, n) => if r.n = n then (match a.set off n r.isAgg r with | some a' => fillA places a' rest | none => none) else none
    | none => none

theorem foldl_set (new : List Value) (off : Nat) : ∀ (k : Nat) (cs : Array Value), off + k + new.length ≤ cs.size →
    ((new.zipIdx k).foldl (fun (cs : Array Value) (p : Value × Nat) => cs.setIfInBounds (off + p.2) p.1) cs).toList = cs.toList.take (off + k) ++ new ++ cs.toList.drop (off + k + new.length) := by
  induction new with
  | nil => intro k cs _; simp
  | cons v new ih =>
    intro k cs h
    simp only [List.length_cons] at h
    simp only [List.zipIdx_cons, List.foldl_cons]
    rw [ih (k + 1) _ (by simp; omega)]
    have hlt : off + k < cs.size := by omega
    rw [Array.toList_setIfInBounds, List.set_eq_take_append_cons_drop, if_pos (by simpa using hlt)]
    have lt : (cs.toList.take (off + k)).length = off + k := by simp; omega
    have e2 : off + (k + 1) = (cs.toList.take (off + k)).length + 1 := by omega
    rw [e2, take_mid, drop_mid, List.drop_drop]
    simp only [List.append_assoc, List.cons_append, List.nil_append, List.length_cons]
    rw [show off + k + 1 + new.length = off + k + (new.length + 1) by omega]

theorem fill_spec {S : FS} {w : World} {a : Act} (places : Array (Nat × Nat)) : ∀ (ps : List (Nat × Operand × A)) (a0 a1 : A) (cs : Array Value), a0.cells S w cs.toList → Needs S w a (ps.map (·.2)) → (∀ p ∈ ps, p.2.2.stor) → fillA places a0 ps = some a1 →
    ∃ cs', Instr.fill (places[·]?) cs (ps.map fun p => (p.1, a.eval p.2.1)) = some cs' ∧ a1.cells S w cs'.toList := by
  intro ps
  induction ps with
  | nil => intro a0 a1 cs h _ _ hf; simp only [fillA, Option.some.injEq] at hf; subst hf; exact ⟨cs, rfl, h⟩
  | cons p ps ih =>
    obtain ⟨i, x, r⟩ := p
    intro a0 a1 cs h hN hs hf
    obtain ⟨h1, h2, _⟩ := A.holds_cells hN.1 (hs (i, x, r) (by simp))
    simp only [fillA] at hf
    cases hp : places[i]? with
    | none => rw [hp] at hf; cases hf
    | some q =>
      obtain ⟨off, n⟩ := q
      rw [hp] at hf
      simp only at hf
      split at hf
      · rename_i hn
        split at hf
        · rename_i a' ha'
          have l := a0.cells_length h
          obtain ⟨q1, q2⟩ := A.set_spec a0 h h1 (h2.trans hn) ha'
          have hsz : (a.eval x).cells.size = n := by rw [← Array.length_toList]; omega
          have hle : off + (a.eval x).cells.size ≤ cs.size := by rw [← Array.length_toList (xs := cs)]; omega
          have hfold := foldl_set (a.eval x).cells.toList off 0 cs (by simp only [Array.length_toList]; omega)
          have hcs : ((a.eval x).cells.zipIdx.foldl (fun cs (c, j) => cs.setIfInBounds (off + j) c) cs).toList = cs.toList.take off ++ (a.eval x).cells.toList ++ cs.toList.drop (off + n) := by
            rw [← Array.foldl_toList, Array.toList_zipIdx]
            simp only [Nat.add_zero, Array.length_toList, hsz] at hfold
            exact hfold
          obtain ⟨cs', e, h3⟩ := ih a' a1 _ (by rw [hcs]; exact q1) hN.2 (fun p hp => hs p (List.mem_cons_of_mem _ hp)) hf
          refine ⟨cs', ?_, h3⟩
          simp only [List.map_cons, Instr.fill, hp]
          rw [if_neg (by simp [hsz]; omega)]
          exact e
        · cases hf
      · cases hf

theorem o_build {fs : Array Field} {places : Array (Nat × Nat)} {zv : Value} {a0 a1 : A} (ps : List (Nat × Operand × A)) (ho : o.op = .build T (ps.map fun p => (p.1, p.2.1)).toArray) (hT : P.underlying T = some (.struct fs))
    (hpl : ∀ w, (fs.mapM fun f => (do pure (f.offset, ← sizeOf f.type) : Sem (Nat × Nat))).run P w = .ok places w) (hz : ∀ w, (zeroValue T).run P w = .ok zv w) (ha : ∀ S w, a0.cells S w zv.cells.toList)
    (hs : ∀ p ∈ ps, p.2.2.stor) (hf : fillA places a0 ps = some a1) : OpT P o (ps.map (·.2)) [] (fun _ : Unit => (.agg a1, [])) :=
  .val0 fun S w a hN => by
    obtain ⟨cs', e, h⟩ := fill_spec places ps a0 a1 zv.cells (ha S w) hN hs hf
    refine ⟨.agg cs', ?_, cs'.toList, h, by simp⟩
    simp only [execOp, ho, Instr.build, Sem.run_bind, hz, Result.andThen_ok, run_underlying hT, hpl, Sem.run_pure]
    have e' : ((ps.map fun p => (p.1, p.2.1)).toArray.map fun (q : Nat × Operand) => (q.1, a.eval q.2)).toList = ps.map fun p => (p.1, a.eval p.2.1) := by simp
    rw [e', e]
    rfl

end
end K
end Go.Proofs.Ytfhdclhbdmhnmaa
