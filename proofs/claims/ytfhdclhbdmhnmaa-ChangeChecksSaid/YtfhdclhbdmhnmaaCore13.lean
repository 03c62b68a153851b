/- The calculus, part 13: fields of values, the greater and the lesser, elements of own arrays and slices, comparisons of structs, parts of slices. -/
import Derived.Test.YtfhdclhbdmhnmaaCore12
import Derived.Laws.StructEq
namespace Go.Proofs.Ytfhdclhbdmhnmaa
namespace K
open Go

/-- A datum's cells, where it is made of numbers and truth values alone. -/
@[reducible] def encT : (t : Ty) → t.den → List Value
  | .int k, n => [.int k n]
  | .bool, b => [.bool b]
  | .pair a b, x => encT a x.1 ++ encT b x.2
  | .agg t, x => encT t x
  | _, _ => []

@[reducible] def Ty.plain : Ty → Bool
  | .int _ => true
  | .bool => true
  | .pair a b => a.plain && b.plain
  | .agg t => t.plain
  | _ => false

theorem rd_enc {S : FS} {w : World} (t : Ty) : ∀ {x : t.den} {cs : List Value}, t.plain = true → rd S w t x cs → cs = encT t x := by
  induction t with
  | int k => intro x cs _ h; exact h
  | bool => intro x cs _ h; exact h
  | pair a b iha ihb =>
    rintro x cs hp ⟨c1, c2, rfl, h1, h2⟩
    simp only [Ty.plain, Bool.and_eq_true] at hp
    rw [iha hp.1 h1, ihb hp.2 h2]
  | agg t ih => intro x cs hp h; exact ih hp h
  | _ => intro x cs hp _; simp [Ty.plain] at hp

/-- Structs of this type are compared as data. -/
structure EqOk (P : Program) (T : TypeId) (t : Ty) : Prop where
  plain : t.plain = true
  guard : P.eqGuardType P.depth T = false
  eql : ∀ (w : World) (x y : t.den), ∃ r : Bool, (Op.equalIn 10000 T (.agg (encT t x).toArray) (.agg (encT t y).toArray)).run P w = .ok r w ∧ (r = true ↔ x = y)

section
variable {P : Program} {o : Oper} {x y z : Operand} {T T' e : TypeId} {r r' : A} {t u : Ty}

theorem o_neqs {p q : t.den} [Decidable (p = q)] (ho : o.op = .binOp .neq T x y T') (h : EqOk P T t) (hag : t.isAgg = true) : OpT P o [(x, .rep t p), (y, .rep t q)] [] (fun _ : Unit => (.eq (.bool (!decide (p = q))), [])) :=
  .val0 fun S w a hN => by
    obtain ⟨c1, h1, e1⟩ := hN.1
    obtain ⟨c2, h2, e2⟩ := hN.2.1
    have h1 := rd_enc t h.plain h1
    have h2 := rd_enc t h.plain h2
    subst h1 h2
    obtain ⟨b, g1, g2⟩ := h.eql w p q
    have e1' : a.eval x = .agg (encT t p).toArray := by rw [e1]; simp [mk, hag]
    have e2' : a.eval y = .agg (encT t q).toArray := by rw [e2]; simp [mk, hag]
    refine ⟨.bool (!b), by simp only [execOp, ho, e1', e2', Sem.run_bind, run_eqGuard_agg w _ _ _ _ _ _ h.guard, run_neq_struct, g1, Result.andThen_ok, Sem.run_pure], ?_⟩
    show Value.bool (!b) = _
    congr 2
    by_cases hpq : p = q
    · rw [decide_eq_true hpq, g2.2 hpq]
    · rw [decide_eq_false hpq]
      cases b
      · rfl
      · exact absurd (g2.1 rfl) hpq

/-! ### The greater and the lesser -/

theorem o_max {k : IntKind} {n m : Int} {c : Call} {ts : Array TypeId} (ho : o.op = .call c) (hc : c = { callee := .builtin .max, args := #[x, y], argTypes := ts }) :
    OpT P o [(x, .eq (.int k n)), (y, .eq (.int k m))] [] (fun _ : Unit => (.eq (.int k (imax n m)), [])) :=
  .val0 fun S w a h => by
    have e1 : a.eval x = .int k n := h.1
    have e2 : a.eval y = .int k m := h.2.1
    refine ⟨.int k (imax n m), ?_, rfl⟩
    have hm := run_max_int2 (P := P) w ts o.type k k n m
    simp [execOp, ho, hc, resolve, invoke, builtin, e1, e2, hm, imax]

/-! ### Structs that are made -/

def BdOk (P : Program) (T : TypeId) (places : Array (Nat × Nat)) : Prop := ∃ fs : Array Field, P.underlying T = some (.struct fs) ∧ ∀ w, (fs.mapM fun f => (do pure (f.offset, ← sizeOf f.type) : Sem (Nat × Nat))).run P w = .ok places w

theorem o_buildT {places : Array (Nat × Nat)} {zv : Value} {a0 a1 : A} (ps : List (Nat × Operand × A)) (ho : o.op = .build T (ps.map fun p => (p.1, p.2.1)).toArray) (hT : BdOk P T places)
    (hz : ∀ w, (zeroValue T).run P w = .ok zv w) (ha : ∀ S w, a0.cells S w zv.cells.toList) (hs : ∀ p ∈ ps, p.2.2.stor) (hf : fillA places a0 ps = some a1) : OpT P o (ps.map (·.2)) [] (fun _ : Unit => (.agg a1, [])) := by
  obtain ⟨fs, h1, h2⟩ := hT
  exact o_build ps ho h1 h2 hz ha hs hf

/-! ### Literal slices, with their size by computation -/

theorem lit_small {n m : Nat} {k : Nat} (hn : n = k) (h : Nat.ble (n * m) 16777216 = true) : k * m ≤ 16777216 := by
  subst hn
  exact Nat.le_of_ble_eq_true h

theorem o_litB {bytes n : Nat} (ps : List (Operand × A)) (l : List t.den) (ho : o.op = .buildSlice T n (ps.zipIdx.map fun p => (p.2, p.1.1)).toArray) (hn : n = ps.length) (hT : SlOk P T e t.cells bytes) (he : Ents t ps l)
    (hb : Nat.ble (n * t.cells) 16777216 = true) (hl : l.length = ps.length) : OpT P o ps [] (fun _ : Unit => (.rep (.slice t) l, [])) := o_lit ps l ho hn hT he (lit_small hn hb) hl
theorem o_litB_own {bytes n : Nat} (ps : List (Operand × A)) (l : List t.den) (ho : o.op = .buildSlice T n (ps.zipIdx.map fun p => (p.2, p.1.1)).toArray) (hn : n = ps.length) (hT : SlOk P T e t.cells bytes) (he : Ents t ps l)
    (hb : Nat.ble (n * t.cells) 16777216 = true) (hl : l.length = ps.length) : OpT P o ps [] (fun v : Value => (.eq v, [.sl v e t l])) := o_lit_own ps l ho hn hT he (lit_small hn hb) hl

/-! ### Elements of arrays in own variables -/

theorem rdAll_take_drop {α : Type} {R : α → List Value → Prop} {m : Nat} (hR : ∀ x cs, R x cs → cs.length = m) : ∀ {l : List α} {cs : List Value} {i : Nat} {x' : α} {new : List Value}, rdAll R l cs → i < l.length → R x' new →
    rdAll R (l.set i x') (cs.take (i * m) ++ new ++ cs.drop (i * m + m))
  | [], _, i, _, _, _, hi, _ => by simp at hi
  | x0 :: l, _, i, x', new, ⟨c1, c2, rfl, h1, h2⟩, hi, hx => by
    have l1 := hR _ _ h1
    cases i with
    | zero =>
      rw [Nat.zero_mul, List.take_zero, List.nil_append, Nat.zero_add, List.drop_append, List.drop_eq_nil_of_le (by omega), List.nil_append, l1, Nat.sub_self, List.drop_zero]
      exact ⟨new, c2, rfl, hx, h2⟩
    | succ i =>
      have ih := rdAll_take_drop hR h2 (i := i) (by simpa using hi) hx
      refine ⟨c1, _, ?_, h1, ih⟩
      have e1 : (i + 1) * m = c1.length + i * m := by rw [Nat.add_mul, l1]; omega
      rw [e1, List.take_append, List.take_of_length_le (by omega), Nat.add_sub_cancel_left, List.append_assoc, List.append_assoc, List.append_assoc,
        show c1.length + i * m + m = c1.length + (i * m + m) by omega, List.drop_append, List.drop_eq_nil_of_le (by omega), Nat.add_sub_cancel_left, List.nil_append]

theorem o_load_arr {b off n N k : Nat} {i : Int} {g : Bool} {T0 : TypeId} {a0 : A} {l : List t.den} {d : t.den} (ho : o.op = .load T x) (ht : SzOk P T n g) (hg : g = false → n = 1) (hget : a0.get off (N * t.cells) true = some (.rep (.arr N t) l))
    (hn : t.cells = n) (hag : t.isAgg = g) (hk : k = off + i.toNat * t.cells) (hl : geti l i = some d) :
    OpT P o [(x, .eq (.pointer (some ⟨b, k, none⟩)))] [.obj b T0 a0] (fun _ : Unit => (mkA t d, [.obj b T0 a0])) :=
  .val1 fun S w a h hs => by
    have e : a.eval x = .pointer (some ⟨b, k, none⟩) := h.1
    obtain ⟨cs, h1, h2⟩ := hs
    have l0 := a0.cells_length h2
    obtain ⟨h3, h4⟩ := A.get_spec a0 h2 hget
    subst hn hk
    obtain ⟨cs', ⟨q1, q2⟩, q3⟩ := h3
    have q4 : (cs.drop off).take (N * t.cells) = cs' := by simpa [mk] using q3
    subst q4
    obtain ⟨g0, g1, g2⟩ := geti_some hl
    obtain ⟨r1, r2⟩ := rdAll_get (fun _ _ h => rd_length t h) q2 g2
    have hi : i.toNat < N := by omega
    have hle : i.toNat * t.cells + t.cells ≤ N * t.cells := by
      rw [← Nat.succ_mul]; exact Nat.mul_le_mul_right _ hi
    have r3 : ((cs.drop off).drop (i.toNat * t.cells)).take t.cells = (((cs.drop off).take (N * t.cells)).drop (i.toNat * t.cells)).take t.cells := by
      rw [List.drop_take, List.take_take, Nat.min_eq_left (by omega)]
    rw [← r3, List.drop_drop] at r1
    have hr := run_loadVar' ht hg h1 (off := off + i.toNat * t.cells) (by simp only [List.size_toArray]; omega)
    rw [← hag] at hr
    refine ⟨_, ?_, mkA_holds r1⟩
    simp [execOp, ho, Instr.loadAt, e, Instr.sureAddr, hr]

theorem o_store_arr {b off n N k : Nat} {i : Int} {g : Bool} {T0 : TypeId} {a0 a1 : A} {l : List t.den} {d : t.den} (ho : o.op = .store T x y) (ht : SzOk P T n g) (he : Ent r t d) (hs : r.stor) (hget : a0.get off (N * t.cells) true = some (.rep (.arr N t) l))
    (hn : t.cells = n) (hk : k = off + i.toNat * t.cells) (h0 : 0 ≤ i) (hi : i < N) (hset : a0.set off (N * t.cells) true (.rep (.arr N t) (l.set i.toNat d)) = some a1) :
    OpT P o [(x, .eq (.pointer (some ⟨b, k, none⟩))), (y, r)] [.obj b T0 a0] (fun _ : Unit => (.eq undef, [.obj b T0 a1])) := by
  refine ⟨by simp only [nd, *], fun ro S w a next Q hd hN hO kk => ?_⟩
  subst hn hk
  have e1 : a.eval x = .pointer (some ⟨b, off + i.toNat * t.cells, none⟩) := hN.1
  obtain ⟨p1, p2, _⟩ := A.holds_cells hN.2.1 hs
  have p3 := he.cells p1
  have l3 := rd_length t p3
  obtain ⟨cs, h3, h4⟩ := hO.holds _ (by simp : D.obj b T0 a0 ∈ [D.obj b T0 a0])
  obtain ⟨hnb, hbs⟩ := hO.own b (feet_obj.2 rfl)
  have l0 := a0.cells_length h4
  obtain ⟨g1, g2⟩ := A.get_spec a0 h4 hget
  obtain ⟨cs', ⟨q1, q2⟩, q3⟩ := g1
  have q4 : (cs.drop off).take (N * t.cells) = cs' := by simpa [mk] using q3
  subst q4
  have hi' : i.toNat < N := by omega
  have hle : i.toNat * t.cells + t.cells ≤ N * t.cells := by
    rw [← Nat.succ_mul]; exact Nat.mul_le_mul_right _ hi'
  have hrow := rdAll_take_drop (fun _ _ h => rd_length t h) q2 (i := i.toNat) (by omega) p3
  have hlen : (((cs.drop off).take (N * t.cells)).take (i.toNat * t.cells) ++ (a.eval y).cells.toList ++ ((cs.drop off).take (N * t.cells)).drop (i.toNat * t.cells + t.cells)).length = N * t.cells := by
    simp only [List.length_append, List.length_take, List.length_drop]; omega
  obtain ⟨s1, s2⟩ := A.set_spec a0 h4 (r := .rep (.arr N t) (l.set i.toNat d)) ⟨by rw [List.length_set]; exact q1, hrow⟩ hlen hset
  have hcs : cs.take off ++ (((cs.drop off).take (N * t.cells)).take (i.toNat * t.cells) ++ (a.eval y).cells.toList ++ ((cs.drop off).take (N * t.cells)).drop (i.toNat * t.cells + t.cells)) ++ cs.drop (off + N * t.cells) =
      cs.take (off + i.toNat * t.cells) ++ (a.eval y).cells.toList ++ cs.drop (off + i.toNat * t.cells + t.cells) := by
    rw [List.take_take, Nat.min_eq_left (by omega), List.take_add, List.drop_take, List.drop_drop]
    have e5 : cs.drop (off + i.toNat * t.cells + t.cells) = (cs.drop (off + (i.toNat * t.cells + t.cells))).take (N * t.cells - (i.toNat * t.cells + t.cells)) ++ cs.drop (off + N * t.cells) := by
      rw [← Nat.add_assoc]
      conv => lhs; rw [← List.take_append_drop (N * t.cells - (i.toNat * t.cells + t.cells)) (cs.drop (off + i.toNat * t.cells + t.cells))]
      rw [List.drop_drop]
      congr 2
      omega
    rw [e5]
    simp only [List.append_assoc]
  rw [hcs] at s1
  have hst := run_storeCells P b T0 (off + i.toNat * t.cells) (a.eval y).cells.toList 0 w cs.toArray h3 (fun v hv => A.cells_one r p1 v hv) (by simp only [Nat.add_zero, List.size_toArray]; omega)
  have hsz : (a.eval y).cells.size = t.cells := by rw [← Array.length_toList]; omega
  have hr : (execOp a.eval o).run P w = .ok .skip { w with heap := w.heap.setIfInBounds b (.cells (cs.take (off + i.toNat * t.cells) ++ (a.eval y).cells.toList ++ cs.drop (off + i.toNat * t.cells + t.cells)).toArray T0 (0, 0)) } := by
    simp only [Nat.add_zero, l3] at hst
    simp [execOp, ho, Instr.storeAt, e1, Instr.sureAddr, storeVar, ht.size, hsz, hst]
  rw [hr]
  have hK : Keep S w { w with heap := w.heap.setIfInBounds b (.cells (cs.take (off + i.toNat * t.cells) ++ (a.eval y).cells.toList ++ cs.drop (off + i.toNat * t.cells + t.cells)).toArray T0 (0, 0)) } := fun b' hb' => by
    have hne : b ≠ b' := fun e => hnb (by rw [e]; exact hb')
    simp [Array.getElem?_setIfInBounds_ne hne]
  refine kk () S _ _ (step_set hd (feet_obj.2 rfl) _) rfl (owns_one ⟨_, by simp [hbs], A.cells_mono (fun _ h => h) hK a1 s1⟩ ?_) (fun b' hb' => .inl ?_)
  · intro b' hb'
    simp only [D.foot, Option.some.injEq] at hb'
    subst hb'
    exact ⟨hnb, by simpa using hbs⟩
  · rw [feet_obj] at hb' ⊢; exact hb'

/-! ### Elements of own slices -/

/-- A part of a datum is another one. -/
inductive Upd : (t : Ty) → t.den → (off n : Nat) → (u : Ty) → u.den → t.den → Prop
  | whole {t : Ty} {x y : t.den} : Upd t x 0 t.cells t y y
  | left {a b u : Ty} {x : (Ty.pair a b).den} {off n : Nat} {y : u.den} {x' : a.den} (h : Upd a x.1 off n u y x') : Upd (.pair a b) x off n u y (x', x.2)
  | right {a b u : Ty} {x : (Ty.pair a b).den} {off k n : Nat} {y : u.den} {x' : b.den} (h : Upd b x.2 off n u y x') (hk : k = a.cells + off) : Upd (.pair a b) x k n u y (x.1, x')
  | agg {t u : Ty} {x : (Ty.agg t).den} {off n : Nat} {y : u.den} {x' : t.den} (h : Upd t x off n u y x') : Upd (.agg t) x off n u y x'

theorem Upd.spec {S : FS} {w : World} {t u : Ty} {x x' : t.den} {off n : Nat} {y : u.den} (h : Upd t x off n u y x') : ∀ {cs new : List Value}, rd S w t x cs → rd S w u y new → rd S w t x' (cs.take off ++ new ++ cs.drop (off + n)) ∧ off + n ≤ t.cells ∧ n = u.cells := by
  induction h with
  | @whole t x y =>
    intro cs new h1 h2
    have l1 := rd_length t h1
    refine ⟨?_, by omega, rfl⟩
    rw [List.take_zero, List.nil_append, Nat.zero_add, List.drop_eq_nil_of_le (by omega), List.append_nil]
    exact h2
  | @left a b u x off n y x' _ ih =>
    rintro cs new ⟨c1, c2, rfl, h1, h2⟩ h3
    obtain ⟨q1, q2, q3⟩ := ih h1 h3
    have l1 := rd_length a h1
    refine ⟨⟨_, c2, ?_, q1, h2⟩, by simp only [Ty.cells]; omega, q3⟩
    rw [List.take_append_of_le_length (by omega), List.drop_append_of_le_length (by omega)]
    simp only [List.append_assoc]
  | @right a b u x off k n y x' _ hk ih =>
    rintro cs new ⟨c1, c2, rfl, h1, h2⟩ h3
    obtain ⟨q1, q2, q3⟩ := ih h2 h3
    have l1 := rd_length a h1
    refine ⟨⟨c1, _, ?_, h1, q1⟩, by simp only [Ty.cells]; omega, q3⟩
    rw [hk, ← l1, List.take_append, List.take_of_length_le (by omega), Nat.add_sub_cancel_left, List.append_assoc, List.append_assoc, List.append_assoc, show c1.length + off + n = c1.length + (off + n) by omega,
      List.drop_append, List.drop_eq_nil_of_le (by omega), Nat.add_sub_cancel_left, List.nil_append]
  | agg _ ih => intro cs new h1 h2; exact ih h1 h2

theorem splice {α : Type} (C V : List α) (p off n m L : Nat) (hV : V.length = n) (h1 : off + n ≤ m) (h2 : p + m ≤ L) (h3 : L ≤ C.length) :
    (C.take (p + off) ++ V ++ C.drop (p + off + n)).take L = (C.take L).take p ++ ((((C.take L).drop p).take m).take off ++ V ++ (((C.take L).drop p).take m).drop (off + n)) ++ (C.take L).drop (p + m) := by
  have e1 : (C.take L).take p = C.take p := by rw [List.take_take, Nat.min_eq_left (by omega)]
  have e2 : (((C.take L).drop p).take m).take off = (C.drop p).take off := by
    rw [List.take_take, Nat.min_eq_left (by omega), List.drop_take, List.take_take, Nat.min_eq_left (by omega)]
  have e3 : (((C.take L).drop p).take m).drop (off + n) = (C.drop (p + (off + n))).take (m - (off + n)) := by
    rw [List.drop_take, List.drop_drop, List.drop_take, List.take_take, Nat.min_eq_left (by omega)]
  have e4 : (C.take L).drop (p + m) = (C.drop (p + m)).take (L - (p + m)) := by rw [List.drop_take]
  rw [e1, e2, e3, e4]
  have e5 : C.take (p + off) = C.take p ++ (C.drop p).take off := List.take_add
  have e6 : (C.drop (p + (off + n))).take (m - (off + n)) ++ (C.drop (p + m)).take (L - (p + m)) = (C.drop (p + off + n)).take (L - (p + off + n)) := by
    have : L - (p + off + n) = (m - (off + n)) + (L - (p + m)) := by omega
    rw [this, List.take_add, List.drop_drop, show p + off + n + (m - (off + n)) = p + m by omega, ← Nat.add_assoc]
  rw [List.take_append, List.take_of_length_le (by simp only [List.length_append, List.length_take]; omega), e5]
  have e7 : L - (C.take p ++ (C.drop p).take off ++ V).length = L - (p + off + n) := by
    simp only [List.length_append, List.length_take, List.length_drop]; omega
  rw [e7, ← e6]
  simp only [List.append_assoc]

theorem o_store_el {v : Value} {TE : TypeId} {u : Ty} {l : List t.den} {k i off n : Nat} {g : Bool} {d d' : t.den} {z : u.den} (ho : o.op = .store T x y) (ht : SzOk P T n g) (hk : k = i * t.cells + off) (hl : l[i]? = some d) (he : Ent r u z) (hs : r.stor) (hu : Upd t d off n u z d') :
    OpT P o [(x, .eq (elPtr v k)), (y, r)] [.sl v TE t l] (fun _ : Unit => (.eq undef, [.sl v TE t (l.set i d')])) := by
  refine ⟨by simp only [nd, *], fun ro S w a next Q hd hN hO kk => ?_⟩
  have e1 : a.eval x = elPtr v k := hN.1
  obtain ⟨p1, p2, _⟩ := A.holds_cells hN.2.1 hs
  have p3 := he.cells p1
  have l3 := rd_length u p3
  have hi : i < l.length := by
    rcases Nat.lt_or_ge i l.length with h | h
    · exact h
    · simp [List.getElem?_eq_none h] at hl
  rcases hO.holds _ (by simp : D.sl v TE t l ∈ [D.sl v TE t l]) with ⟨rfl, rfl⟩ | ⟨b, cap, c, rfl, q1, q1', q2, q3, q4⟩
  · simp at hi
  have hfoot : ∀ b', feet [D.sl (.slice (some ⟨b, 0, none⟩) l.length cap) TE t l] b' ↔ b' = b := fun b' => by
    rw [feet_one]; simp [D.foot, Value.ownBlock, eq_comm]
  obtain ⟨hnb, hbs⟩ := hO.own b ((hfoot b).2 rfl)
  obtain ⟨r1, r2⟩ := rdAll_get (fun _ _ h => rd_length t h) q4 hl
  obtain ⟨u1, u2, u3⟩ := hu.spec r1 p3
  have hrow := rdAll_take_drop (fun _ _ h => rd_length t h) q4 hi u1
  have hle : i * t.cells + t.cells ≤ l.length * t.cells := by
    rw [← Nat.succ_mul]; exact Nat.mul_le_mul_right _ hi
  have hcap : l.length * t.cells ≤ c.size := by rw [q3]; exact Nat.mul_le_mul_right _ q1
  have lc : c.toList.length = c.size := Array.length_toList
  have hc : c = c.toList.toArray := (Array.toArray_toList).symm
  rw [hc] at q2
  have hst := run_storeCells P b TE k (a.eval y).cells.toList 0 w c.toList.toArray q2 (fun v hv => A.cells_one r p1 v hv) (by simp only [Nat.add_zero, List.size_toArray]; omega)
  have hsz : (a.eval y).cells.size = n := by rw [← Array.length_toList]; omega
  have hr : (execOp a.eval o).run P w = .ok .skip { w with heap := w.heap.setIfInBounds b (.cells (c.toList.take k ++ (a.eval y).cells.toList ++ c.toList.drop (k + n)).toArray TE (0, 0)) } := by
    have e1' : a.eval x = .pointer (some ⟨b, k, none⟩) := by rw [e1]; simp [elPtr]
    have l4 : (a.eval y).cells.toList.length = n := by omega
    simp only [Nat.add_zero, l4] at hst
    simp only [execOp, ho, Instr.storeAt, e1', Instr.sureAddr, storeVar, Sem.run_bind, Sem.run_pure, ht.size, Result.andThen_ok, hsz, ne_eq, not_true, if_false]
    simpa using congrArg (fun r : Result Unit => r.andThen fun _ w' => .ok Next.skip w') hst
  rw [hr]
  generalize hw' : ({ w with heap := w.heap.setIfInBounds b (.cells (c.toList.take k ++ (a.eval y).cells.toList ++ c.toList.drop (k + n)).toArray TE (0, 0)) } : World) = w'
  have hK : Keep S w w' := fun b' hb' => by
    have hne : b ≠ b' := fun e => hnb (by rw [e]; exact hb')
    subst hw'
    simp [Array.getElem?_setIfInBounds_ne hne]
  have hstep : Step (feet [D.sl (.slice (some ⟨b, 0, none⟩) l.length cap) TE t l]) S w S w' := by
    subst hw'
    exact step_set hd ((hfoot b).2 rfl) _
  refine kk () S _ _ hstep rfl (owns_one (.inr ⟨b, cap, (c.toList.take k ++ (a.eval y).cells.toList ++ c.toList.drop (k + n)).toArray, by rw [List.length_set], by rw [List.length_set]; exact q1, q1', by subst hw'; simp [hbs], ?_, ?_⟩) ?_) (fun b' hb' => .inl ?_)
  · simp only [List.size_toArray, List.length_append, List.length_take, List.length_drop]; omega
  · rw [List.length_set, List.toList_toArray]
    have e6 : (c.toList.take k ++ (a.eval y).cells.toList ++ c.toList.drop (k + n)).take (l.length * t.cells) =
        (c.toList.take (l.length * t.cells)).take (i * t.cells) ++ ((((c.toList.take (l.length * t.cells)).drop (i * t.cells)).take t.cells).take off ++ (a.eval y).cells.toList ++ (((c.toList.take (l.length * t.cells)).drop (i * t.cells)).take t.cells).drop (off + n)) ++ (c.toList.take (l.length * t.cells)).drop (i * t.cells + t.cells) := by
      subst hk
      exact splice _ _ _ _ _ _ _ (by omega) u2 hle (by omega)
    rw [e6]
    exact rdAll_mono (fun _ _ h => rd_mono (fun _ h => h) hK t h) hrow
  · intro b' hb'
    have : b' = b := by simpa [D.foot, Value.ownBlock, eq_comm] using hb'
    subst this
    exact ⟨hnb, Nat.lt_of_lt_of_le hbs hstep.size⟩
  · rw [feet_one] at hb'
    have : b' = b := by simpa [D.foot, Value.ownBlock, eq_comm] using hb'
    exact (hfoot b').2 this

theorem geti_lt {α : Type} {l : List α} {i : Int} {x : α} (h : geti l i = some x) : i.toNat < l.length := by
  obtain ⟨h0, h1, _⟩ := geti_some h
  omega

/-- A whole element. -/
theorem o_store_elW {v : Value} {TE : TypeId} {l : List t.den} {k i n : Nat} {g : Bool} {d' : t.den} (ho : o.op = .store T x y) (ht : SzOk P T n g) (hk : k = i * t.cells) (hi : i < l.length) (hn : t.cells = n) (he : Ent r t d') (hs : r.stor) :
    OpT P o [(x, .eq (elPtr v k)), (y, r)] [.sl v TE t l] (fun _ : Unit => (.eq undef, [.sl v TE t (l.set i d')])) := by
  subst hn
  exact o_store_el (off := 0) ho ht hk (List.getElem?_eq_getElem hi) he hs .whole
end
end K
end Go.Proofs.Ytfhdclhbdmhnmaa
