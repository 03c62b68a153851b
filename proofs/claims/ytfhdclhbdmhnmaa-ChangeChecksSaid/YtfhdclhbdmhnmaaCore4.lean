/- The calculus, part 4: what the single operations do: moves, numbers, addresses, loads, stores, new variables. -/
import Derived.Test.YtfhdclhbdmhnmaaCore3
namespace Go.Proofs.Ytfhdclhbdmhnmaa
namespace K
open Go

theorem OpT.val0 {P : Program} {o : Oper} {N : List (Operand × A)} {r : A}
    (h : ∀ (S : FS) (w : World) (a : Act), Needs S w a N → ∃ v, (execOp a.eval o).run P w = .ok (.value v) w ∧ r.holds S w v) (hnd : nd o.op = true := by simp only [nd, *]) : OpT P o N [] (fun _ : Unit => (r, [])) := by
  refine ⟨hnd, fun ro S w a next Q hd hN ho k => ?_⟩
  obtain ⟨v, hv, hr⟩ := h S w a hN
  rw [hv]
  exact k () S w v (Step.refl hd) hr ho (fun b ⟨e, he, _⟩ => by simp at he)

theorem OpT.val1 {P : Program} {o : Oper} {N : List (Operand × A)} {r : A} {e : D}
    (h : ∀ (S : FS) (w : World) (a : Act), Needs S w a N → e.holds S w → ∃ v, (execOp a.eval o).run P w = .ok (.value v) w ∧ r.holds S w v) (hnd : nd o.op = true := by simp only [nd, *]) : OpT P o N [e] (fun _ : Unit => (r, [e])) := by
  refine ⟨hnd, fun ro S w a next Q hd hN ho k => ?_⟩
  obtain ⟨v, hv, hr⟩ := h S w a hN (ho.holds e (by simp))
  rw [hv]
  exact k () S w v (Step.refl hd) hr ho (fun b hb => .inl hb)

section
variable {P : Program} {o : Oper} {x y z : Operand} {T T' : TypeId} {r r' : A}

theorem o_move (ho : o.op = .move x) : OpT P o [(x, r)] [] (fun _ : Unit => (r, [])) :=
  .val0 fun _ w a h => ⟨a.eval x, by simp [execOp, ho], h.1⟩

theorem o_assign (ho : o.op = .assign x) : OpT P o [(x, r)] [] (fun _ : Unit => (r, [])) :=
  .val0 fun _ w a h => ⟨a.eval x, by simp [execOp, ho], h.1⟩

theorem o_pick_t (ho : o.op = .pick x y z) : OpT P o [(x, .eq (.bool true)), (y, r)] [] (fun _ : Unit => (r, [])) :=
  .val0 fun _ w a h => ⟨a.eval y, by
    have e : a.eval x = .bool true := h.1
    simp [execOp, ho, e, asBool], h.2.1⟩

theorem o_pick_f (ho : o.op = .pick x y z) : OpT P o [(x, .eq (.bool false)), (z, r)] [] (fun _ : Unit => (r, [])) :=
  .val0 fun _ w a h => ⟨a.eval z, by
    have e : a.eval x = .bool false := h.1
    simp [execOp, ho, e, asBool], h.2.1⟩

theorem o_bin {b : BinOp} {u v q : Value} (ho : o.op = .binOp b T x y T') (hr : ∀ w, (do eqGuard b T x y u v; binOp b T u v : Sem Value).run P w = .ok q w) :
    OpT P o [(x, .eq u), (y, .eq v)] [] (fun _ : Unit => (.eq q, [])) :=
  .val0 fun _ w a h => ⟨q, by
    have e1 : a.eval x = u := h.1
    have e2 : a.eval y = v := h.2.1
    have := hr w
    simp only [Sem.run_bind] at this
    simp only [execOp, ho, e1, e2, Sem.run_bind, this, Result.andThen_ok, Sem.run_pure], rfl⟩

/-- A sum of int that does not wrap. -/
def ck (n : Int) : Option Int := if -9223372036854775808 ≤ n ∧ n ≤ 9223372036854775807 then some n else none

theorem ck_wrap {n z : Int} (h : ck n = some z) : IntKind.i64.wrap n = z := by
  unfold ck at h
  split at h
  · cases h
    rename_i hh
    have e : (2 : Int) ^ IntKind.i64.bits = 18446744073709551616 := by decide
    have e2 : (2 : Int) ^ (IntKind.i64.bits - 1) = 9223372036854775808 := by decide
    have e3 : IntKind.i64.signed = true := rfl
    simp only [IntKind.wrap, e, e2, e3, Bool.true_and, ge_iff_le, decide_eq_true_eq]
    split <;> omega
  · cases h

theorem o_add {n m q : Int} (ho : o.op = .binOp .add T x y T') (h : ck (n + m) = some q) : OpT P o [(x, .eq (.int .i64 n)), (y, .eq (.int .i64 m))] [] (fun _ : Unit => (.eq (.int .i64 q), [])) :=
  o_bin ho fun w => by simp [eqGuard, binOp, Op.intArith, ck_wrap h]
theorem o_sub {n m q : Int} (ho : o.op = .binOp .sub T x y T') (h : ck (n - m) = some q) : OpT P o [(x, .eq (.int .i64 n)), (y, .eq (.int .i64 m))] [] (fun _ : Unit => (.eq (.int .i64 q), [])) :=
  o_bin ho fun w => by simp [eqGuard, binOp, Op.intArith, ck_wrap h]
theorem o_addk {k : IntKind} {n m : Int} (ho : o.op = .binOp .add T x y T') : OpT P o [(x, .eq (.int k n)), (y, .eq (.int k m))] [] (fun _ : Unit => (.eq (.int k (k.wrap (n + m))), [])) :=
  o_bin ho fun w => by simp [eqGuard, binOp, Op.intArith]
theorem o_mulk {k : IntKind} {n m : Int} (ho : o.op = .binOp .mul T x y T') : OpT P o [(x, .eq (.int k n)), (y, .eq (.int k m))] [] (fun _ : Unit => (.eq (.int k (k.wrap (n * m))), [])) :=
  o_bin ho fun w => by simp [eqGuard, binOp, Op.intArith]
theorem o_rem {k : IntKind} {n m : Int} (ho : o.op = .binOp .rem T x y T') (h : m ≠ 0) : OpT P o [(x, .eq (.int k n)), (y, .eq (.int k m))] [] (fun _ : Unit => (.eq (.int k (n.tmod m)), [])) :=
  o_bin ho fun w => by simp [eqGuard, binOp, Op.intDiv, h]
section
variable {k : IntKind} {n m : Int}
theorem o_lss (ho : o.op = .binOp .lss T x y T') : OpT P o [(x, .eq (.int k n)), (y, .eq (.int k m))] [] (fun _ : Unit => (.eq (.bool (decide (n < m))), [])) :=
  o_bin ho fun w => by simp [eqGuard, binOp, Op.intCmp]
theorem o_leq (ho : o.op = .binOp .leq T x y T') : OpT P o [(x, .eq (.int k n)), (y, .eq (.int k m))] [] (fun _ : Unit => (.eq (.bool (decide (n ≤ m))), [])) :=
  o_bin ho fun w => by simp [eqGuard, binOp, Op.intCmp]
theorem o_gtr (ho : o.op = .binOp .gtr T x y T') : OpT P o [(x, .eq (.int k n)), (y, .eq (.int k m))] [] (fun _ : Unit => (.eq (.bool (decide (m < n))), [])) :=
  o_bin ho fun w => by simp [eqGuard, binOp, Op.intCmp]
theorem o_geq (ho : o.op = .binOp .geq T x y T') : OpT P o [(x, .eq (.int k n)), (y, .eq (.int k m))] [] (fun _ : Unit => (.eq (.bool (decide (m ≤ n))), [])) :=
  o_bin ho fun w => by simp [eqGuard, binOp, Op.intCmp]
theorem o_eql (ho : o.op = .binOp .eql T x y T') : OpT P o [(x, .eq (.int k n)), (y, .eq (.int k m))] [] (fun _ : Unit => (.eq (.bool (decide (n = m))), [])) :=
  o_bin ho fun w => by
    have : (n == m) = decide (n = m) := by by_cases h : n = m <;> simp [h]
    simp [eqGuard, binOp, Op.intCmp, this]
theorem o_neq (ho : o.op = .binOp .neq T x y T') : OpT P o [(x, .eq (.int k n)), (y, .eq (.int k m))] [] (fun _ : Unit => (.eq (.bool (!decide (n = m))), [])) :=
  o_bin ho fun w => by
    have : (n != m) = !decide (n = m) := by by_cases h : n = m <;> simp [h]
    simp [eqGuard, binOp, Op.intCmp, this]
/-- Bits of numbers. -/
def iand (k : IntKind) (n m : Int) : Int := k.wrap (BitVec.ofInt k.bits n &&& BitVec.ofInt k.bits m).toNat
def ior (k : IntKind) (n m : Int) : Int := k.wrap (BitVec.ofInt k.bits n ||| BitVec.ofInt k.bits m).toNat
def ixor (k : IntKind) (n m : Int) : Int := k.wrap (BitVec.ofInt k.bits n ^^^ BitVec.ofInt k.bits m).toNat
def iandn (k : IntKind) (n m : Int) : Int := k.wrap (BitVec.ofInt k.bits n &&& ~~~ BitVec.ofInt k.bits m).toNat
def ishl (k : IntKind) (n m : Int) : Int := k.wrap (n * 2 ^ (min m.toNat k.bits))
def ishr (k : IntKind) (n m : Int) : Int := n.fdiv (2 ^ (min m.toNat k.bits))
theorem o_and (ho : o.op = .binOp .and T x y T') : OpT P o [(x, .eq (.int k n)), (y, .eq (.int k m))] [] (fun _ : Unit => (.eq (.int k (iand k n m)), [])) :=
  o_bin ho fun w => by simp [eqGuard, binOp, Op.intBits, iand]
theorem o_or (ho : o.op = .binOp .or T x y T') : OpT P o [(x, .eq (.int k n)), (y, .eq (.int k m))] [] (fun _ : Unit => (.eq (.int k (ior k n m)), [])) :=
  o_bin ho fun w => by simp [eqGuard, binOp, Op.intBits, ior]
theorem o_xor (ho : o.op = .binOp .xor T x y T') : OpT P o [(x, .eq (.int k n)), (y, .eq (.int k m))] [] (fun _ : Unit => (.eq (.int k (ixor k n m)), [])) :=
  o_bin ho fun w => by simp [eqGuard, binOp, Op.intBits, ixor]
theorem o_andn (ho : o.op = .binOp .andNot T x y T') : OpT P o [(x, .eq (.int k n)), (y, .eq (.int k m))] [] (fun _ : Unit => (.eq (.int k (iandn k n m)), [])) :=
  o_bin ho fun w => by simp [eqGuard, binOp, Op.intBits, iandn]
theorem o_shl {k' : IntKind} (ho : o.op = .binOp .shl T x y T') (h : 0 ≤ m) : OpT P o [(x, .eq (.int k n)), (y, .eq (.int k' m))] [] (fun _ : Unit => (.eq (.int k (ishl k n m)), [])) :=
  o_bin ho fun w => by simp [eqGuard, binOp, Op.shift, ishl, show ¬ m < 0 by omega]
theorem o_shr {k' : IntKind} (ho : o.op = .binOp .shr T x y T') (h : 0 ≤ m) : OpT P o [(x, .eq (.int k n)), (y, .eq (.int k' m))] [] (fun _ : Unit => (.eq (.int k (ishr k n m)), [])) :=
  o_bin ho fun w => by simp [eqGuard, binOp, Op.shift, ishr, show ¬ m < 0 by omega]
end

theorem o_eqlb {u v : Bool} (ho : o.op = .binOp .eql T x y T') (hT : P.underlying T = some .bool) : OpT P o [(x, .eq (.bool u)), (y, .eq (.bool v))] [] (fun _ : Unit => (.eq (.bool (decide (u = v))), [])) :=
  o_bin ho fun w => by
    have : (u == v) = decide (u = v) := by cases u <;> cases v <;> rfl
    simp [eqGuard, run_eql_bool w T u v hT, this]
theorem o_neqb {u v : Bool} (ho : o.op = .binOp .neq T x y T') (hT : P.underlying T = some .bool) : OpT P o [(x, .eq (.bool u)), (y, .eq (.bool v))] [] (fun _ : Unit => (.eq (.bool (!decide (u = v))), [])) :=
  o_bin ho fun w => by
    have : (u == v) = decide (u = v) := by cases u <;> cases v <;> rfl
    simp [eqGuard, binOp, Op.equal, Op.maxDepth, run_equalIn_bool w 9999 T u v hT, this]

theorem o_not {u : Bool} (ho : o.op = .unOp .not T x) : OpT P o [(x, .eq (.bool u))] [] (fun _ : Unit => (.eq (.bool (!u)), [])) :=
  .val0 fun _ w a h => ⟨.bool !u, by
    have e : a.eval x = .bool u := h.1
    simp [execOp, ho, e, Op.unary], rfl⟩

/-- A conversion between kinds of integers. -/
theorem o_conv {k k' : IntKind} {n : Int} (ho : o.op = .convert T T' x) (hT : P.underlying T = some (.int k)) (hT' : P.underlying T' = some (.int k')) : OpT P o [(x, .eq (.int k n))] [] (fun _ : Unit => (.eq (.int k' (k'.wrap n)), [])) :=
  .val0 fun _ w a h => ⟨.int k' (k'.wrap n), by
    have e : a.eval x = .int k n := h.1
    simp [execOp, ho, e, convert, run_underlying hT, run_underlying hT', Conv.intToInt], rfl⟩

theorem o_conv64 {k : IntKind} {n q : Int} (ho : o.op = .convert T T' x) (hT : P.underlying T = some (.int k)) (hT' : P.underlying T' = some (.int .i64)) (h : ck n = some q) : OpT P o [(x, .eq (.int k n))] [] (fun _ : Unit => (.eq (.int .i64 q), [])) := by
  have := o_conv (P := P) (n := n) ho hT hT'
  rw [ck_wrap h] at this
  exact this

/-- A component of a tuple. -/
@[reducible] def tupGet : A → Nat → Option A
  | .pair a _, 0 => some a
  | .pair _ b, n + 1 => tupGet b n
  | _, _ => none

theorem tupGet_spec {S : FS} {w : World} {r : A} (a : A) : ∀ {vs : List Value} {i : Nat}, A.holds.holdsAll S w a vs → tupGet a i = some r → ∃ v, vs[i]? = some v ∧ r.holds S w v := by
  induction a with
  | pair a b _ ihb =>
    rintro vs i ⟨v, vs', rfl, h1, h2⟩ hg
    cases i with
    | zero => simp only [tupGet, Option.some.injEq] at hg; subst hg; exact ⟨v, rfl, h1⟩
    | succ i =>
      obtain ⟨u, h3, h4⟩ := ihb h2 hg
      exact ⟨u, by simpa using h3, h4⟩
  | _ => intro vs i _ hg; cases i <;> simp [tupGet] at hg

theorem o_extract {i : Nat} {a0 : A} (ho : o.op = .extract x i) (hi : tupGet a0 i = some r) : OpT P o [(x, .tup a0)] [] (fun _ : Unit => (r, [])) :=
  .val0 fun S w a h => by
    obtain ⟨vs, e, h1⟩ := h.1
    obtain ⟨v, h2, h3⟩ := tupGet_spec a0 h1 hi
    exact ⟨v, by simp [execOp, ho, e, Instr.extract, h2], h3⟩

/-! ### Lengths -/

theorem o_len {t : Ty} {l : List t.den} {e : TypeId} {c : Call} (ho : o.op = .call c) (hc : c = { callee := .builtin .len, args := #[x], argTypes := #[T] }) (hT : P.underlying T = some (.slice e)) :
    OpT P o [(x, .rep (.slice t) l)] [] (fun _ : Unit => (.eq (.int .i64 l.length), [])) :=
  .val0 fun S w a h => by
    obtain ⟨cs, h1, h2⟩ := h.1
    have hv : ∃ a0 cap, a.eval x = .slice a0 l.length cap := by
      rcases h1 with ⟨a0, cap, rfl, rfl⟩ | ⟨b, off, cap, cc, T0, fz, rfl, _⟩
      · exact ⟨a0, cap, h2⟩
      · exact ⟨_, cap, h2⟩
    obtain ⟨a0, cap, e⟩ := hv
    exact ⟨.int .i64 l.length, by simp [execOp, ho, hc, resolve, invoke, builtin, e, Builtin.len_, run_underlying hT, goInt], rfl⟩

theorem o_len_own {t : Ty} {l : List t.den} {e TE : TypeId} {c : Call} {v : Value} (ho : o.op = .call c) (hc : c = { callee := .builtin .len, args := #[x], argTypes := #[T] }) (hT : P.underlying T = some (.slice e)) :
    OpT P o [(x, .eq v)] [.sl v TE t l] (fun _ : Unit => (.eq (.int .i64 l.length), [.sl v TE t l])) :=
  .val1 fun S w a h hs => by
    have e1 : a.eval x = v := h.1
    have hv : ∃ a0 cap, v = .slice a0 l.length cap := by
      rcases hs with ⟨rfl, rfl⟩ | ⟨b, cap, cc, rfl, _⟩
      · exact ⟨none, 0, rfl⟩
      · exact ⟨_, cap, rfl⟩
    obtain ⟨a0, cap, e2⟩ := hv
    exact ⟨.int .i64 l.length, by simp [execOp, ho, hc, resolve, invoke, builtin, e1, e2, Builtin.len_, run_underlying hT, goInt], rfl⟩

/-! ### Sizes -/

structure SzOk (P : Program) (T : TypeId) (n : Nat) (g : Bool) : Prop where
  size : ∀ w, (sizeOf T).run P w = .ok n w
  agg : ∀ w, (isAgg T).run P w = .ok g w

theorem run_loadVar' {w : World} {n : Nat} {g : Bool} (ht : SzOk P T n g) (hg : g = false → n = 1) {b : Nat} {c : Array Value} {T0 : TypeId} {fz : Nat × Nat} (hb : w.heap[b]? = some (.cells c T0 fz)) {off : Nat}
    (hle : off + n ≤ c.size) : (loadVar T ⟨b, off, none⟩).run P w = .ok (mk g ((c.toList.drop off).take n)) w := by
  simp only [loadVar, Sem.run_bind, ht.agg, Result.andThen_ok]
  cases g with
  | true =>
    simp only [if_true, Sem.run_bind, ht.size, Result.andThen_ok, loadCells, run_loadFrom P w b c T0 fz hb off n 0 #[] (by omega)]
    simp [mk]
  | false =>
    have e1 := hg rfl
    have hlt : off < c.size := by omega
    simp only [Bool.false_eq_true, if_false, load, Sem.run, World.cell?, hb, Option.isSome_none, Array.getElem?_eq_getElem hlt]
    rw [e1, List.drop_eq_getElem_cons (by simpa using hlt)]
    simp [mk]

/-! ### Loads -/

theorem o_load_at {t : Ty} {d : t.den} (ho : o.op = .load T x) (ht : SzOk P T t.cells t.isAgg) (hv : t.isVal = true) : OpT P o [(x, .at t d)] [] (fun _ : Unit => (mkA t d, [])) :=
  .val0 fun S w a h => by
    obtain ⟨b, off, c, T0, fz, e, _, h2, h3⟩ := h.1
    simp only [List.cons.injEq, and_true] at e
    have l := rd_length t h3
    have hle : off + t.cells ≤ c.size ∨ t.cells = 0 := by
      simp only [List.length_take, List.length_drop, Array.length_toList] at l
      omega
    have hr : (loadVar T ⟨b, off, none⟩).run P w = .ok (mk t.isAgg ((c.toList.drop off).take t.cells)) w := by
      rcases hle with hle | hz
      · exact run_loadVar' ht (fun hg => Ty.one_of_val hv hg) h2 hle
      · have hg : t.isAgg = true := by cases hg : t.isAgg with | true => rfl | false => have := Ty.one_of_val hv hg; omega
        simp only [loadVar, Sem.run_bind, ht.agg, Result.andThen_ok, hg, if_true, ht.size, loadCells, hz, loadCellsFrom, Sem.run_pure, List.take_zero, mk]
    exact ⟨_, by simp [execOp, ho, Instr.loadAt, e, Instr.sureAddr, hr], mkA_holds h3⟩

theorem o_load_obj {b off n : Nat} {g : Bool} {T0 : TypeId} {a0 : A} (ho : o.op = .load T x) (ht : SzOk P T n g) (hg : g = false → n = 1) (hget : a0.get off n g = some r) :
    OpT P o [(x, .eq (.pointer (some ⟨b, off, none⟩)))] [.obj b T0 a0] (fun _ : Unit => (r, [.obj b T0 a0])) :=
  .val1 fun S w a h hs => by
    have e : a.eval x = .pointer (some ⟨b, off, none⟩) := h.1
    obtain ⟨cs, h1, h2⟩ := hs
    have l := a0.cells_length h2
    obtain ⟨h3, h4⟩ := A.get_spec a0 h2 hget
    have hr := run_loadVar' ht hg h1 (off := off) (by simpa using (by omega : off + n ≤ cs.length))
    exact ⟨_, by simp [execOp, ho, Instr.loadAt, e, Instr.sureAddr, hr], h3⟩

/-- The address of a part of an own slice's row. -/
def elPtr (v : Value) (k : Nat) : Value :=
  match v with
  | .slice (some a) _ _ => .pointer (some ⟨a.block, a.off + k, none⟩)
  | _ => undef

theorem rdAll_get {α : Type} {R : α → List Value → Prop} {m : Nat} (hR : ∀ x cs, R x cs → cs.length = m) : ∀ {l : List α} {cs : List Value} {i : Nat} {x : α}, rdAll R l cs → l[i]? = some x → R x ((cs.drop (i * m)).take m) ∧ i * m + m ≤ cs.length
  | [], _, i, x, _, h => by simp at h
  | x0 :: l, _, i, x, ⟨c1, c2, rfl, h1, h2⟩, h => by
    have l1 := hR _ _ h1
    cases i with
    | zero =>
      simp only [List.getElem?_cons_zero, Option.some.injEq] at h
      subst h
      rw [Nat.zero_mul, List.drop_zero, List.take_append_of_le_length (by omega), List.take_of_length_le (by omega)]
      exact ⟨h1, by simp only [List.length_append]; omega⟩
    | succ i =>
      simp only [List.getElem?_cons_succ] at h
      obtain ⟨r1, r2⟩ := rdAll_get hR h2 h
      rw [Nat.add_mul, Nat.one_mul, List.drop_append, List.drop_eq_nil_of_le (by omega), List.nil_append, l1, Nat.add_sub_cancel]
      exact ⟨r1, by simp only [List.length_append]; omega⟩

theorem o_load_el {v : Value} {TE : TypeId} {t u : Ty} {l : List t.den} {k i off n : Nat} {g : Bool} {d : t.den} {z : u.den} (ho : o.op = .load T x) (ht : SzOk P T n g) (hg : g = false → n = 1)
    (hk : k = i * t.cells + off) (hl : l[i]? = some d) (hget : tyGet t d off n g = some ⟨u, z⟩) : OpT P o [(x, .eq (elPtr v k))] [.sl v TE t l] (fun _ : Unit => (mkA u z, [.sl v TE t l])) :=
  .val1 fun S w a h hs => by
    have e : a.eval x = elPtr v k := h.1
    rcases hs with ⟨rfl, rfl⟩ | ⟨b, cap, c, rfl, h1, _, h2, h3, h4⟩
    · simp at hl
    · obtain ⟨r1, r2⟩ := rdAll_get (fun _ _ h => rd_length t h) h4 hl
      obtain ⟨q1, q2, q3, q4⟩ := tyGet_spec t r1 hget
      have l1 : (c.toList.take (l.length * t.cells)).length ≤ c.size := by simp only [List.length_take, Array.length_toList]; omega
      have hr := run_loadVar' ht hg h2 (off := k) (by omega)
      have e2 : ((c.toList.take (l.length * t.cells)).drop (i * t.cells)).take t.cells = (c.toList.drop (i * t.cells)).take t.cells := by
        rw [List.drop_take, List.take_take, Nat.min_eq_left]
        have : i < l.length := by
          rcases Nat.lt_or_ge i l.length with h | h
          · exact h
          · simp [List.getElem?_eq_none h] at hl
        calc t.cells = (i + 1) * t.cells - i * t.cells := by rw [Nat.add_mul]; omega
          _ ≤ l.length * t.cells - i * t.cells := Nat.sub_le_sub_right (Nat.mul_le_mul_right _ this) _
      rw [e2] at q1
      have e3 : (((c.toList.drop (i * t.cells)).take t.cells).drop off).take n = (c.toList.drop k).take n := by
        rw [List.drop_take, List.take_take, Nat.min_eq_left (by omega), List.drop_drop, hk]
      rw [e3] at q1
      refine ⟨_, ?_, q2 ▸ mkA_holds q1⟩
      simp [execOp, ho, Instr.loadAt, e, elPtr, Instr.sureAddr, hr]

/-! ### Addresses -/

theorem o_field_obj {b off f k : Nat} (ho : o.op = .fieldAddr T x f) (hf : FieldOk P T f k) : OpT P o [(x, .eq (.pointer (some ⟨b, off, none⟩)))] [] (fun _ : Unit => (.eq (.pointer (some ⟨b, off + k, none⟩)), [])) :=
  .val0 fun S w a h => by
    have e : a.eval x = .pointer (some ⟨b, off, none⟩) := h.1
    exact ⟨_, by simp [execOp, ho, e, hf w b off], rfl⟩

theorem o_field_at {t u : Ty} {d : t.den} {z : u.den} {f k : Nat} (n : Nat) (g : Bool) (ho : o.op = .fieldAddr T x f) (hf : FieldOk P T f k) (hget : tyGet t d k n g = some ⟨u, z⟩) : OpT P o [(x, .at t d)] [] (fun _ : Unit => (.at u z, [])) :=
  .val0 fun S w a h => by
    obtain ⟨b, off, c, T0, fz, e, h1, h2, h3⟩ := h.1
    simp only [List.cons.injEq, and_true] at e
    obtain ⟨q1, q2, q3, q4⟩ := tyGet_spec t h3 hget
    refine ⟨.pointer (some ⟨b, off + k, none⟩), by simp [execOp, ho, e, hf w b off], b, off + k, c, T0, fz, rfl, h1, h2, ?_⟩
    rw [q3]
    rw [List.drop_take, List.take_take, Nat.min_eq_left (by omega), List.drop_drop] at q1
    exact q1

theorem o_field_el {v : Value} {TE : TypeId} {t : Ty} {l : List t.den} {k f i : Nat} (ho : o.op = .fieldAddr T x f) (hf : FieldOk P T f i) (hl : l ≠ []) : OpT P o [(x, .eq (elPtr v k))] [.sl v TE t l] (fun _ : Unit => (.eq (elPtr v (k + i)), [.sl v TE t l])) :=
  .val1 fun S w a h hs => by
    have e : a.eval x = elPtr v k := h.1
    rcases hs with ⟨rfl, rfl⟩ | ⟨b, cap, c, rfl, _⟩
    · exact absurd rfl hl
    · refine ⟨_, by simp [execOp, ho, e, elPtr, hf w b k]; rfl, ?_⟩
      simp [elPtr, A.holds]

/-- The element of a list at an index of Go. -/
def geti {α : Type} (l : List α) (i : Int) : Option α := if 0 ≤ i then l[i.toNat]? else none

theorem geti_some {α : Type} {l : List α} {i : Int} {x : α} (h : geti l i = some x) : 0 ≤ i ∧ i < l.length ∧ l[i.toNat]? = some x := by
  unfold geti at h
  split at h
  · rename_i h0
    refine ⟨h0, ?_, h⟩
    have : i.toNat < l.length := by
      rcases Nat.lt_or_ge i.toNat l.length with h' | h'
      · exact h'
      · rw [List.getElem?_eq_none h'] at h; cases h
    omega
  · cases h

theorem run_indexAt_slice {e : TypeId} {m : Nat} {g : Bool} (hT : P.underlying T = some (.slice e)) (he : SzOk P e m g) (b off len cap : Nat) (k : IntKind) (i : Int) (h0 : 0 ≤ i) (h1 : i < len) (w : World) :
    (Instr.indexAt T (.slice (some ⟨b, off, none⟩) len cap) (.int k i)).run P w = .ok (.pointer (some ⟨b, off + i.toNat * m, none⟩)) w := by
  simp [Instr.indexAt, asIntOf, run_underlying hT, h0, h1, he.size, Addr.add_mk]

theorem o_index {t : Ty} {l : List t.den} {k : IntKind} {i : Int} {d : t.den} {e : TypeId} {g : Bool} (ho : o.op = .indexAddr T x y) (hT : P.underlying T = some (.slice e)) (he : SzOk P e t.cells g) (hl : geti l i = some d) :
    OpT P o [(x, .rep (.slice t) l), (y, .eq (.int k i))] [] (fun _ : Unit => (.at t d, [])) :=
  .val0 fun S w a h => by
    obtain ⟨cs, h1, h2⟩ := h.1
    have e2 : a.eval y = .int k i := h.2.1
    obtain ⟨g0, g1, g2⟩ := geti_some hl
    rcases h1 with ⟨a0, cap, rfl, rfl⟩ | ⟨b, off, cap, c, T0, fz, rfl, hle, hS, hb, hr⟩
    · simp at g2
    · have e1 : a.eval x = .slice (some ⟨b, off, none⟩) l.length cap := h2
      obtain ⟨r1, r2⟩ := rdAll_get (fun _ _ h => rd_length t h) hr g2
      refine ⟨.pointer (some ⟨b, off + i.toNat * t.cells, none⟩), by simp [execOp, ho, e1, e2, run_indexAt_slice hT he b off l.length cap k i g0 g1 w], b, _, c, T0, fz, rfl, hS, hb, ?_⟩
      rw [List.drop_take, List.take_take, List.drop_drop, Nat.min_eq_left] at r1
      · exact r1
      · have : i.toNat < l.length := by omega
        calc t.cells = (i.toNat + 1) * t.cells - i.toNat * t.cells := by rw [Nat.add_mul]; omega
          _ ≤ l.length * t.cells - i.toNat * t.cells := Nat.sub_le_sub_right (Nat.mul_le_mul_right _ this) _

theorem o_index_own {v : Value} {TE : TypeId} {t : Ty} {l : List t.den} {k : IntKind} {i : Int} {d : t.den} {e : TypeId} {g : Bool} (ho : o.op = .indexAddr T x y) (hT : P.underlying T = some (.slice e)) (he : SzOk P e t.cells g) (hl : geti l i = some d) :
    OpT P o [(x, .eq v), (y, .eq (.int k i))] [.sl v TE t l] (fun _ : Unit => (.eq (elPtr v (i.toNat * t.cells)), [.sl v TE t l])) :=
  .val1 fun S w a h hs => by
    have e1 : a.eval x = v := h.1
    have e2 : a.eval y = .int k i := h.2.1
    obtain ⟨g0, g1, g2⟩ := geti_some hl
    rcases hs with ⟨rfl, rfl⟩ | ⟨b, cap, c, rfl, _⟩
    · simp at g2
    · exact ⟨.pointer (some ⟨b, i.toNat * t.cells, none⟩), by simp [execOp, ho, e1, e2, run_indexAt_slice hT he b 0 l.length cap k i g0 g1 w], by simp [A.holds, elPtr]⟩

/-- The address of an element of an array in a variable of the call's own. -/
theorem o_index_arr {b off N m : Nat} {g : Bool} {k : IntKind} {i : Int} {e : TypeId} (ho : o.op = .indexAddr T x y) (hT : P.underlying T = some (.array N e)) (he : SzOk P e m g) (h0 : 0 ≤ i) (h1 : i < N) :
    OpT P o [(x, .eq (.pointer (some ⟨b, off, none⟩))), (y, .eq (.int k i))] [] (fun _ : Unit => (.eq (.pointer (some ⟨b, off + i.toNat * m, none⟩)), [])) :=
  .val0 fun S w a h => by
    have e1 : a.eval x = .pointer (some ⟨b, off, none⟩) := h.1
    have e2 : a.eval y = .int k i := h.2.1
    exact ⟨_, by simp [execOp, ho, e1, e2, Instr.indexAt, asIntOf, run_underlying hT, Instr.sureAddr, h0, h1, he.size, Addr.add_mk], rfl⟩

theorem o_nil_at {t : Ty} {d : t.den} (ho : o.op = .nilCheck x) : OpT P o [(x, .at t d)] [] (fun _ : Unit => (.at t d, [])) :=
  .val0 fun S w a h => by
    have h' := h.1
    obtain ⟨b, off, c, T0, fz, e, h2⟩ := h.1
    simp only [List.cons.injEq, and_true] at e
    exact ⟨a.eval x, by simp [execOp, ho, e], h'⟩

theorem o_nil_obj {p : Addr} (ho : o.op = .nilCheck x) : OpT P o [(x, .eq (.pointer (some p)))] [] (fun _ : Unit => (.eq (.pointer (some p)), [])) :=
  .val0 fun S w a h => by
    have e : a.eval x = .pointer (some p) := h.1
    exact ⟨_, by simp [execOp, ho, e], rfl⟩

end

end K
end Go.Proofs.Ytfhdclhbdmhnmaa
