/- The calculus, part 3: parts of data, types and fields, loads, stores, addresses. -/
import Derived.Test.YtfhdclhbdmhnmaaCore2
namespace Go.Proofs.Ytfhdclhbdmhnmaa
namespace K
open Go

/-- What a value of this type is known as. -/
@[reducible] def mkA : (t : Ty) → t.den → A
  | .int k, n => .eq (.int k n)
  | .bool, b => .eq (.bool b)
  | .val, v => .eq v
  | .ptr t, x => .at t x
  | t, x => .rep t x

theorem mkA_holds {S : FS} {w : World} {t : Ty} {x : t.den} {cs : List Value} (h : rd S w t x cs) : (mkA t x).holds S w (mk t.isAgg cs) := by
  cases t with
  | int k => simp only [rd] at h; subst h; rfl
  | bool => simp only [rd] at h; subst h; rfl
  | val => simp only [rd] at h; rw [h.1]; rfl
  | ptr t =>
    obtain ⟨b, off, c, T, fz, rfl, h⟩ := h
    exact ⟨b, off, c, T, fz, rfl, h⟩
  | pair a b => exact ⟨cs, h, rfl⟩
  | agg t => exact ⟨cs, h, rfl⟩
  | arr n t => exact ⟨cs, h, rfl⟩
  | slice t => exact ⟨cs, h, rfl⟩
  | tag a b => exact ⟨cs, h, rfl⟩
  | ign => exact ⟨cs, h, rfl⟩
  | alt t => exact ⟨cs, h, rfl⟩

/-- The part of a datum at an offset, of so many cells; g: whether it is a struct or an array. -/
@[reducible] def tyGet : (t : Ty) → t.den → (off n : Nat) → (g : Bool) → Option ((u : Ty) × u.den)
  | .pair a b, x, off, n, g => if off + n ≤ a.cells then tyGet a x.1 off n g else if a.cells ≤ off then tyGet b x.2 (off - a.cells) n g else none
  | .agg t, x, off, n, g => if g = true ∧ off = 0 ∧ n = t.cells then some ⟨.agg t, x⟩ else tyGet t x off n g
  | .arr m t, l, off, n, g => if g = true ∧ off = 0 ∧ n = m * t.cells then some ⟨.arr m t, l⟩ else none
  | .int k, x, off, n, g => if g = false ∧ off = 0 ∧ n = 1 then some ⟨.int k, x⟩ else none
  | .bool, x, off, n, g => if g = false ∧ off = 0 ∧ n = 1 then some ⟨.bool, x⟩ else none
  | .val, x, off, n, g => if g = false ∧ off = 0 ∧ n = 1 then some ⟨.val, x⟩ else none
  | .slice t, x, off, n, g => if g = false ∧ off = 0 ∧ n = 1 then some ⟨.slice t, x⟩ else none
  | .ptr t, x, off, n, g => if g = false ∧ off = 0 ∧ n = 1 then some ⟨.ptr t, x⟩ else none
  | .tag a b, x, off, n, g => if g = false ∧ off = 0 ∧ n = 1 then some ⟨.tag a b, x⟩ else none
  | .ign, x, off, n, g => if g = false ∧ off = 0 ∧ n = 1 then some ⟨.ign, x⟩ else none
  | .alt t, x, off, n, g => if g = false ∧ off = 0 ∧ n = 1 then some ⟨.alt t, x⟩ else none

theorem tyGet_spec {S : FS} {w : World} (t : Ty) : ∀ {x : t.den} {cs : List Value} {off n : Nat} {g : Bool} {u : Ty} {y : u.den}, rd S w t x cs → tyGet t x off n g = some ⟨u, y⟩ →
    rd S w u y ((cs.drop off).take n) ∧ u.isAgg = g ∧ u.cells = n ∧ off + n ≤ t.cells := by
  induction t with
  | pair a b iha ihb =>
    rintro x cs off n g u y ⟨c1, c2, rfl, h1, h2⟩ hg
    have l1 := rd_length a h1
    have l2 := rd_length b h2
    simp only [tyGet] at hg
    split at hg
    · rename_i hle
      obtain ⟨r1, r2, r3, r4⟩ := iha h1 hg
      refine ⟨?_, r2, r3, by simp only [Ty.cells]; omega⟩
      have hz : off + n - c1.length = 0 := by omega
      rw [List.drop_append_of_le_length (by omega), List.take_append_of_le_length (by simp only [List.length_drop]; omega)]
      exact r1
    · split at hg
      · rename_i hge
        obtain ⟨r1, r2, r3, r4⟩ := ihb h2 hg
        refine ⟨?_, r2, r3, by simp only [Ty.cells]; omega⟩
        rw [List.drop_append, List.drop_eq_nil_of_le (by omega), List.nil_append, l1]
        exact r1
      · cases hg
  | agg t ih =>
    intro x cs off n g u y h hg
    have l := rd_length t (x := x) h
    simp only [tyGet] at hg
    split at hg
    · rename_i hh
      obtain ⟨rfl, rfl, rfl⟩ := hh
      cases hg
      exact ⟨by rw [List.drop_zero, List.take_of_length_le (by omega)]; exact h, rfl, rfl, by simp [Ty.cells]⟩
    · exact ih h hg
  | arr m t ih =>
    intro x cs off n g u y h hg
    have l := rd_length (.arr m t) h
    simp only [tyGet] at hg
    split at hg
    · rename_i hh
      obtain ⟨rfl, rfl, rfl⟩ := hh
      cases hg
      exact ⟨by rw [List.drop_zero, List.take_of_length_le (by rw [l]; simp [Ty.cells])]; exact h, rfl, rfl, by simp [Ty.cells]⟩
    · cases hg
  | _ =>
    intro x cs off n g u y h hg
    have l := rd_length _ h
    simp only [Ty.cells] at l
    simp only [tyGet] at hg
    split at hg
    · rename_i hh
      obtain ⟨rfl, rfl, rfl⟩ := hh
      cases hg
      exact ⟨by rw [List.drop_zero, List.take_of_length_le (by omega)]; exact h, rfl, rfl, by simp [Ty.cells]⟩
    · cases hg

@[reducible] def A.isAgg : A → Bool
  | .agg _ => true
  | .rep t _ => t.isAgg
  | _ => false

/-- The part of what is known of a row of cells. -/
@[reducible] def A.get : A → (off n : Nat) → (g : Bool) → Option A
  | .pair a b, off, n, g => if off + n ≤ a.n then a.get off n g else if a.n ≤ off then b.get (off - a.n) n g else none
  | .agg a, off, n, g => if g = true ∧ off = 0 ∧ n = a.n then some (.agg a) else a.get off n g
  | .rep t x, off, n, g => match tyGet t x off n g with
    | some ⟨u, y⟩ => some (mkA u y)
    | none => none
  | .eq v, off, n, g => if g = false ∧ off = 0 ∧ n = 1 then some (.eq v) else none
  | .at t x, off, n, g => if g = false ∧ off = 0 ∧ n = 1 then some (.at t x) else none
  | .tup _, _, _, _ => none
  | .any, _, _, _ => none

theorem A.get_spec {S : FS} {w : World} (a : A) : ∀ {cs : List Value} {off n : Nat} {g : Bool} {r : A}, a.cells S w cs → a.get off n g = some r →
    r.holds S w (mk g ((cs.drop off).take n)) ∧ off + n ≤ a.n := by
  induction a with
  | pair a b iha ihb =>
    rintro cs off n g r ⟨c1, c2, rfl, h1, h2⟩ hg
    have l1 := a.cells_length h1
    have l2 := b.cells_length h2
    simp only [A.get] at hg
    split at hg
    · rename_i hle
      obtain ⟨r1, r2⟩ := iha h1 hg
      refine ⟨?_, by simp only [A.n]; omega⟩
      rw [List.drop_append_of_le_length (by omega), List.take_append_of_le_length (by simp only [List.length_drop]; omega)]
      exact r1
    · split at hg
      · obtain ⟨r1, r2⟩ := ihb h2 hg
        refine ⟨?_, by simp only [A.n]; omega⟩
        rw [List.drop_append, List.drop_eq_nil_of_le (by omega), List.nil_append, l1]
        exact r1
      · cases hg
  | agg a ih =>
    intro cs off n g r h hg
    have l := a.cells_length h
    simp only [A.get] at hg
    split at hg
    · rename_i hh
      obtain ⟨rfl, rfl, rfl⟩ := hh
      cases hg
      exact ⟨⟨cs, h, by rw [List.drop_zero, List.take_of_length_le (by omega)]; rfl⟩, by simp [A.n]⟩
    · exact ih h hg
  | rep t x =>
    intro cs off n g r h hg
    simp only [A.get] at hg
    split at hg
    · rename_i u y he
      cases hg
      obtain ⟨r1, r2, _, r4⟩ := tyGet_spec t h he
      exact ⟨r2 ▸ mkA_holds r1, r4⟩
    · cases hg
  | eq v =>
    rintro cs off n g r ⟨rfl, _⟩ hg
    simp only [A.get] at hg
    split at hg
    · rename_i hh
      obtain ⟨rfl, rfl, rfl⟩ := hh
      cases hg
      exact ⟨rfl, by simp [A.n]⟩
    · cases hg
  | «at» t x =>
    intro cs off n g r h hg
    have l := rd_length (.ptr t) h
    simp only [Ty.cells] at l
    simp only [A.get] at hg
    split at hg
    · rename_i hh
      obtain ⟨rfl, rfl, rfl⟩ := hh
      cases hg
      match cs, l with
      | [v], _ => exact ⟨h, by simp [A.n]⟩
    · cases hg
  | tup a _ => intro cs off n g r h; exact h.elim
  | any => intro cs off n g r h; exact h.elim

@[reducible] def mkL (b : A) : Option A → Option A
  | some a => some (.pair a b)
  | none => none
@[reducible] def mkR (a : A) : Option A → Option A
  | some b => some (.pair a b)
  | none => none
@[reducible] def mkG : Option A → Option A
  | some a => some (.agg a)
  | none => none
theorem mkL_some {b : A} {o : Option A} {x : A} (h : mkL b o = some x) : ∃ a, o = some a ∧ .pair a b = x := by
  cases o with
  | none => cases h
  | some a => exact ⟨a, rfl, Option.some.inj h⟩
theorem mkR_some {a : A} {o : Option A} {x : A} (h : mkR a o = some x) : ∃ b, o = some b ∧ .pair a b = x := by
  cases o with
  | none => cases h
  | some b => exact ⟨b, rfl, Option.some.inj h⟩
theorem mkG_some {o : Option A} {x : A} (h : mkG o = some x) : ∃ a, o = some a ∧ .agg a = x := by
  cases o with
  | none => cases h
  | some a => exact ⟨a, rfl, Option.some.inj h⟩

/-- A part of a datum is written. -/
@[reducible] def tySet : (t : Ty) → t.den → (off n : Nat) → (g : Bool) → A → Option A
  | .pair a b, x, off, n, g, r => if off + n ≤ a.cells then mkL (.rep b x.2) (tySet a x.1 off n g r) else if a.cells ≤ off then mkR (.rep a x.1) (tySet b x.2 (off - a.cells) n g r) else none
  | .agg t, x, off, n, g, r => if g = true ∧ off = 0 ∧ n = t.cells then some r else mkG (tySet t x off n g r)
  | .arr m t, _, off, n, g, r => if g = true ∧ off = 0 ∧ n = m * t.cells then some r else none
  | _, _, off, n, g, r => if g = false ∧ off = 0 ∧ n = 1 then some r else none

@[reducible] def A.set : A → (off n : Nat) → (g : Bool) → A → Option A
  | .pair a b, off, n, g, r => if off + n ≤ a.n then mkL b (a.set off n g r) else if a.n ≤ off then mkR a (b.set (off - a.n) n g r) else none
  | .agg a, off, n, g, r => if g = true ∧ off = 0 ∧ n = a.n then some r else mkG (a.set off n g r)
  | .rep t x, off, n, g, r => tySet t x off n g r
  | .eq _, off, n, g, r => if g = false ∧ off = 0 ∧ n = 1 then some r else none
  | .at _ _, off, n, g, r => if g = false ∧ off = 0 ∧ n = 1 then some r else none
  | .tup _, _, _, _, _ => none
  | .any, _, _, _, _ => none

theorem tySet_spec {S : FS} {w : World} (t : Ty) : ∀ {x : t.den} {cs new : List Value} {off n : Nat} {g : Bool} {r a' : A}, rd S w t x cs → r.cells S w new → new.length = n → tySet t x off n g r = some a' →
    a'.cells S w (cs.take off ++ new ++ cs.drop (off + n)) ∧ off + n ≤ t.cells := by
  induction t with
  | pair a b iha ihb =>
    rintro x cs new off n g r a' ⟨c1, c2, rfl, h1, h2⟩ hr hn hg
    have l1 := rd_length a h1
    have l2 := rd_length b h2
    simp only [tySet] at hg
    split at hg
    · rename_i hle
      obtain ⟨a1, e, rfl⟩ := mkL_some hg
      obtain ⟨r1, r2⟩ := iha h1 hr hn e
      refine ⟨⟨_, c2, ?_, r1, h2⟩, by simp only [Ty.cells]; omega⟩
      rw [List.take_append_of_le_length (by omega), List.drop_append_of_le_length (by omega), List.append_assoc, List.append_assoc, List.append_assoc]
    · split at hg
      · obtain ⟨b1, e, rfl⟩ := mkR_some hg
        obtain ⟨r1, r2⟩ := ihb h2 hr hn e
        refine ⟨⟨c1, _, ?_, h1, r1⟩, by simp only [Ty.cells]; omega⟩
        rw [List.take_append, List.take_of_length_le (by omega), List.drop_append, List.drop_eq_nil_of_le (by omega), List.nil_append, l1]
        simp only [List.append_assoc]
        rw [show off + n - a.cells = off - a.cells + n by omega]
      · cases hg
  | agg t ih =>
    intro x cs new off n g r a' h hr hn hg
    have l := rd_length t (x := x) h
    simp only [tySet] at hg
    split at hg
    · rename_i hh
      obtain ⟨rfl, rfl, rfl⟩ := hh
      cases hg
      refine ⟨?_, by simp [Ty.cells]⟩
      rw [List.take_zero, List.nil_append, List.drop_eq_nil_of_le (by omega), List.append_nil]
      exact hr
    · obtain ⟨a1, e, rfl⟩ := mkG_some hg
      have q := ih h hr hn e
      exact q
  | arr m t ih =>
    intro x cs new off n g r a' h hr hn hg
    have l := rd_length (.arr m t) h
    simp only [Ty.cells] at l
    simp only [tySet] at hg
    split at hg
    · rename_i hh
      obtain ⟨rfl, rfl, rfl⟩ := hh
      cases hg
      refine ⟨?_, by simp [Ty.cells]⟩
      rw [List.take_zero, List.nil_append, List.drop_eq_nil_of_le (by omega), List.append_nil]
      exact hr
    · cases hg
  | _ =>
    intro x cs new off n g r a' h hr hn hg
    have l := rd_length _ h
    simp only [Ty.cells] at l
    simp only [tySet] at hg
    split at hg
    · rename_i hh
      obtain ⟨rfl, rfl, rfl⟩ := hh
      cases hg
      refine ⟨?_, by simp [Ty.cells]⟩
      rw [List.take_zero, List.nil_append, List.drop_eq_nil_of_le (by omega), List.append_nil]
      exact hr
    · cases hg

theorem A.set_spec {S : FS} {w : World} (a : A) : ∀ {cs new : List Value} {off n : Nat} {g : Bool} {r a' : A}, a.cells S w cs → r.cells S w new → new.length = n → a.set off n g r = some a' →
    a'.cells S w (cs.take off ++ new ++ cs.drop (off + n)) ∧ off + n ≤ a.n := by
  induction a with
  | pair a b iha ihb =>
    rintro cs new off n g r a' ⟨c1, c2, rfl, h1, h2⟩ hr hn hg
    have l1 := a.cells_length h1
    have l2 := b.cells_length h2
    simp only [A.set] at hg
    split at hg
    · rename_i hle
      obtain ⟨a1, e, rfl⟩ := mkL_some hg
      obtain ⟨r1, r2⟩ := iha h1 hr hn e
      refine ⟨⟨_, c2, ?_, r1, h2⟩, by simp only [A.n]; omega⟩
      rw [List.take_append_of_le_length (by omega), List.drop_append_of_le_length (by omega), List.append_assoc, List.append_assoc, List.append_assoc]
    · split at hg
      · obtain ⟨b1, e, rfl⟩ := mkR_some hg
        obtain ⟨r1, r2⟩ := ihb h2 hr hn e
        refine ⟨⟨c1, _, ?_, h1, r1⟩, by simp only [A.n]; omega⟩
        rw [List.take_append, List.take_of_length_le (by omega), List.drop_append, List.drop_eq_nil_of_le (by omega), List.nil_append, l1]
        simp only [List.append_assoc]
        rw [show off + n - a.n = off - a.n + n by omega]
      · cases hg
  | agg a ih =>
    intro cs new off n g r a' h hr hn hg
    have l := a.cells_length h
    simp only [A.set] at hg
    split at hg
    · rename_i hh
      obtain ⟨rfl, rfl, rfl⟩ := hh
      cases hg
      refine ⟨?_, by simp [A.n]⟩
      rw [List.take_zero, List.nil_append, List.drop_eq_nil_of_le (by omega), List.append_nil]
      exact hr
    · obtain ⟨a1, e, rfl⟩ := mkG_some hg
      have q := ih h hr hn e
      exact q
  | rep t x => intro cs new off n g r a' h hr hn hg; exact tySet_spec t h hr hn hg
  | eq v =>
    rintro cs new off n g r a' ⟨rfl, _⟩ hr hn hg
    simp only [A.set] at hg
    split at hg
    · rename_i hh
      obtain ⟨rfl, rfl, rfl⟩ := hh
      cases hg
      exact ⟨by simpa using hr, by simp [A.n]⟩
    · cases hg
  | «at» t x =>
    intro cs new off n g r a' h hr hn hg
    have l := rd_length (.ptr t) h
    simp only [Ty.cells] at l
    simp only [A.set] at hg
    split at hg
    · rename_i hh
      obtain ⟨rfl, rfl, rfl⟩ := hh
      cases hg
      refine ⟨?_, by simp [A.n]⟩
      rw [List.take_zero, List.nil_append, List.drop_eq_nil_of_le (by omega), List.append_nil]
      exact hr
    · cases hg
  | tup a _ => intro cs new off n g r a' h; exact h.elim
  | any => intro cs new off n g r a' h; exact h.elim

@[reducible] def Ty.isVal : Ty → Bool
  | .pair _ _ => false
  | _ => true

theorem Ty.one_of_val {t : Ty} (h : t.isVal = true) (hg : t.isAgg = false) : t.cells = 1 := by
  cases t <;> first | rfl | (simp [Ty.isVal] at h; done) | (simp [Ty.isAgg] at hg; done)

/-- Can a value of which this is known be stored? -/
@[reducible] def A.stor : A → Prop
  | .eq v => oneCell v = true
  | .rep t _ => t.isVal = true
  | .at _ _ => True
  | .agg _ => True
  | _ => False

/-- A value's cells. -/
theorem A.holds_cells {S : FS} {w : World} {r : A} {v : Value} (h : r.holds S w v) (ho : r.stor) : r.cells S w v.cells.toList ∧ v.cells.toList.length = r.n ∧ v = mk r.isAgg v.cells.toList := by
  cases r with
  | eq v0 =>
    have e : v = v0 := h
    subst e
    have ho' : oneCell v = true := ho
    have hc : v.cells = #[v] := by cases v <;> first | rfl | simp [oneCell] at ho'
    rw [hc]
    exact ⟨⟨rfl, ho'⟩, rfl, rfl⟩
  | rep t x =>
    obtain ⟨cs, h1, rfl⟩ := h
    have l := rd_length t h1
    have h2 := rd_one t h1
    cases hg : t.isAgg with
    | true =>
      simp only [mk, if_true, Value.cells]
      exact ⟨h1, l, by simp [hg]⟩
    | false =>
      have e1 := Ty.one_of_val ho hg
      rw [e1] at l
      match cs, l with
      | [c], _ =>
        have hc1 := h2 c (by simp)
        have hc : c.cells = #[c] := by cases c <;> first | rfl | simp [oneCell] at hc1
        simp only [mk, Bool.false_eq_true, if_false, List.headD_cons, hc]
        exact ⟨h1, e1.symm, by simp [hg]⟩
  | «at» t x =>
    obtain ⟨b, off, c, T, fz, e, h⟩ := h
    simp only [List.cons.injEq, and_true] at e
    subst e
    exact ⟨⟨b, off, c, T, fz, rfl, h⟩, rfl, rfl⟩
  | pair a b => exact h.elim
  | agg a =>
    obtain ⟨cs, h1, rfl⟩ := h
    exact ⟨h1, a.cells_length h1, by simp [mk, Value.cells]⟩
  | tup a => exact ho.elim
  | any => exact ho.elim

/-! ### Types and fields of a program -/

structure TyOk (P : Program) (T : TypeId) (t : Ty) : Prop where
  size : ∀ w, (sizeOf T).run P w = .ok t.cells w
  agg : ∀ w, (isAgg T).run P w = .ok t.isAgg w

theorem TyOk.of {P : Program} {T : TypeId} {t : Ty} {i : TypeInfo} (hi : P.info? T = some i) (hs : i.size = t.cells) (ha : ∀ w, (isAgg T).run P w = .ok t.isAgg w) : TyOk P T t :=
  ⟨fun w => by simp [sizeOf, typeInfo, program, stuck, Sem.run, hi, hs], ha⟩

/-- The address of a field. -/
def FieldOk (P : Program) (T f off : Nat) : Prop := ∀ w b k, (Instr.fieldAt T (.pointer (some ⟨b, k, none⟩)) f).run P w = .ok (.pointer (some ⟨b, k + off, none⟩)) w

theorem Addr.add_mk (b k n : Nat) : (⟨b, k, none⟩ : Addr).add n = ⟨b, k + n, none⟩ := by
  unfold Addr.add
  split
  · rename_i h; subst h; rfl
  · rfl

theorem run_loadFrom (P : Program) (w : World) (b : Nat) (c : Array Value) (T : TypeId) (fz : Nat × Nat) (hb : w.heap[b]? = some (.cells c T fz)) (off : Nat) :
    ∀ (n i : Nat) (acc : Array Value), off + i + n ≤ c.size → (loadCellsFrom ⟨b, off, none⟩ i n acc).run P w = .ok (acc ++ ((c.toList.drop (off + i)).take n).toArray) w := by
  intro n
  induction n with
  | zero => intro i acc _; simp [loadCellsFrom]
  | succ n ih =>
    intro i acc h
    have hlt : off + i < c.size := by omega
    simp only [loadCellsFrom, load, Sem.run_bind, Sem.run, Addr.add_mk, World.cell?, hb, Option.isSome_none, Bool.false_eq_true, if_false, Array.getElem?_eq_getElem hlt, Result.andThen_ok]
    rw [ih (i + 1) _ (by omega)]
    congr 1
    rw [List.drop_eq_getElem_cons (l := c.toList) (i := off + i) (by simpa using hlt), List.take_succ_cons]
    simp [Nat.add_assoc]

theorem take_mid {α : Type} (v : α) (l2 : List α) : ∀ l1 : List α, (l1 ++ v :: l2).take (l1.length + 1) = l1 ++ [v]
  | [] => rfl
  | x :: l1 => by simp [take_mid v l2 l1]

theorem drop_mid {α : Type} (v : α) (l2 : List α) (n : Nat) : ∀ l1 : List α, (l1 ++ v :: l2).drop (l1.length + 1 + n) = l2.drop n
  | [] => by rw [List.nil_append, List.length_nil, Nat.zero_add, Nat.add_comm]; rfl
  | x :: l1 => by
    have := drop_mid v l2 n l1
    rw [List.length_cons, show l1.length + 1 + 1 + n = (l1.length + 1 + n) + 1 by omega]
    exact this

theorem run_storeCells (P : Program) (b : Nat) (T : TypeId) (off : Nat) : ∀ (vs : List Value) (i : Nat) (w : World) (c : Array Value), w.heap[b]? = some (.cells c T (0, 0)) → (∀ v ∈ vs, oneCell v = true) → off + i + vs.length ≤ c.size →
    (storeCells ⟨b, off, none⟩ vs i).run P w = .ok () { w with heap := w.heap.setIfInBounds b (.cells (c.toList.take (off + i) ++ vs ++ c.toList.drop (off + i + vs.length)).toArray T (0, 0)) } := by
  intro vs
  induction vs with
  | nil =>
    intro i w c hb _ _
    simp only [storeCells, Sem.run_pure, List.append_nil, List.length_nil, Nat.add_zero, List.take_append_drop, Array.toArray_toList]
    congr 1
    obtain ⟨hlt, e⟩ := Array.getElem?_eq_some_iff.1 hb
    have : w.heap.setIfInBounds b (.cells c T (0, 0)) = w.heap := by
      apply Array.ext_getElem?
      intro j
      rw [Array.getElem?_setIfInBounds]
      split
      · rename_i h; subst h; simp [hlt] <;> exact e.symm
      · rfl
    rw [this]
  | cons v vs ih =>
    intro i w c hb h1 hle
    simp only [List.length_cons] at hle
    have hlt : off + i < c.size := by omega
    obtain ⟨hbl, hcb⟩ := Array.getElem?_eq_some_iff.1 hb
    have hv := h1 v (by simp)
    have hst : (store ((⟨b, off, none⟩ : Addr).add i) v).run P w = .ok () (w.setCell ⟨b, off + i, none⟩ v) := by
      rw [Addr.add_mk]
      unfold store
      cases v <;> first
        | (simp [oneCell] at hv; done)
        | simp [Sem.run, World.cell?, hb, Array.getElem?_eq_getElem hlt, World.frozen?]
    have hb' : (w.setCell ⟨b, off + i, none⟩ v).heap[b]? = some (.cells (c.setIfInBounds (off + i) v) T (0, 0)) := by
      simp [World.setCell, Array.getElem?_modify, hb]
    simp only [storeCells, Sem.run_bind, hst, Result.andThen_ok]
    rw [ih (i + 1) _ _ hb' (fun u hu => h1 u (by simp [hu])) (by simp; omega)]
    congr 1
    have hh : (w.setCell ⟨b, off + i, none⟩ v).heap = w.heap.setIfInBounds b (.cells (c.setIfInBounds (off + i) v) T (0, 0)) := by
      apply Array.ext_getElem?
      intro j
      simp only [World.setCell, Array.getElem?_modify, Array.getElem?_setIfInBounds]
      split
      · rename_i h; subst h; simp [hbl, hcb]
      · rfl
    simp only [World.setCell] at hh ⊢
    rw [hh]
    simp only [Array.setIfInBounds_setIfInBounds]
    congr 4
    have e1 : (c.setIfInBounds (off + i) v).toList = c.toList.take (off + i) ++ v :: c.toList.drop (off + i + 1) := by
      rw [Array.toList_setIfInBounds, List.set_eq_take_append_cons_drop, if_pos (by simpa using hlt)]
    rw [e1]
    have lt : (c.toList.take (off + i)).length = off + i := by simp; omega
    have e2 : off + (i + 1) = (c.toList.take (off + i)).length + 1 := by omega
    rw [e2, take_mid, Nat.add_assoc, Nat.add_comm 1 vs.length, ← Nat.add_assoc, Nat.add_right_comm, drop_mid, List.drop_drop]
    simp only [List.append_assoc, List.cons_append, List.nil_append, List.length_cons]
    rw [show off + i + 1 + vs.length = off + i + (vs.length + 1) by omega]

end K
end Go.Proofs.Ytfhdclhbdmhnmaa
