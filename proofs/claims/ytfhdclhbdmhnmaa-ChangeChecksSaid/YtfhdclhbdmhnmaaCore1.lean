/- A calculus for code whose data are trees. Part 1: data as trees ('Ty', 'rd'), assertions on values ('A'), resources ('D'), and that they persist. No program in sight. -/
import Derived.WalkKit
import Derived.RangeFuncLeaves
import Derived.RangeFuncCalls
import Derived.TacticsIn
import Derived.OrdersIn
import Derived.LoopIn
import Derived.RecoverIn
namespace Go.Proofs.Ytfhdclhbdmhnmaa
namespace K
open Go

/-- Which blocks are frozen: nobody writes them any more. -/
abbrev FS := Nat → Prop

inductive Ty where
  | int (k : IntKind)
  | bool
  | val
  | pair (a b : Ty)
  | agg (t : Ty)
  | arr (n : Nat) (t : Ty)
  | slice (t : Ty)
  | ptr (t : Ty)
  | tag (t0 t1 : TypeId)
  /-- one cell, of which nothing is told -/
  | ign
  /-- a datum, or a value as it is -/
  | alt (t : Ty)

@[reducible] def Ty.den : Ty → Type
  | .int _ => Int
  | .bool => Bool
  | .val => Value
  | .pair a b => a.den × b.den
  | .agg t => t.den
  | .arr _ t => List t.den
  | .slice t => List t.den
  | .ptr t => t.den
  | .tag _ _ => Bool × Int
  | .ign => Unit
  | .alt t => t.den ⊕ Value

@[reducible] def Ty.cells : Ty → Nat
  | .pair a b => a.cells + b.cells
  | .agg t => t.cells
  | .arr n t => n * t.cells
  | _ => 1

@[reducible] def Ty.isAgg : Ty → Bool
  | .agg _ => true
  | .arr _ _ => true
  | _ => false

/-- Does a datum of this type never lead to memory? -/
@[reducible] def Ty.flat : Ty → Bool
  | .pair a b => a.flat && b.flat
  | .agg t => t.flat
  | .arr _ t => t.flat
  | .slice _ => false
  | .ptr _ => false
  | .alt t => t.flat
  | _ => true

def oneCell : Value → Bool
  | .agg _ => false
  | .tuple _ => false
  | _ => true

/-- A row of data, each of so many cells. -/
def rdAll {α : Type} (R : α → List Value → Prop) : List α → List Value → Prop
  | [], cs => cs = []
  | x :: l, cs => ∃ c1 c2, cs = c1 ++ c2 ∧ R x c1 ∧ rdAll R l c2

def rd (S : FS) (w : World) : (t : Ty) → t.den → List Value → Prop
  | .int k, n, cs => cs = [.int k n]
  | .bool, b, cs => cs = [.bool b]
  | .val, v, cs => cs = [v] ∧ oneCell v = true
  | .pair a b, x, cs => ∃ c1 c2, cs = c1 ++ c2 ∧ rd S w a x.1 c1 ∧ rd S w b x.2 c2
  | .agg t, x, cs => rd S w t x cs
  | .arr n t, l, cs => l.length = n ∧ rdAll (rd S w t) l cs
  | .slice t, l, cs => (∃ a cap, cs = [.slice a 0 cap] ∧ l = []) ∨
      ∃ b off cap c T fz, cs = [.slice (some ⟨b, off, none⟩) l.length cap] ∧ l.length ≤ cap ∧ S b ∧ w.heap[b]? = some (.cells c T fz) ∧
        rdAll (rd S w t) l ((c.toList.drop off).take (l.length * t.cells))
  | .ptr t, x, cs => ∃ b off c T fz, cs = [.pointer (some ⟨b, off, none⟩)] ∧ S b ∧ w.heap[b]? = some (.cells c T fz) ∧
        rd S w t x ((c.toList.drop off).take t.cells)
  | .tag t0 t1, x, cs => cs = [.iface (if x.1 then t1 else t0) (.int .i64 x.2)]
  | .ign, _, cs => ∃ v, cs = [v] ∧ oneCell v = true
  | .alt t, x, cs => match x with
    | .inl d => rd S w t d cs ∧ cs.length = 1
    | .inr v => cs = [v] ∧ oneCell v = true

theorem rdAll_mono {α : Type} {R R' : α → List Value → Prop} (h : ∀ x cs, R x cs → R' x cs) : ∀ {l : List α} {cs : List Value}, rdAll R l cs → rdAll R' l cs
  | [], _, e => e
  | _ :: _, _, ⟨c1, c2, e, h1, h2⟩ => ⟨c1, c2, e, h _ _ h1, rdAll_mono h h2⟩

theorem rdAll_length {α : Type} {R : α → List Value → Prop} {n : Nat} (h : ∀ x cs, R x cs → cs.length = n) : ∀ {l : List α} {cs : List Value}, rdAll R l cs → cs.length = l.length * n
  | [], _, e => by simp [rdAll] at e; simp [e]
  | _ :: l, _, ⟨c1, c2, e, h1, h2⟩ => by
    have := rdAll_length h h2
    have := h _ _ h1
    subst e
    simp only [List.length_append, List.length_cons, Nat.add_mul]
    omega

theorem rd_length {S : FS} {w : World} (t : Ty) : ∀ {x : t.den} {cs : List Value}, rd S w t x cs → cs.length = t.cells := by
  induction t with
  | int _ => intro x cs h; simp [rd] at h; simp [h, Ty.cells]
  | bool => intro x cs h; simp [rd] at h; simp [h, Ty.cells]
  | val => intro x cs h; simp [rd] at h; simp [h, Ty.cells]
  | pair a b iha ihb =>
    rintro x cs ⟨c1, c2, rfl, h1, h2⟩
    simp [Ty.cells, iha h1, ihb h2]
  | agg t ih => intro x cs h; exact ih h
  | arr n t ih =>
    rintro l cs ⟨hn, h⟩
    have := rdAll_length (fun _ _ h => ih h) h
    rw [this, hn]
  | slice t ih =>
    intro l cs h
    rcases h with ⟨a, cap, rfl, _⟩ | ⟨b, off, cap, c, T, fz, rfl, _⟩ <;> rfl
  | ptr t ih => rintro x cs ⟨b, off, c, T, fz, rfl, _⟩; rfl
  | tag _ _ => intro x cs h; simp [rd] at h; simp [h, Ty.cells]
  | ign => rintro x cs ⟨v, rfl, _⟩; rfl
  | alt t ih =>
    intro x cs h
    cases x with
    | inl d => exact h.2
    | inr v => obtain ⟨rfl, _⟩ := h; rfl

theorem rdAll_one {α : Type} {R : α → List Value → Prop} (h : ∀ x cs, R x cs → ∀ c ∈ cs, oneCell c = true) : ∀ {l : List α} {cs : List Value}, rdAll R l cs → ∀ c ∈ cs, oneCell c = true
  | [], _, e => by simp [rdAll] at e; simp [e]
  | _ :: _, _, ⟨c1, c2, e, h1, h2⟩ => by
    subst e
    intro c hc
    rcases List.mem_append.1 hc with hc | hc
    · exact h _ _ h1 c hc
    · exact rdAll_one h h2 c hc

theorem rd_one {S : FS} {w : World} (t : Ty) : ∀ {x : t.den} {cs : List Value}, rd S w t x cs → ∀ c ∈ cs, oneCell c = true := by
  induction t with
  | int _ => intro x cs h; simp [rd] at h; simp [h, oneCell]
  | bool => intro x cs h; simp [rd] at h; simp [h, oneCell]
  | val => intro x cs h; simp [rd] at h; simp [h]
  | pair a b iha ihb =>
    rintro x cs ⟨c1, c2, rfl, h1, h2⟩ c hc
    rcases List.mem_append.1 hc with hc | hc
    · exact iha h1 c hc
    · exact ihb h2 c hc
  | agg t ih => intro x cs h; exact ih h
  | arr n t ih => intro l cs h; exact rdAll_one (fun _ _ h => ih h) h.2
  | slice t ih =>
    intro l cs h
    rcases h with ⟨a, cap, rfl, _⟩ | ⟨b, off, cap, c, T, fz, rfl, _⟩ <;> simp [oneCell]
  | ptr t ih => rintro x cs ⟨b, off, c, T, fz, rfl, _⟩; simp [oneCell]
  | tag _ _ => intro x cs h; simp [rd] at h; simp [h, oneCell]
  | ign => rintro x cs ⟨v, rfl, hv⟩; simpa using hv
  | alt t ih =>
    intro x cs h
    cases x with
    | inl d => exact ih h.1
    | inr v => obtain ⟨rfl, hv⟩ := h; simpa using hv

/-- The world w' keeps what is frozen in w. -/
def Keep (S : FS) (w w' : World) : Prop := ∀ b, S b → w'.heap[b]? = w.heap[b]?

theorem rd_mono {S S' : FS} {w w' : World} (hS : ∀ b, S b → S' b) (hw : Keep S w w') (t : Ty) : ∀ {x : t.den} {cs : List Value}, rd S w t x cs → rd S' w' t x cs := by
  induction t with
  | int _ => intro x cs h; exact h
  | bool => intro x cs h; exact h
  | val => intro x cs h; exact h
  | pair a b iha ihb => rintro x cs ⟨c1, c2, e, h1, h2⟩; exact ⟨c1, c2, e, iha h1, ihb h2⟩
  | agg t ih => intro x cs h; exact ih h
  | arr n t ih => intro l cs h; exact ⟨h.1, rdAll_mono (fun _ _ h => ih h) h.2⟩
  | slice t ih =>
    intro l cs h
    rcases h with h | ⟨b, off, cap, c, T, fz, e, hl, hb, hc, h⟩
    · exact .inl h
    · exact .inr ⟨b, off, cap, c, T, fz, e, hl, hS _ hb, (hw _ hb).trans hc, rdAll_mono (fun _ _ h => ih h) h⟩
  | ptr t ih => rintro x cs ⟨b, off, c, T, fz, e, hb, hc, h⟩; exact ⟨b, off, c, T, fz, e, hS _ hb, (hw _ hb).trans hc, ih h⟩
  | tag _ _ => intro x cs h; exact h
  | ign => intro x cs h; exact h
  | alt t ih =>
    intro x cs h
    cases x with
    | inl d => exact ⟨ih h.1, h.2⟩
    | inr v => exact h

theorem rd_flat {S S' : FS} {w w' : World} (t : Ty) : ∀ {x : t.den} {cs : List Value}, t.flat = true → rd S w t x cs → rd S' w' t x cs := by
  induction t with
  | int _ => intro x cs _ h; exact h
  | bool => intro x cs _ h; exact h
  | val => intro x cs _ h; exact h
  | pair a b iha ihb =>
    rintro x cs hf ⟨c1, c2, e, h1, h2⟩
    simp [Ty.flat] at hf
    exact ⟨c1, c2, e, iha hf.1 h1, ihb hf.2 h2⟩
  | agg t ih => intro x cs hf h; exact ih hf h
  | arr n t ih => intro l cs hf h; exact ⟨h.1, rdAll_mono (fun _ _ h => ih hf h) h.2⟩
  | slice t ih => intro l cs hf h; simp [Ty.flat] at hf
  | ptr t ih => intro l cs hf h; simp [Ty.flat] at hf
  | tag _ _ => intro x cs _ h; exact h
  | ign => intro x cs _ h; exact h
  | alt t ih =>
    intro x cs hf h
    cases x with
    | inl d => exact ⟨ih hf h.1, h.2⟩
    | inr v => exact h

/-- Assertions on a value, or on a row of cells. -/
inductive A where
  | eq (v : Value)
  | rep (t : Ty) (x : t.den)
  | at (t : Ty) (x : t.den)
  | pair (a b : A)
  | agg (a : A)
  | tup (a : A)
  | any

/-- What a row of cells must be. -/
def A.cells (S : FS) (w : World) : A → List Value → Prop
  | .eq v, cs => cs = [v] ∧ oneCell v = true
  | .rep t x, cs => rd S w t x cs
  | .at t x, cs => rd S w (.ptr t) x cs
  | .pair a b, cs => ∃ c1 c2, cs = c1 ++ c2 ∧ a.cells S w c1 ∧ b.cells S w c2
  | .agg a, cs => a.cells S w cs
  | .tup _, _ => False
  | .any, _ => False

@[reducible] def A.n : A → Nat
  | .rep t _ => t.cells
  | .pair a b => a.n + b.n
  | .agg a => a.n
  | _ => 1

/-- The value that a row of cells makes. -/
def mk (isAgg : Bool) (cs : List Value) : Value := if isAgg then .agg cs.toArray else cs.headD undef

/-- What a value must be. -/
def A.holds (S : FS) (w : World) : A → Value → Prop
  | .eq v0, v => v = v0
  | .rep t x, v => ∃ cs, rd S w t x cs ∧ v = mk t.isAgg cs
  | .at t x, v => rd S w (.ptr t) x [v]
  | .pair _ _, _ => False
  | .agg a, v => ∃ cs, a.cells S w cs ∧ v = .agg cs.toArray
  | .tup a, v => ∃ vs : List Value, v = .tuple vs.toArray ∧ holdsAll a vs
  | .any, _ => True
where
  holdsAll : A → List Value → Prop
  | .pair a b, vs => ∃ v vs', vs = v :: vs' ∧ A.holds S w a v ∧ holdsAll b vs'
  | .any, vs => vs = []
  | _, _ => False

end K
end Go.Proofs.Ytfhdclhbdmhnmaa
