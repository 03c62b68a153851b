/- A calculus for code whose data are trees. Part 1: data as trees ('Ty', 'rd'), assertions on values ('A'), resources ('D'), and that they persist. No program in sight. -/
import Derived.WalkKit
import Derived.RangeFuncLeaves
import Derived.RangeFuncCalls
import Derived.TacticsIn
import Derived.OrdersIn
import Derived.LoopIn
import Derived.RecoverIn
import Derived.Maps.AppendAt
namespace Go.Proofs.Ytomnkjcklkcnhaa
namespace K
open Go

/-- Which blocks are frozen: nobody writes them any more. -/
abbrev FS := Nat → Prop

inductive Ty where
 | int (k : IntKind)
 | bool
 | val
 | pair (a b : Ty)
 | agg (t : Ty)
 | arr (n : Nat) (t : Ty)
 | slice (t : Ty)
 | ptr (t : Ty)
 | tag (t0 t1 : TypeId)
 /-- one cell, of which nothing is told -/
 | ign
 /-- a datum, or a value as it is -/
 | alt (t : Ty)

@[reducible] def Ty.den : Ty → Type
 | .int _ => Int
 | .bool => Bool
 | .val => Value
 | .pair a b => a.den × b.den
 | .agg t => t.den
 | .arr _ t => List t.den
 | .slice t => List t.den
 | .ptr t => t.den
 | .tag _ _ => Bool × Int
 | .ign => Unit
 | .alt t => t.den ⊕ Value

@[reducible] def Ty.cells : Ty → Nat
 | .pair a b => a.cells + b.cells
 | .agg t => t.cells
 | .arr n t => n * t.cells
 | _ => 1

@[reducible] def Ty.isAgg : Ty → Bool
 | .agg _ => true
 | .arr _ _ => true
 | _ => false

/-- Does a datum of this type never lead to memory? -/
@[reducible] def Ty.flat : Ty → Bool
 | .pair a b => a.flat && b.flat
 | .agg t => t.flat
 | .arr _ t => t.flat
 | .slice _ => false
 | .ptr _ => false
 | .alt t => t.flat
 | _ => true

def oneCell : Value → Bool
 | .agg _ => false
 | .tuple _ => false
 | _ => true

/-- A row of data, each of so many cells. -/
def rdAll {α : Type} (R : α → List Value → Prop) : List α → List Value → Prop
 | [], cs => cs = []
 | x :: l, cs => ∃ c1 c2, cs = c1 ++ c2 ∧ R x c1 ∧ rdAll R l c2

def rd (S : FS) (w : World) : (t : Ty) → t.den → List Value → Prop
 | .int k, n, cs => cs = [.int k n]
 | .bool, b, cs => cs = [.bool b]
 | .val, v, cs => cs = [v] ∧ oneCell v = true
 | .pair a b, x, cs => ∃ c1 c2, cs = c1 ++ c2 ∧ rd S w a x.1 c1 ∧ rd S w b x.2 c2
 | .agg t, x, cs => rd S w t x cs
 | .arr n t, l, cs => l.length = n ∧ rdAll (rd S w t) l cs
 | .slice t, l, cs => (∃ a cap, cs = [.slice a 0 cap] ∧ l = []) ∨
  ∃ b off cap c T fz, cs = [.slice (some ⟨b, off, none⟩) l.length cap] ∧ l.length ≤ cap ∧ S b ∧ w.heap[b]? = some (.cells c T fz) ∧
   rdAll (rd S w t) l ((c.toList.drop off).take (l.length * t.cells))
 | .ptr t, x, cs => ∃ b off c T fz, cs = [.pointer (some ⟨b, off, none⟩)] ∧ S b ∧ w.heap[b]? = some (.cells c T fz) ∧
  rd S w t x ((c.toList.drop off).take t.cells)
 | .tag t0 t1, x, cs => cs = [.iface (if x.1 then t1 else t0) (.int .i64 x.2)]
 | .ign, _, cs => ∃ v, cs = [v] ∧ oneCell v = true
 | .alt t, x, cs => match x with
  | .inl d => rd S w t d cs ∧ cs.length = 1
  | .inr v => cs = [v] ∧ oneCell v = true

theorem rdAll_mono {α : Type} {R R' : α → List Value → Prop} (h : ∀ x cs, R x cs → R' x cs) : ∀ {l : List α} {cs : List Value}, rdAll R l cs → rdAll R' l cs
 | [], _, e => e
 | _ :: _, _, ⟨c1, c2, e, h1, h2⟩ => ⟨c1, c2, e, h _ _ h1, rdAll_mono h h2⟩

theorem rdAll_length {α : Type} {R : α → List Value → Prop} {n : Nat} (h : ∀ x cs, R x cs → cs.length = n) : ∀ {l : List α} {cs : List Value}, rdAll R l cs → cs.length = l.length * n
 | [], _, e => by simp [rdAll] at e; simp [e]
 | _ :: l, _, ⟨c1, c2, e, h1, h2⟩ => by
  have := rdAll_length h h2
  have := h _ _ h1
  subst e
  simp only [List.length_append, List.length_cons, Nat.add_mul]
  omega

theorem rd_length {S : FS} {w : World} (t : Ty) : ∀ {x : t.den} {cs : List Value}, rd S w t x cs → cs.length = t.cells := by
 induction t with
 | int _ => intro x cs h; simp [rd] at h; simp [h, Ty.cells]
 | bool => intro x cs h; simp [rd] at h; simp [h, Ty.cells]
 | val => intro x cs h; simp [rd] at h; simp [h, Ty.cells]
 | pair a b iha ihb =>
  rintro x cs ⟨c1, c2, rfl, h1, h2⟩;simp [Ty.cells, iha h1, ihb h2]
 | agg t ih => intro x cs h; exact ih h
 | arr n t ih =>
  rintro l cs ⟨hn, h⟩;have := rdAll_length (fun _ _ h => ih h) h;rw [this, hn]
 | slice t ih =>
  intro l cs h;rcases h with ⟨a, cap, rfl, _⟩ | ⟨b, off, cap, c, T, fz, rfl, _⟩ <;> rfl
 | ptr t ih => rintro x cs ⟨b, off, c, T, fz, rfl, _⟩; rfl
 | tag _ _ => intro x cs h; simp [rd] at h; simp [h, Ty.cells]
 | ign => rintro x cs ⟨v, rfl, _⟩; rfl
 | alt t ih =>
  intro x cs h;cases x with
  | inl d => exact h.2
  | inr v => obtain ⟨rfl, _⟩ := h; rfl

theorem rdAll_one {α : Type} {R : α → List Value → Prop} (h : ∀ x cs, R x cs → ∀ c ∈ cs, oneCell c = true) : ∀ {l : List α} {cs : List Value}, rdAll R l cs → ∀ c ∈ cs, oneCell c = true
 | [], _, e => by simp [rdAll] at e; simp [e]
 | _ :: _, _, ⟨c1, c2, e, h1, h2⟩ => by
  subst e
  intro c hc
  rcases List.mem_append.1 hc with hc | hc
  ·
   exact h _ _ h1 c hc
  ·
   exact rdAll_one h h2 c hc

theorem rd_one {S : FS} {w : World} (t : Ty) : ∀ {x : t.den} {cs : List Value}, rd S w t x cs → ∀ c ∈ cs, oneCell c = true := by
 induction t with
 | int _ => intro x cs h; simp [rd] at h; simp [h, oneCell]
 | bool => intro x cs h; simp [rd] at h; simp [h, oneCell]
 | val => intro x cs h; simp [rd] at h; simp [h]
 | pair a b iha ihb =>
  rintro x cs ⟨c1, c2, rfl, h1, h2⟩ c hc;rcases List.mem_append.1 hc with hc | hc
  ·exact iha h1 c hc
  ·exact ihb h2 c hc
 | agg t ih => intro x cs h; exact ih h
 | arr n t ih => intro l cs h; exact rdAll_one (fun _ _ h => ih h) h.2
 | slice t ih =>
  intro l cs h;rcases h with ⟨a, cap, rfl, _⟩ | ⟨b, off, cap, c, T, fz, rfl, _⟩ <;> simp [oneCell]
 | ptr t ih => rintro x cs ⟨b, off, c, T, fz, rfl, _⟩; simp [oneCell]
 | tag _ _ => intro x cs h; simp [rd] at h; simp [h, oneCell]
 | ign => rintro x cs ⟨v, rfl, hv⟩; simpa using hv
 | alt t ih =>
  intro x cs h;cases x with
  | inl d => exact ih h.1
  | inr v => obtain ⟨rfl, hv⟩ := h; simpa using hv

/-- The world w' keeps what is frozen in w. -/
def Keep (S : FS) (w w' : World) : Prop := ∀ b, S b → w'.heap[b]? = w.heap[b]?

theorem rd_mono {S S' : FS} {w w' : World} (hS : ∀ b, S b → S' b) (hw : Keep S w w') (t : Ty) : ∀ {x : t.den} {cs : List Value}, rd S w t x cs → rd S' w' t x cs := by
 induction t with
 | int _ => intro x cs h; exact h
 | bool => intro x cs h; exact h
 | val => intro x cs h; exact h
 | pair a b iha ihb => rintro x cs ⟨c1, c2, e, h1, h2⟩; exact ⟨c1, c2, e, iha h1, ihb h2⟩
 | agg t ih => intro x cs h; exact ih h
 | arr n t ih => intro l cs h; exact ⟨h.1, rdAll_mono (fun _ _ h => ih h) h.2⟩
 | slice t ih =>
  intro l cs h;rcases h with h | ⟨b, off, cap, c, T, fz, e, hl, hb, hc, h⟩
  ·exact .inl h
  ·exact .inr ⟨b, off, cap, c, T, fz, e, hl, hS _ hb, (hw _ hb).trans hc, rdAll_mono (fun _ _ h => ih h) h⟩
 | ptr t ih => rintro x cs ⟨b, off, c, T, fz, e, hb, hc, h⟩; exact ⟨b, off, c, T, fz, e, hS _ hb, (hw _ hb).trans hc, ih h⟩
 | tag _ _ => intro x cs h; exact h
 | ign => intro x cs h; exact h
 | alt t ih =>
  intro x cs h;cases x with
  | inl d => exact ⟨ih h.1, h.2⟩
  | inr v => exact h

theorem rd_flat {S S' : FS} {w w' : World} (t : Ty) : ∀ {x : t.den} {cs : List Value}, t.flat = true → rd S w t x cs → rd S' w' t x cs := by
 induction t with
 | int _ => intro x cs _ h; exact h
 | bool => intro x cs _ h; exact h
 | val => intro x cs _ h; exact h
 | pair a b iha ihb =>
  rintro x cs hf ⟨c1, c2, e, h1, h2⟩;simp [Ty.flat] at hf;exact ⟨c1, c2, e, iha hf.1 h1, ihb hf.2 h2⟩
 | agg t ih => intro x cs hf h; exact ih hf h
 | arr n t ih => intro l cs hf h; exact ⟨h.1, rdAll_mono (fun _ _ h => ih hf h) h.2⟩
 | slice t ih => intro l cs hf h; simp [Ty.flat] at hf
 | ptr t ih => intro l cs hf h; simp [Ty.flat] at hf
 | tag _ _ => intro x cs _ h; exact h
 | ign => intro x cs _ h; exact h
 | alt t ih =>
  intro x cs hf h;cases x with
  | inl d => exact ⟨ih hf h.1, h.2⟩
  | inr v => exact h

/-- Assertions on a value, or on a row of cells. -/
inductive A where
 | eq (v : Value)
 | rep (t : Ty) (x : t.den)
 | at (t : Ty) (x : t.den)
 | pair (a b : A)
 | agg (a : A)
 | tup (a : A)
 | any

/-- What a row of cells must be. -/
def A.cells (S : FS) (w : World) : A → List Value → Prop
 | .eq v, cs => cs = [v] ∧ oneCell v = true
 | .rep t x, cs => rd S w t x cs
 | .at t x, cs => rd S w (.ptr t) x cs
 | .pair a b, cs => ∃ c1 c2, cs = c1 ++ c2 ∧ a.cells S w c1 ∧ b.cells S w c2
 | .agg a, cs => a.cells S w cs
 | .tup _, _ => False
 | .any, _ => False

@[reducible] def A.n : A → Nat
 | .rep t _ => t.cells
 | .pair a b => a.n + b.n
 | .agg a => a.n
 | _ => 1

/-- The value that a row of cells makes. -/
def mk (isAgg : Bool) (cs : List Value) : Value := if isAgg then .agg cs.toArray else cs.headD undef

/-- What a value must be. -/
def A.holds (S : FS) (w : World) : A → Value → Prop
 | .eq v0, v => v = v0
 | .rep t x, v => ∃ cs, rd S w t x cs ∧ v = mk t.isAgg cs
 | .at t x, v => rd S w (.ptr t) x [v]
 | .pair _ _, _ => False
 | .agg a, v => ∃ cs, a.cells S w cs ∧ v = .agg cs.toArray
 | .tup a, v => ∃ vs : List Value, v = .tuple vs.toArray ∧ holdsAll a vs
 | .any, _ => True
where
 holdsAll : A → List Value → Prop
 | .pair a b, vs => ∃ v vs', vs = v :: vs' ∧ A.holds S w a v ∧ holdsAll b vs'
 | .any, vs => vs = []
 | _, _ => False

end K
end Go.Proofs.Ytomnkjcklkcnhaa

/- The calculus, part 2: assertions and resources persist; what one operation, a region, a piece of code and a call do to them. -/
namespace Go.Proofs.Ytomnkjcklkcnhaa
namespace K
open Go

theorem A.cells_length {S : FS} {w : World} (r : A) : ∀ {cs : List Value}, r.cells S w cs → cs.length = r.n := by
 induction r with
 | eq v => rintro cs ⟨rfl, _⟩; rfl
 | rep t x => intro cs h; exact rd_length t h
 | «at» t x => intro cs h; exact rd_length (.ptr t) h
 | pair a b iha ihb => rintro cs ⟨c1, c2, rfl, h1, h2⟩; simp [A.n, iha h1, ihb h2]
 | agg a ih => intro cs h; exact ih h
 | tup a _ => intro cs h; exact h.elim
 | any => intro cs h; exact h.elim

theorem A.cells_one {S : FS} {w : World} (r : A) : ∀ {cs : List Value}, r.cells S w cs → ∀ c ∈ cs, oneCell c = true := by
 induction r with
 | eq v => rintro cs ⟨rfl, h⟩ c hc; simp at hc; subst hc; exact h
 | rep t x => intro cs h; exact rd_one t h
 | «at» t x => intro cs h; exact rd_one (.ptr t) h
 | pair a b iha ihb =>
  rintro cs ⟨c1, c2, rfl, h1, h2⟩ c hc;rcases List.mem_append.1 hc with hc | hc
  ·exact iha h1 c hc
  ·exact ihb h2 c hc
 | agg a ih => intro cs h; exact ih h
 | tup a _ => intro cs h; exact h.elim
 | any => intro cs h; exact h.elim

section
variable {S S' : FS} {w w' : World}

theorem A.cells_mono (hS : ∀ b, S b → S' b) (hw : Keep S w w') (r : A) : ∀ {cs : List Value}, r.cells S w cs → r.cells S' w' cs := by
 induction r with
 | eq v => intro cs h; exact h
 | rep t x => intro cs h; exact rd_mono hS hw t h
 | «at» t x => intro cs h; exact rd_mono hS hw (.ptr t) h
 | pair a b iha ihb => rintro cs ⟨c1, c2, e, h1, h2⟩; exact ⟨c1, c2, e, iha h1, ihb h2⟩
 | agg a ih => intro cs h; exact ih h
 | tup a _ => intro cs h; exact h
 | any => intro cs h; exact h

theorem A.mono_both (hS : ∀ b, S b → S' b) (hw : Keep S w w') (r : A) : (∀ {v : Value}, r.holds S w v → r.holds S' w' v) ∧ (∀ {vs : List Value}, A.holds.holdsAll S w r vs → A.holds.holdsAll S' w' r vs) := by
 induction r with
 | eq v => exact ⟨fun h => h, fun h => h⟩
 | rep t x => exact ⟨fun ⟨cs, h, e⟩ => ⟨cs, rd_mono hS hw t h, e⟩, fun h => h⟩
 | «at» t x => exact ⟨fun h => rd_mono hS hw (.ptr t) h, fun h => h⟩
 | pair a b iha ihb => exact ⟨fun h => h, fun ⟨v, vs, e, h1, h2⟩ => ⟨v, vs, e, iha.1 h1, ihb.2 h2⟩⟩
 | agg a _ => exact ⟨fun ⟨cs, h, e⟩ => ⟨cs, A.cells_mono hS hw a h, e⟩, fun h => h⟩
 | tup a ih => exact ⟨fun ⟨vs, e, h⟩ => ⟨vs, e, ih.2 h⟩, fun h => h⟩
 | any => exact ⟨fun h => h, fun h => h⟩

theorem A.mono (hS : ∀ b, S b → S' b) (hw : Keep S w w') (r : A) {v : Value} (h : r.holds S w v) : r.holds S' w' v := (A.mono_both hS hw r).1 h
end

/-- Resources: what the code at hand alone may write. -/
inductive D where
 | obj (b : Nat) (T : TypeId) (a : A)
 | sl (v : Value) (T : TypeId) (t : Ty) (l : List t.den)
 | raw (b : Nat) (o : Obj)
 | inv (b : Nat) (p : Obj → Prop)

def D.foot : D → Option Nat
 | .obj b _ _ => some b
 | .sl v _ _ _ => v.ownBlock
 | .raw b _ => some b
 | .inv b _ => some b

def D.holds (S : FS) (w : World) : D → Prop
 | .obj b T a => ∃ cs : List Value, w.heap[b]? = some (.cells cs.toArray T (0, 0)) ∧ a.cells S w cs
 | .sl v T t l => (v = .slice none 0 0 ∧ l = []) ∨ ∃ b cap c, v = .slice (some ⟨b, 0, none⟩) l.length cap ∧ l.length ≤ cap ∧ cap ≤ maxLen ∧
  w.heap[b]? = some (.cells c T (0, 0)) ∧ c.size = cap * t.cells ∧ rdAll (rd S w t) l (c.toList.take (l.length * t.cells))
 | .raw b o => w.heap[b]? = some o
 | .inv b p => ∃ o, w.heap[b]? = some o ∧ p o

theorem D.holds_mono {S S' : FS} {w w' : World} (hS : ∀ b, S b → S' b) (hw : Keep S w w') (d : D) (hd : ∀ b, d.foot = some b → w'.heap[b]? = w.heap[b]?) (h : d.holds S w) : d.holds S' w' := by
 cases d with
 | obj b T a =>
  obtain ⟨cs, h1, h2⟩ := h;exact ⟨cs, (hd b rfl).trans h1, a.cells_mono hS hw h2⟩
 | sl v T t l =>
  rcases h with h | ⟨b, cap, c, rfl, h1, h1', h2, h3, h4⟩
  ·exact .inl h
  ·exact .inr ⟨b, cap, c, rfl, h1, h1', (hd b rfl).trans h2, h3, rdAll_mono (fun _ _ h => rd_mono hS hw t h) h4⟩
 | raw b o => exact (hd b rfl).trans h
 | inv b p => obtain ⟨o, h1, h2⟩ := h; exact ⟨o, (hd b rfl).trans h1, h2⟩

/-- The blocks of some resources. -/
def feet (Δ : List D) (b : Nat) : Prop := ∃ d ∈ Δ, d.foot = some b

structure Owns (Δ : List D) (S : FS) (w : World) : Prop where
 holds : ∀ d ∈ Δ, d.holds S w
 own : ∀ b, feet Δ b → ¬ S b ∧ b < w.heap.size
 apart : Δ.Pairwise fun d d' => ∀ b, d.foot = some b → d'.foot ≠ some b

/-- What becomes of frozen blocks and worlds where at most the blocks X are written. -/
structure Step (X : Nat → Prop) (S : FS) (w : World) (S' : FS) (w' : World) : Prop where
 sub : ∀ b, S b → S' b
 new : ∀ b, S' b → S b ∨ w.heap.size ≤ b ∨ X b
 dom : ∀ b, S' b → b < w'.heap.size
 size : w.heap.size ≤ w'.heap.size
 keep : ∀ b, b < w.heap.size → ¬ X b → w'.heap[b]? = w.heap[b]?
 os : w'.os = w.os
 tape : w'.tape = w.tape
 output : w'.output = w.output

theorem Step.refl {X : Nat → Prop} {S : FS} {w : World} (h : ∀ b, S b → b < w.heap.size) : Step X S w S w :=
 ⟨fun _ h => h, fun _ h => .inl h, h, Nat.le_refl _, fun _ _ _ => rfl, rfl, rfl, rfl⟩

theorem Step.trans {X Y : Nat → Prop} {S S1 S2 : FS} {w w1 w2 : World} (h : Step X S w S1 w1) (h' : Step Y S1 w1 S2 w2)
 (hY : ∀ b, Y b → X b ∨ w.heap.size ≤ b) : Step X S w S2 w2 where
 sub b hb := h'.sub b (h.sub b hb)
 new b hb := by
  rcases h'.new b hb with h1 | h1 | h1
  ·exact h.new b h1
  ·exact .inr (.inl (Nat.le_trans h.size h1))
  ·rcases hY b h1 with h2 | h2
   ·exact .inr (.inr h2)
   ·exact .inr (.inl h2)
 dom := h'.dom;size := Nat.le_trans h.size h'.size;keep b hb hx := (h'.keep b (Nat.lt_of_lt_of_le hb h.size) (fun hy => (hY b hy).elim (fun h2 => hx h2) (fun h2 => by omega))).trans (h.keep b hb hx);os := h'.os.trans h.os;tape := h'.tape.trans h.tape;output := h'.output.trans h.output

theorem Step.mono {X Y : Nat → Prop} {S S1 : FS} {w w1 : World} (h : Step X S w S1 w1) (hX : ∀ b, X b → Y b) : Step Y S w S1 w1 :=
 ⟨h.sub, fun b hb => (h.new b hb).imp id (Or.imp id (hX b)), h.dom, h.size, fun b hb hx => h.keep b hb (fun hh => hx (hX b hh)), h.os, h.tape, h.output⟩

/-- What is owned beside what was at work stays. -/
theorem Owns.frame {Δ Δ' F : List D} {S S' : FS} {w w' : World} (hd : ∀ b, S b → b < w.heap.size) (h : Owns (Δ ++ F) S w) (hs : Step (feet Δ) S w S' w') (h' : Owns Δ' S' w')
 (hf : ∀ b, feet Δ' b → feet Δ b ∨ w.heap.size ≤ b) : Owns (Δ' ++ F) S' w' := by
 have hap := List.pairwise_append.1 h.apart;have hnot : ∀ b, feet F b → ¬ feet Δ b := fun b ⟨d', hd', e'⟩ ⟨d, hd, e⟩ => hap.2.2 d hd d' hd' b e e';have hF : ∀ b, feet F b → w'.heap[b]? = w.heap[b]? := fun b hb => hs.keep b (h.own b (by obtain ⟨d, hd, e⟩ := hb; exact ⟨d, List.mem_append.2 (.inr hd), e⟩)).2 (hnot b hb);have hK : Keep S w w' := fun b hb => hs.keep b (hd b hb) (fun hx => (h.own b (by obtain ⟨d, hd, e⟩ := hx; exact ⟨d, List.mem_append.2 (.inl hd), e⟩)).1 hb);refine ⟨fun d hd => ?_, fun b hb => ?_, ?_⟩
 ·rcases List.mem_append.1 hd with hd | hd
  ·exact h'.holds d hd
  ·exact D.holds_mono hs.sub hK d (fun b e => hF b ⟨d, hd, e⟩) (h.holds d (List.mem_append.2 (.inr hd)))
 ·obtain ⟨d, hd, e⟩ := hb;rcases List.mem_append.1 hd with hd | hd
  ·exact h'.own b ⟨d, hd, e⟩
  ·have hb : feet F b := ⟨d, hd, e⟩;have ho := h.own b ⟨d, List.mem_append.2 (.inr hd), e⟩;refine ⟨fun hS => ?_, Nat.lt_of_lt_of_le ho.2 hs.size⟩;rcases hs.new b hS with h1 | h1 | h1
   ·exact ho.1 h1
   ·omega
   ·exact hnot b hb h1
 ·refine List.pairwise_append.2 ⟨h'.apart, hap.2.1, fun d hd d' hd' b e e' => ?_⟩;have ho := h.own b ⟨d', List.mem_append.2 (.inr hd'), e'⟩;rcases hf b ⟨d, hd, e⟩ with h1 | h1
  ·exact hnot b ⟨d', hd', e'⟩ h1
  ·omega

theorem Owns.perm {Δ Δ' : List D} {S : FS} {w : World} (hp : Δ.Perm Δ') (h : Owns Δ S w) : Owns Δ' S w :=
 ⟨fun d hd => h.holds d (hp.mem_iff.2 hd), fun b ⟨d, hd, e⟩ => h.own b ⟨d, hp.mem_iff.2 hd, e⟩,
  (hp.pairwise_iff (fun h b e e' => h b e' e)).1 h.apart⟩

theorem feet_perm {Δ Δ' : List D} (hp : Δ.Perm Δ') (b : Nat) : feet Δ b ↔ feet Δ' b :=
 ⟨fun ⟨d, hd, e⟩ => ⟨d, hp.mem_iff.1 hd, e⟩, fun ⟨d, hd, e⟩ => ⟨d, hp.mem_iff.2 hd, e⟩⟩

/-- What is known of a frame's slots: the first entry of a slot counts. -/
abbrev Ga := List (Nat × A)

def lk : Ga → Nat → Option A
 | [], _ => none
 | (s, r) :: l, k => if s = k then some r else lk l k

/-- What an operation asks of its operands. -/
def Needs (S : FS) (w : World) (a : Act) : List (Operand × A) → Prop
 | [] => True
 | (x, r) :: l => r.holds S w (a.eval x) ∧ Needs S w a l

/-- The fence that lets all in, in a round or not. -/
abbrev FW (rd : Option Nat) : Fence := { Fence.wide with round := rd }
/-- No deferring. -/
def nd : Op → Bool
 | .defer _ => false
 | _ => true

/-- **One operation**: where its operands are so, and it has these resources, it yields such a value and leaves such resources, for some x. -/
def OpT (P : Program) (o : Oper) (N : List (Operand × A)) (Δ : List D) {X : Type} (R : X → A × List D) : Prop :=
 nd o.op = true ∧ ∀ (rd : Option Nat) (S : FS) (w : World) (a : Act) (next : Act → World → Prop) (Q : Exit → Act → World → Prop), (∀ b, S b → b < w.heap.size) → Needs S w a N → Owns Δ S w →
  (∀ x S' w' v, Step (feet Δ) S w S' w' → (R x).1.holds S' w' v → Owns (R x).2 S' w' → (∀ b, feet (R x).2 b → feet Δ b ∨ w.heap.size ≤ b) → next (a.put o.dst v) w') →
  o.uponIn (FW rd) 0 P a next Q ((execOp a.eval o).run P w)

theorem OpT.run {P : Program} {o : Oper} {N : List (Operand × A)} {Δ : List D} {X : Type} {R : X → A × List D} (ht : OpT P o N Δ R) (rd : Option Nat) (S : FS) (w : World) (a : Act) (next : Act → World → Prop) (Q : Exit → Act → World → Prop)
 (hd : ∀ b, S b → b < w.heap.size) (hN : Needs S w a N) (hO : Owns Δ S w)
 (k : ∀ x S' w' v, Step (feet Δ) S w S' w' → (R x).1.holds S' w' v → Owns (R x).2 S' w' → (∀ b, feet (R x).2 b → feet Δ b ∨ w.heap.size ≤ b) → next (a.put o.dst v) w') : o.wpIn (FW rd) 0 P a w next Q := by
 refine ⟨fun _ _ => trivial, ?_⟩;have h1 := ht.1;rw [Oper.semAt_eq _ _ _ (fun c e => by rw [e] at h1; cases h1)];exact ht.2 rd S w a next Q hd hN hO k

/-- What the proof of a body knows: the program, the frame's size, the world at the entry and the blocks that may be written. -/
structure Cx where
 P : Program
 N : Nat
 S0 : FS
 w0 : World
 X : Nat → Prop
 rd : Option Nat := none
 dfs : List Deferred := []

structure St (c : Cx) (Γ : Ga) (Δ : List D) (a : Act) (w : World) : Prop where
 defers : a.defers = c.dfs
 size : a.tmps.size = c.N
 ex : ∃ S : FS, Step c.X c.S0 c.w0 S w ∧ (∀ b, feet Δ b → c.X b ∨ c.w0.heap.size ≤ b) ∧ Owns Δ S w ∧ ∀ s r, lk Γ s = some r → r.holds S w (a.tmps.getD s undef)

/-- A piece of code. -/
def JC (c : Cx) (C : Code) (Q : Exit → Act → World → Prop) (Γ : Ga) (Δ : List D) : Prop := ∀ a w, St c Γ Δ a w → C.wpIn (FW c.rd) 0 c.P Q a w

/-- The operations that are left of a region. -/
def JO (c : Cx) (ops : Array Oper) (l : List Oper) (Q : Exit → Act → World → Prop) (Γ : Ga) (Δ : List D) : Prop := ∀ a w, St c Γ Δ a w → wpListIn (FW c.rd) 0 c.P ops Q l a w

/-- What comes next. -/
def JN (c : Cx) (M : Act → World → Prop) (Γ : Ga) (Δ : List D) : Prop := ∀ a w, St c Γ Δ a w → M a w

/-- The frame's entries meet what an operation asks. -/
def Has (Γ : Ga) : List (Operand × A) → Prop
 | [] => True
 | (.tmp t, r) :: l => lk Γ t = some r ∧ Has Γ l
 | (.const v, r) :: l => r = .eq v ∧ Has Γ l
 | (.func f, r) :: l => r = .eq (.func (.func f) #[] #[]) ∧ Has Γ l
 | (.global _, _) :: _ => False

theorem Needs.of_has {c : Cx} {Γ : Ga} {S : FS} {w : World} {a : Act} (h : ∀ s r, lk Γ s = some r → r.holds S w (a.tmps.getD s undef)) : ∀ {N : List (Operand × A)}, Has Γ N → Needs S w a N
 | [], _ => trivial
 | (.tmp t, r) :: l, hh => ⟨h t r hh.1, Needs.of_has (c := c) h hh.2⟩
 | (.const v, r) :: l, hh => ⟨by rw [hh.1]; rfl, Needs.of_has (c := c) h hh.2⟩
 | (.func f, r) :: l, hh => ⟨by rw [hh.1]; rfl, Needs.of_has (c := c) h hh.2⟩
 | (.global _, _) :: _, hh => hh.elim

theorem getD_put {a : Act} {d s : Nat} {v : Value} (hd : d < a.tmps.size) : ((a.put (some d) v).tmps.getD s undef) = if d = s then v else a.tmps.getD s undef := by
 simp only [Act.put, Array.getD_eq_getD_getElem?, Array.getElem?_setIfInBounds];split
 ·rename_i h; subst h; first | rfl | (rw [if_pos hd]; rfl)
 ·rfl

/-- The state behind an operation. -/
theorem St.put {c : Cx} {Γ : Ga} {Δ Δ' F : List D} {a : Act} {w w' : World} {S S' : FS} {d : Nat} {v : Value} {r : A} (hdf : a.defers = c.dfs) (hsz : a.tmps.size = c.N)
 (h1 : Step c.X c.S0 c.w0 S w) (h2 : ∀ b, feet (Δ ++ F) b → c.X b ∨ c.w0.heap.size ≤ b) (h3 : Owns (Δ ++ F) S w) (h4 : ∀ s r, lk Γ s = some r → r.holds S w (a.tmps.getD s undef))
 (hs : Step (feet Δ) S w S' w') (hr : r.holds S' w' v) (ho : Owns Δ' S' w') (hf : ∀ b, feet Δ' b → feet Δ b ∨ w.heap.size ≤ b) (hd : d < c.N) :
 St c ((d, r) :: Γ) (Δ' ++ F) (a.put (some d) v) w' := by
 have hin : ∀ b, feet Δ b → feet (Δ ++ F) b := fun b ⟨e, he, hb⟩ => ⟨e, List.mem_append.2 (.inl he), hb⟩;have hX : ∀ b, feet Δ b → c.X b ∨ c.w0.heap.size ≤ b := fun b hb => h2 b (hin b hb);have hK : Keep S w w' := fun b hb => hs.keep b (h1.dom b hb) (fun hx => (h3.own b (hin b hx)).1 hb);refine ⟨by simpa [Act.put] using hdf, by simpa [Act.put] using hsz, S', h1.trans hs hX, ?_, h3.frame h1.dom hs ho hf, ?_⟩
 ·rintro b ⟨e, he, hb⟩;rcases List.mem_append.1 he with he | he
  ·rcases hf b ⟨e, he, hb⟩ with h | h
   ·exact hX b h
   ·exact .inr (Nat.le_trans h1.size h)
  ·exact h2 b ⟨e, List.mem_append.2 (.inr he), hb⟩
 ·intro s r' hl;rw [getD_put (by omega)];simp only [lk] at hl;split at hl
  ·rename_i e;cases hl;rw [if_pos e];exact hr
  ·rename_i e;rw [if_neg e];exact A.mono hs.sub hK r' (h4 s r' hl)

/-- The same, of an operation that yields nothing. -/
theorem St.put_none {c : Cx} {Γ : Ga} {Δ Δ' F : List D} {a : Act} {w w' : World} {S S' : FS} {v : Value} (hdf : a.defers = c.dfs) (hsz : a.tmps.size = c.N)
 (h1 : Step c.X c.S0 c.w0 S w) (h2 : ∀ b, feet (Δ ++ F) b → c.X b ∨ c.w0.heap.size ≤ b) (h3 : Owns (Δ ++ F) S w) (h4 : ∀ s r, lk Γ s = some r → r.holds S w (a.tmps.getD s undef))
 (hs : Step (feet Δ) S w S' w') (ho : Owns Δ' S' w') (hf : ∀ b, feet Δ' b → feet Δ b ∨ w.heap.size ≤ b) :
 St c Γ (Δ' ++ F) (a.put none v) w' := by
 have hin : ∀ b, feet Δ b → feet (Δ ++ F) b := fun b ⟨e, he, hb⟩ => ⟨e, List.mem_append.2 (.inl he), hb⟩;have hX : ∀ b, feet Δ b → c.X b ∨ c.w0.heap.size ≤ b := fun b hb => h2 b (hin b hb);have hK : Keep S w w' := fun b hb => hs.keep b (h1.dom b hb) (fun hx => (h3.own b (hin b hx)).1 hb);refine ⟨hdf, hsz, S', h1.trans hs hX, ?_, h3.frame h1.dom hs ho hf, fun s r' hl => A.mono hs.sub hK r' (h4 s r' hl)⟩;rintro b ⟨e, he, hb⟩;rcases List.mem_append.1 he with he | he
 ·rcases hf b ⟨e, he, hb⟩ with h | h
  ·exact hX b h
  ·exact .inr (Nat.le_trans h1.size h)
 ·exact h2 b ⟨e, List.mem_append.2 (.inr he), hb⟩

section
variable {c : Cx} {ops : Array Oper} {o : Oper} {l : List Oper} {Q : Exit → Act → World → Prop} {Γ : Ga} {Δ Δ' F : List D} {N : List (Operand × A)} {d : Nat} {X : Type} {R : X → A × List D} {r : A}

theorem St.perm {a : Act} {w : World} (hp : Δ.Perm Δ') (h : St c Γ Δ a w) : St c Γ Δ' a w := by
 obtain ⟨h1, h2, S, h3, h4, h5, h6⟩ := h;exact ⟨h1, h2, S, h3, fun b hb => h4 b ((feet_perm hp b).2 hb), h5.perm hp, h6⟩

/-- Resource number k comes to the front. -/
theorem perm_front (k : Nat) (e : D) (h : Δ[k]? = some e) : Δ.Perm (e :: Δ.eraseIdx k) := by
 induction Δ generalizing k with
 | nil => simp at h
 | cons x Δ ih =>
  cases k with
  | zero => simp at h; subst h; exact List.Perm.refl _
  | succ k =>
   simp at h;exact ((ih k h).cons x).trans (List.Perm.swap _ _ _)

theorem JO.front (k : Nat) {e : D} (h : Δ[k]? = some e) (hj : JO c ops l Q Γ (e :: Δ.eraseIdx k)) : JO c ops l Q Γ Δ := fun a w hs => hj a w (hs.perm (perm_front k e h))
theorem JC.front {C : Code} (k : Nat) {e : D} (h : Δ[k]? = some e) (hj : JC c C Q Γ (e :: Δ.eraseIdx k)) : JC c C Q Γ Δ := fun a w hs => hj a w (hs.perm (perm_front k e h))
theorem JN.front {M : Act → World → Prop} (k : Nat) {e : D} (h : Δ[k]? = some e) (hj : JN c M Γ (e :: Δ.eraseIdx k)) : JN c M Γ Δ := fun a w hs => hj a w (hs.perm (perm_front k e h))

/-- An operation that yields into slot d, by its triple, under the test of its guard. -/
theorem JO.stepG (hg : ∀ a w, St c Γ (Δ ++ F) a w → Region.wanted o (yielded ops a.tmps) = true) (hd : o.dst = some d) (hdN : Nat.blt d c.N = true) (ht : OpT c.P o N Δ R) (hh : Has Γ N)
 (h : ∀ x, JO c ops l Q ((d, (R x).1) :: Γ) ((R x).2 ++ F)) : JO c ops (o :: l) Q Γ (Δ ++ F) := by
 intro a w hst;have hw := hg a w hst;obtain ⟨h1, h2, S, h3, h4, h5, h6⟩ := hst;refine wpListIn_step fun K hK => ?_;rw [if_pos hw];have hO : Owns Δ S w := ⟨fun e he => h5.holds e (List.mem_append.2 (.inl he)), fun b ⟨e, he, hb⟩ => h5.own b ⟨e, List.mem_append.2 (.inl he), hb⟩, (List.pairwise_append.1 h5.apart).1⟩;refine ht.run c.rd S w a K Q h3.dom (Needs.of_has (c := c) h6 hh) hO fun x S' w' v hs hr ho hf => hK _ _ ?_;rw [hd];exact h x _ _ (St.put h1 h2 h3 h4 h5 h6 hs hr ho hf (Nat.blt_eq ▸ hdN))

theorem JO.stepGn (hg : ∀ a w, St c Γ (Δ ++ F) a w → Region.wanted o (yielded ops a.tmps) = true) (hd : o.dst = none) (ht : OpT c.P o N Δ R) (hh : Has Γ N)
 (h : ∀ x, JO c ops l Q Γ ((R x).2 ++ F)) : JO c ops (o :: l) Q Γ (Δ ++ F) := by
 intro a w hst;have hw := hg a w hst;obtain ⟨h1, h2, S, h3, h4, h5, h6⟩ := hst;refine wpListIn_step fun K hK => ?_;rw [if_pos hw];have hO : Owns Δ S w := ⟨fun e he => h5.holds e (List.mem_append.2 (.inl he)), fun b ⟨e, he, hb⟩ => h5.own b ⟨e, List.mem_append.2 (.inl he), hb⟩, (List.pairwise_append.1 h5.apart).1⟩;refine ht.run c.rd S w a K Q h3.dom (Needs.of_has (c := c) h6 hh) hO fun x S' w' v hs hr ho hf => hK _ _ ?_;rw [hd];exact h x _ _ (St.put_none h1 h2 h3 h4 h5 h6 hs ho hf)

theorem wanted_none (hg : o.guard = none) (y : Nat → Option Bool) : Region.wanted o y = true := by simp [Region.wanted, hg]

/-- The guard of an operation, as the frame knows it. -/
theorem wanted_of {j s : Nat} {g : Bool} {oj : Oper} (hg : o.guard = some (j, g)) (hj : ops[j]? = some oj) (hs : oj.dst = some s) {b : Bool} (hl : lk Γ s = some (.eq (.bool b))) {a : Act} {w : World} (h : St c Γ Δ a w) :
 Region.wanted o (yielded ops a.tmps) = (b == g) := by
 obtain ⟨_, _, S, _, _, _, h6⟩ := h;have h7 : a.tmps.getD s undef = .bool b := h6 s _ hl
 have h8 : yielded ops a.tmps j = some b := by
  unfold yielded;simp only [hj, Option.bind_some, hs];rw [Array.getD_eq_getD_getElem?] at h7;cases h9 : a.tmps[s]? with
  | none => rw [h9] at h7; simp [undef] at h7
  | some v => rw [h9] at h7; simp at h7; subst h7; rfl
 simp only [Region.wanted, hg, h8];cases b <;> cases g <;> rfl

/-- No resource used, none made. -/
theorem JO.s00 (hg : o.guard = none) (hd : o.dst = some d) (hdN : Nat.blt d c.N = true) (ht : OpT c.P o N [] (fun _ : Unit => (r, []))) (hh : Has Γ N) (h : JO c ops l Q ((d, r) :: Γ) Δ) : JO c ops (o :: l) Q Γ Δ :=
 JO.stepG (Δ := []) (fun _ _ _ => wanted_none hg _) hd hdN ht hh fun _ => h

/-- No resource used, one made. -/
theorem JO.s01 {e : X → D} {r : X → A} (hg : o.guard = none) (hd : o.dst = some d) (hdN : Nat.blt d c.N = true) (ht : OpT c.P o N [] (fun x => (r x, [e x]))) (hh : Has Γ N) (h : ∀ x, JO c ops l Q ((d, r x) :: Γ) (e x :: Δ)) : JO c ops (o :: l) Q Γ Δ :=
 JO.stepG (Δ := []) (fun _ _ _ => wanted_none hg _) hd hdN ht hh fun x => h x

/-- The first resource used. -/
theorem JO.s11 {e e' : D} (hg : o.guard = none) (hd : o.dst = some d) (hdN : Nat.blt d c.N = true) (ht : OpT c.P o N [e] (fun _ : Unit => (r, [e']))) (hh : Has Γ N) (h : JO c ops l Q ((d, r) :: Γ) (e' :: F)) : JO c ops (o :: l) Q Γ (e :: F) :=
 JO.stepG (Δ := [e]) (fun _ _ _ => wanted_none hg _) hd hdN ht hh fun _ => h

theorem JO.s1x {e : D} {e' : X → D} {r : X → A} (hg : o.guard = none) (hd : o.dst = some d) (hdN : Nat.blt d c.N = true) (ht : OpT c.P o N [e] (fun x => (r x, [e' x]))) (hh : Has Γ N) (h : ∀ x, JO c ops l Q ((d, r x) :: Γ) (e' x :: F)) : JO c ops (o :: l) Q Γ (e :: F) :=
 JO.stepG (Δ := [e]) (fun _ _ _ => wanted_none hg _) hd hdN ht hh fun x => h x

theorem JO.n11 {e e' : D} (hg : o.guard = none) (hd : o.dst = none) (ht : OpT c.P o N [e] (fun _ : Unit => (r, [e']))) (hh : Has Γ N) (h : JO c ops l Q Γ (e' :: F)) : JO c ops (o :: l) Q Γ (e :: F) :=
 JO.stepGn (Δ := [e]) (fun _ _ _ => wanted_none hg _) hd ht hh fun _ => h

/-! The same under a guard that lets the operation be carried out. -/
section
variable {j s : Nat} {g : Bool} {oj : Oper}
theorem JO.g00 (hg : o.guard = some (j, g)) (hj : ops[j]? = some oj) (hs : oj.dst = some s) (hl : lk Γ s = some (.eq (.bool g))) (hd : o.dst = some d) (hdN : Nat.blt d c.N = true) (ht : OpT c.P o N [] (fun _ : Unit => (r, []))) (hh : Has Γ N) (h : JO c ops l Q ((d, r) :: Γ) Δ) : JO c ops (o :: l) Q Γ Δ :=
 JO.stepG (Δ := []) (fun _ _ h => by rw [wanted_of hg hj hs hl h]; simp) hd hdN ht hh fun _ => h

theorem JO.g11 {e e' : D} (hg : o.guard = some (j, g)) (hj : ops[j]? = some oj) (hs : oj.dst = some s) (hl : lk Γ s = some (.eq (.bool g))) (hd : o.dst = some d) (hdN : Nat.blt d c.N = true) (ht : OpT c.P o N [e] (fun _ : Unit => (r, [e']))) (hh : Has Γ N) (h : JO c ops l Q ((d, r) :: Γ) (e' :: F)) : JO c ops (o :: l) Q Γ (e :: F) :=
 JO.stepG (Δ := [e]) (fun _ _ h => by rw [wanted_of hg hj hs hl h]; simp) hd hdN ht hh fun _ => h

/-- A guard that passes the operation over. -/
theorem JO.gno (hg : o.guard = some (j, g)) (hj : ops[j]? = some oj) (hs : oj.dst = some s) {b : Bool} (hl : lk Γ s = some (.eq (.bool b))) (hb : (b == g) = false) (hd : o.dst = some d) (hdN : Nat.blt d c.N = true) (h : JO c ops l Q ((d, .eq undef) :: Γ) Δ) : JO c ops (o :: l) Q Γ Δ := by
 intro a w hst;have hw : Region.wanted o (yielded ops a.tmps) = false := by rw [wanted_of hg hj hs hl hst]; exact hb
 obtain ⟨h1, h2, S, h3, h4, h5, h6⟩ := hst;refine wpListIn_step fun K hK => ?_;rw [if_neg (by rw [hw]; simp)];refine ⟨fun _ _ => trivial, hK _ _ ?_⟩;rw [hd];refine h _ _ (St.put (Δ := []) (Δ' := []) h1 h2 h3 h4 h5 h6 (Step.refl h3.dom) rfl ⟨fun _ h => by simp at h, fun b ⟨e, he, _⟩ => by simp at he, List.Pairwise.nil⟩ (fun b ⟨e, he, _⟩ => by simp at he) (Nat.blt_eq ▸ hdN))
end

theorem JO.nil (h : JN c (Q .normal) Γ Δ) : JO c ops [] Q Γ Δ := h
end

end K
end Go.Proofs.Ytomnkjcklkcnhaa

/- The calculus, part 3: parts of data, types and fields, loads, stores, addresses. -/
namespace Go.Proofs.Ytomnkjcklkcnhaa
namespace K
open Go

/-- What a value of this type is known as. -/
@[reducible] def mkA : (t : Ty) → t.den → A
 | .int k, n => .eq (.int k n)
 | .bool, b => .eq (.bool b)
 | .val, v => .eq v
 | .ptr t, x => .at t x
 | t, x => .rep t x

theorem mkA_holds {S : FS} {w : World} {t : Ty} {x : t.den} {cs : List Value} (h : rd S w t x cs) : (mkA t x).holds S w (mk t.isAgg cs) := by
 cases t with
 | int k => simp only [rd] at h; subst h; rfl
 | bool => simp only [rd] at h; subst h; rfl
 | val => simp only [rd] at h; rw [h.1]; rfl
 | ptr t =>
  obtain ⟨b, off, c, T, fz, rfl, h⟩ := h;exact ⟨b, off, c, T, fz, rfl, h⟩
 | pair a b => exact ⟨cs, h, rfl⟩
 | agg t => exact ⟨cs, h, rfl⟩
 | arr n t => exact ⟨cs, h, rfl⟩
 | slice t => exact ⟨cs, h, rfl⟩
 | tag a b => exact ⟨cs, h, rfl⟩
 | ign => exact ⟨cs, h, rfl⟩
 | alt t => exact ⟨cs, h, rfl⟩

/-- The part of a datum at an offset, of so many cells; g: whether it is a struct or an array. -/
@[reducible] def tyGet : (t : Ty) → t.den → (off n : Nat) → (g : Bool) → Option ((u : Ty) × u.den)
 | .pair a b, x, off, n, g => if off + n ≤ a.cells then tyGet a x.1 off n g else if a.cells ≤ off then tyGet b x.2 (off - a.cells) n g else none
 | .agg t, x, off, n, g => if g = true ∧ off = 0 ∧ n = t.cells then some ⟨.agg t, x⟩ else tyGet t x off n g
 | .arr m t, l, off, n, g => if g = true ∧ off = 0 ∧ n = m * t.cells then some ⟨.arr m t, l⟩ else none
 | .int k, x, off, n, g => if g = false ∧ off = 0 ∧ n = 1 then some ⟨.int k, x⟩ else none
 | .bool, x, off, n, g => if g = false ∧ off = 0 ∧ n = 1 then some ⟨.bool, x⟩ else none
 | .val, x, off, n, g => if g = false ∧ off = 0 ∧ n = 1 then some ⟨.val, x⟩ else none
 | .slice t, x, off, n, g => if g = false ∧ off = 0 ∧ n = 1 then some ⟨.slice t, x⟩ else none
 | .ptr t, x, off, n, g => if g = false ∧ off = 0 ∧ n = 1 then some ⟨.ptr t, x⟩ else none
 | .tag a b, x, off, n, g => if g = false ∧ off = 0 ∧ n = 1 then some ⟨.tag a b, x⟩ else none
 | .ign, x, off, n, g => if g = false ∧ off = 0 ∧ n = 1 then some ⟨.ign, x⟩ else none
 | .alt t, x, off, n, g => if g = false ∧ off = 0 ∧ n = 1 then some ⟨.alt t, x⟩ else none

theorem tyGet_spec {S : FS} {w : World} (t : Ty) : ∀ {x : t.den} {cs : List Value} {off n : Nat} {g : Bool} {u : Ty} {y : u.den}, rd S w t x cs → tyGet t x off n g = some ⟨u, y⟩ →
 rd S w u y ((cs.drop off).take n) ∧ u.isAgg = g ∧ u.cells = n ∧ off + n ≤ t.cells := by
 induction t with
 | pair a b iha ihb =>
  rintro x cs off n g u y ⟨c1, c2, rfl, h1, h2⟩ hg;have l1 := rd_length a h1;have l2 := rd_length b h2;simp only [tyGet] at hg;split at hg
  ·rename_i hle;obtain ⟨r1, r2, r3, r4⟩ := iha h1 hg;refine ⟨?_, r2, r3, by simp only [Ty.cells]; omega⟩;have hz : off + n - c1.length = 0 := by omega
   rw [List.drop_append_of_le_length (by omega), List.take_append_of_le_length (by simp only [List.length_drop]; omega)];exact r1
  ·split at hg
   ·rename_i hge;obtain ⟨r1, r2, r3, r4⟩ := ihb h2 hg;refine ⟨?_, r2, r3, by simp only [Ty.cells]; omega⟩;rw [List.drop_append, List.drop_eq_nil_of_le (by omega), List.nil_append, l1];exact r1
   ·cases hg
 | agg t ih =>
  intro x cs off n g u y h hg;have l := rd_length t (x := x) h;simp only [tyGet] at hg;split at hg
  ·rename_i hh;obtain ⟨rfl, rfl, rfl⟩ := hh;cases hg;exact ⟨by rw [List.drop_zero, List.take_of_length_le (by omega)]; exact h, rfl, rfl, by simp [Ty.cells]⟩
  ·exact ih h hg
 | arr m t ih =>
  intro x cs off n g u y h hg;have l := rd_length (.arr m t) h;simp only [tyGet] at hg;split at hg
  ·rename_i hh;obtain ⟨rfl, rfl, rfl⟩ := hh;cases hg;exact ⟨by rw [List.drop_zero, List.take_of_length_le (by rw [l]; simp [Ty.cells])]; exact h, rfl, rfl, by simp [Ty.cells]⟩
  ·cases hg
 | _ =>
  intro x cs off n g u y h hg;have l := rd_length _ h;simp only [Ty.cells] at l;simp only [tyGet] at hg;split at hg
  ·rename_i hh;obtain ⟨rfl, rfl, rfl⟩ := hh;cases hg;exact ⟨by rw [List.drop_zero, List.take_of_length_le (by omega)]; exact h, rfl, rfl, by simp [Ty.cells]⟩
  ·cases hg

@[reducible] def A.isAgg : A → Bool
 | .agg _ => true
 | .rep t _ => t.isAgg
 | _ => false

/-- The part of what is known of a row of cells. -/
@[reducible] def A.get : A → (off n : Nat) → (g : Bool) → Option A
 | .pair a b, off, n, g => if off + n ≤ a.n then a.get off n g else if a.n ≤ off then b.get (off - a.n) n g else none
 | .agg a, off, n, g => if g = true ∧ off = 0 ∧ n = a.n then some (.agg a) else a.get off n g
 | .rep t x, off, n, g => match tyGet t x off n g with
  | some ⟨u, y⟩ => some (mkA u y)
  | none => none
 | .eq v, off, n, g => if g = false ∧ off = 0 ∧ n = 1 then some (.eq v) else none
 | .at t x, off, n, g => if g = false ∧ off = 0 ∧ n = 1 then some (.at t x) else none
 | .tup _, _, _, _ => none
 | .any, _, _, _ => none

theorem A.get_spec {S : FS} {w : World} (a : A) : ∀ {cs : List Value} {off n : Nat} {g : Bool} {r : A}, a.cells S w cs → a.get off n g = some r →
 r.holds S w (mk g ((cs.drop off).take n)) ∧ off + n ≤ a.n := by
 induction a with
 | pair a b iha ihb =>
  rintro cs off n g r ⟨c1, c2, rfl, h1, h2⟩ hg;have l1 := a.cells_length h1;have l2 := b.cells_length h2;simp only [A.get] at hg;split at hg
  ·rename_i hle;obtain ⟨r1, r2⟩ := iha h1 hg;refine ⟨?_, by simp only [A.n]; omega⟩;rw [List.drop_append_of_le_length (by omega), List.take_append_of_le_length (by simp only [List.length_drop]; omega)];exact r1
  ·split at hg
   ·obtain ⟨r1, r2⟩ := ihb h2 hg;refine ⟨?_, by simp only [A.n]; omega⟩;rw [List.drop_append, List.drop_eq_nil_of_le (by omega), List.nil_append, l1];exact r1
   ·cases hg
 | agg a ih =>
  intro cs off n g r h hg;have l := a.cells_length h;simp only [A.get] at hg;split at hg
  ·rename_i hh;obtain ⟨rfl, rfl, rfl⟩ := hh;cases hg;exact ⟨⟨cs, h, by rw [List.drop_zero, List.take_of_length_le (by omega)]; rfl⟩, by simp [A.n]⟩
  ·exact ih h hg
 | rep t x =>
  intro cs off n g r h hg;simp only [A.get] at hg;split at hg
  ·rename_i u y he;cases hg;obtain ⟨r1, r2, _, r4⟩ := tyGet_spec t h he;exact ⟨r2 ▸ mkA_holds r1, r4⟩
  ·cases hg
 | eq v =>
  rintro cs off n g r ⟨rfl, _⟩ hg;simp only [A.get] at hg;split at hg
  ·rename_i hh;obtain ⟨rfl, rfl, rfl⟩ := hh;cases hg;exact ⟨rfl, by simp [A.n]⟩
  ·cases hg
 | «at» t x =>
  intro cs off n g r h hg;have l := rd_length (.ptr t) h;simp only [Ty.cells] at l;simp only [A.get] at hg;split at hg
  ·rename_i hh;obtain ⟨rfl, rfl, rfl⟩ := hh;cases hg;match cs, l with
   | [v], _ => exact ⟨h, by simp [A.n]⟩
  ·cases hg
 | tup a _ => intro cs off n g r h; exact h.elim
 | any => intro cs off n g r h; exact h.elim

@[reducible] def mkL (b : A) : Option A → Option A
 | some a => some (.pair a b)
 | none => none
@[reducible] def mkR (a : A) : Option A → Option A
 | some b => some (.pair a b)
 | none => none
@[reducible] def mkG : Option A → Option A
 | some a => some (.agg a)
 | none => none
theorem mkL_some {b : A} {o : Option A} {x : A} (h : mkL b o = some x) : ∃ a, o = some a ∧ .pair a b = x := by
 cases o with
 | none => cases h
 | some a => exact ⟨a, rfl, Option.some.inj h⟩
theorem mkR_some {a : A} {o : Option A} {x : A} (h : mkR a o = some x) : ∃ b, o = some b ∧ .pair a b = x := by
 cases o with
 | none => cases h
 | some b => exact ⟨b, rfl, Option.some.inj h⟩
theorem mkG_some {o : Option A} {x : A} (h : mkG o = some x) : ∃ a, o = some a ∧ .agg a = x := by
 cases o with
 | none => cases h
 | some a => exact ⟨a, rfl, Option.some.inj h⟩

/-- A part of a datum is written. -/
@[reducible] def tySet : (t : Ty) → t.den → (off n : Nat) → (g : Bool) → A → Option A
 | .pair a b, x, off, n, g, r => if off + n ≤ a.cells then mkL (.rep b x.2) (tySet a x.1 off n g r) else if a.cells ≤ off then mkR (.rep a x.1) (tySet b x.2 (off - a.cells) n g r) else none
 | .agg t, x, off, n, g, r => if g = true ∧ off = 0 ∧ n = t.cells then some r else mkG (tySet t x off n g r)
 | .arr m t, _, off, n, g, r => if g = true ∧ off = 0 ∧ n = m * t.cells then some r else none
 | _, _, off, n, g, r => if g = false ∧ off = 0 ∧ n = 1 then some r else none

@[reducible] def A.set : A → (off n : Nat) → (g : Bool) → A → Option A
 | .pair a b, off, n, g, r => if off + n ≤ a.n then mkL b (a.set off n g r) else if a.n ≤ off then mkR a (b.set (off - a.n) n g r) else none
 | .agg a, off, n, g, r => if g = true ∧ off = 0 ∧ n = a.n then some r else mkG (a.set off n g r)
 | .rep t x, off, n, g, r => tySet t x off n g r
 | .eq _, off, n, g, r => if g = false ∧ off = 0 ∧ n = 1 then some r else none
 | .at _ _, off, n, g, r => if g = false ∧ off = 0 ∧ n = 1 then some r else none
 | .tup _, _, _, _, _ => none
 | .any, _, _, _, _ => none

theorem tySet_spec {S : FS} {w : World} (t : Ty) : ∀ {x : t.den} {cs new : List Value} {off n : Nat} {g : Bool} {r a' : A}, rd S w t x cs → r.cells S w new → new.length = n → tySet t x off n g r = some a' →
 a'.cells S w (cs.take off ++ new ++ cs.drop (off + n)) ∧ off + n ≤ t.cells := by
 induction t with
 | pair a b iha ihb =>
  rintro x cs new off n g r a' ⟨c1, c2, rfl, h1, h2⟩ hr hn hg;have l1 := rd_length a h1;have l2 := rd_length b h2;simp only [tySet] at hg;split at hg
  ·rename_i hle;obtain ⟨a1, e, rfl⟩ := mkL_some hg;obtain ⟨r1, r2⟩ := iha h1 hr hn e;refine ⟨⟨_, c2, ?_, r1, h2⟩, by simp only [Ty.cells]; omega⟩;rw [List.take_append_of_le_length (by omega), List.drop_append_of_le_length (by omega), List.append_assoc, List.append_assoc, List.append_assoc]
  ·split at hg
   ·obtain ⟨b1, e, rfl⟩ := mkR_some hg;obtain ⟨r1, r2⟩ := ihb h2 hr hn e;refine ⟨⟨c1, _, ?_, h1, r1⟩, by simp only [Ty.cells]; omega⟩;rw [List.take_append, List.take_of_length_le (by omega), List.drop_append, List.drop_eq_nil_of_le (by omega), List.nil_append, l1];simp only [List.append_assoc];rw [show off + n - a.cells = off - a.cells + n by omega]
   ·cases hg
 | agg t ih =>
  intro x cs new off n g r a' h hr hn hg;have l := rd_length t (x := x) h;simp only [tySet] at hg;split at hg
  ·rename_i hh;obtain ⟨rfl, rfl, rfl⟩ := hh;cases hg;refine ⟨?_, by simp [Ty.cells]⟩;rw [List.take_zero, List.nil_append, List.drop_eq_nil_of_le (by omega), List.append_nil];exact hr
  ·obtain ⟨a1, e, rfl⟩ := mkG_some hg;have q := ih h hr hn e;exact q
 | arr m t ih =>
  intro x cs new off n g r a' h hr hn hg;have l := rd_length (.arr m t) h;simp only [Ty.cells] at l;simp only [tySet] at hg;split at hg
  ·rename_i hh;obtain ⟨rfl, rfl, rfl⟩ := hh;cases hg;refine ⟨?_, by simp [Ty.cells]⟩;rw [List.take_zero, List.nil_append, List.drop_eq_nil_of_le (by omega), List.append_nil];exact hr
  ·cases hg
 | _ =>
  intro x cs new off n g r a' h hr hn hg;have l := rd_length _ h;simp only [Ty.cells] at l;simp only [tySet] at hg;split at hg
  ·rename_i hh;obtain ⟨rfl, rfl, rfl⟩ := hh;cases hg;refine ⟨?_, by simp [Ty.cells]⟩;rw [List.take_zero, List.nil_append, List.drop_eq_nil_of_le (by omega), List.append_nil];exact hr
  ·cases hg

theorem A.set_spec {S : FS} {w : World} (a : A) : ∀ {cs new : List Value} {off n : Nat} {g : Bool} {r a' : A}, a.cells S w cs → r.cells S w new → new.length = n → a.set off n g r = some a' →
 a'.cells S w (cs.take off ++ new ++ cs.drop (off + n)) ∧ off + n ≤ a.n := by
 induction a with
 | pair a b iha ihb =>
  rintro cs new off n g r a' ⟨c1, c2, rfl, h1, h2⟩ hr hn hg;have l1 := a.cells_length h1;have l2 := b.cells_length h2;simp only [A.set] at hg;split at hg
  ·rename_i hle;obtain ⟨a1, e, rfl⟩ := mkL_some hg;obtain ⟨r1, r2⟩ := iha h1 hr hn e;refine ⟨⟨_, c2, ?_, r1, h2⟩, by simp only [A.n]; omega⟩;rw [List.take_append_of_le_length (by omega), List.drop_append_of_le_length (by omega), List.append_assoc, List.append_assoc, List.append_assoc]
  ·split at hg
   ·obtain ⟨b1, e, rfl⟩ := mkR_some hg;obtain ⟨r1, r2⟩ := ihb h2 hr hn e;refine ⟨⟨c1, _, ?_, h1, r1⟩, by simp only [A.n]; omega⟩;rw [List.take_append, List.take_of_length_le (by omega), List.drop_append, List.drop_eq_nil_of_le (by omega), List.nil_append, l1];simp only [List.append_assoc];rw [show off + n - a.n = off - a.n + n by omega]
   ·cases hg
 | agg a ih =>
  intro cs new off n g r a' h hr hn hg;have l := a.cells_length h;simp only [A.set] at hg;split at hg
  ·rename_i hh;obtain ⟨rfl, rfl, rfl⟩ := hh;cases hg;refine ⟨?_, by simp [A.n]⟩;rw [List.take_zero, List.nil_append, List.drop_eq_nil_of_le (by omega), List.append_nil];exact hr
  ·obtain ⟨a1, e, rfl⟩ := mkG_some hg;have q := ih h hr hn e;exact q
 | rep t x => intro cs new off n g r a' h hr hn hg; exact tySet_spec t h hr hn hg
 | eq v =>
  rintro cs new off n g r a' ⟨rfl, _⟩ hr hn hg;simp only [A.set] at hg;split at hg
  ·rename_i hh;obtain ⟨rfl, rfl, rfl⟩ := hh;cases hg;exact ⟨by simpa using hr, by simp [A.n]⟩
  ·cases hg
 | «at» t x =>
  intro cs new off n g r a' h hr hn hg;have l := rd_length (.ptr t) h;simp only [Ty.cells] at l;simp only [A.set] at hg;split at hg
  ·rename_i hh;obtain ⟨rfl, rfl, rfl⟩ := hh;cases hg;refine ⟨?_, by simp [A.n]⟩;rw [List.take_zero, List.nil_append, List.drop_eq_nil_of_le (by omega), List.append_nil];exact hr
  ·cases hg
 | tup a _ => intro cs new off n g r a' h; exact h.elim
 | any => intro cs new off n g r a' h; exact h.elim

@[reducible] def Ty.isVal : Ty → Bool
 | .pair _ _ => false
 | _ => true

theorem Ty.one_of_val {t : Ty} (h : t.isVal = true) (hg : t.isAgg = false) : t.cells = 1 := by
 cases t <;> first | rfl | (simp [Ty.isVal] at h; done) | (simp [Ty.isAgg] at hg; done)

/-- Can a value of which this is known be stored? -/
@[reducible] def A.stor : A → Prop
 | .eq v => oneCell v = true
 | .rep t _ => t.isVal = true
 | .at _ _ => True
 | .agg _ => True
 | _ => False

/-- A value's cells. -/
theorem A.holds_cells {S : FS} {w : World} {r : A} {v : Value} (h : r.holds S w v) (ho : r.stor) : r.cells S w v.cells.toList ∧ v.cells.toList.length = r.n ∧ v = mk r.isAgg v.cells.toList := by
 cases r with
 | eq v0 =>
  have e : v = v0 := h;subst e;have ho' : oneCell v = true := ho;have hc : v.cells = #[v] := by cases v <;> first | rfl | simp [oneCell] at ho'
  rw [hc];exact ⟨⟨rfl, ho'⟩, rfl, rfl⟩
 | rep t x =>
  obtain ⟨cs, h1, rfl⟩ := h;have l := rd_length t h1;have h2 := rd_one t h1;cases hg : t.isAgg with
  | true =>
   simp only [mk, if_true, Value.cells];exact ⟨h1, l, by simp [hg]⟩
  | false =>
   have e1 := Ty.one_of_val ho hg;rw [e1] at l;match cs, l with
   | [c], _ =>
    have hc1 := h2 c (by simp);have hc : c.cells = #[c] := by cases c <;> first | rfl | simp [oneCell] at hc1
    simp only [mk, Bool.false_eq_true, if_false, List.headD_cons, hc];exact ⟨h1, e1.symm, by simp [hg]⟩
 | «at» t x =>
  obtain ⟨b, off, c, T, fz, e, h⟩ := h;simp only [List.cons.injEq, and_true] at e;subst e;exact ⟨⟨b, off, c, T, fz, rfl, h⟩, rfl, rfl⟩
 | pair a b => exact h.elim
 | agg a =>
  obtain ⟨cs, h1, rfl⟩ := h;exact ⟨h1, a.cells_length h1, by simp [mk, Value.cells]⟩
 | tup a => exact ho.elim
 | any => exact ho.elim

/-! ### Types and fields of a program -/

structure TyOk (P : Program) (T : TypeId) (t : Ty) : Prop where
 size : ∀ w, (sizeOf T).run P w = .ok t.cells w
 agg : ∀ w, (isAgg T).run P w = .ok t.isAgg w

theorem TyOk.of {P : Program} {T : TypeId} {t : Ty} {i : TypeInfo} (hi : P.info? T = some i) (hs : i.size = t.cells) (ha : ∀ w, (isAgg T).run P w = .ok t.isAgg w) : TyOk P T t :=
 ⟨fun w => by simp [sizeOf, typeInfo, program, stuck, Sem.run, hi, hs], ha⟩

/-- The address of a field. -/
def FieldOk (P : Program) (T f off : Nat) : Prop := ∀ w b k, (Instr.fieldAt T (.pointer (some ⟨b, k, none⟩)) f).run P w = .ok (.pointer (some ⟨b, k + off, none⟩)) w

theorem Addr.add_mk (b k n : Nat) : (⟨b, k, none⟩ : Addr).add n = ⟨b, k + n, none⟩ := by
 unfold Addr.add;split
 ·rename_i h; subst h; rfl
 ·rfl

theorem run_loadFrom (P : Program) (w : World) (b : Nat) (c : Array Value) (T : TypeId) (fz : Nat × Nat) (hb : w.heap[b]? = some (.cells c T fz)) (off : Nat) :
 ∀ (n i : Nat) (acc : Array Value), off + i + n ≤ c.size → (loadCellsFrom ⟨b, off, none⟩ i n acc).run P w = .ok (acc ++ ((c.toList.drop (off + i)).take n).toArray) w := by
 intro n
 induction n with
 | zero => intro i acc _; simp [loadCellsFrom]
 | succ n ih =>
  intro i acc h;have hlt : off + i < c.size := by omega
  simp only [loadCellsFrom, load, Sem.run_bind, Sem.run, Addr.add_mk, World.cell?, hb, Option.isSome_none, Bool.false_eq_true, if_false, Array.getElem?_eq_getElem hlt, Result.andThen_ok];rw [ih (i + 1) _ (by omega)];congr 1;rw [List.drop_eq_getElem_cons (l := c.toList) (i := off + i) (by simpa using hlt), List.take_succ_cons];simp [Nat.add_assoc]

theorem take_mid {α : Type} (v : α) (l2 : List α) : ∀ l1 : List α, (l1 ++ v :: l2).take (l1.length + 1) = l1 ++ [v]
 | [] => rfl
 | x :: l1 => by simp [take_mid v l2 l1]

theorem drop_mid {α : Type} (v : α) (l2 : List α) (n : Nat) : ∀ l1 : List α, (l1 ++ v :: l2).drop (l1.length + 1 + n) = l2.drop n
 | [] => by rw [List.nil_append, List.length_nil, Nat.zero_add, Nat.add_comm]; rfl
 | x :: l1 => by
  have := drop_mid v l2 n l1
  rw [List.length_cons, show l1.length + 1 + 1 + n = (l1.length + 1 + n) + 1 by omega]
  exact this

theorem run_storeCells (P : Program) (b : Nat) (T : TypeId) (off : Nat) : ∀ (vs : List Value) (i : Nat) (w : World) (c : Array Value), w.heap[b]? = some (.cells c T (0, 0)) → (∀ v ∈ vs, oneCell v = true) → off + i + vs.length ≤ c.size →
 (storeCells ⟨b, off, none⟩ vs i).run P w = .ok () { w with heap := w.heap.setIfInBounds b (.cells (c.toList.take (off + i) ++ vs ++ c.toList.drop (off + i + vs.length)).toArray T (0, 0)) } := by
 intro vs
 induction vs with
 | nil =>
  intro i w c hb _ _;simp only [storeCells, Sem.run_pure, List.append_nil, List.length_nil, Nat.add_zero, List.take_append_drop, Array.toArray_toList];congr 1;obtain ⟨hlt, e⟩ := Array.getElem?_eq_some_iff.1 hb
  have : w.heap.setIfInBounds b (.cells c T (0, 0)) = w.heap := by
   apply Array.ext_getElem?;intro j;rw [Array.getElem?_setIfInBounds];split
   ·rename_i h; subst h; simp [hlt] <;> exact e.symm
   ·rfl
  rw [this]
 | cons v vs ih =>
  intro i w c hb h1 hle;simp only [List.length_cons] at hle;have hlt : off + i < c.size := by omega
  obtain ⟨hbl, hcb⟩ := Array.getElem?_eq_some_iff.1 hb;have hv := h1 v (by simp)
  have hst : (store ((⟨b, off, none⟩ : Addr).add i) v).run P w = .ok () (w.setCell ⟨b, off + i, none⟩ v) := by
   rw [Addr.add_mk];unfold store
   cases v <;> first
    | (simp [oneCell] at hv; done)
    | simp [Sem.run, World.cell?, hb, Array.getElem?_eq_getElem hlt, World.frozen?]
  have hb' : (w.setCell ⟨b, off + i, none⟩ v).heap[b]? = some (.cells (c.setIfInBounds (off + i) v) T (0, 0)) := by
   simp [World.setCell, Array.getElem?_modify, hb]
  simp only [storeCells, Sem.run_bind, hst, Result.andThen_ok];rw [ih (i + 1) _ _ hb' (fun u hu => h1 u (by simp [hu])) (by simp; omega)];congr 1
  have hh : (w.setCell ⟨b, off + i, none⟩ v).heap = w.heap.setIfInBounds b (.cells (c.setIfInBounds (off + i) v) T (0, 0)) := by
   apply Array.ext_getElem?;intro j;simp only [World.setCell, Array.getElem?_modify, Array.getElem?_setIfInBounds];split
   ·rename_i h; subst h; simp [hbl, hcb]
   ·rfl
  simp only [World.setCell] at hh ⊢;rw [hh];simp only [Array.setIfInBounds_setIfInBounds];congr 4
  have e1 : (c.setIfInBounds (off + i) v).toList = c.toList.take (off + i) ++ v :: c.toList.drop (off + i + 1) := by
   rw [Array.toList_setIfInBounds, List.set_eq_take_append_cons_drop, if_pos (by simpa using hlt)]
  rw [e1];have lt : (c.toList.take (off + i)).length = off + i := by simp; omega
  have e2 : off + (i + 1) = (c.toList.take (off + i)).length + 1 := by omega
  rw [e2, take_mid, Nat.add_assoc, Nat.add_comm 1 vs.length, ← Nat.add_assoc, Nat.add_right_comm, drop_mid, List.drop_drop];simp only [List.append_assoc, List.cons_append, List.nil_append, List.length_cons];rw [show off + i + 1 + vs.length = off + i + (vs.length + 1) by omega]

end K
end Go.Proofs.Ytomnkjcklkcnhaa

/- The calculus, part 4: what the single operations do: moves, numbers, addresses, loads, stores, new variables. -/
namespace Go.Proofs.Ytomnkjcklkcnhaa
namespace K
open Go

theorem OpT.val0 {P : Program} {o : Oper} {N : List (Operand × A)} {r : A}
 (h : ∀ (S : FS) (w : World) (a : Act), Needs S w a N → ∃ v, (execOp a.eval o).run P w = .ok (.value v) w ∧ r.holds S w v) (hnd : nd o.op = true := by simp only [nd, *]) : OpT P o N [] (fun _ : Unit => (r, [])) := by
 refine ⟨hnd, fun ro S w a next Q hd hN ho k => ?_⟩;obtain ⟨v, hv, hr⟩ := h S w a hN;rw [hv];exact k () S w v (Step.refl hd) hr ho (fun b ⟨e, he, _⟩ => by simp at he)

theorem OpT.val1 {P : Program} {o : Oper} {N : List (Operand × A)} {r : A} {e : D}
 (h : ∀ (S : FS) (w : World) (a : Act), Needs S w a N → e.holds S w → ∃ v, (execOp a.eval o).run P w = .ok (.value v) w ∧ r.holds S w v) (hnd : nd o.op = true := by simp only [nd, *]) : OpT P o N [e] (fun _ : Unit => (r, [e])) := by
 refine ⟨hnd, fun ro S w a next Q hd hN ho k => ?_⟩;obtain ⟨v, hv, hr⟩ := h S w a hN (ho.holds e (by simp));rw [hv];exact k () S w v (Step.refl hd) hr ho (fun b hb => .inl hb)

section
variable {P : Program} {o : Oper} {x y z : Operand} {T T' : TypeId} {r r' : A}

theorem o_move (ho : o.op = .move x) : OpT P o [(x, r)] [] (fun _ : Unit => (r, [])) :=
 .val0 fun _ w a h => ⟨a.eval x, by simp [execOp, ho], h.1⟩

theorem o_assign (ho : o.op = .assign x) : OpT P o [(x, r)] [] (fun _ : Unit => (r, [])) :=
 .val0 fun _ w a h => ⟨a.eval x, by simp [execOp, ho], h.1⟩

theorem o_pick_t (ho : o.op = .pick x y z) : OpT P o [(x, .eq (.bool true)), (y, r)] [] (fun _ : Unit => (r, [])) :=
 .val0 fun _ w a h => ⟨a.eval y, by
  have e : a.eval x = .bool true := h.1
  simp [execOp, ho, e, asBool], h.2.1⟩

theorem o_pick_f (ho : o.op = .pick x y z) : OpT P o [(x, .eq (.bool false)), (z, r)] [] (fun _ : Unit => (r, [])) :=
 .val0 fun _ w a h => ⟨a.eval z, by
  have e : a.eval x = .bool false := h.1
  simp [execOp, ho, e, asBool], h.2.1⟩

theorem o_bin {b : BinOp} {u v q : Value} (ho : o.op = .binOp b T x y T') (hr : ∀ w, (do eqGuard b T x y u v; binOp b T u v : Sem Value).run P w = .ok q w) :
 OpT P o [(x, .eq u), (y, .eq v)] [] (fun _ : Unit => (.eq q, [])) :=
 .val0 fun _ w a h => ⟨q, by
  have e1 : a.eval x = u := h.1
  have e2 : a.eval y = v := h.2.1
  have := hr w
  simp only [Sem.run_bind] at this
  simp only [execOp, ho, e1, e2, Sem.run_bind, this, Result.andThen_ok, Sem.run_pure], rfl⟩

/-- A sum of int that does not wrap. -/
def ck (n : Int) : Option Int := if -9223372036854775808 ≤ n ∧ n ≤ 9223372036854775807 then some n else none

theorem ck_wrap {n z : Int} (h : ck n = some z) : IntKind.i64.wrap n = z := by
 unfold ck at h;split at h
 ·cases h;rename_i hh;have e : (2 : Int) ^ IntKind.i64.bits = 18446744073709551616 := by decide
  have e2 : (2 : Int) ^ (IntKind.i64.bits - 1) = 9223372036854775808 := by decide
  have e3 : IntKind.i64.signed = true := rfl;simp only [IntKind.wrap, e, e2, e3, Bool.true_and, ge_iff_le, decide_eq_true_eq];split <;> omega
 ·cases h

theorem o_add {n m q : Int} (ho : o.op = .binOp .add T x y T') (h : ck (n + m) = some q) : OpT P o [(x, .eq (.int .i64 n)), (y, .eq (.int .i64 m))] [] (fun _ : Unit => (.eq (.int .i64 q), [])) :=
 o_bin ho fun w => by simp [eqGuard, binOp, Op.intArith, ck_wrap h]
theorem o_sub {n m q : Int} (ho : o.op = .binOp .sub T x y T') (h : ck (n - m) = some q) : OpT P o [(x, .eq (.int .i64 n)), (y, .eq (.int .i64 m))] [] (fun _ : Unit => (.eq (.int .i64 q), [])) :=
 o_bin ho fun w => by simp [eqGuard, binOp, Op.intArith, ck_wrap h]
theorem o_addk {k : IntKind} {n m : Int} (ho : o.op = .binOp .add T x y T') : OpT P o [(x, .eq (.int k n)), (y, .eq (.int k m))] [] (fun _ : Unit => (.eq (.int k (k.wrap (n + m))), [])) :=
 o_bin ho fun w => by simp [eqGuard, binOp, Op.intArith]
theorem o_mulk {k : IntKind} {n m : Int} (ho : o.op = .binOp .mul T x y T') : OpT P o [(x, .eq (.int k n)), (y, .eq (.int k m))] [] (fun _ : Unit => (.eq (.int k (k.wrap (n * m))), [])) :=
 o_bin ho fun w => by simp [eqGuard, binOp, Op.intArith]
theorem o_rem {k : IntKind} {n m : Int} (ho : o.op = .binOp .rem T x y T') (h : m ≠ 0) : OpT P o [(x, .eq (.int k n)), (y, .eq (.int k m))] [] (fun _ : Unit => (.eq (.int k (n.tmod m)), [])) :=
 o_bin ho fun w => by simp [eqGuard, binOp, Op.intDiv, h]
section
variable {k : IntKind} {n m : Int}
theorem o_lss (ho : o.op = .binOp .lss T x y T') : OpT P o [(x, .eq (.int k n)), (y, .eq (.int k m))] [] (fun _ : Unit => (.eq (.bool (decide (n < m))), [])) :=
 o_bin ho fun w => by simp [eqGuard, binOp, Op.intCmp]
theorem o_leq (ho : o.op = .binOp .leq T x y T') : OpT P o [(x, .eq (.int k n)), (y, .eq (.int k m))] [] (fun _ : Unit => (.eq (.bool (decide (n ≤ m))), [])) :=
 o_bin ho fun w => by simp [eqGuard, binOp, Op.intCmp]
theorem o_gtr (ho : o.op = .binOp .gtr T x y T') : OpT P o [(x, .eq (.int k n)), (y, .eq (.int k m))] [] (fun _ : Unit => (.eq (.bool (decide (m < n))), [])) :=
 o_bin ho fun w => by simp [eqGuard, binOp, Op.intCmp]
theorem o_geq (ho : o.op = .binOp .geq T x y T') : OpT P o [(x, .eq (.int k n)), (y, .eq (.int k m))] [] (fun _ : Unit => (.eq (.bool (decide (m ≤ n))), [])) :=
 o_bin ho fun w => by simp [eqGuard, binOp, Op.intCmp]
theorem o_eql (ho : o.op = .binOp .eql T x y T') : OpT P o [(x, .eq (.int k n)), (y, .eq (.int k m))] [] (fun _ : Unit => (.eq (.bool (decide (n = m))), [])) :=
 o_bin ho fun w => by
  have : (n == m) = decide (n = m) := by by_cases h : n = m <;> simp [h]
  simp [eqGuard, binOp, Op.intCmp, this]
theorem o_neq (ho : o.op = .binOp .neq T x y T') : OpT P o [(x, .eq (.int k n)), (y, .eq (.int k m))] [] (fun _ : Unit => (.eq (.bool (!decide (n = m))), [])) :=
 o_bin ho fun w => by
  have : (n != m) = !decide (n = m) := by by_cases h : n = m <;> simp [h]
  simp [eqGuard, binOp, Op.intCmp, this]
/-- Bits of numbers. -/
def iand (k : IntKind) (n m : Int) : Int := k.wrap (BitVec.ofInt k.bits n &&& BitVec.ofInt k.bits m).toNat
def ior (k : IntKind) (n m : Int) : Int := k.wrap (BitVec.ofInt k.bits n ||| BitVec.ofInt k.bits m).toNat
def ixor (k : IntKind) (n m : Int) : Int := k.wrap (BitVec.ofInt k.bits n ^^^ BitVec.ofInt k.bits m).toNat
def iandn (k : IntKind) (n m : Int) : Int := k.wrap (BitVec.ofInt k.bits n &&& ~~~ BitVec.ofInt k.bits m).toNat
def ishl (k : IntKind) (n m : Int) : Int := k.wrap (n * 2 ^ (min m.toNat k.bits))
def ishr (k : IntKind) (n m : Int) : Int := n.fdiv (2 ^ (min m.toNat k.bits))
theorem o_and (ho : o.op = .binOp .and T x y T') : OpT P o [(x, .eq (.int k n)), (y, .eq (.int k m))] [] (fun _ : Unit => (.eq (.int k (iand k n m)), [])) :=
 o_bin ho fun w => by simp [eqGuard, binOp, Op.intBits, iand]
theorem o_or (ho : o.op = .binOp .or T x y T') : OpT P o [(x, .eq (.int k n)), (y, .eq (.int k m))] [] (fun _ : Unit => (.eq (.int k (ior k n m)), [])) :=
 o_bin ho fun w => by simp [eqGuard, binOp, Op.intBits, ior]
theorem o_xor (ho : o.op = .binOp .xor T x y T') : OpT P o [(x, .eq (.int k n)), (y, .eq (.int k m))] [] (fun _ : Unit => (.eq (.int k (ixor k n m)), [])) :=
 o_bin ho fun w => by simp [eqGuard, binOp, Op.intBits, ixor]
theorem o_andn (ho : o.op = .binOp .andNot T x y T') : OpT P o [(x, .eq (.int k n)), (y, .eq (.int k m))] [] (fun _ : Unit => (.eq (.int k (iandn k n m)), [])) :=
 o_bin ho fun w => by simp [eqGuard, binOp, Op.intBits, iandn]
theorem o_shl {k' : IntKind} (ho : o.op = .binOp .shl T x y T') (h : 0 ≤ m) : OpT P o [(x, .eq (.int k n)), (y, .eq (.int k' m))] [] (fun _ : Unit => (.eq (.int k (ishl k n m)), [])) :=
 o_bin ho fun w => by simp [eqGuard, binOp, Op.shift, ishl, show ¬ m < 0 by omega]
theorem o_shr {k' : IntKind} (ho : o.op = .binOp .shr T x y T') (h : 0 ≤ m) : OpT P o [(x, .eq (.int k n)), (y, .eq (.int k' m))] [] (fun _ : Unit => (.eq (.int k (ishr k n m)), [])) :=
 o_bin ho fun w => by simp [eqGuard, binOp, Op.shift, ishr, show ¬ m < 0 by omega]
end

theorem o_not {u : Bool} (ho : o.op = .unOp .not T x) : OpT P o [(x, .eq (.bool u))] [] (fun _ : Unit => (.eq (.bool (!u)), [])) :=
 .val0 fun _ w a h => ⟨.bool !u, by
  have e : a.eval x = .bool u := h.1
  simp [execOp, ho, e, Op.unary], rfl⟩

/-- A conversion between kinds of integers. -/
theorem o_conv {k k' : IntKind} {n : Int} (ho : o.op = .convert T T' x) (hT : P.underlying T = some (.int k)) (hT' : P.underlying T' = some (.int k')) : OpT P o [(x, .eq (.int k n))] [] (fun _ : Unit => (.eq (.int k' (k'.wrap n)), [])) :=
 .val0 fun _ w a h => ⟨.int k' (k'.wrap n), by
  have e : a.eval x = .int k n := h.1
  simp [execOp, ho, e, convert, run_underlying hT, run_underlying hT', Conv.intToInt], rfl⟩

theorem o_conv64 {k : IntKind} {n q : Int} (ho : o.op = .convert T T' x) (hT : P.underlying T = some (.int k)) (hT' : P.underlying T' = some (.int .i64)) (h : ck n = some q) : OpT P o [(x, .eq (.int k n))] [] (fun _ : Unit => (.eq (.int .i64 q), [])) := by
 have := o_conv (P := P) (n := n) ho hT hT';rw [ck_wrap h] at this;exact this

/-- A component of a tuple. -/
@[reducible] def tupGet : A → Nat → Option A
 | .pair a _, 0 => some a
 | .pair _ b, n + 1 => tupGet b n
 | _, _ => none

theorem tupGet_spec {S : FS} {w : World} {r : A} (a : A) : ∀ {vs : List Value} {i : Nat}, A.holds.holdsAll S w a vs → tupGet a i = some r → ∃ v, vs[i]? = some v ∧ r.holds S w v := by
 induction a with
 | pair a b _ ihb =>
  rintro vs i ⟨v, vs', rfl, h1, h2⟩ hg;cases i with
  | zero => simp only [tupGet, Option.some.injEq] at hg; subst hg; exact ⟨v, rfl, h1⟩
  | succ i =>
   obtain ⟨u, h3, h4⟩ := ihb h2 hg;exact ⟨u, by simpa using h3, h4⟩
 | _ => intro vs i _ hg; cases i <;> simp [tupGet] at hg

theorem o_extract {i : Nat} {a0 : A} (ho : o.op = .extract x i) (hi : tupGet a0 i = some r) : OpT P o [(x, .tup a0)] [] (fun _ : Unit => (r, [])) :=
 .val0 fun S w a h => by
  obtain ⟨vs, e, h1⟩ := h.1
  obtain ⟨v, h2, h3⟩ := tupGet_spec a0 h1 hi
  exact ⟨v, by simp [execOp, ho, e, Instr.extract, h2], h3⟩

/-! ### Lengths -/

theorem o_len {t : Ty} {l : List t.den} {e : TypeId} {c : Call} (ho : o.op = .call c) (hc : c = { callee := .builtin .len, args := #[x], argTypes := #[T] }) (hT : P.underlying T = some (.slice e)) :
 OpT P o [(x, .rep (.slice t) l)] [] (fun _ : Unit => (.eq (.int .i64 l.length), [])) :=
 .val0 fun S w a h => by
  obtain ⟨cs, h1, h2⟩ := h.1
  have hv : ∃ a0 cap, a.eval x = .slice a0 l.length cap := by
   rcases h1 with ⟨a0, cap, rfl, rfl⟩ | ⟨b, off, cap, cc, T0, fz, rfl, _⟩
   ·exact ⟨a0, cap, h2⟩
   ·exact ⟨_, cap, h2⟩
  obtain ⟨a0, cap, e⟩ := hv;exact ⟨.int .i64 l.length, by simp [execOp, ho, hc, resolve, invoke, builtin, e, Builtin.len_, run_underlying hT, goInt], rfl⟩

theorem o_len_own {t : Ty} {l : List t.den} {e TE : TypeId} {c : Call} {v : Value} (ho : o.op = .call c) (hc : c = { callee := .builtin .len, args := #[x], argTypes := #[T] }) (hT : P.underlying T = some (.slice e)) :
 OpT P o [(x, .eq v)] [.sl v TE t l] (fun _ : Unit => (.eq (.int .i64 l.length), [.sl v TE t l])) :=
 .val1 fun S w a h hs => by
  have e1 : a.eval x = v := h.1
  have hv : ∃ a0 cap, v = .slice a0 l.length cap := by
   rcases hs with ⟨rfl, rfl⟩ | ⟨b, cap, cc, rfl, _⟩
   ·exact ⟨none, 0, rfl⟩
   ·exact ⟨_, cap, rfl⟩
  obtain ⟨a0, cap, e2⟩ := hv;exact ⟨.int .i64 l.length, by simp [execOp, ho, hc, resolve, invoke, builtin, e1, e2, Builtin.len_, run_underlying hT, goInt], rfl⟩

/-! ### Sizes -/

structure SzOk (P : Program) (T : TypeId) (n : Nat) (g : Bool) : Prop where
 size : ∀ w, (sizeOf T).run P w = .ok n w
 agg : ∀ w, (isAgg T).run P w = .ok g w

theorem run_loadVar' {w : World} {n : Nat} {g : Bool} (ht : SzOk P T n g) (hg : g = false → n = 1) {b : Nat} {c : Array Value} {T0 : TypeId} {fz : Nat × Nat} (hb : w.heap[b]? = some (.cells c T0 fz)) {off : Nat}
 (hle : off + n ≤ c.size) : (loadVar T ⟨b, off, none⟩).run P w = .ok (mk g ((c.toList.drop off).take n)) w := by
 simp only [loadVar, Sem.run_bind, ht.agg, Result.andThen_ok];cases g with
 | true =>
  simp only [if_true, Sem.run_bind, ht.size, Result.andThen_ok, loadCells, run_loadFrom P w b c T0 fz hb off n 0 #[] (by omega)];simp [mk]
 | false =>
  have e1 := hg rfl;have hlt : off < c.size := by omega
  simp only [Bool.false_eq_true, if_false, load, Sem.run, World.cell?, hb, Option.isSome_none, Array.getElem?_eq_getElem hlt];rw [e1, List.drop_eq_getElem_cons (by simpa using hlt)];simp [mk]

/-! ### Loads -/

theorem o_load_at {t : Ty} {d : t.den} (ho : o.op = .load T x) (ht : SzOk P T t.cells t.isAgg) (hv : t.isVal = true) : OpT P o [(x, .at t d)] [] (fun _ : Unit => (mkA t d, [])) :=
 .val0 fun S w a h => by
  obtain ⟨b, off, c, T0, fz, e, _, h2, h3⟩ := h.1
  simp only [List.cons.injEq, and_true] at e
  have l := rd_length t h3
  have hle : off + t.cells ≤ c.size ∨ t.cells = 0 := by
   simp only [List.length_take, List.length_drop, Array.length_toList] at l;omega
  have hr : (loadVar T ⟨b, off, none⟩).run P w = .ok (mk t.isAgg ((c.toList.drop off).take t.cells)) w := by
   rcases hle with hle | hz
   ·exact run_loadVar' ht (fun hg => Ty.one_of_val hv hg) h2 hle
   ·have hg : t.isAgg = true := by cases hg : t.isAgg with | true => rfl | false => have := Ty.one_of_val hv hg; omega
    simp only [loadVar, Sem.run_bind, ht.agg, Result.andThen_ok, hg, if_true, ht.size, loadCells, hz, loadCellsFrom, Sem.run_pure, List.take_zero, mk]
  exact ⟨_, by simp [execOp, ho, Instr.loadAt, e, Instr.sureAddr, hr], mkA_holds h3⟩

theorem o_load_obj {b off n : Nat} {g : Bool} {T0 : TypeId} {a0 : A} (ho : o.op = .load T x) (ht : SzOk P T n g) (hg : g = false → n = 1) (hget : a0.get off n g = some r) :
 OpT P o [(x, .eq (.pointer (some ⟨b, off, none⟩)))] [.obj b T0 a0] (fun _ : Unit => (r, [.obj b T0 a0])) :=
 .val1 fun S w a h hs => by
  have e : a.eval x = .pointer (some ⟨b, off, none⟩) := h.1
  obtain ⟨cs, h1, h2⟩ := hs
  have l := a0.cells_length h2
  obtain ⟨h3, h4⟩ := A.get_spec a0 h2 hget
  have hr := run_loadVar' ht hg h1 (off := off) (by simpa using (by omega : off + n ≤ cs.length))
  exact ⟨_, by simp [execOp, ho, Instr.loadAt, e, Instr.sureAddr, hr], h3⟩

/-- The address of a part of an own slice's row. -/
def elPtr (v : Value) (k : Nat) : Value :=
 match v with
 | .slice (some a) _ _ => .pointer (some ⟨a.block, a.off + k, none⟩)
 | _ => undef

theorem rdAll_get {α : Type} {R : α → List Value → Prop} {m : Nat} (hR : ∀ x cs, R x cs → cs.length = m) : ∀ {l : List α} {cs : List Value} {i : Nat} {x : α}, rdAll R l cs → l[i]? = some x → R x ((cs.drop (i * m)).take m) ∧ i * m + m ≤ cs.length
 | [], _, i, x, _, h => by simp at h
 | x0 :: l, _, i, x, ⟨c1, c2, rfl, h1, h2⟩, h => by
  have l1 := hR _ _ h1
  cases i with
  | zero =>
   simp only [List.getElem?_cons_zero, Option.some.injEq] at h
   subst h
   rw [Nat.zero_mul, List.drop_zero, List.take_append_of_le_length (by omega), List.take_of_length_le (by omega)]
   exact ⟨h1, by simp only [List.length_append]; omega⟩
  | succ i =>
   simp only [List.getElem?_cons_succ] at h
   obtain ⟨r1, r2⟩ := rdAll_get hR h2 h
   rw [Nat.add_mul, Nat.one_mul, List.drop_append, List.drop_eq_nil_of_le (by omega), List.nil_append, l1, Nat.add_sub_cancel]
   exact ⟨r1, by simp only [List.length_append]; omega⟩

theorem o_load_el {v : Value} {TE : TypeId} {t u : Ty} {l : List t.den} {k i off n : Nat} {g : Bool} {d : t.den} {z : u.den} (ho : o.op = .load T x) (ht : SzOk P T n g) (hg : g = false → n = 1)
 (hk : k = i * t.cells + off) (hl : l[i]? = some d) (hget : tyGet t d off n g = some ⟨u, z⟩) : OpT P o [(x, .eq (elPtr v k))] [.sl v TE t l] (fun _ : Unit => (mkA u z, [.sl v TE t l])) :=
 .val1 fun S w a h hs => by
  have e : a.eval x = elPtr v k := h.1
  rcases hs with ⟨rfl, rfl⟩ | ⟨b, cap, c, rfl, h1, _, h2, h3, h4⟩
  ·
   simp at hl
  ·
   obtain ⟨r1, r2⟩ := rdAll_get (fun _ _ h => rd_length t h) h4 hl
   obtain ⟨q1, q2, q3, q4⟩ := tyGet_spec t r1 hget
   have l1 : (c.toList.take (l.length * t.cells)).length ≤ c.size := by simp only [List.length_take, Array.length_toList]; omega
   have hr := run_loadVar' ht hg h2 (off := k) (by omega)
   have e2 : ((c.toList.take (l.length * t.cells)).drop (i * t.cells)).take t.cells = (c.toList.drop (i * t.cells)).take t.cells := by
    rw [List.drop_take, List.take_take, Nat.min_eq_left]
    have : i < l.length := by
     rcases Nat.lt_or_ge i l.length with h | h
     ·exact h
     ·simp [List.getElem?_eq_none h] at hl
    calc t.cells = (i + 1) * t.cells - i * t.cells := by rw [Nat.add_mul]; omega
     _ ≤ l.length * t.cells - i * t.cells := Nat.sub_le_sub_right (Nat.mul_le_mul_right _ this) _
   rw [e2] at q1
   have e3 : (((c.toList.drop (i * t.cells)).take t.cells).drop off).take n = (c.toList.drop k).take n := by
    rw [List.drop_take, List.take_take, Nat.min_eq_left (by omega), List.drop_drop, hk]
   rw [e3] at q1;refine ⟨_, ?_, q2 ▸ mkA_holds q1⟩;simp [execOp, ho, Instr.loadAt, e, elPtr, Instr.sureAddr, hr]

/-! ### Addresses -/

theorem o_field_obj {b off f k : Nat} (ho : o.op = .fieldAddr T x f) (hf : FieldOk P T f k) : OpT P o [(x, .eq (.pointer (some ⟨b, off, none⟩)))] [] (fun _ : Unit => (.eq (.pointer (some ⟨b, off + k, none⟩)), [])) :=
 .val0 fun S w a h => by
  have e : a.eval x = .pointer (some ⟨b, off, none⟩) := h.1
  exact ⟨_, by simp [execOp, ho, e, hf w b off], rfl⟩

theorem o_field_at {t u : Ty} {d : t.den} {z : u.den} {f k : Nat} (n : Nat) (g : Bool) (ho : o.op = .fieldAddr T x f) (hf : FieldOk P T f k) (hget : tyGet t d k n g = some ⟨u, z⟩) : OpT P o [(x, .at t d)] [] (fun _ : Unit => (.at u z, [])) :=
 .val0 fun S w a h => by
  obtain ⟨b, off, c, T0, fz, e, h1, h2, h3⟩ := h.1
  simp only [List.cons.injEq, and_true] at e
  obtain ⟨q1, q2, q3, q4⟩ := tyGet_spec t h3 hget
  refine ⟨.pointer (some ⟨b, off + k, none⟩), by simp [execOp, ho, e, hf w b off], b, off + k, c, T0, fz, rfl, h1, h2, ?_⟩
  rw [q3]
  rw [List.drop_take, List.take_take, Nat.min_eq_left (by omega), List.drop_drop] at q1
  exact q1

theorem o_field_el {v : Value} {TE : TypeId} {t : Ty} {l : List t.den} {k f i : Nat} (ho : o.op = .fieldAddr T x f) (hf : FieldOk P T f i) (hl : l ≠ []) : OpT P o [(x, .eq (elPtr v k))] [.sl v TE t l] (fun _ : Unit => (.eq (elPtr v (k + i)), [.sl v TE t l])) :=
 .val1 fun S w a h hs => by
  have e : a.eval x = elPtr v k := h.1
  rcases hs with ⟨rfl, rfl⟩ | ⟨b, cap, c, rfl, _⟩
  ·
   exact absurd rfl hl
  ·
   refine ⟨_, by simp [execOp, ho, e, elPtr, hf w b k]; rfl, ?_⟩
   simp [elPtr, A.holds]

/-- The element of a list at an index of Go. -/
def geti {α : Type} (l : List α) (i : Int) : Option α := if 0 ≤ i then l[i.toNat]? else none

theorem geti_some {α : Type} {l : List α} {i : Int} {x : α} (h : geti l i = some x) : 0 ≤ i ∧ i < l.length ∧ l[i.toNat]? = some x := by
 unfold geti at h;split at h
 ·rename_i h0;refine ⟨h0, ?_, h⟩
  have : i.toNat < l.length := by
   rcases Nat.lt_or_ge i.toNat l.length with h' | h'
   ·exact h'
   ·rw [List.getElem?_eq_none h'] at h; cases h
  omega
 ·cases h

theorem run_indexAt_slice {e : TypeId} {m : Nat} {g : Bool} (hT : P.underlying T = some (.slice e)) (he : SzOk P e m g) (b off len cap : Nat) (k : IntKind) (i : Int) (h0 : 0 ≤ i) (h1 : i < len) (w : World) :
 (Instr.indexAt T (.slice (some ⟨b, off, none⟩) len cap) (.int k i)).run P w = .ok (.pointer (some ⟨b, off + i.toNat * m, none⟩)) w := by
 simp [Instr.indexAt, asIntOf, run_underlying hT, h0, h1, he.size, Addr.add_mk]

theorem o_index {t : Ty} {l : List t.den} {k : IntKind} {i : Int} {d : t.den} {e : TypeId} {g : Bool} (ho : o.op = .indexAddr T x y) (hT : P.underlying T = some (.slice e)) (he : SzOk P e t.cells g) (hl : geti l i = some d) :
 OpT P o [(x, .rep (.slice t) l), (y, .eq (.int k i))] [] (fun _ : Unit => (.at t d, [])) :=
 .val0 fun S w a h => by
  obtain ⟨cs, h1, h2⟩ := h.1
  have e2 : a.eval y = .int k i := h.2.1
  obtain ⟨g0, g1, g2⟩ := geti_some hl
  rcases h1 with ⟨a0, cap, rfl, rfl⟩ | ⟨b, off, cap, c, T0, fz, rfl, hle, hS, hb, hr⟩
  ·
   simp at g2
  ·
   have e1 : a.eval x = .slice (some ⟨b, off, none⟩) l.length cap := h2
   obtain ⟨r1, r2⟩ := rdAll_get (fun _ _ h => rd_length t h) hr g2
   refine ⟨.pointer (some ⟨b, off + i.toNat * t.cells, none⟩), by simp [execOp, ho, e1, e2, run_indexAt_slice hT he b off l.length cap k i g0 g1 w], b, _, c, T0, fz, rfl, hS, hb, ?_⟩
   rw [List.drop_take, List.take_take, List.drop_drop, Nat.min_eq_left] at r1
   ·
    exact r1
   ·
    have : i.toNat < l.length := by omega
    calc t.cells = (i.toNat + 1) * t.cells - i.toNat * t.cells := by rw [Nat.add_mul]; omega
     _ ≤ l.length * t.cells - i.toNat * t.cells := Nat.sub_le_sub_right (Nat.mul_le_mul_right _ this) _

theorem o_index_own {v : Value} {TE : TypeId} {t : Ty} {l : List t.den} {k : IntKind} {i : Int} {d : t.den} {e : TypeId} {g : Bool} (ho : o.op = .indexAddr T x y) (hT : P.underlying T = some (.slice e)) (he : SzOk P e t.cells g) (hl : geti l i = some d) :
 OpT P o [(x, .eq v), (y, .eq (.int k i))] [.sl v TE t l] (fun _ : Unit => (.eq (elPtr v (i.toNat * t.cells)), [.sl v TE t l])) :=
 .val1 fun S w a h hs => by
  have e1 : a.eval x = v := h.1
  have e2 : a.eval y = .int k i := h.2.1
  obtain ⟨g0, g1, g2⟩ := geti_some hl
  rcases hs with ⟨rfl, rfl⟩ | ⟨b, cap, c, rfl, _⟩
  ·
   simp at g2
  ·
   exact ⟨.pointer (some ⟨b, i.toNat * t.cells, none⟩), by simp [execOp, ho, e1, e2, run_indexAt_slice hT he b 0 l.length cap k i g0 g1 w], by simp [A.holds, elPtr]⟩

/-- The address of an element of an array in a variable of the call's own. -/
theorem o_index_arr {b off N m : Nat} {g : Bool} {k : IntKind} {i : Int} {e : TypeId} (ho : o.op = .indexAddr T x y) (hT : P.underlying T = some (.array N e)) (he : SzOk P e m g) (h0 : 0 ≤ i) (h1 : i < N) :
 OpT P o [(x, .eq (.pointer (some ⟨b, off, none⟩))), (y, .eq (.int k i))] [] (fun _ : Unit => (.eq (.pointer (some ⟨b, off + i.toNat * m, none⟩)), [])) :=
 .val0 fun S w a h => by
  have e1 : a.eval x = .pointer (some ⟨b, off, none⟩) := h.1
  have e2 : a.eval y = .int k i := h.2.1
  exact ⟨_, by simp [execOp, ho, e1, e2, Instr.indexAt, asIntOf, run_underlying hT, Instr.sureAddr, h0, h1, he.size, Addr.add_mk], rfl⟩

theorem o_nil_obj {p : Addr} (ho : o.op = .nilCheck x) : OpT P o [(x, .eq (.pointer (some p)))] [] (fun _ : Unit => (.eq (.pointer (some p)), [])) :=
 .val0 fun S w a h => by
  have e : a.eval x = .pointer (some p) := h.1
  exact ⟨_, by simp [execOp, ho, e], rfl⟩

end

end K
end Go.Proofs.Ytomnkjcklkcnhaa

/- The calculus, part 5: new variables, stores, slices that are made; freezing; calls; control; loops; returns. -/
namespace Go.Proofs.Ytomnkjcklkcnhaa
namespace K
open Go

/-- What is known of a row of cells says that it reads as a datum. -/
inductive Ent : A → (t : Ty) → t.den → Prop
 | int {k : IntKind} {n : Int} : Ent (.eq (.int k n)) (.int k) n
 | bool {b : Bool} : Ent (.eq (.bool b)) .bool b
 | val {v : Value} (h : oneCell v = true) : Ent (.eq v) .val v
 | rep {t : Ty} {x : t.den} : Ent (.rep t x) t x
 | ptr {t : Ty} {x : t.den} : Ent (.at t x) (.ptr t) x
 | pair {a b : A} {t u : Ty} {x : t.den} {y : u.den} : Ent a t x → Ent b u y → Ent (.pair a b) (.pair t u) (x, y)
 | agg {a : A} {t : Ty} {x : t.den} : Ent a t x → Ent (.agg a) (.agg t) x
 | nil {t : Ty} {a : Option Addr} {c : Nat} : Ent (.eq (.slice a 0 c)) (.slice t) []
 | tag0 {t0 t1 : TypeId} {n : Int} : Ent (.eq (.iface t0 (.int .i64 n))) (.tag t0 t1) (false, n)
 | tag1 {t0 t1 : TypeId} {n : Int} : Ent (.eq (.iface t1 (.int .i64 n))) (.tag t0 t1) (true, n)
 | ign {v : Value} (h : oneCell v = true) : Ent (.eq v) .ign ()
 | altL {a : A} {t : Ty} {x : t.den} (h : t.cells = 1) : Ent a t x → Ent a (.alt t) (.inl x)
 | altR {v : Value} {t : Ty} (h : oneCell v = true) : Ent (.eq v) (.alt t) (.inr v)

theorem Ent.cells {S : FS} {w : World} {a : A} {t : Ty} {x : t.den} (h : Ent a t x) : ∀ {cs : List Value}, a.cells S w cs → rd S w t x cs := by
 induction h with
 | int => intro cs h; exact h.1
 | bool => intro cs h; exact h.1
 | val hv => intro cs h; exact h
 | rep => intro cs h; exact h
 | ptr => intro cs h; exact h
 | pair _ _ ih1 ih2 => rintro cs ⟨c1, c2, e, h1, h2⟩; exact ⟨c1, c2, e, ih1 h1, ih2 h2⟩
 | agg _ ih => intro cs h; exact ih h
 | nil => intro cs h; exact .inl ⟨_, _, h.1, rfl⟩
 | tag0 => intro cs h; exact h.1
 | tag1 => intro cs h; exact h.1
 | ign hv => intro cs h; exact ⟨_, h⟩
 | altL ht _ ih => intro cs h; exact ⟨ih h, (rd_length _ (ih h)).trans ht⟩
 | altR hv => intro cs h; exact h

/-- The same of a value. -/
theorem Ent.holds {S : FS} {w : World} {a : A} {t : Ty} {x : t.den} (h : Ent a t x) (hs : a.stor) (hg : a.isAgg = t.isAgg) {v : Value} (hv : a.holds S w v) : (mkA t x).holds S w v := by
 obtain ⟨h1, _, h3⟩ := A.holds_cells hv hs;rw [h3, hg];exact mkA_holds (h.cells h1)

section
variable {P : Program} {o : Oper} {x y z : Operand} {T T' : TypeId} {r r' : A}

theorem alloc_old (w : World) (ob : Obj) (b : Nat) (hb : b < w.heap.size) : (w.alloc ob).heap[b]? = w.heap[b]? := heap_alloc_old w ob hb

theorem feet_nil {b : Nat} (h : feet [] b) : False := by obtain ⟨d, hd, _⟩ := h; simp at hd
theorem feet_one {d : D} {b : Nat} : feet [d] b ↔ d.foot = some b := ⟨fun ⟨e, he, h⟩ => by simp at he; subst he; exact h, fun h => ⟨d, by simp, h⟩⟩
theorem feet_obj {b b' : Nat} {T : TypeId} {a : A} : feet [.obj b T a] b' ↔ b' = b := by rw [feet_one]; simp [D.foot, eq_comm]

theorem owns_one {d : D} {S : FS} {w : World} (h : d.holds S w) (hf : ∀ b, d.foot = some b → ¬ S b ∧ b < w.heap.size) : Owns [d] S w :=
 ⟨fun e he => by simp at he; subst he; exact h, fun b hb => hf b (feet_one.1 hb), List.pairwise_singleton _ _⟩
theorem owns_nil {S : FS} {w : World} : Owns [] S w := ⟨fun e he => by simp at he, fun b hb => (feet_nil hb).elim, List.Pairwise.nil⟩

/-- A new block, S unchanged. -/
theorem step_alloc {X : Nat → Prop} {S : FS} {w : World} (hd : ∀ b, S b → b < w.heap.size) (ob : Obj) : Step X S w S (w.alloc ob) :=
 ⟨fun _ h => h, fun _ h => .inl h, fun b h => by have := hd b h; simp; omega, by simp, fun b hb _ => alloc_old w ob b hb, rfl, rfl, rfl⟩

/-- A new block that is frozen at once. -/
theorem step_alloc_frz {X : Nat → Prop} {S : FS} {w : World} (hd : ∀ b, S b → b < w.heap.size) (ob : Obj) : Step X S w (fun b => S b ∨ b = w.heap.size) (w.alloc ob) :=
 ⟨fun _ h => .inl h, fun b h => h.imp id (fun e => .inl (by omega)), fun b h => h.elim (fun h => by have := hd b h; simp; omega) (fun h => by subst h; simp), by simp, fun b hb _ => alloc_old w ob b hb, rfl, rfl, rfl⟩

theorem o_box (ho : o.op = .box T x) (hs : r.stor) : OpT P o [(x, r)] [] (fun b : Nat => (.eq (.pointer (some ⟨b, 0, none⟩)), [.obj b T r])) := by
 refine ⟨by simp only [nd, *], fun ro S w a next Q hd hN _ k => ?_⟩;obtain ⟨h1, h2, _⟩ := A.holds_cells hN.1 hs
 have hr : (execOp a.eval o).run P w = .ok (.value (.pointer (some ⟨w.heap.size, 0, none⟩))) (w.alloc (.cells (a.eval x).cells T)) := by
  simp [execOp, ho, Instr.box, newVar, newRow]
 rw [hr];refine k w.heap.size S _ _ (step_alloc hd _) rfl (owns_one ⟨(a.eval x).cells.toList, ?_, ?_⟩ ?_) ?_
 ·rw [Array.toArray_toList]; exact heap_alloc_new w _
 ·exact A.cells_mono (fun _ h => h) (fun b hb => alloc_old w _ b (hd b hb)) r h1
 ·intro b hb;simp only [D.foot, Option.some.injEq] at hb;subst hb;exact ⟨fun h => by have := hd _ h; omega, by simp⟩
 ·intro b hb;rw [feet_obj] at hb;subst hb;exact .inr (Nat.le_refl _)

theorem o_alloc {zv : Value} {a0 : A} (ho : o.op = .alloc T) (hz : ∀ w, (zeroValue T).run P w = .ok zv w) (ha : ∀ S w, a0.cells S w zv.cells.toList) :
 OpT P o [] [] (fun b : Nat => (.eq (.pointer (some ⟨b, 0, none⟩)), [.obj b T a0])) := by
 refine ⟨by simp only [nd, *], fun ro S w a next Q hd hN _ k => ?_⟩
 have hr : (execOp a.eval o).run P w = .ok (.value (.pointer (some ⟨w.heap.size, 0, none⟩))) (w.alloc (.cells zv.cells T)) := by
  simp [execOp, ho, Instr.alloc, hz, newVar, newRow]
 rw [hr];refine k w.heap.size S _ _ (step_alloc hd _) rfl (owns_one ⟨zv.cells.toList, ?_, ha _ _⟩ ?_) ?_
 ·rw [Array.toArray_toList]; exact heap_alloc_new w _
 ·intro b hb;simp only [D.foot, Option.some.injEq] at hb;subst hb;exact ⟨fun h => by have := hd _ h; omega, by simp⟩
 ·intro b hb;rw [feet_obj] at hb;subst hb;exact .inr (Nat.le_refl _)

/-- A block that is owned is written. -/
theorem step_set {X : Nat → Prop} {S : FS} {w : World} (hd : ∀ b, S b → b < w.heap.size) {b : Nat} (hX : X b) (ob : Obj) : Step X S w S { w with heap := w.heap.setIfInBounds b ob } :=
 ⟨fun _ h => h, fun _ h => .inl h, fun b h => by simpa using hd b h, by simp, fun b' _ hx => by
  have hne : b ≠ b' := fun e => hx (by rw [← e]; exact hX)
  simp [Array.getElem?_setIfInBounds_ne hne], rfl, rfl, rfl⟩

theorem o_store {b off n : Nat} {g : Bool} {T0 : TypeId} {a0 a1 : A} (ho : o.op = .store T x y) (ht : SzOk P T n g) (hs : r.stor) (hset : a0.set off n r.isAgg r = some a1) (hn : r.n = n) :
 OpT P o [(x, .eq (.pointer (some ⟨b, off, none⟩))), (y, r)] [.obj b T0 a0] (fun _ : Unit => (.eq undef, [.obj b T0 a1])) := by
 refine ⟨by simp only [nd, *], fun ro S w a next Q hd hN hO k => ?_⟩;have e1 : a.eval x = .pointer (some ⟨b, off, none⟩) := hN.1;obtain ⟨h1, h2, _⟩ := A.holds_cells hN.2.1 hs;obtain ⟨cs, h3, h4⟩ := hO.holds _ (by simp : D.obj b T0 a0 ∈ [D.obj b T0 a0]);obtain ⟨hnb, hbs⟩ := hO.own b (feet_obj.2 rfl);have l := a0.cells_length h4;obtain ⟨q1, q2⟩ := A.set_spec a0 h4 h1 (h2.trans hn) hset;have hst := run_storeCells P b T0 off (a.eval y).cells.toList 0 w cs.toArray h3 (fun v hv => A.cells_one r h1 v hv) (by simp only [Nat.add_zero, List.size_toArray]; omega);have hsz : (a.eval y).cells.size = n := by rw [← Array.length_toList]; omega
 have hr : (execOp a.eval o).run P w = .ok .skip { w with heap := w.heap.setIfInBounds b (.cells (cs.take off ++ (a.eval y).cells.toList ++ cs.drop (off + n)).toArray T0 (0, 0)) } := by
  simp only [Nat.add_zero, h2, hn] at hst;simp [execOp, ho, Instr.storeAt, e1, Instr.sureAddr, storeVar, ht.size, hsz, hst]
 rw [hr]
 have hK : Keep S w { w with heap := w.heap.setIfInBounds b (.cells (cs.take off ++ (a.eval y).cells.toList ++ cs.drop (off + n)).toArray T0 (0, 0)) } := fun b' hb' => by
  have hne : b ≠ b' := fun e => hnb (by rw [e]; exact hb');simp [Array.getElem?_setIfInBounds_ne hne]
 refine k () S _ _ (step_set hd (feet_obj.2 rfl) _) rfl (owns_one ⟨_, by simp [hbs], A.cells_mono (fun _ h => h) hK a1 q1⟩ ?_) (fun b' hb' => .inl ?_)
 ·intro b' hb';simp only [D.foot, Option.some.injEq] at hb';subst hb';exact ⟨hnb, by simpa using hbs⟩
 ·rw [feet_obj] at hb' ⊢; exact hb'

/-! ### Composite values -/

@[reducible] def fillA (places : Array (Nat × Nat)) : A → List (Nat × Operand × A) → Option A
 | a, [] => some a
 | a, (i, _, r) :: rest => match places[i]? with
  | some (off, n) => if r.n = n then (match a.set off n r.isAgg r with | some a' => fillA places a' rest | none => none) else none
  | none => none

theorem foldl_set (new : List Value) (off : Nat) : ∀ (k : Nat) (cs : Array Value), off + k + new.length ≤ cs.size →
 ((new.zipIdx k).foldl (fun (cs : Array Value) (p : Value × Nat) => cs.setIfInBounds (off + p.2) p.1) cs).toList = cs.toList.take (off + k) ++ new ++ cs.toList.drop (off + k + new.length) := by
 induction new with
 | nil => intro k cs _; simp
 | cons v new ih =>
  intro k cs h;simp only [List.length_cons] at h;simp only [List.zipIdx_cons, List.foldl_cons];rw [ih (k + 1) _ (by simp; omega)];have hlt : off + k < cs.size := by omega
  rw [Array.toList_setIfInBounds, List.set_eq_take_append_cons_drop, if_pos (by simpa using hlt)];have lt : (cs.toList.take (off + k)).length = off + k := by simp; omega
  have e2 : off + (k + 1) = (cs.toList.take (off + k)).length + 1 := by omega
  rw [e2, take_mid, drop_mid, List.drop_drop];simp only [List.append_assoc, List.cons_append, List.nil_append, List.length_cons];rw [show off + k + 1 + new.length = off + k + (new.length + 1) by omega]

theorem fill_spec {S : FS} {w : World} {a : Act} (places : Array (Nat × Nat)) : ∀ (ps : List (Nat × Operand × A)) (a0 a1 : A) (cs : Array Value), a0.cells S w cs.toList → Needs S w a (ps.map (·.2)) → (∀ p ∈ ps, p.2.2.stor) → fillA places a0 ps = some a1 →
 ∃ cs', Instr.fill (places[·]?) cs (ps.map fun p => (p.1, a.eval p.2.1)) = some cs' ∧ a1.cells S w cs'.toList := by
 intro ps
 induction ps with
 | nil => intro a0 a1 cs h _ _ hf; simp only [fillA, Option.some.injEq] at hf; subst hf; exact ⟨cs, rfl, h⟩
 | cons p ps ih =>
  obtain ⟨i, x, r⟩ := p;intro a0 a1 cs h hN hs hf;obtain ⟨h1, h2, _⟩ := A.holds_cells hN.1 (hs (i, x, r) (by simp));simp only [fillA] at hf;cases hp : places[i]? with
  | none => rw [hp] at hf; cases hf
  | some q =>
   obtain ⟨off, n⟩ := q;rw [hp] at hf;simp only at hf;split at hf
   ·rename_i hn;split at hf
    ·rename_i a' ha';have l := a0.cells_length h;obtain ⟨q1, q2⟩ := A.set_spec a0 h h1 (h2.trans hn) ha';have hsz : (a.eval x).cells.size = n := by rw [← Array.length_toList]; omega
     have hle : off + (a.eval x).cells.size ≤ cs.size := by rw [← Array.length_toList (xs := cs)]; omega
     have hfold := foldl_set (a.eval x).cells.toList off 0 cs (by simp only [Array.length_toList]; omega)
     have hcs : ((a.eval x).cells.zipIdx.foldl (fun cs (c, j) => cs.setIfInBounds (off + j) c) cs).toList = cs.toList.take off ++ (a.eval x).cells.toList ++ cs.toList.drop (off + n) := by
      rw [← Array.foldl_toList, Array.toList_zipIdx];simp only [Nat.add_zero, Array.length_toList, hsz] at hfold;exact hfold
     obtain ⟨cs', e, h3⟩ := ih a' a1 _ (by rw [hcs]; exact q1) hN.2 (fun p hp => hs p (List.mem_cons_of_mem _ hp)) hf;refine ⟨cs', ?_, h3⟩;simp only [List.map_cons, Instr.fill, hp];rw [if_neg (by simp [hsz]; omega)];exact e
    ·cases hf
   ·cases hf

theorem o_build {fs : Array Field} {places : Array (Nat × Nat)} {zv : Value} {a0 a1 : A} (ps : List (Nat × Operand × A)) (ho : o.op = .build T (ps.map fun p => (p.1, p.2.1)).toArray) (hT : P.underlying T = some (.struct fs))
 (hpl : ∀ w, (fs.mapM fun f => (do pure (f.offset, ← sizeOf f.type) : Sem (Nat × Nat))).run P w = .ok places w) (hz : ∀ w, (zeroValue T).run P w = .ok zv w) (ha : ∀ S w, a0.cells S w zv.cells.toList)
 (hs : ∀ p ∈ ps, p.2.2.stor) (hf : fillA places a0 ps = some a1) : OpT P o (ps.map (·.2)) [] (fun _ : Unit => (.agg a1, [])) :=
 .val0 fun S w a hN => by
  obtain ⟨cs', e, h⟩ := fill_spec places ps a0 a1 zv.cells (ha S w) hN hs hf
  refine ⟨.agg cs', ?_, cs'.toList, h, by simp⟩
  simp only [execOp, ho, Instr.build, Sem.run_bind, hz, Result.andThen_ok, run_underlying hT, hpl, Sem.run_pure]
  have e' : ((ps.map fun p => (p.1, p.2.1)).toArray.map fun (q : Nat × Operand) => (q.1, a.eval q.2)).toList = ps.map fun p => (p.1, a.eval p.2.1) := by simp
  rw [e', e]
  rfl

end
end K
end Go.Proofs.Ytomnkjcklkcnhaa

/- The calculus, part 6: slices that are made; what may be forgotten, converted and frozen; calls. -/
namespace Go.Proofs.Ytomnkjcklkcnhaa
namespace K
open Go

theorem one_eq (v : Value) : v.oneCell' = oneCell v := by cases v <;> rfl

/-- A slice type and its elements. -/
structure SlOk (P : Program) (T e : TypeId) (n bytes : Nat) : Prop where
 und : P.underlying T = some (.slice e)
 ex : ∃ i z, P.info? e = some i ∧ i.zero = some z ∧ i.size = n ∧ i.bytes = bytes ∧ z.cells.size = n
 pos : 0 < n
 small : bytes ≤ 32768

theorem SlOk.of {P : Program} {T e : TypeId} {n bytes : Nat} {z : Value} (hu : P.underlying T = some (.slice e)) (h : (P.info? e).map (fun i => (i.zero, i.size, i.bytes)) = some (some z, n, bytes)) (hz : z.cells.size = n) (hp : Nat.blt 0 n = true) (hb : Nat.ble bytes 32768 = true) : SlOk P T e n bytes := by
 obtain ⟨i, h1, h2⟩ := Option.map_eq_some_iff.1 h;simp only [Prod.mk.injEq] at h2;exact ⟨hu, ⟨i, z, h1, h2.1, h2.2.1, h2.2.2, hz⟩, Nat.blt_eq ▸ hp, Nat.le_of_ble_eq_true hb⟩

theorem SlOk.size {P : Program} {T e : TypeId} {n bytes : Nat} (h : SlOk P T e n bytes) (w : World) : (sizeOf e).run P w = .ok n w := by
 obtain ⟨i, z, h1, _, h3, _⟩ := h.ex;simp [sizeOf, typeInfo, h1, h3]

theorem sl_row {S : FS} {w : World} {v : Value} {T : TypeId} {t : Ty} {l : List t.den} : (D.sl v T t l).holds S w ↔ ∃ xs, w.ownsRow 0 T t.cells v l.length xs ∧ rdAll (rd S w t) l xs := by
 constructor
 ·rintro (⟨rfl, rfl⟩ | ⟨b, cap, c, rfl, h1, h1', h2, h3, h4⟩)
  ·exact ⟨[], World.ownsRow_nil w 0 T t.cells, rfl⟩
  ·exact ⟨_, ⟨rdAll_length (fun _ _ h => rd_length t h) h4, .inr ⟨b, cap, c, rfl, Nat.zero_le _, h2, h1, h1', h3, rfl⟩⟩, h4⟩
 ·rintro ⟨xs, ⟨h1, h2⟩, h3⟩;rcases h2 with ⟨rfl, h2⟩ | ⟨g, cap, cur, rfl, _, h4, h5, h6, h7, h8⟩
  ·exact .inl ⟨rfl, List.length_eq_zero_iff.1 h2⟩
  ·exact .inr ⟨g, cap, cur, rfl, h5, h6, h4, h7, by rw [h8]; exact h3⟩

theorem step_grown {X : Nat → Prop} {S : FS} {w w' : World} (hd : ∀ b, S b → b < w.heap.size) {row : Option Nat} (hX : ∀ b, row = some b → X b) (h : w.grownBy w' row) : Step X S w S w' :=
 ⟨fun _ h => h, fun _ h => .inl h, fun b hb => Nat.lt_of_lt_of_le (hd b hb) h.size, h.size, fun b hb hx => h.block b hb (fun e => hx (hX b e.symm)), h.os, h.tape, h.output⟩

theorem rdAll_append {α : Type} {R : α → List Value → Prop} : ∀ {l1 l2 : List α} {c1 c2 : List Value}, rdAll R l1 c1 → rdAll R l2 c2 → rdAll R (l1 ++ l2) (c1 ++ c2)
 | [], _, _, _, h1, h2 => by simp [rdAll] at h1; subst h1; exact h2
 | x :: l1, _, _, _, ⟨a, b, rfl, h, h1⟩, h2 => ⟨a, b ++ _, by rw [List.append_assoc], h, rdAll_append h1 h2⟩

theorem rdAll_take {α : Type} {R : α → List Value → Prop} {m : Nat} (hR : ∀ x cs, R x cs → cs.length = m) (k : Nat) : ∀ {l : List α} {cs : List Value}, rdAll R l cs → rdAll R (l.take k) (cs.take (k * m)) := by
 induction k with
 | zero => intro l cs _; simp [rdAll]
 | succ k ih =>
  intro l cs h;cases l with
  | nil => simp [rdAll] at h; subst h; simp [rdAll]
  | cons x l =>
   obtain ⟨a, b, rfl, h1, h2⟩ := h;have la := hR _ _ h1;refine ⟨a, b.take (k * m), ?_, h1, ih h2⟩;rw [List.take_append, List.take_of_length_le (by rw [la, Nat.add_mul]; omega), la, Nat.add_mul, Nat.one_mul, Nat.add_sub_cancel]

section
variable {P : Program} {o : Oper} {x y z : Operand} {T T' e : TypeId} {r r' : A} {t : Ty}

/-- A list that may be made: it is not too long. -/
def okLen (n : Nat) : Prop := n ≤ 4294967296

instance (n : Nat) : Decidable (okLen n) := by unfold okLen; infer_instance

theorem o_append {v : Value} {l l2 : List t.den} {bytes : Nat} {c : Call} (ho : o.op = .call c) (hc : c = { callee := .builtin .append, args := #[x, y], argTypes := #[T, T] }) (hT : SlOk P T e t.cells bytes)
 (hl : okLen (l.length + l2.length)) : OpT P o [(x, .eq v), (y, .rep (.slice t) l2)] [.sl v e t l] (fun v' : Value => (.eq v', [.sl v' e t (l ++ l2)])) := by
 refine ⟨by simp only [nd, *], fun ro S w a next Q hd hN hO k => ?_⟩;have e1 : a.eval x = v := hN.1;obtain ⟨cs2, h2, e2⟩ := hN.2.1;have hown := hO.holds _ (by simp : D.sl v e t l ∈ [D.sl v e t l]);obtain ⟨xs, hrow, hrd⟩ := sl_row.1 hown;obtain ⟨i, zv, q1, q2, q3, q4, q5⟩ := hT.ex;unfold okLen at hl;have hsm := hT.small
 have main : ∃ v' w' news, (Builtin.append_ #[T, T] o.type #[v, a.eval y]).run P w = .ok v' w' ∧ w'.ownsRow 0 e t.cells v' (l.length + l2.length) (xs ++ news) ∧ w.grownBy w' v.ownBlock ∧ rdAll (rd S w t) l2 news ∧ (v'.ownBlock = v.ownBlock ∨ v'.ownBlock = some w.heap.size) := by
  rcases h2 with ⟨a0, cap, rfl, rfl⟩ | ⟨b, off, cap, cc, T0, fz, rfl, hle, hS, hb, hr⟩
  ·have ey : a.eval y = .slice a0 0 cap := e2
   have hr0 : (Builtin.append_ #[T, T] o.type #[v, .slice a0 0 cap]).run P w = .ok v w := by
    rcases hrow.2 with ⟨rfl, hn⟩ | ⟨g, cap', cur, rfl, _, _, hnc, _⟩
    ·cases a0 <;> simp [Builtin.append_, run_underlying hT.und, sizeOf, typeInfo, q1, Builtin.lenOf, Builtin.firstCells, loadCells, loadCellsFrom]
    ·cases a0 <;> simp [Builtin.append_, run_underlying hT.und, sizeOf, typeInfo, q1, Builtin.lenOf, Builtin.firstCells, hnc, storeCells, loadCells, loadCellsFrom]
   exact ⟨v, w, [], by rw [ey]; exact hr0, by simpa using hrow, ⟨rfl, rfl, rfl, Nat.le_refl _, fun _ _ _ => rfl⟩, rfl, .inl rfl⟩
  ·have ey : a.eval y = .slice (some ⟨b, off, none⟩) l2.length cap := e2;have hlen := rdAll_length (fun _ _ h => rd_length t h) hr;have hone := rdAll_one (fun _ _ h => rd_one t h) hr;have hb1 : l.length + l2.length ≤ maxLen := by unfold maxLen; omega
   have hb2 : (l.length + l2.length) * bytes ≤ 140737488355328 := by
    calc (l.length + l2.length) * bytes ≤ 4294967296 * 32768 := Nat.mul_le_mul hl hsm
     _ ≤ 140737488355328 := by decide
   obtain ⟨v', w', g1, g2, g3, _, g5⟩ := run_append_own_at (P := P) w 0 T o.type e i zv t.cells bytes hT.und q1 q2 q3 q4 q5 hT.pos v l.length xs hrow ⟨b, off, none⟩ l2.length cap _ hlen
    (fun j u hu => by
     rw [Addr.add_mk];rw [List.getElem?_take] at hu;split at hu
     ·simp only [List.getElem?_drop, Array.getElem?_toList] at hu;simp [World.cell?, hb, hu]
     ·cases hu) (fun u hu => by rw [one_eq]; exact hone u hu) hb1 hb2 (Nat.zero_le _)
   exact ⟨v', w', _, by rw [ey]; exact g1, g2, g3, hr, g5⟩
 obtain ⟨v', w', news, g1, g2, g3, g4, g5⟩ := main
 have hr : (execOp a.eval o).run P w = .ok (.value v') w' := by
  simp [execOp, ho, hc, resolve, invoke, builtin, e1, g1]
 have hX : ∀ b, v.ownBlock = some b → feet [D.sl v e t l] b := fun b h => feet_one.2 h;have hK : Keep S w w' := fun b hb => g3.block b (hd b hb) (fun h => (hO.own b (hX b h.symm)).1 hb);have hlen' : (l ++ l2).length = l.length + l2.length := by simp
 rw [hr];refine k v' S w' v' (step_grown hd hX g3) rfl (owns_one (sl_row.2 ⟨xs ++ news, by rw [hlen']; exact g2, rdAll_append (rdAll_mono (fun _ _ h => rd_mono (fun _ h => h) hK t h) hrd) (rdAll_mono (fun _ _ h => rd_mono (fun _ h => h) hK t h) g4)⟩) ?_) ?_
 ·intro b hb;have hb' : v'.ownBlock = some b := hb;refine ⟨fun hS => ?_, (g2.lt b hb).2⟩;rcases g5 with g5 | g5
  ·exact (hO.own b (hX b (by rw [← g5]; exact hb'))).1 hS
  ·rw [g5] at hb';cases hb';have := hd _ hS;omega
 ·intro b hb;have hb' : v'.ownBlock = some b := feet_one.1 hb;rcases g5 with g5 | g5
  ·exact .inl (hX b (by rw [← g5]; exact hb'))
  ·rw [g5] at hb';cases hb';exact .inr (Nat.le_refl _)

/-- Operands, what is known of them, and that they read as these data. -/
inductive Ents (t : Ty) : List (Operand × A) → List t.den → Prop
 | nil : Ents t [] []
 | cons {x : Operand} {r : A} {d : t.den} {ps : List (Operand × A)} {l : List t.den} (hs : r.stor) (h : Ent r t d) (ht : Ents t ps l) : Ents t ((x, r) :: ps) (d :: l)

theorem fill_slice {S : FS} {w : World} {a : Act} {m : Nat} (hm : t.cells = m) : ∀ (ps : List (Operand × A)) (l : List t.den) (k : Nat) (cs : Array Value), Ents t ps l → Needs S w a ps → (k + ps.length) * m ≤ cs.size →
 ∃ news cs', Instr.fill (fun i => some (i * m, m)) cs ((ps.zipIdx k).map fun p => (p.2, a.eval p.1.1)) = some cs' ∧ rdAll (rd S w t) l news ∧ news.length = l.length * m ∧
  cs'.toList = cs.toList.take (k * m) ++ news ++ cs.toList.drop (k * m + news.length) := by
 intro ps
 induction ps with
 | nil =>
  intro l k cs he _ hk;cases he;exact ⟨[], cs, rfl, rfl, by simp, by simp⟩
 | cons p ps ih =>
  obtain ⟨x, r⟩ := p;intro l k cs he hN hk;cases he with
  | cons hs h ht =>
  rename_i d l;obtain ⟨h1, h2, _⟩ := A.holds_cells hN.1 hs;have h3 := h.cells h1;have l3 := rd_length t h3;simp only [List.length_cons] at hk;have e1 : (k + 1) * m = k * m + m := by rw [Nat.add_mul]; omega
  have e2 : (k + (ps.length + 1)) * m = k * m + m + ps.length * m := by rw [Nat.add_mul, Nat.add_mul]; omega
  have hsz : (a.eval x).cells.size = m := by rw [← Array.length_toList]; omega
  have hfold := foldl_set (a.eval x).cells.toList (k * m) 0 cs (by simp only [Array.length_toList]; omega)
  have hcs : ((a.eval x).cells.zipIdx.foldl (fun cs (c, j) => cs.setIfInBounds (k * m + j) c) cs).toList = cs.toList.take (k * m) ++ (a.eval x).cells.toList ++ cs.toList.drop (k * m + m) := by
   rw [← Array.foldl_toList, Array.toList_zipIdx];simp only [Nat.add_zero, Array.length_toList, hsz] at hfold;exact hfold
  have hsize : ((a.eval x).cells.zipIdx.foldl (fun cs (c, j) => cs.setIfInBounds (k * m + j) c) cs).size = cs.size := by
   rw [← Array.length_toList, hcs, ← Array.length_toList (xs := cs)];simp only [List.length_append, List.length_take, List.length_drop, Array.length_toList, hsz];omega
  obtain ⟨news, cs', e, g1, g2, g3⟩ := ih l (k + 1) _ ht hN.2 (by rw [hsize]; have : (k + 1 + ps.length) * m = k * m + m + ps.length * m := by rw [Nat.add_mul, Nat.add_mul]; omega
                                                                  omega)
  refine ⟨(a.eval x).cells.toList ++ news, cs', ?_, ⟨_, _, rfl, h3, g1⟩, by simp only [List.length_append, List.length_cons, Array.length_toList, hsz, g2, Nat.add_mul]; omega, ?_⟩
  ·simp only [List.zipIdx_cons, List.map_cons, Instr.fill];rw [if_neg (by simp [hsz]; omega)];exact e
  ·rw [g3, hcs, e1];have e5 : (a.eval x).cells.toList.length = m := by rw [Array.length_toList, hsz]
   have lt : (cs.toList.take (k * m) ++ (a.eval x).cells.toList).length = k * m + m := by
    simp only [List.length_append, List.length_take, Array.length_toList, hsz]; omega
   rw [List.take_append_of_le_length (by omega), List.take_of_length_le (by omega), List.drop_append, List.drop_eq_nil_of_le (by omega), List.nil_append, lt, List.drop_drop, List.length_append, e5];rw [show k * m + m + (k * m + m + news.length - (k * m + m)) = k * m + (m + news.length) by omega, List.append_assoc (cs.toList.take (k * m))]

theorem run_buildSlice {bytes : Nat} (hT : SlOk P T e t.cells bytes) {S : FS} {w : World} {a : Act} (ps : List (Operand × A)) (l : List t.den) (he : Ents t ps l) (hN : Needs S w a ps) (hn : ps.length * t.cells ≤ 16777216) (hl : l.length = ps.length) :
 ∃ news, (Instr.buildSlice T ps.length (ps.zipIdx.map fun p => (p.2, a.eval p.1.1)).toArray).run P w = .ok (.slice (some ⟨w.heap.size, 0, none⟩) l.length l.length) (w.alloc (.cells news.toArray e)) ∧ rdAll (rd S w t) l news ∧ news.length = l.length * t.cells := by
 obtain ⟨i, zv, q1, q2, q3, q4, q5⟩ := hT.ex;have hsz := hT.size w;by_cases hz : ps.length * t.cells = 0
 ·have hp : ps = [] := by
   have := hT.pos;rcases Nat.mul_eq_zero.1 hz with h | h
   ·exact List.length_eq_zero_iff.1 h
   ·omega
  subst hp;cases he;refine ⟨[], ?_, rfl, by simp⟩;simp [Instr.buildSlice, run_underlying hT.und, hsz, Instr.fill, newRow, Array.range_zero']
 ·obtain ⟨news, cs', e1, g1, g2, g3⟩ := fill_slice rfl ps l 0 ((Array.range (ps.length * t.cells)).map (zv.cells[· % zv.cells.size]!)) he hN (by simp);refine ⟨news, ?_, g1, g2⟩
  have e2 : cs' = news.toArray := by
   apply Array.ext';rw [g3, Nat.zero_mul, List.take_zero, List.nil_append, Nat.zero_add, List.drop_eq_nil_of_le (by simp [g2, hl]), List.append_nil]
  subst e2;have hn' : ¬ (16777216 < ps.length * t.cells) := by omega
  simp only [Instr.buildSlice, Sem.run_bind, run_underlying hT.und, Result.andThen_ok, hsz];simp [hn', hz, zeroValue, typeInfo, q1, q2, newRow];rw [e1];simp [hl]

/-- A literal slice, the call's own. -/
theorem o_lit_own {bytes n : Nat} (ps : List (Operand × A)) (l : List t.den) (ho : o.op = .buildSlice T n (ps.zipIdx.map fun p => (p.2, p.1.1)).toArray) (hn : n = ps.length) (hT : SlOk P T e t.cells bytes) (he : Ents t ps l)
 (hsz : ps.length * t.cells ≤ 16777216) (hl : l.length = ps.length) : OpT P o ps [] (fun v : Value => (.eq v, [.sl v e t l])) := by
 refine ⟨by simp only [nd, *], fun ro S w a next Q hd hN _ k => ?_⟩;obtain ⟨news, h1, h2, h3⟩ := run_buildSlice hT ps l he hN hsz hl
 have hr : (execOp a.eval o).run P w = .ok (.value (.slice (some ⟨w.heap.size, 0, none⟩) l.length l.length)) (w.alloc (.cells news.toArray e)) := by
  have e1 : (ps.zipIdx.map fun p => (p.2, p.1.1)).toArray.map (fun (q : Nat × Operand) => (q.1, a.eval q.2)) = (ps.zipIdx.map fun p => (p.2, a.eval p.1.1)).toArray := by simp
  simp only [execOp, ho, hn, e1, Sem.run_bind, h1, Result.andThen_ok, Sem.run_pure]
 rw [hr];have hK : Keep S w (w.alloc (.cells news.toArray e)) := fun b hb => alloc_old w _ b (hd b hb);refine k _ S _ _ (step_alloc hd _) rfl (owns_one (.inr ⟨w.heap.size, l.length, news.toArray, rfl, Nat.le_refl _, by unfold maxLen; have := hT.pos; have : l.length * 1 ≤ l.length * t.cells := Nat.mul_le_mul_left _ hT.pos; rw [← hl] at hsz; omega, heap_alloc_new w _, by simpa using h3, ?_⟩) ?_) ?_
 ·rw [List.toList_toArray, List.take_of_length_le (by omega)];exact rdAll_mono (fun _ _ h => rd_mono (fun _ h => h) hK t h) h2
 ·intro b hb;have hb' : b = w.heap.size := by simpa [D.foot, Value.ownBlock, eq_comm] using hb
  subst hb';exact ⟨fun h => by have := hd _ h; omega, by simp⟩
 ·intro b hb;have hb' : b = w.heap.size := by simpa [D.foot, Value.ownBlock, eq_comm] using feet_one.1 hb
  exact .inr (by omega)

/-- A literal slice, frozen at once. -/
theorem o_lit {bytes n : Nat} (ps : List (Operand × A)) (l : List t.den) (ho : o.op = .buildSlice T n (ps.zipIdx.map fun p => (p.2, p.1.1)).toArray) (hn : n = ps.length) (hT : SlOk P T e t.cells bytes) (he : Ents t ps l)
 (hsz : ps.length * t.cells ≤ 16777216) (hl : l.length = ps.length) : OpT P o ps [] (fun _ : Unit => (.rep (.slice t) l, [])) := by
 refine ⟨by simp only [nd, *], fun ro S w a next Q hd hN _ k => ?_⟩;obtain ⟨news, h1, h2, h3⟩ := run_buildSlice hT ps l he hN hsz hl
 have hr : (execOp a.eval o).run P w = .ok (.value (.slice (some ⟨w.heap.size, 0, none⟩) l.length l.length)) (w.alloc (.cells news.toArray e)) := by
  have e1 : (ps.zipIdx.map fun p => (p.2, p.1.1)).toArray.map (fun (q : Nat × Operand) => (q.1, a.eval q.2)) = (ps.zipIdx.map fun p => (p.2, a.eval p.1.1)).toArray := by simp
  simp only [execOp, ho, hn, e1, Sem.run_bind, h1, Result.andThen_ok, Sem.run_pure]
 rw [hr];have hK : Keep S w (w.alloc (.cells news.toArray e)) := fun b hb => alloc_old w _ b (hd b hb);refine k () _ _ _ (step_alloc_frz hd _) ⟨_, .inr ⟨w.heap.size, 0, l.length, news.toArray, e, (0, 0), rfl, Nat.le_refl _, .inr rfl, heap_alloc_new w _, ?_⟩, rfl⟩ owns_nil (fun b hb => (feet_nil hb).elim);rw [List.toList_toArray, List.drop_zero, List.take_of_length_le (by omega)];exact rdAll_mono (fun _ _ h => rd_mono (fun _ h => .inl h) hK t h) h2

end
end K
end Go.Proofs.Ytomnkjcklkcnhaa

/- The calculus, part 7: what may be forgotten, converted, frozen; calls; control; loops; returns. -/
namespace Go.Proofs.Ytomnkjcklkcnhaa
namespace K
open Go

/-! ### Entailments between states -/

section
variable {c : Cx} {ops : Array Oper} {l : List Oper} {Q : Exit → Act → World → Prop} {Γ Γ' : Ga} {Δ Δ' F : List D}

/-- From one state to another. -/
def SE (c : Cx) (Γ : Ga) (Δ : List D) (Γ' : Ga) (Δ' : List D) : Prop := ∀ a w, St c Γ Δ a w → St c Γ' Δ' a w

theorem JO.se (h : SE c Γ Δ Γ' Δ') (j : JO c ops l Q Γ' Δ') : JO c ops l Q Γ Δ := fun a w s => j a w (h a w s)
theorem JC.se {C : Code} (h : SE c Γ Δ Γ' Δ') (j : JC c C Q Γ' Δ') : JC c C Q Γ Δ := fun a w s => j a w (h a w s)
theorem JN.se {M : Act → World → Prop} (h : SE c Γ Δ Γ' Δ') (j : JN c M Γ' Δ') : JN c M Γ Δ := fun a w s => j a w (h a w s)
theorem SE.trans {Γ'' : Ga} {Δ'' : List D} (h : SE c Γ Δ Γ' Δ') (h' : SE c Γ' Δ' Γ'' Δ'') : SE c Γ Δ Γ'' Δ'' := fun a w s => h' a w (h a w s)

/-- Γ' says no more than Γ. -/
def Sub : Ga → Ga → Prop
 | [], _ => True
 | (s, r) :: l, Γ => lk Γ s = some r ∧ Sub l Γ

theorem Sub.lk {Γ Γ' : Ga} (h : Sub Γ' Γ) {s : Nat} {r : A} (hl : lk Γ' s = some r) : lk Γ s = some r := by
 induction Γ' with
 | nil => cases hl
 | cons p Γ' ih =>
  obtain ⟨s', r'⟩ := p;simp only [K.lk] at hl;split at hl
  ·rename_i e; subst e; cases hl; exact h.1
  ·exact ih h.2 hl

theorem SE.sub (h : Sub Γ' Γ) : SE c Γ Δ Γ' Δ := fun _ _ ⟨h1, h2, S, h3, h4, h5, h6⟩ => ⟨h1, h2, S, h3, h4, h5, fun s r hl => h6 s r (h.lk hl)⟩

/-- Resources may be dropped. -/
theorem SE.drop (k : Nat) : SE c Γ Δ Γ (Δ.take k) := fun _ _ ⟨h1, h2, S, h3, h4, h5, h6⟩ => by
 have hm : ∀ d, d ∈ Δ.take k → d ∈ Δ := fun d hd => List.mem_of_mem_take hd
 exact ⟨h1, h2, S, h3, fun b ⟨d, hd, e⟩ => h4 b ⟨d, hm d hd, e⟩, ⟨fun d hd => h5.holds d (hm d hd), fun b ⟨d, hd, e⟩ => h5.own b ⟨d, hm d hd, e⟩, h5.apart.sublist (List.take_sublist k Δ)⟩, h6⟩

theorem SE.front (k : Nat) {e : D} (h : Δ[k]? = some e) : SE c Γ Δ Γ (e :: Δ.eraseIdx k) := fun _ _ s => s.perm (perm_front k e h)

/-- A nil slice is the call's own. -/
theorem SE.nil (T : TypeId) (t : Ty) : SE c Γ Δ Γ (.sl (.slice none 0 0) T t [] :: Δ) := fun a w ⟨h1, h2, S, h3, h4, h5, h6⟩ => by
 have hf : ∀ b, (D.sl (.slice none 0 0) T t []).foot ≠ some b := fun b e => by simp [D.foot, Value.ownBlock] at e
 have hfe : ∀ b, feet (.sl (.slice none 0 0) T t [] :: Δ) b → feet Δ b := fun b ⟨d, hd, e⟩ => by
  rcases List.mem_cons.1 hd with rfl | hd
  ·
   exact absurd e (hf b)
  ·
   exact ⟨d, hd, e⟩
 refine ⟨h1, h2, S, h3, fun b hb => h4 b (hfe b hb), ⟨fun d hd => ?_, fun b hb => h5.own b (hfe b hb), List.pairwise_cons.2 ⟨fun d _ b e => absurd e (hf b), h5.apart⟩⟩, h6⟩
 rcases List.mem_cons.1 hd with rfl | hd
 ·
  exact .inl ⟨rfl, rfl⟩
 ·
  exact h5.holds d hd

/-- A slot is known as something weaker. -/
theorem SE.conv {r r' : A} (s : Nat) (hl : lk Γ s = some r) (hi : ∀ S w v, r.holds S w v → r'.holds S w v) : SE c Γ Δ ((s, r') :: Γ) Δ := fun a w ⟨h1, h2, S, h3, h4, h5, h6⟩ =>
 ⟨h1, h2, S, h3, h4, h5, fun s' q hq => by
  simp only [lk] at hq
  split at hq
  ·
   rename_i e; subst e; cases hq; exact hi _ _ _ (h6 s r hl)
  ·
   exact h6 s' q hq⟩

/-- A value that reads as a datum. -/
theorem SE.ent {r : A} {t : Ty} {x : t.den} (s : Nat) (hl : lk Γ s = some r) (h : Ent r t x) (hs : r.stor) (hg : r.isAgg = t.isAgg) : SE c Γ Δ ((s, mkA t x) :: Γ) Δ :=
 SE.conv s hl fun _ _ _ hv => h.holds hs hg hv

/-- What an own value is: of one cell. -/
theorem JO.one {v : Value} {T : TypeId} {t : Ty} {d : List t.den} (h : oneCell v = true → JO c ops l Q Γ (.sl v T t d :: F)) : JO c ops l Q Γ (.sl v T t d :: F) := fun a w s => by
 refine h ?_ a w s
 obtain ⟨_, _, S, _, _, h5, _⟩ := s
 rcases h5.holds _ (by simp : D.sl v T t d ∈ D.sl v T t d :: F) with ⟨rfl, _⟩ | ⟨b, cap, cc, rfl, _⟩ <;> rfl
theorem JC.one {C : Code} {v : Value} {T : TypeId} {t : Ty} {d : List t.den} (h : oneCell v = true → JC c C Q Γ (.sl v T t d :: F)) : JC c C Q Γ (.sl v T t d :: F) := fun a w s => by
 refine h ?_ a w s
 obtain ⟨_, _, S, _, _, h5, _⟩ := s
 rcases h5.holds _ (by simp : D.sl v T t d ∈ D.sl v T t d :: F) with ⟨rfl, _⟩ | ⟨b, cap, cc, rfl, _⟩ <;> rfl

/-- What happens to knowledge when an own slice is frozen. -/
theorem frz_core {v : Value} {T : TypeId} {t : Ty} {d : List t.den} {a : Act} {w : World} (h : St c Γ (.sl v T t d :: F) a w) :
 a.defers = c.dfs ∧ a.tmps.size = c.N ∧ ∃ S : FS, Step c.X c.S0 c.w0 S w ∧ (∀ b, feet F b → c.X b ∨ c.w0.heap.size ≤ b) ∧ Owns F S w ∧ (∀ s r, lk Γ s = some r → r.holds S w (a.tmps.getD s undef)) ∧ (mkA (.slice t) d).holds S w v := by
 obtain ⟨h1, h2, S, h3, h4, h5, h6⟩ := h;have hs := h5.holds _ (by simp : D.sl v T t d ∈ D.sl v T t d :: F);have hp := List.pairwise_cons.1 h5.apart;rcases hs with ⟨rfl, rfl⟩ | ⟨b, cap, cc, rfl, q1, q1', q2, q3, q4⟩
 ·exact ⟨h1, h2, S, h3, fun b ⟨e, he, hb⟩ => h4 b ⟨e, List.mem_cons_of_mem _ he, hb⟩, ⟨fun e he => h5.holds e (List.mem_cons_of_mem _ he), fun b ⟨e, he, hb⟩ => h5.own b ⟨e, List.mem_cons_of_mem _ he, hb⟩, hp.2⟩, h6, ⟨_, .inl ⟨none, 0, rfl, rfl⟩, rfl⟩⟩
 ·have hfe : feet (.sl (.slice (some ⟨b, 0, none⟩) d.length cap) T t d :: F) b := ⟨_, List.mem_cons_self .., rfl⟩;have hown := h5.own b hfe;have hK : Keep S w w := fun _ _ => rfl;refine ⟨h1, h2, fun x => S x ∨ x = b, ⟨fun x hx => .inl (h3.sub x hx), fun x hx => ?_, fun x hx => ?_, h3.size, h3.keep, h3.os, h3.tape, h3.output⟩, fun x ⟨e, he, hb⟩ => h4 x ⟨e, List.mem_cons_of_mem _ he, hb⟩, ⟨fun e he => ?_, fun x ⟨e, he, hb⟩ => ?_, hp.2⟩, fun s r hl => A.mono (fun _ h => .inl h) hK r (h6 s r hl), ?_⟩
  ·rcases hx with hx | hx
   ·exact h3.new x hx
   ·subst hx; exact .inr ((h4 x hfe).symm)
  ·rcases hx with hx | hx
   ·exact h3.dom x hx
   ·subst hx; exact hown.2
  ·exact D.holds_mono (fun _ h => .inl h) hK e (fun _ _ => rfl) (h5.holds e (List.mem_cons_of_mem _ he))
  ·have h7 := h5.own x ⟨e, List.mem_cons_of_mem _ he, hb⟩;refine ⟨fun hx => ?_, h7.2⟩;rcases hx with hx | hx
   ·exact h7.1 hx
   ·subst hx; exact hp.1 e he x rfl hb
  ·refine ⟨_, .inr ⟨b, 0, cap, cc, T, (0, 0), rfl, q1, .inr rfl, q2, ?_⟩, rfl⟩;rw [List.drop_zero];exact rdAll_mono (fun _ _ h => rd_mono (fun _ h => .inl h) hK t h) q4

/-- Slots that hold v. -/
def Holding (Γ : Ga) (v : Value) : List Nat → Prop
 | [] => True
 | s :: l => lk Γ s = some (.eq v) ∧ Holding Γ v l

def setAll (Γ : Ga) (r : A) : List Nat → Ga
 | [] => Γ
 | s :: l => (s, r) :: setAll Γ r l

theorem lk_setAll {Γ : Ga} {r : A} {ss : List Nat} {s : Nat} {q : A} (h : lk (setAll Γ r ss) s = some q) : (s ∈ ss ∧ q = r) ∨ lk Γ s = some q := by
 induction ss with
 | nil => exact .inr h
 | cons s' ss ih =>
  simp only [setAll, lk] at h;split at h
  ·rename_i e; subst e; cases h; exact .inl ⟨List.mem_cons_self .., rfl⟩
  ·rcases ih h with ⟨h1, h2⟩ | h1
   ·exact .inl ⟨List.mem_cons_of_mem _ h1, h2⟩
   ·exact .inr h1

theorem Holding.mem {Γ : Ga} {v : Value} {ss : List Nat} (h : Holding Γ v ss) {s : Nat} (hs : s ∈ ss) : lk Γ s = some (.eq v) := by
 induction ss with
 | nil => simp at hs
 | cons s' ss ih =>
  rcases List.mem_cons.1 hs with rfl | hs
  ·exact h.1
  ·exact ih h.2 hs

/-- An own slice is frozen: the slots that hold it. -/
theorem SE.frz {v : Value} {T : TypeId} {t : Ty} {d : List t.den} (ss : List Nat) (hh : Holding Γ v ss) : SE c Γ (.sl v T t d :: F) (setAll Γ (.rep (.slice t) d) ss) F := fun a w h => by
 obtain ⟨h1, h2, S, h3, h4, h5, h6, h7⟩ := frz_core h
 refine ⟨h1, h2, S, h3, h4, h5, fun s q hq => ?_⟩
 rcases lk_setAll hq with ⟨hs, rfl⟩ | hq
 ·
  have := h6 s _ (hh.mem hs)
  have e : a.tmps.getD s undef = v := this
  rw [e]
  exact h7
 ·
  exact h6 s q hq

/-- An own slice that lies in a variable of the call's own is frozen. -/
theorem SE.frzIn {v : Value} {T T' : TypeId} {t : Ty} {d : List t.den} {b off : Nat} {a0 a1 : A} (hg : a0.get off 1 false = some (.eq v)) (hs : a0.set off 1 false (.rep (.slice t) d) = some a1) :
 SE c Γ (.sl v T t d :: .obj b T' a0 :: F) Γ (.obj b T' a1 :: F) := fun a w h => by
 obtain ⟨h1, h2, S, h3, h4, h5, h6, h7⟩ := frz_core h
 refine ⟨h1, h2, S, h3, fun x ⟨e, he, hb⟩ => ?_, ⟨fun e he => ?_, fun x ⟨e, he, hb⟩ => ?_, ?_⟩, h6⟩
 ·
  rcases List.mem_cons.1 he with rfl | he
  ·
   exact h4 x ⟨_, List.mem_cons_self .., hb⟩
  ·
   exact h4 x ⟨e, List.mem_cons_of_mem _ he, hb⟩
 ·
  rcases List.mem_cons.1 he with rfl | he
  ·
   obtain ⟨cs, q1, q2⟩ := h5.holds _ (List.mem_cons_self ..)
   obtain ⟨g1, g2⟩ := A.get_spec a0 q2 hg
   have l0 := a0.cells_length q2
   have gv : mk false ((cs.drop off).take 1) = v := g1
   have hlt : off < cs.length := by omega
   have hc : (cs.drop off).take 1 = [v] := by
    have e9 : (cs.drop off).take 1 = [cs[off]] := by rw [List.drop_eq_getElem_cons hlt]; rfl
    rw [e9] at gv ⊢;have e10 : cs[off] = v := gv;rw [e10]
   obtain ⟨xs, e1, e2⟩ := h7
   have e3 : xs = [v] := by
    have l1 := rd_length (.slice t) e1;match xs, l1 with
    | [u], _ => simp [mk] at e2; rw [e2]
   subst e3;obtain ⟨k1, _⟩ := A.set_spec a0 q2 (r := .rep (.slice t) d) (new := [v]) e1 rfl hs;refine ⟨cs, q1, ?_⟩
   have e4 : cs.take off ++ [v] ++ cs.drop (off + [v].length) = cs := by
    show cs.take off ++ [v] ++ cs.drop (off + 1) = cs;rw [← hc, ← List.take_add, List.take_append_drop]
   rw [e4] at k1;exact k1
  ·exact h5.holds e (List.mem_cons_of_mem _ he)
 ·rcases List.mem_cons.1 he with rfl | he
  ·exact h5.own x ⟨_, List.mem_cons_self .., hb⟩
  ·exact h5.own x ⟨e, List.mem_cons_of_mem _ he, hb⟩
 ·have hp := List.pairwise_cons.1 h5.apart;exact List.pairwise_cons.2 ⟨fun e he => hp.1 e he, hp.2⟩

end

/-! ### Calls -/

def All2 (S : FS) (w : World) : List A → List Value → Prop
 | [], vs => vs = []
 | r :: l, vs => ∃ v vs', vs = v :: vs' ∧ r.holds S w v ∧ All2 S w l vs'

/-- What a call comes to. -/
def RPost (S : FS) (w : World) (Δ : List D) {X : Type} (R : X → A × List D) : Ending → World → Prop := fun e w' =>
 ∃ x S' v, e = .returned v ∧ Step (feet Δ) S w S' w' ∧ (R x).1.holds S' w' v ∧ Owns (R x).2 S' w' ∧ ∀ b, feet (R x).2 b → feet Δ b ∨ w.heap.size ≤ b

/-- **A function's contract.** -/
def Ctr (P : Program) (f : Nat) (as : List A) (Δ : List D) {X : Type} (R : X → A × List D) : Prop :=
 ∀ (S : FS) (w : World) (vs : List Value), (∀ b, S b → b < w.heap.size) → All2 S w as vs → Owns Δ S w → Calls P f vs.toArray w (RPost S w Δ R)

/-- Function f can be entered. -/
def EnterOk (P : Program) (f : Nat) : Prop := ∀ args w, (callFunc f args).run P w = .ok (.enter f args) w

theorem EnterOk.of {P : Program} {f : Nat} {fn : Func} (h : P.funcs[f]? = some fn) (hn : (fn.name == "runtime.NumGoroutine") = false) (hb : fn.body.isNone = false) : EnterOk P f := fun args w => by
 simp only [callFunc, Sem.run_bind, program, Sem.run, Result.andThen_ok, h, hn, hb, Bool.false_eq_true, if_false, Sem.run_pure]

theorem All2.of {S : FS} {w : World} {a : Act} : ∀ {xs : List Operand} {as : List A}, xs.length = as.length → Needs S w a (xs.zip as) → All2 S w as (xs.map a.eval)
 | [], [], _, _ => rfl
 | x :: xs, r :: as, h, hN => ⟨_, _, rfl, hN.1, All2.of (by simpa using h) hN.2⟩
 | [], _ :: _, h, _ => by simp at h
 | _ :: _, [], h, _ => by simp at h

section
variable {P : Program} {o : Oper} {x y z : Operand} {T : TypeId} {Δ : List D} {X : Type} {R : X → A × List D} {r : A}

theorem callsFW {rd : Option Nat} {n : Nat} {f : FuncId} {args : Array Value} {w : World} {R : Ending → World → Prop} (h : Calls P f args w R) : CallsIn (FW rd) n P f args w R :=
 (callsIn_wide.2 h : CallsIn Fence.wide n P f args w R)

theorem o_call {f : Nat} {as : List A} {c : Call} (xs : List Operand) {ts : Array TypeId} (ho : o.op = .call c) (hc : c = { callee := .value (.func f), args := xs.toArray, argTypes := ts }) (hf : EnterOk P f) (hlen : xs.length = as.length)
 (h : Ctr P f as Δ R) : OpT P o (xs.zip as) Δ R := by
 refine ⟨by simp only [nd, *], fun ro S w a next Q hd hN hO k => ?_⟩
 have hr : (execOp a.eval o).run P w = .ok (.enter f (xs.map a.eval).toArray) w := by
  have e1 : a.eval (.func f) = .func (.func f) #[] #[] := rfl;simp [execOp, ho, hc, resolve, e1, Deferred.ofValue, invoke, hf _ w]
 rw [hr];refine ⟨fun h => (by cases h), callsFW ((h S w _ hd (All2.of hlen hN) hO).mono ?_)⟩;rintro e w' ⟨x, S', v, rfl, h1, h2, h3, h4⟩;exact k x S' w' v h1 h2 h3 h4

/-- A call of a function value that the code knows: bound values first, then the arguments, then what it has captured. -/
theorem o_callv {f : Nat} {fs cs : List Value} {ags : List A} {c : Call} (xs : List Operand) {ts : Array TypeId} (ho : o.op = .call c) (hc : c = { callee := .value x, args := xs.toArray, argTypes := ts }) (hf : EnterOk P f) (hlen : xs.length = ags.length)
 (h : Ctr P f (fs.map .eq ++ ags ++ cs.map .eq) Δ R) : OpT P o ((x, .eq (.func (.func f) fs.toArray cs.toArray)) :: xs.zip ags) Δ R := by
 refine ⟨by simp only [nd, *], fun ro S w a next Q hd hN hO k => ?_⟩
 have hr : (execOp a.eval o).run P w = .ok (.enter f (fs ++ xs.map a.eval ++ cs).toArray) w := by
  have e1 : a.eval x = .func (.func f) fs.toArray cs.toArray := hN.1;simp [execOp, ho, hc, resolve, e1, Deferred.ofValue, invoke, hf _ w]
 have hall : All2 S w (fs.map .eq ++ ags ++ cs.map .eq) (fs ++ xs.map a.eval ++ cs) := by
  have heq : ∀ vs : List Value, All2 S w (vs.map .eq) vs := fun vs => by
   induction vs with
   | nil => rfl
   | cons v vs ih => exact ⟨v, vs, rfl, rfl, ih⟩
  have happ : ∀ {a1 a2 : List A} {v1 v2 : List Value}, All2 S w a1 v1 → All2 S w a2 v2 → All2 S w (a1 ++ a2) (v1 ++ v2) := by
   intro a1
   induction a1 with
   | nil => intro a2 v1 v2 h1 h2; have : v1 = [] := h1; subst this; exact h2
   | cons r a1 ih => rintro a2 v1 v2 ⟨v, vs', rfl, h1, h2⟩ h3; exact ⟨v, _, rfl, h1, ih h2 h3⟩
  exact happ (happ (heq fs) (All2.of hlen hN.2)) (heq cs)
 rw [hr];refine ⟨fun h => (by cases h), callsFW ((h S w _ hd hall hO).mono ?_)⟩;rintro e w' ⟨x, S', v, rfl, h1, h2, h3, h4⟩;exact k x S' w' v h1 h2 h3 h4

@[reducible] def A.flat : A → Bool
 | .eq _ => true
 | .rep t _ => t.flat
 | .at _ _ => false
 | .pair a b => a.flat && b.flat
 | .agg a => a.flat
 | .tup a => a.flat
 | .any => true

theorem A.cells_flat {S S' : FS} {w : World} (r : A) : ∀ {cs : List Value}, r.flat = true → r.cells S w cs → r.cells S' w cs := by
 induction r with
 | eq v => intro cs _ h; exact h
 | rep t x => intro cs hf h; exact rd_flat t hf h
 | «at» t x => intro cs hf h; simp [A.flat] at hf
 | pair a b iha ihb =>
  rintro cs hf ⟨c1, c2, e, h1, h2⟩;simp [A.flat] at hf;exact ⟨c1, c2, e, iha hf.1 h1, ihb hf.2 h2⟩
 | agg a ih => intro cs hf h; exact ih hf h
 | tup a _ => intro cs hf h; exact h
 | any => intro cs hf h; exact h

theorem A.flat_both {S S' : FS} {w : World} (r : A) : r.flat = true → (∀ {v : Value}, r.holds S w v → r.holds S' w v) ∧ (∀ {vs : List Value}, A.holds.holdsAll S w r vs → A.holds.holdsAll S' w r vs) := by
 induction r with
 | eq v => exact fun _ => ⟨fun h => h, fun h => h⟩
 | rep t x => exact fun hf => ⟨fun ⟨cs, h, e⟩ => ⟨cs, rd_flat t hf h, e⟩, fun h => h⟩
 | «at» t x => intro hf; simp [A.flat] at hf
 | pair a b iha ihb =>
  intro hf;simp [A.flat] at hf;exact ⟨fun h => h, fun ⟨v, vs, e, h1, h2⟩ => ⟨v, vs, e, (iha hf.1).1 h1, (ihb hf.2).2 h2⟩⟩
 | agg a _ => exact fun hf => ⟨fun ⟨cs, h, e⟩ => ⟨cs, A.cells_flat a hf h, e⟩, fun h => h⟩
 | tup a ih => exact fun hf => ⟨fun ⟨vs, e, h⟩ => ⟨vs, e, (ih hf).2 h⟩, fun h => h⟩
 | any => exact fun _ => ⟨fun h => h, fun h => h⟩

@[reducible] def D.flat : D → Bool
 | .obj _ _ a => a.flat
 | .sl _ _ t _ => t.flat
 | .raw _ _ => true
 | .inv _ _ => true

theorem D.holds_flat {S S' : FS} {w : World} (d : D) (hf : d.flat = true) (h : d.holds S w) : d.holds S' w := by
 cases d with
 | obj b T a => obtain ⟨cs, h1, h2⟩ := h; exact ⟨cs, h1, a.cells_flat hf h2⟩
 | sl v T t l =>
  rcases h with h | ⟨b, cap, c, e, h1, h1', h2, h3, h4⟩
  ·exact .inl h
  ·exact .inr ⟨b, cap, c, e, h1, h1', h2, h3, rdAll_mono (fun _ _ h => rd_flat t hf h) h4⟩
 | raw b o => exact h
 | inv b p => exact h

/-- **An own slice may be lent to an operation that only reads it and hands back nothing that leads to it.** -/
theorem OpT.borrow {v : Value} {t : Ty} {l : List t.den} {N N' : List (Operand × A)} (h : OpT P o N' Δ R) (hN : ∀ S w a, (A.rep (.slice t) l).holds S w v → Needs S w a N → Needs S w a N')
 (hf : ∀ x, (R x).1.flat = true ∧ ∀ d ∈ (R x).2, d.flat = true) : OpT P o N (.sl v T t l :: Δ) (fun x => ((R x).1, .sl v T t l :: (R x).2)) := by
 refine ⟨h.1, fun ro S w a next Q hd hNN hO k => ?_⟩;have hs := hO.holds _ (List.mem_cons_self ..);have hp := List.pairwise_cons.1 hO.apart;have hOΔ : Owns Δ S w := ⟨fun e he => hO.holds e (List.mem_cons_of_mem _ he), fun b ⟨e, he, hb⟩ => hO.own b ⟨e, List.mem_cons_of_mem _ he, hb⟩, hp.2⟩;have hK : Keep S w w := fun _ _ => rfl;rcases hs with ⟨rfl, rfl⟩ | ⟨b, cap, cc, rfl, q1, q1', q2, q3, q4⟩
 ·refine h.2 ro S w a next Q hd (hN S w a ⟨_, .inl ⟨none, 0, rfl, rfl⟩, rfl⟩ hNN) hOΔ fun x S' w' v' h1 h2 h3 h4 => ?_;have hff : ∀ b, (D.sl (.slice none 0 0) T t []).foot ≠ some b := fun b e => by simp [D.foot, Value.ownBlock] at e
  have hfe : ∀ {E : List D} b, feet (.sl (.slice none 0 0) T t [] :: E) b → feet E b := fun b ⟨d, hd, e⟩ => by
   rcases List.mem_cons.1 hd with rfl | hd
   ·exact absurd e (hff b)
   ·exact ⟨d, hd, e⟩
  refine k x S' w' v' (h1.mono fun b ⟨d, hd, e⟩ => ⟨d, List.mem_cons_of_mem _ hd, e⟩) h2 ⟨fun d hd => ?_, fun b hb => h3.own b (hfe b hb), List.pairwise_cons.2 ⟨fun d _ b e => absurd e (hff b), h3.apart⟩⟩ (fun b hb => (h4 b (hfe b hb)).imp (fun ⟨d, hd, e⟩ => ⟨d, List.mem_cons_of_mem _ hd, e⟩) id);rcases List.mem_cons.1 hd with rfl | hd
  ·exact .inl ⟨rfl, rfl⟩
  ·exact h3.holds d hd
 ·have hown := hO.own b ⟨_, List.mem_cons_self .., rfl⟩;have hnb : ¬ feet Δ b := fun ⟨e, he, hb⟩ => hp.1 e he b rfl hb;have hmono : ∀ x, S x → S x ∨ x = b := fun _ h => .inl h
  have hread : (A.rep (.slice t) l).holds (fun x => S x ∨ x = b) w (.slice (some ⟨b, 0, none⟩) l.length cap) := by
   refine ⟨_, .inr ⟨b, 0, cap, cc, T, (0, 0), rfl, q1, .inr rfl, q2, ?_⟩, rfl⟩;rw [List.drop_zero];exact rdAll_mono (fun _ _ h => rd_mono hmono hK t h) q4
  have hNN' : ∀ {N : List (Operand × A)}, Needs S w a N → Needs (fun x => S x ∨ x = b) w a N := by
   intro N
   induction N with
   | nil => exact fun h => h
   | cons p N ih => obtain ⟨x, r⟩ := p; exact fun h => ⟨A.mono hmono hK r h.1, ih h.2⟩
  have hd' : ∀ x, (S x ∨ x = b) → x < w.heap.size := fun x hx => hx.elim (hd x) (fun e => by subst e; exact hown.2);have hOΔ' : Owns Δ (fun x => S x ∨ x = b) w := ⟨fun e he => D.holds_mono hmono hK e (fun _ _ => rfl) (hOΔ.holds e he), fun x hx => ⟨fun h => h.elim (hOΔ.own x hx).1 (fun e => by subst e; exact hnb hx), (hOΔ.own x hx).2⟩, hOΔ.apart⟩;refine h.2 ro _ w a next Q hd' (hN _ w a hread (hNN' hNN)) hOΔ' fun x S' w' v' h1 h2 h3 h4 => ?_;obtain ⟨f1, f2⟩ := hf x;have hbk : w'.heap[b]? = w.heap[b]? := h1.keep b hown.2 hnb;have hSb : ∀ y, S y → y ≠ b := fun y hy e => hown.1 (e ▸ hy);have hKw : Keep S w w' := fun y hy => h1.keep y (hd y hy) (fun hx => (hOΔ.own y hx).1 hy);refine k x (fun y => S' y ∧ y ≠ b) w' v' ⟨fun y hy => ⟨h1.sub y (.inl hy), hSb y hy⟩, fun y hy => ?_, fun y hy => h1.dom y hy.1, h1.size, fun y hy hx => h1.keep y hy (fun ⟨e, he, hb⟩ => hx ⟨e, List.mem_cons_of_mem _ he, hb⟩), h1.os, h1.tape, h1.output⟩ ((A.flat_both _ f1).1 h2) ⟨fun d hd => ?_, fun y ⟨d, hd, e⟩ => ?_, List.pairwise_cons.2 ⟨fun d hd y e e' => ?_, h3.apart⟩⟩ fun y ⟨d, hd, e⟩ => ?_
  ·rcases h1.new y hy.1 with (hh | hh) | hh | ⟨e, he, hb⟩
   ·exact .inl hh
   ·exact absurd hh hy.2
   ·exact .inr (.inl hh)
   ·exact .inr (.inr ⟨e, List.mem_cons_of_mem _ he, hb⟩)
  ·rcases List.mem_cons.1 hd with rfl | hd
   ·refine .inr ⟨b, cap, cc, rfl, q1, q1', hbk.trans q2, q3, rdAll_mono (fun _ _ h => rd_mono (fun y hy => ⟨h1.sub y (.inl hy), hSb y hy⟩) hKw t h) q4⟩
   ·exact D.holds_flat d (f2 d hd) (h3.holds d hd)
  ·rcases List.mem_cons.1 hd with rfl | hd
   ·have : y = b := by simpa [D.foot, Value.ownBlock, eq_comm] using e
    subst this;exact ⟨fun h => h.2 rfl, Nat.lt_of_lt_of_le hown.2 h1.size⟩
   ·have := h3.own y ⟨d, hd, e⟩;exact ⟨fun h => this.1 h.1, this.2⟩
  ·have : y = b := by simpa [D.foot, Value.ownBlock, eq_comm] using e
   subst this;rcases h4 y ⟨d, hd, e'⟩ with hh | hh
   ·exact hnb hh
   ·have := hown.2; omega
  ·rcases List.mem_cons.1 hd with rfl | hd
   ·exact .inl ⟨_, List.mem_cons_self .., e⟩
   ·exact (h4 y ⟨d, hd, e⟩).imp (fun ⟨d, hd, e⟩ => ⟨d, List.mem_cons_of_mem _ hd, e⟩) id
end

end K
end Go.Proofs.Ytomnkjcklkcnhaa

/- The calculus, part 8: control, loops, returns, and a body's contract. -/
namespace Go.Proofs.Ytomnkjcklkcnhaa
namespace K
open Go

section
variable {c : Cx} {Q : Exit → Act → World → Prop} {Γ Γ' : Ga} {Δ Δ' : List D} {C C' : Code} {M : Act → World → Prop}

theorem JC.seq (h : JC c C (Exit.then (C'.wpIn (FW c.rd) 0 c.P Q) Q) Γ Δ) : JC c (.seq C C') Q Γ Δ := fun a w s => wpIn_seq (h a w s)

/-- A cut: what holds between two pieces of code, for some z. -/
theorem JC.cut {Z : Type} (G : Z → Ga) (E : Z → List D) (p : Z → Prop) (h : JC c C (Exit.then (fun a w => ∃ z, p z ∧ St c (G z) (E z) a w) Q) Γ Δ) (h' : ∀ z, p z → JC c C' Q (G z) (E z)) : JC c (.seq C C') Q Γ Δ :=
 fun a w s => wpIn_seq (Code.wpIn_mono (fun e a w q => by
  cases e with
  | normal => obtain ⟨z, hp, hs⟩ := q; exact h' z hp a w hs
  | _ => exact q) (h a w s))

theorem JN.z {Z : Type} {G : Z → Ga} {E : Z → List D} {p : Z → Prop} (z : Z) (hp : p z) (h : SE c Γ Δ (G z) (E z)) : JN c (fun a w => ∃ z, p z ∧ St c (G z) (E z) a w) Γ Δ := fun a w s => ⟨z, hp, h a w s⟩

theorem JC.region {id : Nat} {l : List Oper} (h : JO c l.toArray l Q Γ Δ) : JC c (.region id l.toArray false) Q Γ Δ := fun a w s => wpIn_region_lit (h a w s)

theorem JC.cond {s : Nat} {b : Bool} (hl : lk Γ s = some (.eq (.bool b))) (ht : b = true → JC c C Q Γ Δ) (hf : b = false → JC c C' Q Γ Δ) : JC c (.cond (.tmp s) C C') Q Γ Δ := fun a w st =>
 wpIn_cond_split (t := b) (by
  obtain ⟨_, _, S, _, _, _, h6⟩ := st
  exact h6 s _ hl) (fun h => ht h a w st) (fun h => hf h a w st)

theorem JC.block {id : Nat} (h : JC c C (Exit.inBlock id Q) Γ Δ) : JC c (.block id C) Q Γ Δ := fun a w s => wpIn_block (h a w s)
theorem JC.skip (h : JN c (Q .normal) Γ Δ) : JC c .skip Q Γ Δ := fun a w s => wpIn_skip (h a w s)
theorem JC.exit {id : Nat} (h : JN c (Q (.exit id)) Γ Δ) : JC c (.exit id) Q Γ Δ := fun a w s => wpIn_exit (h a w s)
theorem JC.ret (h : JN c (Q .ret) Γ Δ) : JC c .ret Q Γ Δ := fun a w s => wpIn_ret (h a w s)

theorem JN.then_n (h : JN c M Γ Δ) : JN c (Exit.then M Q .normal) Γ Δ := h
theorem JN.then_x {id : Nat} (h : JN c (Q (.exit id)) Γ Δ) : JN c (Exit.then M Q (.exit id)) Γ Δ := h
theorem JN.then_r (h : JN c (Q .ret) Γ Δ) : JN c (Exit.then M Q .ret) Γ Δ := h
theorem JN.blk_n {id : Nat} (h : JN c (Q .normal) Γ Δ) : JN c (Exit.inBlock id Q .normal) Γ Δ := h
theorem JN.blk_r {id : Nat} (h : JN c (Q .ret) Γ Δ) : JN c (Exit.inBlock id Q .ret) Γ Δ := h
theorem JN.blk_hit {id : Nat} (h : JN c (Q .normal) Γ Δ) : JN c (Exit.inBlock id Q (.exit id)) Γ Δ := fun a w s => by
 show if id = id then Q .normal a w else Q (.exit id) a w
 rw [if_pos rfl]
 exact h a w s
theorem JN.blk_miss {id id' : Nat} (hne : (id' = id) = False) (h : JN c (Q (.exit id')) Γ Δ) : JN c (Exit.inBlock id Q (.exit id')) Γ Δ := fun a w s => by
 show if id' = id then Q .normal a w else Q (.exit id') a w
 rw [if_neg (by rw [hne]; exact not_false)]
 exact h a w s

/-- A loop, by fuel. -/
theorem wp_loop_fuel {F : Fence} {f : Nat} {P : Program} {C : Code} (I : Nat → Act → World → Prop) (round : ∀ n a w, I n a w → C.wpIn F f P (Exit.then (fun a' w' => ∃ m, m < n ∧ I m a' w') Q) a w) :
 ∀ n a w, I n a w → (Code.loop C).wpIn F f P Q a w := by
 intro n a w hI b k cs hro hb hr
 have key : ∀ n a w, I n a w → ∃ e a' w', Q e a' w' ∧ ArrivesIn (Machine.fenced P F) P (lone (b.atR a (.code C :: .inLoop C :: k)) cs w) b k cs e a' w' := by
  intro n
  induction n using Nat.strongRecOn with
  | _ n ih =>
   intro a w hI;obtain ⟨e, a₁, w₁, hq, harr⟩ := round n a w hI b (.inLoop C :: k) cs hro hb hr;cases e with
   | normal =>
    obtain ⟨m, hm, hI₁⟩ := hq;obtain ⟨e₂, a₂, w₂, hq₂, harr₂⟩ := ih m hm a₁ w₁ hI₁;exact ⟨e₂, a₂, w₂, hq₂, .of_steps (StepsIn.trans harr (.one (fenced_calm hb hr rfl) stepR_inLoop)) harr₂⟩
   | exit id => exact ⟨_, a₁, w₁, hq, .pass (x := .inLoop C) rfl (fun _ _ => .inl (by simp)) harr⟩
   | goto l => exact ⟨_, a₁, w₁, hq, .pass (x := .inLoop C) rfl (fun _ _ => .inl (by simp)) harr⟩
   | ret => exact ⟨_, a₁, w₁, hq, .pass (x := .inLoop C) rfl (fun _ _ => .inl (by simp)) harr⟩
   | panic ch => exact ⟨_, a₁, w₁, hq, .pass (x := .inLoop C) rfl (fun _ _ => .inl (by simp)) harr⟩
   | outgrown => exact ⟨_, a₁, w₁, hq, .pass (x := .inLoop C) rfl (fun _ _ => .inl (by simp)) harr⟩
 obtain ⟨e, a', w', hq, harr⟩ := key n a w hI;exact ⟨e, a', w', hq, .of_steps (.one (fenced_calm hb hr rfl) stepR_loop) harr⟩

/-- A loop: G, E: what the frame holds at every round's head, for some z; p n z: what is known of z with n rounds' fuel. -/
theorem JC.loop {Z : Type} (G : Z → Ga) (E : Z → List D) (p : Nat → Z → Prop) (n : Nat) (z : Z) (hp : p n z) (hs : SE c Γ Δ (G z) (E z))
 (round : ∀ n z, p n z → JC c C (Exit.then (fun a w => ∃ z' : Nat × Z, (z'.1 < n ∧ p z'.1 z'.2) ∧ St c (G z'.2) (E z'.2) a w) Q) (G z) (E z)) : JC c (.loop C) Q Γ Δ := fun a w st =>
 wp_loop_fuel (fun n a w => ∃ z, p n z ∧ St c (G z) (E z) a w) (fun n a w ⟨z, hp, hs⟩ => Code.wpIn_mono (fun e a w q => by
  cases e with
  | normal => obtain ⟨⟨m, z'⟩, ⟨hm, hp'⟩, hs'⟩ := q; exact ⟨m, hm, z', hp', hs'⟩
  | _ => exact q) (round n z hp a w hs)) n a w ⟨z, hp, hs a w st⟩

/-- What a function hands back. -/
def Res (P : Program) (Γ : Ga) (Δ : List D) : List ResultVar → List A → Prop
 | [], [] => True
 | .tmp s :: l, r :: rs => lk Γ s = some r ∧ Res P Γ Δ l rs
 | .cell s T :: l, r :: rs => (∃ b T0 a0 n g, lk Γ s = some (.eq (.pointer (some ⟨b, 0, none⟩))) ∧ D.obj b T0 a0 ∈ Δ ∧ SzOk P T n g ∧ (g = false → n = 1) ∧ a0.get 0 n g = some r) ∧ Res P Γ Δ l rs
 | _, _ => False

def tupA : List A → A
 | [] => .any
 | r :: l => .pair r (tupA l)

/-- The assertion on all results together. -/
@[reducible] def resA : List A → A
 | [r] => r
 | l => .tup (tupA l)

def resOne (tmps : Array Value) : ResultVar → Sem Value
 | .tmp t => pure (tmps.getD t undef)
 | .cell s t => do loadVar t (← asAddr (tmps.getD s undef))

theorem Res.run {P : Program} {S : FS} {w : World} {a : Act} (hO : ∀ d ∈ Δ, d.holds S w) (h6 : ∀ s r, lk Γ s = some r → r.holds S w (a.tmps.getD s undef)) : ∀ {rv : List ResultVar} {rs : List A}, Res P Γ Δ rv rs →
 ∃ vs : List Value, (rv.mapM (resOne a.tmps)).run P w = .ok vs w ∧ A.holds.holdsAll S w (tupA rs) vs ∧ vs.length = rs.length
 | [], [], _ => ⟨[], by simp, rfl, rfl⟩
 | .tmp s :: l, r :: rs, h => by
  obtain ⟨vs, h1, h2, h3⟩ := Res.run hO h6 h.2
  exact ⟨a.tmps.getD s undef :: vs, by simp only [List.mapM_cons, resOne, Sem.run_bind, Sem.run_pure, h1, Result.andThen_ok], ⟨_, vs, rfl, h6 s r h.1, h2⟩, by simp [h3]⟩
 | .cell s T :: l, r :: rs, h => by
  obtain ⟨⟨b, T0, a0, n, g, q1, q2, q3, q4, q5⟩, hr⟩ := h
  obtain ⟨vs, h1, h2, h3⟩ := Res.run hO h6 hr
  have e : a.tmps.getD s undef = .pointer (some ⟨b, 0, none⟩) := h6 s _ q1
  obtain ⟨cs, g1, g2⟩ := hO _ q2
  obtain ⟨k1, k2⟩ := A.get_spec a0 g2 q5
  have l0 := a0.cells_length g2
  have hl := run_loadVar' q3 q4 g1 (off := 0) (by simp only [Nat.zero_add, List.size_toArray]; omega)
  refine ⟨_ :: vs, ?_, ⟨_, vs, rfl, k1, h2⟩, by simp [h3]⟩
  simp only [List.mapM_cons, resOne, Sem.run_bind, Sem.run_pure, h1, e, asAddr, hl, Result.andThen_ok]
 | [], _ :: _, h => h.elim
 | .tmp _ :: _, [], h => h.elim
 | .cell _ _ :: _, [], h => h.elim

theorem results_eq (fn : Func) (tmps : Array Value) : results fn tmps = (do
 let vs ← fn.results.mapM (resOne tmps)
 pure (if h : vs.size = 1 then vs[0] else .tuple vs)) := by
 unfold results
 have : (fun x : ResultVar => (match x with
  | .tmp t => pure (tmps.getD t undef)
  | .cell a t => do loadVar t (← asAddr (tmps.getD a undef)) : Sem Value)) = resOne tmps := by
  funext x;cases x <;> rfl
 rw [← this];rfl

/-- **The return.** k: how many of the resources are handed back. -/
theorem JN.ret {P : Program} {S : FS} {w0 : World} {Δ0 : List D} {X : Type} {R : X → A × List D} {N : Nat} {fn : Func} (x : X) (rs : List A) (k : Nat)
 (hr : Res P Γ Δ fn.results.toList rs) (hR : R x = (resA rs, Δ.take k)) : JN ⟨P, N, S, w0, feet Δ0, none, []⟩ (bodyPost P fn (RPost S w0 Δ0 R) .ret) Γ Δ := by
 rintro a w ⟨h1, h2, S', h3, h4, h5, h6⟩;obtain ⟨vs, q1, q2, q3⟩ := Res.run h5.holds h6 hr
 have hrun : (results fn a.tmps).run P w = .ok (if h : vs.length = 1 then vs[0] else .tuple vs.toArray) w := by
  rw [results_eq]
  have e1 : (fn.results.mapM (resOne a.tmps)).run P w = .ok vs.toArray w := by
   rw [Array.mapM_eq_mapM_toList];simp only [Sem.run_map, q1, Result.andThen_ok]
  simp only [Sem.run_bind, e1, Result.andThen_ok, Sem.run_pure, List.size_toArray, List.getElem_toArray]
 have hv : (resA rs).holds S' w (if h : vs.length = 1 then vs[0] else .tuple vs.toArray) := by
  match rs, vs, q2, q3 with
  | [r], [v], q2, _ =>
   obtain ⟨v', vs', e, h, _⟩ := q2;cases e;simpa [resA] using h
  | [], [], q2, _ => exact ⟨[], rfl, q2⟩
  | r :: r' :: rs, v :: v' :: vs, q2, _ => exact ⟨v :: v' :: vs, by simp, q2⟩
 have hm : ∀ d, d ∈ Δ.take k → d ∈ Δ := fun d hd => List.mem_of_mem_take hd;refine ⟨h1, _, hrun, x, S', _, rfl, h3, by rw [hR]; exact hv, by rw [hR]; exact ⟨fun d hd => h5.holds d (hm d hd), fun b ⟨d, hd, e⟩ => h5.own b ⟨d, hm d hd, e⟩, h5.apart.sublist (List.take_sublist k Δ)⟩, ?_⟩;rw [hR];exact fun b ⟨d, hd, e⟩ => h4 b ⟨d, hm d hd, e⟩

/-- The frame at the entry. -/
def entry : Nat → List A → Ga
 | _, [] => []
 | k, r :: l => (k, r) :: entry (k + 1) l

theorem entry_spec {S : FS} {w : World} : ∀ {as : List A} {vs : List Value} {k s : Nat} {r : A}, All2 S w as vs → lk (entry k as) s = some r → ∃ j, s = k + j ∧ j < vs.length ∧ r.holds S w (vs.getD j undef)
 | [], _, _, _, _, _, h => by cases h
 | r0 :: as, _, k, s, r, ⟨v, vs', rfl, h1, h2⟩, h => by
  simp only [entry, lk] at h
  split at h
  ·
   rename_i e; cases h; exact ⟨0, by omega, by simp, h1⟩
  ·
   obtain ⟨j, e, hj, hr⟩ := entry_spec h2 h
   exact ⟨j + 1, by omega, by simpa using hj, by simpa using hr⟩

theorem All2.length {S : FS} {w : World} : ∀ {as : List A} {vs : List Value}, All2 S w as vs → vs.length = as.length
 | [], _, h => by have : _ = [] := h; subst this; rfl
 | _ :: _, _, ⟨_, _, rfl, _, h⟩ => by simp [All2.length h]

/-- **A body's contract.** -/
theorem Ctr.of {P : Program} {f : Nat} {fn : Func} {C : Code} {as : List A} {Δ : List D} {X : Type} {R : X → A × List D} (N : Nat) (hf : P.funcs[f]? = some fn) (hb : fn.body = some C) (hN : fn.ntmps = N) (hn : Nat.ble as.length N = true)
 (h : ∀ S w0, JC ⟨P, N, S, w0, feet Δ, none, []⟩ C (bodyPost P fn (RPost S w0 Δ R)) (entry 0 as) Δ) : Ctr P f as Δ R := by
 subst hN;intro S w vs hd hall hO;have hn := Nat.le_of_ble_eq_true hn;refine callsIn_wide.1 (callsIn_of_wp (n := 0) hf hb trivial (h S w _ _ ⟨rfl, ?_, S, Step.refl hd, fun b hb => .inl hb, hO, fun s r hl => ?_⟩))
 ·have := hall.length;simp only [Array.size_append, List.size_toArray, Array.size_replicate];omega
 ·obtain ⟨j, e, hj, hr⟩ := entry_spec hall hl;have e' : s = j := by omega
  subst e'
  have e2 : (vs.toArray ++ Array.replicate (fn.ntmps - vs.toArray.size) undef).getD s undef = vs.getD s undef := by
   simp [Array.getD_eq_getD_getElem?, Array.getElem?_append, hj]
  rw [e2];exact hr
end

end K
end Go.Proofs.Ytomnkjcklkcnhaa
