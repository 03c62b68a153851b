/- The calculus, part 2: assertions and resources persist; what one operation, a region, a piece of code and a call do to them. -/
import Derived.Test.YtfhdclhbdmhnmaaCore1
namespace Go.Proofs.Ytfhdclhbdmhnmaa
namespace K
open Go

theorem A.cells_length {S : FS} {w : World} (r : A) : ∀ {cs : List Value}, r.cells S w cs → cs.length = r.n := by
  induction r with
  | eq v => rintro cs ⟨rfl, _⟩; rfl
  | rep t x => intro cs h; exact rd_length t h
  | «at» t x => intro cs h; exact rd_length (.ptr t) h
  | pair a b iha ihb => rintro cs ⟨c1, c2, rfl, h1, h2⟩; simp [A.n, iha h1, ihb h2]
  | agg a ih => intro cs h; exact ih h
  | tup a _ => intro cs h; exact h.elim
  | any => intro cs h; exact h.elim

theorem A.cells_one {S : FS} {w : World} (r : A) : ∀ {cs : List Value}, r.cells S w cs → ∀ c ∈ cs, oneCell c = true := by
  induction r with
  | eq v => rintro cs ⟨rfl, h⟩ c hc; simp at hc; subst hc; exact h
  | rep t x => intro cs h; exact rd_one t h
  | «at» t x => intro cs h; exact rd_one (.ptr t) h
  | pair a b iha ihb =>
    rintro cs ⟨c1, c2, rfl, h1, h2⟩ c hc
    rcases List.mem_append.1 hc with hc | hc
    · exact iha h1 c hc
    · exact ihb h2 c hc
  | agg a ih => intro cs h; exact ih h
  | tup a _ => intro cs h; exact h.elim
  | any => intro cs h; exact h.elim

section
variable {S S' : FS} {w w' : World}

theorem A.cells_mono (hS : ∀ b, S b → S' b) (hw : Keep S w w') (r : A) : ∀ {cs : List Value}, r.cells S w cs → r.cells S' w' cs := by
  induction r with
  | eq v => intro cs h; exact h
  | rep t x => intro cs h; exact rd_mono hS hw t h
  | «at» t x => intro cs h; exact rd_mono hS hw (.ptr t) h
  | pair a b iha ihb => rintro cs ⟨c1, c2, e, h1, h2⟩; exact ⟨c1, c2, e, iha h1, ihb h2⟩
  | agg a ih => intro cs h; exact ih h
  | tup a _ => intro cs h; exact h
  | any => intro cs h; exact h

theorem A.mono_both (hS : ∀ b, S b → S' b) (hw : Keep S w w') (r : A) : (∀ {v : Value}, r.holds S w v → r.holds S' w' v) ∧ (∀ {vs : List Value}, A.holds.holdsAll S w r vs → A.holds.holdsAll S' w' r vs) := by
  induction r with
  | eq v => exact ⟨fun h => h, fun h => h⟩
  | rep t x => exact ⟨fun ⟨cs, h, e⟩ => ⟨cs, rd_mono hS hw t h, e⟩, fun h => h⟩
  | «at» t x => exact ⟨fun h => rd_mono hS hw (.ptr t) h, fun h => h⟩
  | pair a b iha ihb => exact ⟨fun h => h, fun ⟨v, vs, e, h1, h2⟩ => ⟨v, vs, e, iha.1 h1, ihb.2 h2⟩⟩
  | agg a _ => exact ⟨fun ⟨cs, h, e⟩ => ⟨cs, A.cells_mono hS hw a h, e⟩, fun h => h⟩
  | tup a ih => exact ⟨fun ⟨vs, e, h⟩ => ⟨vs, e, ih.2 h⟩, fun h => h⟩
  | any => exact ⟨fun h => h, fun h => h⟩

theorem A.mono (hS : ∀ b, S b → S' b) (hw : Keep S w w') (r : A) {v : Value} (h : r.holds S w v) : r.holds S' w' v := (A.mono_both hS hw r).1 h
end

/-- Resources: what the code at hand alone may write. -/
inductive D where
  | obj (b : Nat) (T : TypeId) (a : A)
  | sl (v : Value) (T : TypeId) (t : Ty) (l : List t.den)
  | raw (b : Nat) (o : Obj)
  | inv (b : Nat) (p : Obj → Prop)

def D.foot : D → Option Nat
  | .obj b _ _ => some b
  | .sl v _ _ _ => v.ownBlock
  | .raw b _ => some b
  | .inv b _ => some b

def D.holds (S : FS) (w : World) : D → Prop
  | .obj b T a => ∃ cs : List Value, w.heap[b]? = some (.cells cs.toArray T (0, 0)) ∧ a.cells S w cs
  | .sl v T t l => (v = .slice none 0 0 ∧ l = []) ∨ ∃ b cap c, v = .slice (some ⟨b, 0, none⟩) l.length cap ∧ l.length ≤ cap ∧ cap ≤ maxLen ∧
      w.heap[b]? = some (.cells c T (0, 0)) ∧ c.size = cap * t.cells ∧ rdAll (rd S w t) l (c.toList.take (l.length * t.cells))
  | .raw b o => w.heap[b]? = some o
  | .inv b p => ∃ o, w.heap[b]? = some o ∧ p o

theorem D.holds_mono {S S' : FS} {w w' : World} (hS : ∀ b, S b → S' b) (hw : Keep S w w') (d : D) (hd : ∀ b, d.foot = some b → w'.heap[b]? = w.heap[b]?) (h : d.holds S w) : d.holds S' w' := by
  cases d with
  | obj b T a =>
    obtain ⟨cs, h1, h2⟩ := h
    exact ⟨cs, (hd b rfl).trans h1, a.cells_mono hS hw h2⟩
  | sl v T t l =>
    rcases h with h | ⟨b, cap, c, rfl, h1, h1', h2, h3, h4⟩
    · exact .inl h
    · exact .inr ⟨b, cap, c, rfl, h1, h1', (hd b rfl).trans h2, h3, rdAll_mono (fun _ _ h => rd_mono hS hw t h) h4⟩
  | raw b o => exact (hd b rfl).trans h
  | inv b p => obtain ⟨o, h1, h2⟩ := h; exact ⟨o, (hd b rfl).trans h1, h2⟩

/-- The blocks of some resources. -/
def feet (Δ : List D) (b : Nat) : Prop := ∃ d ∈ Δ, d.foot = some b

structure Owns (Δ : List D) (S : FS) (w : World) : Prop where
  holds : ∀ d ∈ Δ, d.holds S w
  own : ∀ b, feet Δ b → ¬ S b ∧ b < w.heap.size
  apart : Δ.Pairwise fun d d' => ∀ b, d.foot = some b → d'.foot ≠ some b

/-- What becomes of frozen blocks and worlds where at most the blocks X are written. -/
structure Step (X : Nat → Prop) (S : FS) (w : World) (S' : FS) (w' : World) : Prop where
  sub : ∀ b, S b → S' b
  new : ∀ b, S' b → S b ∨ w.heap.size ≤ b ∨ X b
  dom : ∀ b, S' b → b < w'.heap.size
  size : w.heap.size ≤ w'.heap.size
  keep : ∀ b, b < w.heap.size → ¬ X b → w'.heap[b]? = w.heap[b]?
  os : w'.os = w.os
  tape : w'.tape = w.tape
  output : w'.output = w.output

theorem Step.refl {X : Nat → Prop} {S : FS} {w : World} (h : ∀ b, S b → b < w.heap.size) : Step X S w S w :=
  ⟨fun _ h => h, fun _ h => .inl h, h, Nat.le_refl _, fun _ _ _ => rfl, rfl, rfl, rfl⟩

theorem Step.trans {X Y : Nat → Prop} {S S1 S2 : FS} {w w1 w2 : World} (h : Step X S w S1 w1) (h' : Step Y S1 w1 S2 w2)
    (hY : ∀ b, Y b → X b ∨ w.heap.size ≤ b) : Step X S w S2 w2 where
  sub b hb := h'.sub b (h.sub b hb)
  new b hb := by
    rcases h'.new b hb with h1 | h1 | h1
    · exact h.new b h1
    · exact .inr (.inl (Nat.le_trans h.size h1))
    · rcases hY b h1 with h2 | h2
      · exact .inr (.inr h2)
      · exact .inr (.inl h2)
  dom := h'.dom
  size := Nat.le_trans h.size h'.size
  keep b hb hx := (h'.keep b (Nat.lt_of_lt_of_le hb h.size) (fun hy => (hY b hy).elim (fun h2 => hx h2) (fun h2 => by omega))).trans (h.keep b hb hx)
  os := h'.os.trans h.os
  tape := h'.tape.trans h.tape
  output := h'.output.trans h.output

theorem Step.mono {X Y : Nat → Prop} {S S1 : FS} {w w1 : World} (h : Step X S w S1 w1) (hX : ∀ b, X b → Y b) : Step Y S w S1 w1 :=
  ⟨h.sub, fun b hb => (h.new b hb).imp id (Or.imp id (hX b)), h.dom, h.size, fun b hb hx => h.keep b hb (fun hh => hx (hX b hh)), h.os, h.tape, h.output⟩

/-- What is owned beside what was at work stays. -/
theorem Owns.frame {Δ Δ' F : List D} {S S' : FS} {w w' : World} (hd : ∀ b, S b → b < w.heap.size) (h : Owns (Δ ++ F) S w) (hs : Step (feet Δ) S w S' w') (h' : Owns Δ' S' w')
    (hf : ∀ b, feet Δ' b → feet Δ b ∨ w.heap.size ≤ b) : Owns (Δ' ++ F) S' w' := by
  have hap := List.pairwise_append.1 h.apart
  have hnot : ∀ b, feet F b → ¬ feet Δ b := fun b ⟨d', hd', e'⟩ ⟨d, hd, e⟩ => hap.2.2 d hd d' hd' b e e'
  have hF : ∀ b, feet F b → w'.heap[b]? = w.heap[b]? := fun b hb => hs.keep b (h.own b (by obtain ⟨d, hd, e⟩ := hb; exact ⟨d, List.mem_append.2 (.inr hd), e⟩)).2 (hnot b hb)
  have hK : Keep S w w' := fun b hb => hs.keep b (hd b hb) (fun hx => (h.own b (by obtain ⟨d, hd, e⟩ := hx; exact ⟨d, List.mem_append.2 (.inl hd), e⟩)).1 hb)
  refine ⟨fun d hd => ?_, fun b hb => ?_, ?_⟩
  · rcases List.mem_append.1 hd with hd | hd
    · exact h'.holds d hd
    · exact D.holds_mono hs.sub hK d (fun b e => hF b ⟨d, hd, e⟩) (h.holds d (List.mem_append.2 (.inr hd)))
  · obtain ⟨d, hd, e⟩ := hb
    rcases List.mem_append.1 hd with hd | hd
    · exact h'.own b ⟨d, hd, e⟩
    · have hb : feet F b := ⟨d, hd, e⟩
      have ho := h.own b ⟨d, List.mem_append.2 (.inr hd), e⟩
      refine ⟨fun hS => ?_, Nat.lt_of_lt_of_le ho.2 hs.size⟩
      rcases hs.new b hS with h1 | h1 | h1
      · exact ho.1 h1
      · omega
      · exact hnot b hb h1
  · refine List.pairwise_append.2 ⟨h'.apart, hap.2.1, fun d hd d' hd' b e e' => ?_⟩
    have ho := h.own b ⟨d', List.mem_append.2 (.inr hd'), e'⟩
    rcases hf b ⟨d, hd, e⟩ with h1 | h1
    · exact hnot b ⟨d', hd', e'⟩ h1
    · omega

theorem Owns.perm {Δ Δ' : List D} {S : FS} {w : World} (hp : Δ.Perm Δ') (h : Owns Δ S w) : Owns Δ' S w :=
  ⟨fun d hd => h.holds d (hp.mem_iff.2 hd), fun b ⟨d, hd, e⟩ => h.own b ⟨d, hp.mem_iff.2 hd, e⟩,
    (hp.pairwise_iff (fun h b e e' => h b e' e)).1 h.apart⟩

theorem feet_perm {Δ Δ' : List D} (hp : Δ.Perm Δ') (b : Nat) : feet Δ b ↔ feet Δ' b :=
  ⟨fun ⟨d, hd, e⟩ => ⟨d, hp.mem_iff.1 hd, e⟩, fun ⟨d, hd, e⟩ => ⟨d, hp.mem_iff.2 hd, e⟩⟩

/-- What is known of a frame's slots: the first entry of a slot counts. -/
abbrev Ga := List (Nat × A)

def lk : Ga → Nat → Option A
  | [], _ => none
  | (s, r) :: l, k => if s = k then some r else lk l k

/-- What an operation asks of its operands. -/
def Needs (S : FS) (w : World) (a : Act) : List (Operand × A) → Prop
  | [] => True
  | (x, r) :: l => r.holds S w (a.eval x) ∧ Needs S w a l

/-- The fence that lets all in, in a round or not. -/
abbrev FW (rd : Option Nat) : Fence := { Fence.wide with round := rd }
/-- No deferring. -/
def nd : Op → Bool
  | .defer _ => false
  | _ => true

/-- **One operation**: where its operands are so, and it has these resources, it yields such a value and leaves such resources, for some x. -/
def OpT (P : Program) (o : Oper) (N : List (Operand × A)) (Δ : List D) {X : Type} (R : X → A × List D) : Prop :=
  nd o.op = true ∧ ∀ (rd : Option Nat) (S : FS) (w : World) (a : Act) (next : Act → World → Prop) (Q : Exit → Act → World → Prop), (∀ b, S b → b < w.heap.size) → Needs S w a N → Owns Δ S w →
    (∀ x S' w' v, Step (feet Δ) S w S' w' → (R x).1.holds S' w' v → Owns (R x).2 S' w' → (∀ b, feet (R x).2 b → feet Δ b ∨ w.heap.size ≤ b) → next (a.put o.dst v) w') →
    o.uponIn (FW rd) 0 P a next Q ((execOp a.eval o).run P w)

theorem OpT.run {P : Program} {o : Oper} {N : List (Operand × A)} {Δ : List D} {X : Type} {R : X → A × List D} (ht : OpT P o N Δ R) (rd : Option Nat) (S : FS) (w : World) (a : Act) (next : Act → World → Prop) (Q : Exit → Act → World → Prop)
    (hd : ∀ b, S b → b < w.heap.size) (hN : Needs S w a N) (hO : Owns Δ S w)
    (k : ∀ x S' w' v, Step (feet Δ) S w S' w' → (R x).1.holds S' w' v → Owns (R x).2 S' w' → (∀ b, feet (R x).2 b → feet Δ b ∨ w.heap.size ≤ b) → next (a.put o.dst v) w') : o.wpIn (FW rd) 0 P a w next Q := by
  refine ⟨fun _ _ => trivial, ?_⟩
  have h1 := ht.1
  rw [Oper.semAt_eq _ _ _ (fun c e => by rw [e] at h1; cases h1)]
  exact ht.2 rd S w a next Q hd hN hO k

/-- What the proof of a body knows: the program, the frame's size, the world at the entry and the blocks that may be written. -/
structure Cx where
  P : Program
  N : Nat
  S0 : FS
  w0 : World
  X : Nat → Prop
  rd : Option Nat := none
  dfs : List Deferred := []

structure St (c : Cx) (Γ : Ga) (Δ : List D) (a : Act) (w : World) : Prop where
  defers : a.defers = c.dfs
  size : a.tmps.size = c.N
  ex : ∃ S : FS, Step c.X c.S0 c.w0 S w ∧ (∀ b, feet Δ b → c.X b ∨ c.w0.heap.size ≤ b) ∧ Owns Δ S w ∧ ∀ s r, lk Γ s = some r → r.holds S w (a.tmps.getD s undef)

/-- A piece of code. -/
def JC (c : Cx) (C : Code) (Q : Exit → Act → World → Prop) (Γ : Ga) (Δ : List D) : Prop := ∀ a w, St c Γ Δ a w → C.wpIn (FW c.rd) 0 c.P Q a w

/-- The operations that are left of a region. -/
def JO (c : Cx) (ops : Array Oper) (l : List Oper) (Q : Exit → Act → World → Prop) (Γ : Ga) (Δ : List D) : Prop := ∀ a w, St c Γ Δ a w → wpListIn (FW c.rd) 0 c.P ops Q l a w

/-- What comes next. -/
def JN (c : Cx) (M : Act → World → Prop) (Γ : Ga) (Δ : List D) : Prop := ∀ a w, St c Γ Δ a w → M a w

/-- The frame's entries meet what an operation asks. -/
def Has (Γ : Ga) : List (Operand × A) → Prop
  | [] => True
  | (.tmp t, r) :: l => lk Γ t = some r ∧ Has Γ l
  | (.const v, r) :: l => r = .eq v ∧ Has Γ l
  | (.func f, r) :: l => r = .eq (.func (.func f) #[] #[]) ∧ Has Γ l
  | (.global _, _) :: _ => False

theorem Needs.of_has {c : Cx} {Γ : Ga} {S : FS} {w : World} {a : Act} (h : ∀ s r, lk Γ s = some r → r.holds S w (a.tmps.getD s undef)) : ∀ {N : List (Operand × A)}, Has Γ N → Needs S w a N
  | [], _ => trivial
  | (.tmp t, r) :: l, hh => ⟨h t r hh.1, Needs.of_has (c := c) h hh.2⟩
  | (.const v, r) :: l, hh => ⟨by rw [hh.1]; rfl, Needs.of_has (c := c) h hh.2⟩
  | (.func f, r) :: l, hh => ⟨by rw [hh.1]; rfl, Needs.of_has (c := c) h hh.2⟩
  | (.global _, _) :: _, hh => hh.elim

theorem getD_put {a : Act} {d s : Nat} {v : Value} (hd : d < a.tmps.size) : ((a.put (some d) v).tmps.getD s undef) = if d = s then v else a.tmps.getD s undef := by
  simp only [Act.put, Array.getD_eq_getD_getElem?, Array.getElem?_setIfInBounds]
  split
  · rename_i h; subst h; first | rfl | (rw [if_pos hd]; rfl)
  · rfl

/-- The state behind an operation. -/
theorem St.put {c : Cx} {Γ : Ga} {Δ Δ' F : List D} {a : Act} {w w' : World} {S S' : FS} {d : Nat} {v : Value} {r : A} (hdf : a.defers = c.dfs) (hsz : a.tmps.size = c.N)
    (h1 : Step c.X c.S0 c.w0 S w) (h2 : ∀ b, feet (Δ ++ F) b → c.X b ∨ c.w0.heap.size ≤ b) (h3 : Owns (Δ ++ F) S w) (h4 : ∀ s r, lk Γ s = some r → r.holds S w (a.tmps.getD s undef))
    (hs : Step (feet Δ) S w S' w') (hr : r.holds S' w' v) (ho : Owns Δ' S' w') (hf : ∀ b, feet Δ' b → feet Δ b ∨ w.heap.size ≤ b) (hd : d < c.N) :
    St c ((d, r) :: Γ) (Δ' ++ F) (a.put (some d) v) w' := by
  have hin : ∀ b, feet Δ b → feet (Δ ++ F) b := fun b ⟨e, he, hb⟩ => ⟨e, List.mem_append.2 (.inl he), hb⟩
  have hX : ∀ b, feet Δ b → c.X b ∨ c.w0.heap.size ≤ b := fun b hb => h2 b (hin b hb)
  have hK : Keep S w w' := fun b hb => hs.keep b (h1.dom b hb) (fun hx => (h3.own b (hin b hx)).1 hb)
  refine ⟨by simpa [Act.put] using hdf, by simpa [Act.put] using hsz, S', h1.trans hs hX, ?_, h3.frame h1.dom hs ho hf, ?_⟩
  · rintro b ⟨e, he, hb⟩
    rcases List.mem_append.1 he with he | he
    · rcases hf b ⟨e, he, hb⟩ with h | h
      · exact hX b h
      · exact .inr (Nat.le_trans h1.size h)
    · exact h2 b ⟨e, List.mem_append.2 (.inr he), hb⟩
  · intro s r' hl
    rw [getD_put (by omega)]
    simp only [lk] at hl
    split at hl
    · rename_i e
      cases hl
      rw [if_pos e]
      exact hr
    · rename_i e
      rw [if_neg e]
      exact A.mono hs.sub hK r' (h4 s r' hl)

/-- The same, of an operation that yields nothing. -/
theorem St.put_none {c : Cx} {Γ : Ga} {Δ Δ' F : List D} {a : Act} {w w' : World} {S S' : FS} {v : Value} (hdf : a.defers = c.dfs) (hsz : a.tmps.size = c.N)
    (h1 : Step c.X c.S0 c.w0 S w) (h2 : ∀ b, feet (Δ ++ F) b → c.X b ∨ c.w0.heap.size ≤ b) (h3 : Owns (Δ ++ F) S w) (h4 : ∀ s r, lk Γ s = some r → r.holds S w (a.tmps.getD s undef))
    (hs : Step (feet Δ) S w S' w') (ho : Owns Δ' S' w') (hf : ∀ b, feet Δ' b → feet Δ b ∨ w.heap.size ≤ b) :
    St c Γ (Δ' ++ F) (a.put none v) w' := by
  have hin : ∀ b, feet Δ b → feet (Δ ++ F) b := fun b ⟨e, he, hb⟩ => ⟨e, List.mem_append.2 (.inl he), hb⟩
  have hX : ∀ b, feet Δ b → c.X b ∨ c.w0.heap.size ≤ b := fun b hb => h2 b (hin b hb)
  have hK : Keep S w w' := fun b hb => hs.keep b (h1.dom b hb) (fun hx => (h3.own b (hin b hx)).1 hb)
  refine ⟨hdf, hsz, S', h1.trans hs hX, ?_, h3.frame h1.dom hs ho hf, fun s r' hl => A.mono hs.sub hK r' (h4 s r' hl)⟩
  rintro b ⟨e, he, hb⟩
  rcases List.mem_append.1 he with he | he
  · rcases hf b ⟨e, he, hb⟩ with h | h
    · exact hX b h
    · exact .inr (Nat.le_trans h1.size h)
  · exact h2 b ⟨e, List.mem_append.2 (.inr he), hb⟩

section
variable {c : Cx} {ops : Array Oper} {o : Oper} {l : List Oper} {Q : Exit → Act → World → Prop} {Γ : Ga} {Δ Δ' F : List D} {N : List (Operand × A)} {d : Nat} {X : Type} {R : X → A × List D} {r : A}

theorem St.perm {a : Act} {w : World} (hp : Δ.Perm Δ') (h : St c Γ Δ a w) : St c Γ Δ' a w := by
  obtain ⟨h1, h2, S, h3, h4, h5, h6⟩ := h
  exact ⟨h1, h2, S, h3, fun b hb => h4 b ((feet_perm hp b).2 hb), h5.perm hp, h6⟩

/-- Resource number k comes to the front. -/
theorem perm_front (k : Nat) (e : D) (h : Δ[k]? = some e) : Δ.Perm (e :: Δ.eraseIdx k) := by
  induction Δ generalizing k with
  | nil => simp at h
  | cons x Δ ih =>
    cases k with
    | zero => simp at h; subst h; exact List.Perm.refl _
    | succ k =>
      simp at h
      exact ((ih k h).cons x).trans (List.Perm.swap _ _ _)

theorem JO.front (k : Nat) {e : D} (h : Δ[k]? = some e) (hj : JO c ops l Q Γ (e :: Δ.eraseIdx k)) : JO c ops l Q Γ Δ := fun a w hs => hj a w (hs.perm (perm_front k e h))
theorem JC.front {C : Code} (k : Nat) {e : D} (h : Δ[k]? = some e) (hj : JC c C Q Γ (e :: Δ.eraseIdx k)) : JC c C Q Γ Δ := fun a w hs => hj a w (hs.perm (perm_front k e h))
theorem JN.front {M : Act → World → Prop} (k : Nat) {e : D} (h : Δ[k]? = some e) (hj : JN c M Γ (e :: Δ.eraseIdx k)) : JN c M Γ Δ := fun a w hs => hj a w (hs.perm (perm_front k e h))

/-- An operation that yields into slot d, by its triple, under the test of its guard. -/
theorem JO.stepG (hg : ∀ a w, St c Γ (Δ ++ F) a w → Region.wanted o (yielded ops a.tmps) = true) (hd : o.dst = some d) (hdN : Nat.blt d c.N = true) (ht : OpT c.P o N Δ R) (hh : Has Γ N)
    (h : ∀ x, JO c ops l Q ((d, (R x).1) :: Γ) ((R x).2 ++ F)) : JO c ops (o :: l) Q Γ (Δ ++ F) := by
  intro a w hst
  have hw := hg a w hst
  obtain ⟨h1, h2, S, h3, h4, h5, h6⟩ := hst
  refine wpListIn_step fun K hK => ?_
  rw [if_pos hw]
  have hO : Owns Δ S w := ⟨fun e he => h5.holds e (List.mem_append.2 (.inl he)), fun b ⟨e, he, hb⟩ => h5.own b ⟨e, List.mem_append.2 (.inl he), hb⟩, (List.pairwise_append.1 h5.apart).1⟩
  refine ht.run c.rd S w a K Q h3.dom (Needs.of_has (c := c) h6 hh) hO fun x S' w' v hs hr ho hf => hK _ _ ?_
  rw [hd]
  exact h x _ _ (St.put h1 h2 h3 h4 h5 h6 hs hr ho hf (Nat.blt_eq ▸ hdN))

theorem JO.stepGn (hg : ∀ a w, St c Γ (Δ ++ F) a w → Region.wanted o (yielded ops a.tmps) = true) (hd : o.dst = none) (ht : OpT c.P o N Δ R) (hh : Has Γ N)
    (h : ∀ x, JO c ops l Q Γ ((R x).2 ++ F)) : JO c ops (o :: l) Q Γ (Δ ++ F) := by
  intro a w hst
  have hw := hg a w hst
  obtain ⟨h1, h2, S, h3, h4, h5, h6⟩ := hst
  refine wpListIn_step fun K hK => ?_
  rw [if_pos hw]
  have hO : Owns Δ S w := ⟨fun e he => h5.holds e (List.mem_append.2 (.inl he)), fun b ⟨e, he, hb⟩ => h5.own b ⟨e, List.mem_append.2 (.inl he), hb⟩, (List.pairwise_append.1 h5.apart).1⟩
  refine ht.run c.rd S w a K Q h3.dom (Needs.of_has (c := c) h6 hh) hO fun x S' w' v hs hr ho hf => hK _ _ ?_
  rw [hd]
  exact h x _ _ (St.put_none h1 h2 h3 h4 h5 h6 hs ho hf)

theorem wanted_none (hg : o.guard = none) (y : Nat → Option Bool) : Region.wanted o y = true := by simp [Region.wanted, hg]

/-- The guard of an operation, as the frame knows it. -/
theorem wanted_of {j s : Nat} {g : Bool} {oj : Oper} (hg : o.guard = some (j, g)) (hj : ops[j]? = some oj) (hs : oj.dst = some s) {b : Bool} (hl : lk Γ s = some (.eq (.bool b))) {a : Act} {w : World} (h : St c Γ Δ a w) :
    Region.wanted o (yielded ops a.tmps) = (b == g) := by
  obtain ⟨_, _, S, _, _, _, h6⟩ := h
  have h7 : a.tmps.getD s undef = .bool b := h6 s _ hl
  have h8 : yielded ops a.tmps j = some b := by
    unfold yielded
    simp only [hj, Option.bind_some, hs]
    rw [Array.getD_eq_getD_getElem?] at h7
    cases h9 : a.tmps[s]? with
    | none => rw [h9] at h7; simp [undef] at h7
    | some v => rw [h9] at h7; simp at h7; subst h7; rfl
  simp only [Region.wanted, hg, h8]
  cases b <;> cases g <;> rfl

/-- No resource used, none made. -/
theorem JO.s00 (hg : o.guard = none) (hd : o.dst = some d) (hdN : Nat.blt d c.N = true) (ht : OpT c.P o N [] (fun _ : Unit => (r, []))) (hh : Has Γ N) (h : JO c ops l Q ((d, r) :: Γ) Δ) : JO c ops (o :: l) Q Γ Δ :=
  JO.stepG (Δ := []) (fun _ _ _ => wanted_none hg _) hd hdN ht hh fun _ => h

/-- No resource used, one made. -/
theorem JO.s01 {e : X → D} {r : X → A} (hg : o.guard = none) (hd : o.dst = some d) (hdN : Nat.blt d c.N = true) (ht : OpT c.P o N [] (fun x => (r x, [e x]))) (hh : Has Γ N) (h : ∀ x, JO c ops l Q ((d, r x) :: Γ) (e x :: Δ)) : JO c ops (o :: l) Q Γ Δ :=
  JO.stepG (Δ := []) (fun _ _ _ => wanted_none hg _) hd hdN ht hh fun x => h x

/-- The first resource used. -/
theorem JO.s11 {e e' : D} (hg : o.guard = none) (hd : o.dst = some d) (hdN : Nat.blt d c.N = true) (ht : OpT c.P o N [e] (fun _ : Unit => (r, [e']))) (hh : Has Γ N) (h : JO c ops l Q ((d, r) :: Γ) (e' :: F)) : JO c ops (o :: l) Q Γ (e :: F) :=
  JO.stepG (Δ := [e]) (fun _ _ _ => wanted_none hg _) hd hdN ht hh fun _ => h

theorem JO.s1x {e : D} {e' : X → D} {r : X → A} (hg : o.guard = none) (hd : o.dst = some d) (hdN : Nat.blt d c.N = true) (ht : OpT c.P o N [e] (fun x => (r x, [e' x]))) (hh : Has Γ N) (h : ∀ x, JO c ops l Q ((d, r x) :: Γ) (e' x :: F)) : JO c ops (o :: l) Q Γ (e :: F) :=
  JO.stepG (Δ := [e]) (fun _ _ _ => wanted_none hg _) hd hdN ht hh fun x => h x

theorem JO.n11 {e e' : D} (hg : o.guard = none) (hd : o.dst = none) (ht : OpT c.P o N [e] (fun _ : Unit => (r, [e']))) (hh : Has Γ N) (h : JO c ops l Q Γ (e' :: F)) : JO c ops (o :: l) Q Γ (e :: F) :=
  JO.stepGn (Δ := [e]) (fun _ _ _ => wanted_none hg _) hd ht hh fun _ => h

/-! The same under a guard that lets the operation be carried out. -/
section
variable {j s : Nat} {g : Bool} {oj : Oper}
theorem JO.g00 (hg : o.guard = some (j, g)) (hj : ops[j]? = some oj) (hs : oj.dst = some s) (hl : lk Γ s = some (.eq (.bool g))) (hd : o.dst = some d) (hdN : Nat.blt d c.N = true) (ht : OpT c.P o N [] (fun _ : Unit => (r, []))) (hh : Has Γ N) (h : JO c ops l Q ((d, r) :: Γ) Δ) : JO c ops (o :: l) Q Γ Δ :=
  JO.stepG (Δ := []) (fun _ _ h => by rw [wanted_of hg hj hs hl h]; simp) hd hdN ht hh fun _ => h

theorem JO.g11 {e e' : D} (hg : o.guard = some (j, g)) (hj : ops[j]? = some oj) (hs : oj.dst = some s) (hl : lk Γ s = some (.eq (.bool g))) (hd : o.dst = some d) (hdN : Nat.blt d c.N = true) (ht : OpT c.P o N [e] (fun _ : Unit => (r, [e']))) (hh : Has Γ N) (h : JO c ops l Q ((d, r) :: Γ) (e' :: F)) : JO c ops (o :: l) Q Γ (e :: F) :=
  JO.stepG (Δ := [e]) (fun _ _ h => by rw [wanted_of hg hj hs hl h]; simp) hd hdN ht hh fun _ => h

/-- A guard that passes the operation over. -/
theorem JO.gno (hg : o.guard = some (j, g)) (hj : ops[j]? = some oj) (hs : oj.dst = some s) {b : Bool} (hl : lk Γ s = some (.eq (.bool b))) (hb : (b == g) = false) (hd : o.dst = some d) (hdN : Nat.blt d c.N = true) (h : JO c ops l Q ((d, .eq undef) :: Γ) Δ) : JO c ops (o :: l) Q Γ Δ := by
  intro a w hst
  have hw : Region.wanted o (yielded ops a.tmps) = false := by rw [wanted_of hg hj hs hl hst]; exact hb
  obtain ⟨h1, h2, S, h3, h4, h5, h6⟩ := hst
  refine wpListIn_step fun K hK => ?_
  rw [if_neg (by rw [hw]; simp)]
  refine ⟨fun _ _ => trivial, hK _ _ ?_⟩
  rw [hd]
  refine h _ _ (St.put (Δ := []) (Δ' := []) h1 h2 h3 h4 h5 h6 (Step.refl h3.dom) rfl ⟨fun _ h => by simp at h, fun b ⟨e, he, _⟩ => by simp at he, List.Pairwise.nil⟩ (fun b ⟨e, he, _⟩ => by simp at he) (Nat.blt_eq ▸ hdN))
end

theorem JO.nil (h : JN c (Q .normal) Γ Δ) : JO c ops [] Q Γ Δ := h
end

end K
end Go.Proofs.Ytfhdclhbdmhnmaa
