/- The calculus, part 18: calls with two ways out, closures that are made, the end of a body without results. -/
import Derived.Test.YtfhdclhbdmhnmaaCore17
namespace Go.Proofs.Ytfhdclhbdmhnmaa
namespace K
open Go

def casesO {α β : Type} (x : Option α) (a : β) (b : α → β) : β := match x with
  | none => a
  | some q => b q
theorem co_n {α β ρ : Type} {A : Option β} {B : α → Option β} {K : β → Option ρ} {r : ρ} (h : (casesO none A B).bind K = some r) : A.bind K = some r := h
theorem co_s {α β ρ : Type} {q : α} {A : Option β} {B : α → Option β} {K : β → Option ρ} {r : ρ} (h : (casesO (some q) A B).bind K = some r) : (B q).bind K = some r := h

/-- A pointer that may be nil. -/
@[reducible] def optA {α : Type} (o : Option α) (z : Nat) : A := match o with
  | none => .eq (.pointer none)
  | some _ => .eq (.pointer (some ⟨z, 0, none⟩))
@[reducible] def optD {α : Type} (o : Option α) (f : α → List D) : List D := match o with
  | none => []
  | some q => f q

theorem needs_append {S : FS} {w : World} {a : Act} : ∀ {N1 N2 : List (Operand × A)}, Needs S w a (N1 ++ N2) → Needs S w a N1 ∧ Needs S w a N2
  | [], _, h => ⟨trivial, h⟩
  | _ :: _, _, h => ⟨⟨h.1, (needs_append h.2).1⟩, (needs_append h.2).2⟩
theorem needs_eqs {S : FS} {w : World} {a : Act} : ∀ {xs : List Operand} {vs : List Value}, xs.length = vs.length → Needs S w a (xs.zip (vs.map .eq)) → xs.map a.eval = vs
  | [], [], _, _ => rfl
  | x :: xs, v :: vs, h, hN => by
    have h1 : a.eval x = v := hN.1
    rw [List.map_cons, h1, needs_eqs (by simpa using h) hN.2]
  | [], _ :: _, h, _ => by simp at h
  | _ :: _, [], h, _ => by simp at h

section
variable {P : Program} {o : Oper}
/-- A closure is made. -/
theorem o_mkfn {f : Nat} (xs ys : List Operand) (fs cs : List Value) (ho : o.op = .makeFunc (.func f) xs.toArray ys.toArray) (h1 : xs.length = fs.length) (h2 : ys.length = cs.length) :
    OpT P o (xs.zip (fs.map .eq) ++ ys.zip (cs.map .eq)) [] (fun _ : Unit => (.eq (.func (.func f) fs.toArray cs.toArray), [])) :=
  .val0 fun S w a hN => by
    obtain ⟨n1, n2⟩ := needs_append hN
    have e1 := needs_eqs h1 n1
    have e2 := needs_eqs h2 n2
    refine ⟨.func (.func f) fs.toArray cs.toArray, ?_, rfl⟩
    simp [execOp, ho, Instr.makeFunc, e1, e2]
end

theorem JN.end_n {c : Cx} {P : Program} {fn : Func} {R : Ending → World → Prop} {Γ : Ga} {Δ : List D} (h : JN c (bodyPost P fn R .ret) Γ Δ) : JN c (bodyPost P fn R .normal) Γ Δ := h
end K
end Go.Proofs.Ytfhdclhbdmhnmaa
