/- The calculus, part 29: short names for the steps that are taken most often. -/
import Derived.Test.YtfhdclhbdmhnmaaCore28
namespace Go.Proofs.Ytfhdclhbdmhnmaa
namespace K
open Go

section
variable {c : Cx} {ops : Array Oper} {l : List Oper} {Q : Exit → Act → World → Prop} {Γ : Ga} {Δ : List D} {r : A} {d s j : Nat} {C' : Code} {o oj : Oper} {b g : Bool} {x y z : Operand}
theorem nt (h : JC c C' Q Γ Δ) : JO c ops [] (Exit.then (C'.wpIn (FW c.rd) 0 c.P Q) Q) Γ Δ := JO.nil (JN.then_n h)
theorem sr {id : Nat} {l : List Oper} (h : JO c l.toArray l (Exit.then (C'.wpIn (FW c.rd) 0 c.P Q) Q) Γ Δ) : JC c (.seq (.region id l.toArray false) C') Q Γ Δ := JC.seq (JC.region h)
theorem mq {t : Nat} {ty : TypeId} {pos : String} {af : Array Edge} (h : JO c ops l Q ((d, r) :: Γ) Δ) (hdN : Nat.blt d c.N = true := by exact rfl) (hl : lk Γ t = some r := by exact rfl) : JO c ops (⟨some d, .move (.tmp t), ty, pos, af, none⟩ :: l) Q Γ Δ := JO.mv hdN hl h
theorem aq {t : Nat} {ty : TypeId} {pos : String} {af : Array Edge} (h : JO c ops l Q ((d, r) :: Γ) Δ) (hdN : Nat.blt d c.N = true := by exact rfl) (hl : lk Γ t = some r := by exact rfl) : JO c ops (⟨some d, .assign (.tmp t), ty, pos, af, none⟩ :: l) Q Γ Δ := JO.as hdN hl h
theorem gn (h : JO c ops l Q ((d, .eq undef) :: Γ) Δ) (hg : o.guard = some (j, g) := by exact rfl) (hj : ops[j]? = some oj := by exact rfl) (hs : oj.dst = some s := by exact rfl) (hl : lk Γ s = some (.eq (.bool b)) := by exact rfl) (hb : (b == g) = false := by exact rfl) (hd : o.dst = some d := by exact rfl) (hdN : Nat.blt d c.N = true := by exact rfl) : JO c ops (o :: l) Q Γ Δ := JO.gno hg hj hs hl hb hd hdN h
theorem cq {v : Value} {ty : TypeId} {pos : String} {af : Array Edge} (h : JO c ops l Q ((d, .eq v) :: Γ) Δ) (hdN : Nat.blt d c.N = true := by exact rfl) : JO c ops (⟨some d, .assign (.const v), ty, pos, af, none⟩ :: l) Q Γ Δ := JO.ac hdN h
theorem pf {ty : TypeId} {pos : String} {af : Array Edge} (h : JO c ops l Q ((d, r) :: Γ) Δ) (hdN : Nat.blt d c.N = true := by exact rfl) (hh : Has Γ [(x, .eq (.bool false)), (z, r)] := by exact ⟨rfl, rfl, trivial⟩) : JO c ops (⟨some d, .pick x y z, ty, pos, af, none⟩ :: l) Q Γ Δ := JO.s hdN (o_pick_f rfl) hh h
theorem pt {ty : TypeId} {pos : String} {af : Array Edge} (h : JO c ops l Q ((d, r) :: Γ) Δ) (hdN : Nat.blt d c.N = true := by exact rfl) (hh : Has Γ [(x, .eq (.bool true)), (y, r)] := by exact ⟨rfl, rfl, trivial⟩) : JO c ops (⟨some d, .pick x y z, ty, pos, af, none⟩ :: l) Q Γ Δ := JO.s hdN (o_pick_t rfl) hh h
theorem gm (h : JO c ops l Q ((d, r) :: Γ) Δ) (hg : o.guard = some (j, g) := by exact rfl) (hj : ops[j]? = some oj := by exact rfl) (hs : oj.dst = some s := by exact rfl) (hl : lk Γ s = some (.eq (.bool g)) := by exact rfl) (hd : o.dst = some d := by exact rfl) (hdN : Nat.blt d c.N = true := by exact rfl) (ho : o.op = .move x := by exact rfl) (hh : Has Γ [(x, r)] := by exact ⟨rfl, trivial⟩) : JO c ops (o :: l) Q Γ Δ := JO.g00 hg hj hs hl hd hdN (o_move ho) hh h
end
section
variable {c : Cx} {Q : Exit → Act → World → Prop} {Γ Γ0 : Ga} {Δ : List D} {full l : List Oper} {acc : List DE} {id d j s : Nat} {r : A} {g b m : Bool} {o oj : Oper} {x : Operand}
theorem dg (h : DN c id full Q Γ0 Δ (acc ++ [⟨o, d, [(.tmp s, .eq (.bool b))], .eq undef, none, false, fun _ => []⟩]) l ((d, .eq undef) :: Γ) m) (hg : o.guard = some (j, g) := by exact rfl) (hj : full.toArray[j]? = some oj := by exact rfl) (hs : oj.dst = some s := by exact rfl) (hl : lk Γ s = some (.eq (.bool b)) := by exact rfl) (hb : (b == g) = false := by exact rfl) (hd : o.dst = some d := by exact rfl) (hdN : Nat.blt d c.N = true := by exact rfl) : DN c id full Q Γ0 Δ acc (o :: l) Γ m := DN.sgno hg hj hs hl hb hd hdN h
theorem dm (h : DN c id full Q Γ0 Δ (acc ++ [⟨o, d, [(x, r)], r, none, false, fun _ => []⟩]) l ((d, r) :: Γ) m) (hg : o.guard = none := by exact rfl) (hd : o.dst = some d := by exact rfl) (hdN : Nat.blt d c.N = true := by exact rfl) (ho : o.op = .move x := by exact rfl) (hh : Has Γ [(x, r)] := by exact ⟨rfl, trivial⟩) : DN c id full Q Γ0 Δ acc (o :: l) Γ m := DN.s00 hg hd hdN (o_move ho) hh h
/-- What is left of the resources, said as it is. -/
theorem DN.finE {Δ' : List D} (hck : chk full acc = true) (hm : c.P.follows .mixedOrders = true) (hΔ : endD.keepFrom acc 0 Δ ++ births0 acc = Δ') (h : JO c full.toArray l Q Γ Δ') : DN c id full Q Γ0 Δ acc l Γ m := DN.finM hck hm (hΔ ▸ h)
end
end K
end Go.Proofs.Ytfhdclhbdmhnmaa
