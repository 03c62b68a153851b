/- The calculus, part 29: short names for the steps that are taken most often. -/
import Derived.Test.YtfhdclhbdmhnmaaB3
import Derived.Carry
namespace Go.Proofs.Ytfhdclhbdmhnmaa
namespace K
open Go

section
variable {c : Cx} {ops : Array Oper} {l : List Oper} {Q : Exit → Act → World → Prop} {Γ : Ga} {Δ : List D} {r : A} {d s j : Nat} {C' : Code} {o oj : Oper} {b g : Bool} {x y z : Operand}
theorem nt (h : JC c C' Q Γ Δ) : JO c ops [] (Exit.then (C'.wpIn (FW c.rd) 0 c.P Q) Q) Γ Δ := JO.nil (JN.then_n h)
theorem sr {id : Nat} {l : List Oper} (h : JO c l.toArray l (Exit.then (C'.wpIn (FW c.rd) 0 c.P Q) Q) Γ Δ) : JC c (.seq (.region id l.toArray false) C') Q Γ Δ := JC.seq (JC.region h)
theorem sk (h : JC c C' Q Γ Δ) : JC c .skip (Exit.then (C'.wpIn (FW c.rd) 0 c.P Q) Q) Γ Δ := JC.skip (JN.then_n h)
theorem tn (h : JC c C' Q Γ Δ) : JN c (Exit.then (C'.wpIn (FW c.rd) 0 c.P Q) Q .normal) Γ Δ := JN.then_n h
theorem fr (k : Nat) {e : D} (hj : JO c ops l Q Γ (e :: Δ.eraseIdx k)) (h : Δ[k]? = some e := by exact rfl) : JO c ops l Q Γ Δ := JO.front k h hj
section
variable {C1 C2 : Code} {p : Prop} [Decidable p] {α β : Type} {X Y : Option α} {K : α → Option β} {v : β}
theorem ci (h : (if p then X else Y).bind K = some v) (ht : X.bind K = some v → JC c C1 Q Γ Δ) (hf : Y.bind K = some v → JC c C2 Q Γ Δ) (hl : lk Γ s = some (.eq (.bool (decide p))) := by exact rfl) : JC c (.cond (.tmp s) C1 C2) Q Γ Δ := JC.cond hl (fun hb => ht (b_if (d_t hb) h)) (fun hb => hf (b_ifn (d_f hb) h))
theorem cn (h : (if ¬ p then X else Y).bind K = some v) (ht : X.bind K = some v → JC c C1 Q Γ Δ) (hf : Y.bind K = some v → JC c C2 Q Γ Δ) (hl : lk Γ s = some (.eq (.bool (!decide p))) := by exact rfl) : JC c (.cond (.tmp s) C1 C2) Q Γ Δ := JC.cond hl (fun hb => ht (b_if (n_t hb) h)) (fun hb => hf (b_ifn (n_fn hb) h))
theorem cv (h : (if b = true then X else Y).bind K = some v) (ht : X.bind K = some v → JC c C1 Q Γ Δ) (hf : Y.bind K = some v → JC c C2 Q Γ Δ) (hl : lk Γ s = some (.eq (.bool b)) := by exact rfl) : JC c (.cond (.tmp s) C1 C2) Q Γ Δ := JC.cond hl (fun hb => ht (b_if (v_t hb) h)) (fun hb => hf (b_ifn (v_f hb) h))
theorem cw (h : (if ¬ (b = true) then X else Y).bind K = some v) (ht : X.bind K = some v → JC c C1 Q Γ Δ) (hf : Y.bind K = some v → JC c C2 Q Γ Δ) (hl : lk Γ s = some (.eq (.bool (!b))) := by exact rfl) : JC c (.cond (.tmp s) C1 C2) Q Γ Δ := JC.cond hl (fun hb => ht (b_if (nv_t hb) h)) (fun hb => hf (b_ifn (nv_fn hb) h))
end
theorem mq {t : Nat} {ty : TypeId} {pos : String} {af : Array Edge} (h : JO c ops l Q ((d, r) :: Γ) Δ) (hdN : Nat.blt d c.N = true := by exact rfl) (hl : lk Γ t = some r := by exact rfl) : JO c ops (⟨some d, .move (.tmp t), ty, pos, af, none⟩ :: l) Q Γ Δ := JO.mv hdN hl h
theorem aq {t : Nat} {ty : TypeId} {pos : String} {af : Array Edge} (h : JO c ops l Q ((d, r) :: Γ) Δ) (hdN : Nat.blt d c.N = true := by exact rfl) (hl : lk Γ t = some r := by exact rfl) : JO c ops (⟨some d, .assign (.tmp t), ty, pos, af, none⟩ :: l) Q Γ Δ := JO.as hdN hl h
theorem gn (h : JO c ops l Q ((d, .eq undef) :: Γ) Δ) (hg : o.guard = some (j, g) := by exact rfl) (hj : ops[j]? = some oj := by exact rfl) (hs : oj.dst = some s := by exact rfl) (hl : lk Γ s = some (.eq (.bool b)) := by exact rfl) (hb : (b == g) = false := by exact rfl) (hd : o.dst = some d := by exact rfl) (hdN : Nat.blt d c.N = true := by exact rfl) : JO c ops (o :: l) Q Γ Δ := JO.gno hg hj hs hl hb hd hdN h
theorem cq {v : Value} {ty : TypeId} {pos : String} {af : Array Edge} (h : JO c ops l Q ((d, .eq v) :: Γ) Δ) (hdN : Nat.blt d c.N = true := by exact rfl) : JO c ops (⟨some d, .assign (.const v), ty, pos, af, none⟩ :: l) Q Γ Δ := JO.ac hdN h
theorem pf {ty : TypeId} {pos : String} {af : Array Edge} (h : JO c ops l Q ((d, r) :: Γ) Δ) (hdN : Nat.blt d c.N = true := by exact rfl) (hh : Has Γ [(x, .eq (.bool false)), (z, r)] := by exact ⟨rfl, rfl, trivial⟩) : JO c ops (⟨some d, .pick x y z, ty, pos, af, none⟩ :: l) Q Γ Δ := JO.s hdN (o_pick_f rfl) hh h
theorem pt {ty : TypeId} {pos : String} {af : Array Edge} (h : JO c ops l Q ((d, r) :: Γ) Δ) (hdN : Nat.blt d c.N = true := by exact rfl) (hh : Has Γ [(x, .eq (.bool true)), (y, r)] := by exact ⟨rfl, rfl, trivial⟩) : JO c ops (⟨some d, .pick x y z, ty, pos, af, none⟩ :: l) Q Γ Δ := JO.s hdN (o_pick_t rfl) hh h
theorem gm (h : JO c ops l Q ((d, r) :: Γ) Δ) (hg : o.guard = some (j, g) := by exact rfl) (hj : ops[j]? = some oj := by exact rfl) (hs : oj.dst = some s := by exact rfl) (hl : lk Γ s = some (.eq (.bool g)) := by exact rfl) (hd : o.dst = some d := by exact rfl) (hdN : Nat.blt d c.N = true := by exact rfl) (ho : o.op = .move x := by exact rfl) (hh : Has Γ [(x, r)] := by exact ⟨rfl, trivial⟩) : JO c ops (o :: l) Q Γ Δ := JO.g00 hg hj hs hl hd hdN (o_move ho) hh h
theorem ja {N : List (Operand × A)} {op : Op} {ty : TypeId} {pos : String} {af : Array Edge} (ht : OpT c.P ⟨some d, op, ty, pos, af, none⟩ N [] (fun _ : Unit => (r, []))) (h : JO c ops l Q ((d, r) :: Γ) Δ) (hdN : Nat.blt d c.N = true := by exact rfl) (hh : Has Γ N := by exact ⟨rfl, trivial⟩) : JO c ops (⟨some d, op, ty, pos, af, none⟩ :: l) Q Γ Δ := JO.s hdN ht hh h
theorem ka {N : List (Operand × A)} {F : List D} {e e' : D} (ht : OpT c.P o N [e] (fun _ : Unit => (r, [e']))) (h : JO c ops l Q ((d, r) :: Γ) (e' :: F)) (hg : o.guard = none := by exact rfl) (hd : o.dst = some d := by exact rfl) (hdN : Nat.blt d c.N = true := by exact rfl) (hh : Has Γ N := by exact ⟨rfl, trivial⟩) : JO c ops (o :: l) Q Γ (e :: F) := JO.s11 hg hd hdN ht hh h
theorem ga {N : List (Operand × A)} (ht : OpT c.P o N [] (fun _ : Unit => (r, []))) (h : JO c ops l Q ((d, r) :: Γ) Δ) (hg : o.guard = some (j, g) := by exact rfl) (hj : ops[j]? = some oj := by exact rfl) (hs : oj.dst = some s := by exact rfl) (hl : lk Γ s = some (.eq (.bool g)) := by exact rfl) (hd : o.dst = some d := by exact rfl) (hdN : Nat.blt d c.N = true := by exact rfl) (hh : Has Γ N := by exact ⟨rfl, trivial⟩) : JO c ops (o :: l) Q Γ Δ := JO.g00 hg hj hs hl hd hdN ht hh h
theorem jb {N : List (Operand × A)} {op : Op} {ty : TypeId} {pos : String} {af : Array Edge} (ht : OpT c.P ⟨some d, op, ty, pos, af, none⟩ N [] (fun _ : Unit => (r, []))) (h : JO c ops l Q ((d, r) :: Γ) Δ) (hdN : Nat.blt d c.N = true := by exact rfl) (hh : Has Γ N := by exact ⟨rfl, rfl, trivial⟩) : JO c ops (⟨some d, op, ty, pos, af, none⟩ :: l) Q Γ Δ := JO.s hdN ht hh h
theorem kb {N : List (Operand × A)} {F : List D} {e e' : D} (ht : OpT c.P o N [e] (fun _ : Unit => (r, [e']))) (h : JO c ops l Q ((d, r) :: Γ) (e' :: F)) (hg : o.guard = none := by exact rfl) (hd : o.dst = some d := by exact rfl) (hdN : Nat.blt d c.N = true := by exact rfl) (hh : Has Γ N := by exact ⟨rfl, rfl, trivial⟩) : JO c ops (o :: l) Q Γ (e :: F) := JO.s11 hg hd hdN ht hh h
theorem gb {N : List (Operand × A)} (ht : OpT c.P o N [] (fun _ : Unit => (r, []))) (h : JO c ops l Q ((d, r) :: Γ) Δ) (hg : o.guard = some (j, g) := by exact rfl) (hj : ops[j]? = some oj := by exact rfl) (hs : oj.dst = some s := by exact rfl) (hl : lk Γ s = some (.eq (.bool g)) := by exact rfl) (hd : o.dst = some d := by exact rfl) (hdN : Nat.blt d c.N = true := by exact rfl) (hh : Has Γ N := by exact ⟨rfl, rfl, trivial⟩) : JO c ops (o :: l) Q Γ Δ := JO.g00 hg hj hs hl hd hdN ht hh h
theorem jc {N : List (Operand × A)} {op : Op} {ty : TypeId} {pos : String} {af : Array Edge} (ht : OpT c.P ⟨some d, op, ty, pos, af, none⟩ N [] (fun _ : Unit => (r, []))) (h : JO c ops l Q ((d, r) :: Γ) Δ) (hdN : Nat.blt d c.N = true := by exact rfl) (hh : Has Γ N := by exact ⟨rfl, rfl, rfl, trivial⟩) : JO c ops (⟨some d, op, ty, pos, af, none⟩ :: l) Q Γ Δ := JO.s hdN ht hh h
theorem kc {N : List (Operand × A)} {F : List D} {e e' : D} (ht : OpT c.P o N [e] (fun _ : Unit => (r, [e']))) (h : JO c ops l Q ((d, r) :: Γ) (e' :: F)) (hg : o.guard = none := by exact rfl) (hd : o.dst = some d := by exact rfl) (hdN : Nat.blt d c.N = true := by exact rfl) (hh : Has Γ N := by exact ⟨rfl, rfl, rfl, trivial⟩) : JO c ops (o :: l) Q Γ (e :: F) := JO.s11 hg hd hdN ht hh h
theorem gc {N : List (Operand × A)} (ht : OpT c.P o N [] (fun _ : Unit => (r, []))) (h : JO c ops l Q ((d, r) :: Γ) Δ) (hg : o.guard = some (j, g) := by exact rfl) (hj : ops[j]? = some oj := by exact rfl) (hs : oj.dst = some s := by exact rfl) (hl : lk Γ s = some (.eq (.bool g)) := by exact rfl) (hd : o.dst = some d := by exact rfl) (hdN : Nat.blt d c.N = true := by exact rfl) (hh : Has Γ N := by exact ⟨rfl, rfl, rfl, trivial⟩) : JO c ops (o :: l) Q Γ Δ := JO.g00 hg hj hs hl hd hdN ht hh h
end
section
variable {c : Cx} {Q : Exit → Act → World → Prop} {Γ Γ0 : Ga} {Δ : List D} {full l : List Oper} {acc : List DE} {id d j s : Nat} {r : A} {g b m : Bool} {o oj : Oper} {x : Operand}
theorem dg (h : DN c id full Q Γ0 Δ (acc ++ [⟨o, d, [(.tmp s, .eq (.bool b))], .eq undef, none, false, fun _ => []⟩]) l ((d, .eq undef) :: Γ) m) (hg : o.guard = some (j, g) := by exact rfl) (hj : full.toArray[j]? = some oj := by exact rfl) (hs : oj.dst = some s := by exact rfl) (hl : lk Γ s = some (.eq (.bool b)) := by exact rfl) (hb : (b == g) = false := by exact rfl) (hd : o.dst = some d := by exact rfl) (hdN : Nat.blt d c.N = true := by exact rfl) : DN c id full Q Γ0 Δ acc (o :: l) Γ m := DN.sgno hg hj hs hl hb hd hdN h
theorem dm (h : DN c id full Q Γ0 Δ (acc ++ [⟨o, d, [(x, r)], r, none, false, fun _ => []⟩]) l ((d, r) :: Γ) m) (hg : o.guard = none := by exact rfl) (hd : o.dst = some d := by exact rfl) (hdN : Nat.blt d c.N = true := by exact rfl) (ho : o.op = .move x := by exact rfl) (hh : Has Γ [(x, r)] := by exact ⟨rfl, trivial⟩) : DN c id full Q Γ0 Δ acc (o :: l) Γ m := DN.s00 hg hd hdN (o_move ho) hh h
theorem da {N : List (Operand × A)} (ht : OpT c.P o N [] (fun _ : Unit => (r, []))) (h : DN c id full Q Γ0 Δ (acc ++ [⟨o, d, N, r, none, false, fun _ => []⟩]) l ((d, r) :: Γ) m) (hg : o.guard = none := by exact rfl) (hd : o.dst = some d := by exact rfl) (hdN : Nat.blt d c.N = true := by exact rfl) (hh : Has Γ N := by exact ⟨rfl, trivial⟩) : DN c id full Q Γ0 Δ acc (o :: l) Γ m := DN.s00 hg hd hdN ht hh h
theorem ea (k : Nat) {e : D} {N : List (Operand × A)} (ht : OpT c.P o N [e] (fun _ : Unit => (r, [e]))) (h : DN c id full Q Γ0 Δ (acc ++ [⟨o, d, N, r, some (k, false), false, fun _ => []⟩]) l ((d, r) :: Γ) m) (hk : Δ[k]? = some e := by exact rfl) (hg : o.guard = none := by exact rfl) (hd : o.dst = some d := by exact rfl) (hdN : Nat.blt d c.N = true := by exact rfl) (hh : Has Γ N := by exact ⟨rfl, trivial⟩) : DN c id full Q Γ0 Δ acc (o :: l) Γ m := DN.s11 k hk hg hd hdN ht hh h
theorem db {N : List (Operand × A)} (ht : OpT c.P o N [] (fun _ : Unit => (r, []))) (h : DN c id full Q Γ0 Δ (acc ++ [⟨o, d, N, r, none, false, fun _ => []⟩]) l ((d, r) :: Γ) m) (hg : o.guard = none := by exact rfl) (hd : o.dst = some d := by exact rfl) (hdN : Nat.blt d c.N = true := by exact rfl) (hh : Has Γ N := by exact ⟨rfl, rfl, trivial⟩) : DN c id full Q Γ0 Δ acc (o :: l) Γ m := DN.s00 hg hd hdN ht hh h
theorem eb (k : Nat) {e : D} {N : List (Operand × A)} (ht : OpT c.P o N [e] (fun _ : Unit => (r, [e]))) (h : DN c id full Q Γ0 Δ (acc ++ [⟨o, d, N, r, some (k, false), false, fun _ => []⟩]) l ((d, r) :: Γ) m) (hk : Δ[k]? = some e := by exact rfl) (hg : o.guard = none := by exact rfl) (hd : o.dst = some d := by exact rfl) (hdN : Nat.blt d c.N = true := by exact rfl) (hh : Has Γ N := by exact ⟨rfl, rfl, trivial⟩) : DN c id full Q Γ0 Δ acc (o :: l) Γ m := DN.s11 k hk hg hd hdN ht hh h
theorem dc {N : List (Operand × A)} (ht : OpT c.P o N [] (fun _ : Unit => (r, []))) (h : DN c id full Q Γ0 Δ (acc ++ [⟨o, d, N, r, none, false, fun _ => []⟩]) l ((d, r) :: Γ) m) (hg : o.guard = none := by exact rfl) (hd : o.dst = some d := by exact rfl) (hdN : Nat.blt d c.N = true := by exact rfl) (hh : Has Γ N := by exact ⟨rfl, rfl, rfl, trivial⟩) : DN c id full Q Γ0 Δ acc (o :: l) Γ m := DN.s00 hg hd hdN ht hh h
theorem ec (k : Nat) {e : D} {N : List (Operand × A)} (ht : OpT c.P o N [e] (fun _ : Unit => (r, [e]))) (h : DN c id full Q Γ0 Δ (acc ++ [⟨o, d, N, r, some (k, false), false, fun _ => []⟩]) l ((d, r) :: Γ) m) (hk : Δ[k]? = some e := by exact rfl) (hg : o.guard = none := by exact rfl) (hd : o.dst = some d := by exact rfl) (hdN : Nat.blt d c.N = true := by exact rfl) (hh : Has Γ N := by exact ⟨rfl, rfl, rfl, trivial⟩) : DN c id full Q Γ0 Δ acc (o :: l) Γ m := DN.s11 k hk hg hd hdN ht hh h
end
abbrev I (e : Int) : A := .eq (.int .i64 e)
abbrev Pt (b : Nat) : A := .eq (.pointer (some ⟨b, 0, none⟩))
abbrev Ri (l : (Ty.slice (.int .i64)).den) : A := .rep (.slice (.int .i64)) l
section
variable {c : Cx} {ops : Array Oper} {l : List Oper} {Q : Exit → Act → World → Prop} {Γ : Ga} {Δ F : List D} {r : A} {d s j : Nat} {C C' : Code} {o oj : Oper} {b g m : Bool} {x y z : Operand} {T U : TypeId} {M M1 M2 M3 : Act → World → Prop} {id : Nat} {acc : List DE} {full : List Oper} {Γ0 : Ga}
theorem jz {Z : Type} {G : Z → Ga} {E : Z → List D} {p : Z → Prop} (z : Z) (hp : p z) (ks : List Nat) (hs : Sub (G z) Γ := by repeat (first | exact trivial | refine ⟨rfl, ?_⟩)) (hk : pickD Δ ks = some (E z) := by exact rfl) (hn : ks.Nodup := by decide) : JN c (fun a w => ∃ z, p z ∧ St c (G z) (E z) a w) Γ Δ := JN.z z hp (SE.fin ks hs hk hn)
theorem nl (h : JN c M Γ Δ) : JO c ops [] (Exit.then M Q) Γ Δ := JO.nil (JN.then_n h)
theorem xa (h : JN c M3 Γ Δ) : JC c (.exit id) (Exit.then M1 (Exit.then M2 (Exit.inBlock id (Exit.then M3 Q)))) Γ Δ := JC.exit (JN.then_x (JN.then_x (JN.blk_hit (JN.then_n h))))
theorem rx (h : JN c (Q .ret) Γ Δ) : JC c .ret (Exit.then M Q) Γ Δ := JC.ret (JN.then_r h)
theorem br (h : JN c (Q .ret) Γ Δ) : JN c (Exit.inBlock id (Exit.then M (Exit.then M1 Q)) .ret) Γ Δ := JN.blk_r (JN.then_r (JN.then_r h))
theorem bn (h : JN c M Γ Δ) : JN c (Exit.inBlock id (Exit.then M Q) .normal) Γ Δ := JN.blk_n (JN.then_n h)
theorem gu (h : JO c ops l Q ((d, .eq undef) :: Γ) Δ) (hg : o.guard = some (j, g) := by exact rfl) (hj : ops[j]? = some oj := by exact rfl) (hs : oj.dst = some s := by exact rfl) (hl : lk Γ s = some (.eq undef) := by exact rfl) (hd : o.dst = some d := by exact rfl) (hdN : Nat.blt d c.N = true := by exact rfl) : JO c ops (o :: l) Q Γ Δ := JO.gnou hg hj hs hl hd hdN h
theorem du (h : DN c id full Q Γ0 Δ (acc ++ [⟨o, d, [(.tmp s, .eq undef)], .eq undef, none, false, fun _ => []⟩]) l ((d, .eq undef) :: Γ) m) (hg : o.guard = some (j, g) := by exact rfl) (hj : full.toArray[j]? = some oj := by exact rfl) (hs : oj.dst = some s := by exact rfl) (hl : lk Γ s = some (.eq undef) := by exact rfl) (hd : o.dst = some d := by exact rfl) (hdN : Nat.blt d c.N = true := by exact rfl) : DN c id full Q Γ0 Δ acc (o :: l) Γ m := DN.sgnou hg hj hs hl hd hdN h
theorem df (hm : c.P.follows .mixedOrders = true) (h : JO c full.toArray l Q Γ Δ) (hck : chk full acc = true := by kernel_rfl) (ht : m = true := by rfl) : DN c id full Q Γ0 Δ acc l Γ m := DN.fin hck hm h ht
theorem bx (h : ∀ b : Nat, JO c ops l Q ((d, .eq (.pointer (some ⟨b, 0, none⟩))) :: Γ) (.obj b T r :: Δ)) (hg : o.guard = none := by exact rfl) (hd : o.dst = some d := by exact rfl) (hdN : Nat.blt d c.N = true := by exact rfl) (ho : o.op = .box T x := by exact rfl) (hh : Has Γ [(x, r)] := by exact ⟨rfl, trivial⟩) (hs : r.stor := by exact rfl) : JO c ops (o :: l) Q Γ Δ := JO.s01 hg hd hdN (o_box ho hs) hh h
theorem lo {k off n : Nat} {T0 : TypeId} {a0 : A} (ht : SzOk c.P T n b) (h : JO c ops l Q ((d, r) :: Γ) (.obj k T0 a0 :: F)) (hg : o.guard = none := by exact rfl) (hd : o.dst = some d := by exact rfl) (hdN : Nat.blt d c.N = true := by exact rfl) (ho : o.op = .load T x := by exact rfl) (hh : Has Γ [(x, .eq (.pointer (some ⟨k, off, none⟩)))] := by exact ⟨rfl, trivial⟩) (hget : a0.get off n b = some r := by exact rfl) (hn : b = false → n = 1 := by first | exact fun _ => rfl | exact fun h => nomatch h) : JO c ops (o :: l) Q Γ (.obj k T0 a0 :: F) := JO.s11 hg hd hdN (o_load_obj ho ht hn hget) hh h
theorem fl {k off n f : Nat} {ty : TypeId} {pos : String} {af : Array Edge} (hf : FieldOk c.P T f n) (h : JO c ops l Q ((d, .eq (.pointer (some ⟨k, off + n, none⟩))) :: Γ) Δ) (hdN : Nat.blt d c.N = true := by exact rfl) (hh : Has Γ [(x, .eq (.pointer (some ⟨k, off, none⟩)))] := by exact ⟨rfl, trivial⟩) : JO c ops (⟨some d, .fieldAddr T x f, ty, pos, af, none⟩ :: l) Q Γ Δ := JO.s hdN (o_field_obj rfl hf) hh h
theorem xr {i t : Nat} {a0 : A} {ty : TypeId} {pos : String} {af : Array Edge} (h : JO c ops l Q ((d, r) :: Γ) Δ) (hdN : Nat.blt d c.N = true := by exact rfl) (hl : lk Γ t = some (.tup a0) := by exact rfl) (hi : tupGet a0 i = some r := by exact rfl) : JO c ops (⟨some d, .extract (.tmp t) i, ty, pos, af, none⟩ :: l) Q Γ Δ := JO.s hdN (o_extract rfl hi) ⟨hl, trivial⟩ h
theorem ol {t : Ty} {q : List t.den} {e : TypeId} {ty : TypeId} {pos : String} {af : Array Edge} (hT : c.P.underlying T = some (.slice e)) (h : JO c ops l Q ((d, .eq (.int .i64 q.length)) :: Γ) Δ) (hdN : Nat.blt d c.N = true := by exact rfl) (hh : Has Γ [(x, .rep (.slice t) q)] := by exact ⟨rfl, trivial⟩) : JO c ops (⟨some d, .call { callee := .builtin .len, args := #[x], argTypes := #[T] }, ty, pos, af, none⟩ :: l) Q Γ Δ := JO.s hdN (o_len rfl rfl hT) hh h
end
section
variable {P : Program} {S : FS} {w0 : World} {Γ : Ga} {Δ Δ0 : List D} {N : Nat} {fn : Func} {R : Unit → A × List D} {r r' : A}
theorem ra (hr : Res P Γ Δ fn.results.toList [r] := by exact ⟨rfl, trivial⟩) (hR : R () = (resA [r], Δ.take 0) := by exact rfl) : JN ⟨P, N, S, w0, feet Δ0, none, []⟩ (bodyPost P fn (RPost S w0 Δ0 R) .ret) Γ Δ := JN.ret () [_] 0 hr hR
theorem rb (hr : Res P Γ Δ fn.results.toList [r, r'] := by exact ⟨rfl, rfl, trivial⟩) (hR : R () = (resA [r, r'], Δ.take 0) := by exact rfl) : JN ⟨P, N, S, w0, feet Δ0, none, []⟩ (bodyPost P fn (RPost S w0 Δ0 R) .ret) Γ Δ := JN.ret () [_, _] 0 hr hR
end
end K
end Go.Proofs.Ytfhdclhbdmhnmaa

/- The calculus, part 30: from a contract to the given statement: arguments of any plain type; the answer true; no goroutine is started. -/
namespace Go.Proofs.Ytfhdclhbdmhnmaa
namespace K
open Go Go.ChangeShapes Go.WideShapes Go.ChangeAt Go.RowKit

/-- A type of the program, or a row of fields from a place on, is laid out as a type of the calculus. -/
def MT (P : Program) : Ty → TypeId ⊕ (List Field × Nat) → Prop
 | .int k, .inl T => P.underlying T = some (.int k)
 | .bool, .inl T => P.underlying T = some .bool
 | .slice t, .inl T => ∃ e, P.underlying T = some (.slice e) ∧ P.cellsOf e = t.cells ∧ MT P t (.inl e)
 | .agg t, .inl T => ∃ fs : Array Field, P.underlying T = some (.struct fs) ∧ P.cellsOf T = t.cells ∧ MT P t (.inr (fs.toList, 0))
 | .pair t u, .inr (f :: fs, off) => f.offset = off ∧ P.cellsOf f.type = t.cells ∧ MT P t (.inl f.type) ∧
  ((∃ g, fs = [g] ∧ g.offset = off + t.cells ∧ P.cellsOf g.type = u.cells ∧ MT P u (.inl g.type)) ∨ MT P u (.inr (fs, off + t.cells)))
 | _, _ => False

theorem MT.pos {P : Program} : ∀ (t : Ty) {s : TypeId ⊕ (List Field × Nat)}, MT P t s → 0 < t.cells
 | .int _, _, _ => by simp [Ty.cells]
 | .bool, _, _ => by simp [Ty.cells]
 | .slice _, _, _ => by simp [Ty.cells]
 | .agg t, .inl T, ⟨_, _, _, h⟩ => MT.pos t h
 | .pair t u, .inr (f :: fs, off), ⟨_, _, h, _⟩ => by have := MT.pos t h; simp only [Ty.cells]; omega
 | .agg _, .inr _, h => h.elim
 | .pair _ _, .inl _, h => h.elim
 | .pair _ _, .inr ([], _), h => h.elim
 | .val, .inl _, h => h.elim
 | .val, .inr _, h => h.elim
 | .arr _ _, .inl _, h => h.elim
 | .arr _ _, .inr _, h => h.elim
 | .ptr _, .inl _, h => h.elim
 | .ptr _, .inr _, h => h.elim
 | .tag _ _, .inl _, h => h.elim
 | .tag _ _, .inr _, h => h.elim
 | .ign, .inl _, h => h.elim
 | .ign, .inr _, h => h.elim
 | .alt _, .inl _, h => h.elim
 | .alt _, .inr _, h => h.elim

theorem add_mk {b off i : Nat} : Addr.add ⟨b, off, none⟩ i = ⟨b, off + i, none⟩ := by
 unfold Addr.add;by_cases h : i = 0
 ·subst h; simp
 ·simp [h]
theorem add_inv {a : Addr} {b off i : Nat} (h : a.add (0 * i) = ⟨b, off, none⟩) : a = ⟨b, off, none⟩ := by
 unfold Addr.add at h;rwa [if_pos (Nat.zero_mul i)] at h

/-- Cells that are read stand in a row. -/
theorem cells_row {W : World} {base n : Nat} {a : Addr} {row : List Value} (hn : 0 < n) (h : W.cells? base a n = some row) :
 ∃ b off c T fz, a = ⟨b, off, none⟩ ∧ W.heap[b]? = some (.cells c T fz) ∧ row = (c.toList.drop off).take n := by
 unfold World.cells? at h;split at h
 ·have hl := mapM_some_length h;have hg := mapM_some_get h;rw [List.length_range] at hl;have h0 := hg 0 0 (by simp [hn]);obtain ⟨b, off, sp⟩ := a;rw [List.getElem?_eq_getElem (by omega)] at h0;unfold World.cell? at h0;split at h0
  ·rename_i c T fz hb;split at h0
   ·cases h0
   rename_i hsp
   have hsp' : sp = none := by cases sp with
    | none => rfl
    | some x => simp [Addr.add] at hsp
   subst hsp';have hb' : W.heap[b]? = some (.cells c T fz) := hb;refine ⟨b, off, c, T, fz, rfl, hb', ?_⟩;apply List.ext_getElem?;intro i;by_cases hi : i < n
   ·have := hg i i (by simp [hi]);rw [← this, List.getElem?_take, if_pos hi, List.getElem?_drop, Array.getElem?_toList];rw [add_mk];simp [World.cell?, hb']
   ·rw [List.getElem?_take, if_neg hi, List.getElem?_eq_none (by omega)]
  ·cases h0
 ·cases h

theorem rows_of {α : Type} {R : α → List Value → Prop} {m : Nat} {cl : List Value} : ∀ {len off : Nat}, (∀ i, i < len → ∃ d, R d ((cl.drop (off + i * m)).take m)) → ∃ l : List α, l.length = len ∧ rdAll R l ((cl.drop off).take (len * m))
 | 0, _, _ => ⟨[], rfl, by simp [rdAll]⟩
 | len + 1, off, h => by
  obtain ⟨d, hd⟩ := h 0 (by omega)
  obtain ⟨l, hl, hr⟩ := rows_of (R := R) (m := m) (cl := cl) (len := len) (off := off + m) (fun i hi => by
   have := h (i + 1) (by omega)
   rwa [Nat.succ_mul, show off + (i * m + m) = off + m + i * m from by omega] at this)
  refine ⟨d :: l, by simp [hl], _, _, ?_, hd, hr⟩
  rw [Nat.succ_mul, Nat.add_comm (len * m) m, List.take_add, List.drop_drop]
  simp

section
variable {H : Type} {enc : TypeId × Value → H} {P : Program}

/-- **What is read of an argument is a datum of the calculus.** -/
theorem rd_of_trod {W : World} {S : FS} : ∀ (t : Ty),
 (∀ T fuel cs (x : DataW H × List MemPlace), MT P t (.inl T) → DataW.trod enc P W 0 (fun _ => true) true fuel T cs = some x → (∀ p ∈ x.2, S p.block) → ∃ d : t.den, rd S W t d cs) ∧
 (∀ (fs : List Field) (off n : Nat) (cs : List Value) (xs : List (DataW H × List MemPlace)), MT P t (.inr (fs, off)) → cs.length = off + t.cells → xs.length = fs.length →
  (∀ (i : Nat) f, fs[i]? = some f → DataW.trod enc P W 0 (fun _ => true) true n f.type ((cs.drop f.offset).take (P.cellsOf f.type)) = xs[i]?) → (∀ y ∈ xs, ∀ p ∈ y.2, S p.block) → ∃ d : t.den, rd S W t d (cs.drop off)) := by
 intro t
 induction t with
 | int k =>
  refine ⟨fun T fuel cs x hm h _ => ?_, fun fs off n cs xs hm => by cases fs <;> exact hm.elim⟩;obtain ⟨n, rfl, _, _⟩ := DataW.trod_int hm h;exact ⟨n, rfl⟩
 | bool =>
  refine ⟨fun T fuel cs x hm h _ => ?_, fun fs off n cs xs hm => by cases fs <;> exact hm.elim⟩;obtain ⟨n, rfl, _⟩ := DataW.trod_bool hm h;exact ⟨n, rfl⟩
 | slice t ih =>
  refine ⟨fun T fuel cs x hm h hS => ?_, fun fs off n cs xs hm => by cases fs <;> exact hm.elim⟩;obtain ⟨e, he, hce, hme⟩ := hm;have hpos := MT.pos t hme;rcases DataW.trod_slice he h with ⟨rfl, _⟩ | ⟨a, len, cap, elems, rest, n, _, rfl, rfl, _, hl, _, hlen, hel, _, _⟩
  ·exact ⟨[], .inl ⟨none, 0, rfl, rfl⟩⟩
  ·cases len with
   | zero => exact ⟨[], .inl ⟨some a, cap, rfl, rfl⟩⟩
   | succ len =>
    rw [hce] at hel
    have row : ∀ i, i < len + 1 → ∃ r y, W.cells? 0 (a.add (i * t.cells)) t.cells = some r ∧ DataW.trod enc P W 0 (fun _ => true) true n e r = some y ∧ y ∈ elems := fun i hi => by
     have := hel i hi;rw [List.getElem?_eq_getElem (by omega)] at this;obtain ⟨r, e1, e2⟩ := Option.bind_eq_some_iff.1 this;exact ⟨r, _, e1, e2, List.getElem_mem _⟩
    obtain ⟨r0, y0, e0, _, _⟩ := row 0 (by omega);obtain ⟨b, off, c, T', fz, ha, hb, _⟩ := cells_row hpos e0;have ha' := add_inv ha;subst ha'
    obtain ⟨l, hl1, hl2⟩ := rows_of (R := rd S W t) (m := t.cells) (cl := c.toList) (len := len + 1) (off := off) (fun i hi => by
     obtain ⟨r, y, e1, e2, hy⟩ := row i hi;obtain ⟨b', off', c', T2, fz', ha2, hb2, hr⟩ := cells_row hpos e1;rw [add_mk, Addr.mk.injEq] at ha2;obtain ⟨rfl, rfl, _⟩ := ha2;rw [hb] at hb2;cases hb2;subst hr;exact ih.1 e n _ y hme e2 (fun p hp => hS p (List.mem_append.2 (.inr (List.mem_flatMap.2 ⟨y, List.mem_append.2 (.inl hy), hp⟩)))))
    refine ⟨l, .inr ⟨b, off, cap, c, T', fz, by rw [hl1], by rw [hl1]; exact hl, ?_, hb, by rw [hl1]; exact hl2⟩⟩;have := hS (.cell b (off + 0)) (List.mem_append.2 (.inl (MemPlace.mem_row.2 ⟨0, Nat.mul_pos (by omega) (by omega), rfl⟩)));exact this
 | agg t ih =>
  refine ⟨fun T fuel cs x hm h hS => ?_, fun fs off n cs xs hm => by cases fs <;> exact hm.elim⟩;obtain ⟨fs, hf, hc, hmf⟩ := hm;obtain ⟨xs, n, _, rfl, hl, hxl, hx⟩ := DataW.trod_struct hf h;obtain ⟨d, hd⟩ := ih.2 fs.toList 0 n cs xs hmf (by omega) (by simpa using hxl) (fun i f hi => hx i f (by simpa using hi)) (fun y hy p hp => hS p (List.mem_flatMap.2 ⟨y, hy, hp⟩));exact ⟨d, by simpa [rd] using hd⟩
 | pair t u iht ihu =>
  refine ⟨fun T fuel cs x hm => hm.elim, fun fs off n cs xs hm hl hxl hx hS => ?_⟩;cases fs with
  | nil => exact hm.elim
  | cons f fs =>
   obtain ⟨h1, h2, h3, h4⟩ := hm;simp only [Ty.cells] at hl;cases xs with
   | nil => simp at hxl
   | cons y ys =>
    have e0 := hx 0 f rfl;rw [h1, h2] at e0;obtain ⟨d1, hd1⟩ := iht.1 f.type n _ y h3 e0 (hS y (by simp))
    have hrest : ∃ d : u.den, rd S W u d (cs.drop (off + t.cells)) := by
     rcases h4 with ⟨g, rfl, g1, g2, g3⟩ | h4
     ·cases ys with
      | nil => simp at hxl
      | cons z zs =>
       have e1 := hx 1 g rfl;rw [g1, g2] at e1;obtain ⟨d2, hd2⟩ := ihu.1 g.type n _ z g3 e1 (hS z (by simp));rw [List.take_of_length_le (by rw [List.length_drop]; omega)] at hd2;exact ⟨d2, hd2⟩
     ·exact ihu.2 fs (off + t.cells) n cs ys h4 (by omega) (by simpa using hxl) (fun i g hi => hx (i + 1) g hi) (fun z hz => hS z (by simp [hz]))
    obtain ⟨d2, hd2⟩ := hrest;refine ⟨(d1, d2), _, _, ?_, hd1, hd2⟩;rw [← List.drop_drop, List.take_append_drop]
 | val => exact ⟨fun T fuel cs x hm => hm.elim, fun fs off n cs xs hm => by cases fs <;> exact hm.elim⟩
 | arr _ _ _ => exact ⟨fun T fuel cs x hm => hm.elim, fun fs off n cs xs hm => by cases fs <;> exact hm.elim⟩
 | ptr _ _ => exact ⟨fun T fuel cs x hm => hm.elim, fun fs off n cs xs hm => by cases fs <;> exact hm.elim⟩
 | tag _ _ => exact ⟨fun T fuel cs x hm => hm.elim, fun fs off n cs xs hm => by cases fs <;> exact hm.elim⟩
 | ign => exact ⟨fun T fuel cs x hm => hm.elim, fun fs off n cs xs hm => by cases fs <;> exact hm.elim⟩
 | alt _ _ => exact ⟨fun T fuel cs x hm => hm.elim, fun fs off n cs xs hm => by cases fs <;> exact hm.elim⟩

theorem holds_of {W : World} {S : FS} {base : Nat} {t : Ty} {T : TypeId} {v : Value} {d : t.den} (hm : MT P t (.inl T)) (hv : Value.okWide P W .any base T v) (h : rd S W t d v.cells.toList) : (A.rep t d).holds S W v := by
 refine ⟨_, h, ?_⟩;cases t with
 | int k => obtain ⟨n, rfl⟩ := okWide_int hm hv; rfl
 | bool => obtain ⟨n, rfl⟩ := okWide_bool hm hv; rfl
 | slice t => obtain ⟨e, he, _⟩ := hm; obtain ⟨a, l, c, rfl⟩ := okWide_slice he hv; rfl
 | agg t => obtain ⟨fs, hf, _⟩ := hm; obtain ⟨cs, rfl, _⟩ := okWide_struct hf hv; simp [mk, Ty.isAgg, Value.cells]
 | val => exact hm.elim
 | pair _ _ => exact hm.elim
 | arr _ _ => exact hm.elim
 | ptr _ => exact hm.elim
 | tag _ _ => exact hm.elim
 | ign => exact hm.elim
 | alt _ => exact hm.elim

theorem trod_len {W : World} {sp : Nat → Bool} : ∀ {ts : List TypeId} {vs : List Value} {ds : List (DataW H)} {ps : List MemPlace}, DataW.TrodAll enc P W 0 sp true ts vs ds ps → ds.length = ts.length
 | [], [], [], _, _ => rfl
 | _ :: _, _ :: _, _ :: _, _, h => by
  obtain ⟨q, r, h1, h2, _⟩ := h
  simp [trod_len h2]
 | [], _ :: _, _, _, h => h.elim
 | [], [], _ :: _, _, h => h.elim
 | _ :: _, [], _, _, h => h.elim
 | _ :: _, _ :: _, [], _, h => h.elim

def Lk : List (TypeId × Ty) → List A → Prop
 | [], as => as = []
 | p :: l, as => ∃ d as', as = .rep p.2 d :: as' ∧ Lk l as'

theorem all2_of {W : World} {S : FS} {base : Nat} : ∀ {ts : List (TypeId × Ty)} {vs : List Value} {ds : List (DataW H)} {ps : List MemPlace}, (∀ p ∈ ts, MT P p.2 (.inl p.1)) → (∀ (j : Nat) t v, (ts.map (·.1))[j]? = some t → vs[j]? = some v → Value.okWide P W .any base t v) →
 DataW.TrodAll enc P W 0 (fun _ => true) true (ts.map (·.1)) vs ds ps → (∀ p ∈ ps, S p.block) → ∃ as, Lk ts as ∧ All2 S W as vs
 | [], [], [], _, _, _, _, _ => ⟨[], rfl, rfl⟩
 | p :: ts, v :: vs, d :: ds, ps, hm, hv, h, hS => by
  obtain ⟨q, r, ⟨fuel, h1⟩, h2, rfl⟩ := h
  obtain ⟨a, ha⟩ := (rd_of_trod p.2).1 p.1 fuel _ _ (hm p (by simp)) h1 (fun x hx => hS x (List.mem_append.2 (.inl hx)))
  obtain ⟨as, hl, h3⟩ := all2_of (ts := ts) (fun x hx => hm x (by simp [hx])) (fun j t w h h' => hv (j + 1) t w h h') h2 (fun x hx => hS x (List.mem_append.2 (.inr hx)))
  exact ⟨.rep p.2 a :: as, ⟨a, as, rfl, hl⟩, v, vs, rfl, holds_of (hm p (by simp)) (hv 0 _ _ rfl rfl) ha, h3⟩
 | [], _ :: _, _, _, _, _, h, _ => h.elim
 | [], [], _ :: _, _, _, _, h, _ => h.elim
 | _ :: _, [], _, _, _, _, h, _ => h.elim
 | _ :: _, _ :: _, [], _, _, _, h, _ => h.elim

theorem again_of (laid : laidOutB P = true) {W W' : World} {sp : Nat → Bool} (hk : ∀ b, b < W.heap.size → W'.heap[b]? = W.heap[b]?) : ∀ {ts : List TypeId} {vs : List Value} {ds : List (DataW H)} {ps : List MemPlace}, (∀ T ∈ ts, P.readableRec T = true ∧ T < P.types.size) →
 DataW.TrodAll enc P W 0 (fun _ => true) true ts vs ds ps → (∀ p ∈ ps, p.block < W.heap.size ∧ sp p.block = true) → DataW.TrodAll enc P W' 0 sp true ts vs ds ps
 | [], [], [], _, _, h, _ => h
 | T :: ts, v :: vs, d :: ds, ps, hT, h, hp => by
  obtain ⟨q, r, h1, h2, rfl⟩ := h
  obtain ⟨t1, t2⟩ := hT T (by simp)
  refine ⟨q, r, WideElems.Trod_stays laid t1 t2 h1 (fun p hq => ?_) (fun p hq => (hp p (List.mem_append.2 (.inl hq))).2), again_of laid hk (fun x hx => hT x (by simp [hx])) h2 (fun p hq => hp p (List.mem_append.2 (.inr hq))), rfl⟩
  have hb := hk _ (hp p (List.mem_append.2 (.inl hq))).1
  cases p with
  | cell b off => have hb : W'.heap[b]? = W.heap[b]? := hb; simp only [World.sameAt, World.cell?, hb]
  | map b => exact hb
 | [], _ :: _, _, _, _, h, _ => h.elim
 | [], [], _ :: _, _, _, h, _ => h.elim
 | _ :: _, [], _, _, _, h, _ => h.elim
 | _ :: _, _ :: _, [], _, _, h, _ => h.elim

/-- **From a contract to what the row asks of a call: arguments of any plain type.** -/
theorem close_all {f : Nat} {fn : Func} {B : TypeId} {s : ChangeSpec} (ts : List (TypeId × Ty)) (hp : fn.params.toList = ts.map (·.1)) (hr : fn.resultTypes = #[B]) (hB : P.underlying B = some .bool)
 (hm : ∀ p ∈ ts, MT P p.2 (.inl p.1)) (laid : laidOutB P = true) (hT : ∀ T ∈ ts.map (·.1), P.readableRec T = true ∧ T < P.types.size)
 (hs : ∀ ds : List (DataW H), ds.length = ts.length → s.fn H ds = { results := [.lit (.bool true)], args := ds }) (hv : s.vars = [])
 (law : ∀ as, Lk ts as → Ctr P f as [] (fun _ : Unit => (resA [.eq (.bool true)], [])))
 (W : World) (base : Nat) (args : Array Value) (ds gs : List (DataW H)) (before : List MemPlace)
 (hval : ∀ (j : Nat) t v, fn.params[j]? = some t → args[j]? = some v → Value.okWide P W .any base t v)
 (hW : DataW.Whole enc P fn.params.toList s.vars false W args.toList ds gs before) :
 Calls P f args W fun e W' => ∃ v, e = .returned v ∧ s.post enc P fn false true false false W args v W' := by
 have hW' := hW;obtain ⟨p, q, hA, hV, rfl, _, _⟩ := hW;rw [hv] at hV;obtain ⟨rfl, rfl⟩ := trodVars_none hV;have hlt : ∀ x ∈ p, x.block < W.heap.size := hA.lt;have hlen := trod_len hA;rw [hp, List.length_map] at hlen;rw [hp] at hA;obtain ⟨as, hL, h2⟩ := all2_of (S := fun b => b < W.heap.size) (base := base) hm (fun j t v h1 h2 => hval j t v (by rw [← hp] at h1; simpa using h1) (by simpa using h2)) hA hlt;have := law as hL (fun b => b < W.heap.size) W args.toList (fun _ h => h) h2 owns_nil;rw [Array.toArray_toList] at this;refine this.mono ?_;rintro e' W' ⟨_, S', v, rfl, h1, h2, _, _⟩;obtain rfl : v = .bool true := h2;obtain ⟨k1, k2⟩ := step_kept (may := (· ∈ p ++ [])) h1;have hk : ∀ b, b < W.heap.size → W'.heap[b]? = W.heap[b]? := fun b hb => h1.keep b hb (fun hx => feet_nil hx);refine ⟨_, rfl, post_new (pa := p) (pv := []) hW' (fun _ _ _ => ?_) (fun sp hsp => ?_) (fun _ _ => ?_) rfl k1 k2 (ok_one hr rfl (okWide_bool_mk hB _))⟩
 ·rw [hr, List.append_nil, hs ds hlen]; exact trodAll_mk1 (shut_bool hB _)
 ·rw [hp, List.append_nil, hs ds hlen]; exact again_of laid hk hT hA (fun x hx => ⟨hlt x hx, hsp x (by simpa using hx)⟩)
 ·rw [hv, List.append_nil, hs ds hlen]; rfl
end
end K
end Go.Proofs.Ytfhdclhbdmhnmaa

/- The calculus, part 31: an own list of own slices of numbers. -/
namespace Go.Proofs.Ytfhdclhbdmhnmaa
namespace K
open Go

/-- The resources of the slices of a list, at the values vs, and these values. -/
def owF (vs : Nat → Value) : Nat → List (List Int) → List D
 | _, [] => []
 | j, l :: ls => .sl (vs j) 3 (.int .i64) l :: owF vs (j + 1) ls
def vlF (vs : Nat → Value) : Nat → List (List Int) → List Value
 | _, [] => []
 | j, _ :: ls => vs j :: vlF vs (j + 1) ls
def setV (vs : Nat → Value) (i : Nat) (v : Value) : Nat → Value := fun j => if j = i then v else vs j

theorem vlF_len {vs : Nat → Value} : ∀ {ls : List (List Int)} {j : Nat}, (vlF vs j ls).length = ls.length
 | [], _ => rfl
 | _ :: ls, _ => by rw [vlF, List.length_cons, vlF_len, List.length_cons]
theorem owF_len {vs : Nat → Value} : ∀ {ls : List (List Int)} {j : Nat}, (owF vs j ls).length = ls.length
 | [], _ => rfl
 | _ :: ls, _ => by rw [owF, List.length_cons, owF_len, List.length_cons]
theorem vlF_get {vs : Nat → Value} : ∀ {ls : List (List Int)} {j i : Nat}, (vlF vs j ls)[i]? = (ls[i]?).map fun _ => vs (j + i)
 | [], _, _ => by simp [vlF]
 | _ :: ls, j, 0 => by simp [vlF]
 | _ :: ls, j, i + 1 => by
  rw [vlF, List.getElem?_cons_succ, List.getElem?_cons_succ, vlF_get, show j + 1 + i = j + (i + 1) by omega]
theorem owF_get {vs : Nat → Value} : ∀ {ls : List (List Int)} {j i : Nat}, (owF vs j ls)[i]? = (ls[i]?).map fun x => D.sl (vs (j + i)) 3 (.int .i64) x
 | [], _, _ => by simp [owF]
 | _ :: ls, j, 0 => by simp [owF]
 | _ :: ls, j, i + 1 => by
  rw [owF, List.getElem?_cons_succ, List.getElem?_cons_succ, owF_get, show j + 1 + i = j + (i + 1) by omega]
theorem owF_drop {vs : Nat → Value} {ls : List (List Int)} {i : Nat} {x : List Int} (h : ls[i]? = some x) : owF vs i (ls.drop i) = .sl (vs i) 3 (.int .i64) x :: owF vs (i + 1) (ls.drop (i + 1)) := by
 obtain ⟨hi, rfl⟩ := List.getElem?_eq_some_iff.1 h;rw [List.drop_eq_getElem_cons hi, owF]

theorem vlF_snoc {vs : Nat → Value} {v : Value} {ls : List (List Int)} {l : List Int} : vlF (setV vs ls.length v) 0 (ls ++ [l]) = vlF vs 0 ls ++ [v] := by
 apply List.ext_getElem?;intro i;rw [vlF_get, Nat.zero_add];rcases Nat.lt_trichotomy i ls.length with h | h | h
 ·rw [List.getElem?_append_left h, List.getElem?_append_left (by rw [vlF_len]; exact h), vlF_get, Nat.zero_add, List.getElem?_eq_getElem h];simp only [Option.map_some, setV];rw [if_neg (by omega)]
 ·subst h;rw [List.getElem?_append_right (Nat.le_refl _), List.getElem?_append_right (by rw [vlF_len]; exact Nat.le_refl _), vlF_len, Nat.sub_self];simp [setV]
 ·rw [List.getElem?_eq_none (by simp; omega), List.getElem?_eq_none (by simp [vlF_len]; omega)]; rfl
theorem owF_snoc {vs : Nat → Value} {v : Value} {ls : List (List Int)} {l : List Int} : owF (setV vs ls.length v) 0 (ls ++ [l]) = owF vs 0 ls ++ [.sl v 3 (.int .i64) l] := by
 apply List.ext_getElem?;intro i;rw [owF_get, Nat.zero_add];rcases Nat.lt_trichotomy i ls.length with h | h | h
 ·rw [List.getElem?_append_left h, List.getElem?_append_left (by rw [owF_len]; exact h), owF_get, Nat.zero_add, List.getElem?_eq_getElem h];simp only [Option.map_some, setV];rw [if_neg (by omega)]
 ·subst h;rw [List.getElem?_append_right (Nat.le_refl _), List.getElem?_append_right (by rw [owF_len]; exact Nat.le_refl _), owF_len, Nat.sub_self];simp [setV]
 ·rw [List.getElem?_eq_none (by simp; omega), List.getElem?_eq_none (by simp [owF_len]; omega)]; rfl

/-- Two elements change their places. -/
abbrev swpV (vs : Nat → Value) (a b : Nat) : Nat → Value := setV (setV vs a (vs b)) b (vs a)
theorem vlF_swap {vs : Nat → Value} {ls : List (List Int)} {a b : Nat} {x y : List Int} (ha : ls[a]? = some x) (hb : ls[b]? = some y) (hab : a ≠ b) : vlF (swpV vs a b) 0 ((ls.set a y).set b x) = ((vlF vs 0 ls).set a (vs b)).set b (vs a) := by
 apply List.ext_getElem?;intro i;have hal := (List.getElem?_eq_some_iff.1 ha).1;have hbl := (List.getElem?_eq_some_iff.1 hb).1;rw [vlF_get, Nat.zero_add, List.getElem?_set, List.getElem?_set, List.getElem?_set, List.getElem?_set, List.length_set, List.length_set, vlF_len, vlF_get, Nat.zero_add];unfold swpV setV;by_cases e1 : b = i
 ·subst e1;simp [hbl]
 ·rw [if_neg e1, if_neg e1];by_cases e2 : a = i
  ·subst e2;simp [hal, hab]
  ·rw [if_neg e2, if_neg e2];have n1 : ¬ i = b := fun e => e1 e.symm;have n2 : ¬ i = a := fun e => e2 e.symm;simp [n1, n2]
theorem set_perm {L : List D} {a : Nat} {y : D} (h : a < L.length) : (L.set a y).Perm (y :: L.eraseIdx a) := by
 have := perm_front (Δ := L.set a y) a y (by rw [List.getElem?_set]; simp [h]);rw [List.eraseIdx_set_eq] at this;exact this
theorem swap_perm {L : List D} {a b : Nat} {x y : D} (ha : L[a]? = some x) (hb : L[b]? = some y) (hab : a ≠ b) : ((L.set a y).set b x).Perm L := by
 have hal := (List.getElem?_eq_some_iff.1 ha).1;have hbl := (List.getElem?_eq_some_iff.1 hb).1;have h1 : ((L.set a y).set b x).Perm (x :: (L.set a y).eraseIdx b) := set_perm (by simpa using hbl);have h2 := perm_front (Δ := L.set a y) b y (by rw [List.getElem?_set, if_neg hab]; exact hb);have h3 : (L.set a y).Perm (y :: L.eraseIdx a) := set_perm hal;have h4 : ((L.set a y).eraseIdx b).Perm (L.eraseIdx a) := List.Perm.cons_inv (h2.symm.trans h3);exact (h1.trans (h4.cons x)).trans (perm_front a x ha).symm
theorem owF_swap {vs : Nat → Value} {ls : List (List Int)} {a b : Nat} {x y : List Int} (ha : ls[a]? = some x) (hb : ls[b]? = some y) (hab : a ≠ b) : (owF (swpV vs a b) 0 ((ls.set a y).set b x)).Perm (owF vs 0 ls) := by
 have e : owF (swpV vs a b) 0 ((ls.set a y).set b x) = ((owF vs 0 ls).set a (.sl (vs b) 3 (.int .i64) y)).set b (.sl (vs a) 3 (.int .i64) x) := by
  apply List.ext_getElem?;intro i;have hal := (List.getElem?_eq_some_iff.1 ha).1;have hbl := (List.getElem?_eq_some_iff.1 hb).1;rw [owF_get, Nat.zero_add, List.getElem?_set, List.getElem?_set, List.getElem?_set, List.getElem?_set, List.length_set, List.length_set, owF_len, owF_get, Nat.zero_add];unfold swpV setV;by_cases e1 : b = i
  ·subst e1;simp [hbl]
  ·rw [if_neg e1, if_neg e1];by_cases e2 : a = i
   ·subst e2;simp [hal, hab]
   ·rw [if_neg e2, if_neg e2];have n1 : ¬ i = b := fun e => e1 e.symm;have n2 : ¬ i = a := fun e => e2 e.symm;simp [n1, n2]
 rw [e];refine swap_perm ?_ ?_ hab
 ·rw [owF_get, ha, Nat.zero_add]; rfl
 ·rw [owF_get, hb, Nat.zero_add]; rfl
/-- Two elements of the list come to the front. -/
theorem owF_two {vs : Nat → Value} {ls : List (List Int)} {a b : Nat} {x y : List Int} (ha : ls[a]? = some x) (hb : ls[b]? = some y) (hab : a ≠ b) : ∃ rest, (owF vs 0 ls).Perm (.sl (vs a) 3 (.int .i64) x :: .sl (vs b) 3 (.int .i64) y :: rest) := by
 have h1 := perm_front (Δ := owF vs 0 ls) a (.sl (vs a) 3 (.int .i64) x) (by rw [owF_get, ha, Nat.zero_add]; rfl);have hb' : (owF vs 0 ls)[b]? = some (D.sl (vs b) 3 (.int .i64) y) := by rw [owF_get, hb, Nat.zero_add]; rfl
 obtain ⟨j, hj⟩ : ∃ j, ((owF vs 0 ls).eraseIdx a)[j]? = some (D.sl (vs b) 3 (.int .i64) y) := by
  by_cases h : b < a
  ·exact ⟨b, by rw [List.getElem?_eraseIdx, if_pos h]; exact hb'⟩
  ·exact ⟨b - 1, by rw [List.getElem?_eraseIdx, if_neg (by omega), show b - 1 + 1 = b by omega]; exact hb'⟩
 exact ⟨_, h1.trans ((perm_front j _ hj).cons _)⟩

section
variable {c : Cx} {ops : Array Oper} {l : List Oper} {Q : Exit → Act → World → Prop} {Γ Γ' : Ga} {Δ Δ' F : List D}

/-- The resources in another order, and some of them left. -/
theorem SE.pf {junk : List D} (hs : Sub Γ' Γ) (hp : Δ.Perm (Δ' ++ junk)) : SE c Γ Δ Γ' Δ' := fun a w h => by
 obtain ⟨h1, h2, S, h3, h4, h5, h6⟩ := h.perm hp
 have hm : ∀ d ∈ Δ', d ∈ Δ' ++ junk := fun d hd => List.mem_append.2 (.inl hd)
 exact ⟨h1, h2, S, h3, fun b ⟨d, hd, e⟩ => h4 b ⟨d, hm d hd, e⟩, ⟨fun d hd => h5.holds d (hm d hd), fun b ⟨d, hd, e⟩ => h5.own b ⟨d, hm d hd, e⟩, (List.pairwise_append.1 h5.apart).1⟩, fun s r hl => h6 s r (hs.lk hl)⟩
theorem SE.pp (hp : Δ.Perm Δ') : SE c Γ Δ Γ Δ' := fun _ _ h => h.perm hp

theorem vl_rd {S S' : FS} {w : World} {vs : Nat → Value} (hSS : ∀ b, S b → S' b) : ∀ {ls : List (List Int)} {j : Nat} {cs : List Value}, (∀ d ∈ owF vs j ls, d.holds S w ∧ ∀ b, d.foot = some b → S' b) → rdAll (rd S w .val) (vlF vs j ls) cs → rdAll (rd S' w (.slice (.int .i64))) ls cs
 | [], _, _, _, h => h
 | l :: ls, j, cs, hd, h => by
  obtain ⟨c1, c2, rfl, ⟨rfl, _⟩, h2⟩ := h
  refine ⟨[vs j], c2, rfl, ?_, vl_rd hSS (fun d hm => hd d (List.mem_cons_of_mem _ hm)) h2⟩
  obtain ⟨g1, g2⟩ := hd _ (List.mem_cons_self ..)
  rcases g1 with ⟨e, rfl⟩ | ⟨b, cap, cc, e, q1, q1', q2, q3, q4⟩
  ·
   rw [e]; exact .inl ⟨none, 0, rfl, rfl⟩
  ·
   have hb : S' b := g2 b (by rw [D.foot, e]; rfl)
   rw [e]
   refine .inr ⟨b, 0, cap, cc, 3, (0, 0), rfl, q1, hb, q2, ?_⟩
   rw [List.drop_zero]
   exact rdAll_mono (fun _ _ h => rd_mono hSS (fun _ _ => rfl) (.int .i64) h) q4

/-- **The list and all of its slices are frozen.** -/
theorem SE.frzAll {z : Value} {vs : Nat → Value} {ls : List (List Int)} {T : TypeId} : SE c Γ (.sl z T .val (vlF vs 0 ls) :: (owF vs 0 ls ++ F)) Γ (.sl z T (.slice (.int .i64)) ls :: F) := fun a w h => by
 obtain ⟨h1, h2, S, h3, h4, h5, h6⟩ := h
 have hK : Keep S w w := fun _ _ => rfl
 have hp := List.pairwise_cons.1 h5.apart
 obtain ⟨pO, pF, pOF⟩ := List.pairwise_append.1 hp.2
 have hmO : ∀ d ∈ owF vs 0 ls, d ∈ D.sl z T .val (vlF vs 0 ls) :: (owF vs 0 ls ++ F) := fun d hd => List.mem_cons_of_mem _ (List.mem_append.2 (.inl hd))
 have hmF : ∀ d ∈ F, d ∈ D.sl z T .val (vlF vs 0 ls) :: (owF vs 0 ls ++ F) := fun d hd => List.mem_cons_of_mem _ (List.mem_append.2 (.inr hd))
 have hft : ∀ b, feet (owF vs 0 ls) b → feet (D.sl z T .val (vlF vs 0 ls) :: (owF vs 0 ls ++ F)) b := fun b ⟨d, hd, e⟩ => ⟨d, hmO d hd, e⟩
 refine ⟨h1, h2, fun x => S x ∨ feet (owF vs 0 ls) x, ⟨fun x hx => .inl (h3.sub x hx), fun x hx => ?_, fun x hx => ?_, h3.size, h3.keep, h3.os, h3.tape, h3.output⟩, fun x ⟨e, he, hb⟩ => ?_, ⟨fun e he => ?_, fun x ⟨e, he, hb⟩ => ?_, ?_⟩, fun s r hl => A.mono (fun _ h => .inl h) hK r (h6 s r hl)⟩
 ·
  rcases hx with hx | hx
  ·
   exact h3.new x hx
  ·
   exact .inr ((h4 x (hft x hx)).symm)
 ·
  rcases hx with hx | hx
  ·
   exact h3.dom x hx
  ·
   exact (h5.own x (hft x hx)).2
 ·
  rcases List.mem_cons.1 he with rfl | he
  ·
   exact h4 x ⟨_, List.mem_cons_self .., hb⟩
  ·
   exact h4 x ⟨e, hmF e he, hb⟩
 ·
  rcases List.mem_cons.1 he with rfl | he
  ·
   rcases h5.holds _ (List.mem_cons_self ..) with ⟨e, hl⟩ | ⟨b, cap, cc, e, q1, q1', q2, q3, q4⟩
   ·
    refine .inl ⟨e, ?_⟩
    have := congrArg List.length hl
    rw [vlF_len] at this
    exact List.eq_nil_of_length_eq_zero this
   ·
    rw [vlF_len] at e q1 q4
    refine .inr ⟨b, cap, cc, e, q1, q1', q2, q3, ?_⟩
    exact vl_rd (S := S) (fun _ h => .inl h) (fun d hd => ⟨h5.holds d (hmO d hd), fun b hb => .inr ⟨d, hd, hb⟩⟩) q4
  ·
   exact D.holds_mono (fun _ h => .inl h) hK e (fun _ _ => rfl) (h5.holds e (hmF e he))
 ·
  have hx : feet (D.sl z T .val (vlF vs 0 ls) :: (owF vs 0 ls ++ F)) x ∧ ¬ feet (owF vs 0 ls) x := by
   rcases List.mem_cons.1 he with rfl | he
   ·exact ⟨⟨_, List.mem_cons_self .., hb⟩, fun ⟨d, hd, hb'⟩ => hp.1 d (List.mem_append.2 (.inl hd)) x hb hb'⟩
   ·exact ⟨⟨e, hmF e he, hb⟩, fun ⟨d, hd, hb'⟩ => pOF d hd e he x hb' hb⟩
  have h7 := h5.own x hx.1;exact ⟨fun h => h.elim h7.1 hx.2, h7.2⟩
 ·exact List.pairwise_cons.2 ⟨fun d hd b e => hp.1 d (List.mem_append.2 (.inr hd)) b e, pF⟩
end

theorem frz_owns {z : Value} {vs : Nat → Value} {ls : List (List Int)} {T : TypeId} {S : FS} {w : World} (h5 : Owns (.sl z T .val (vlF vs 0 ls) :: owF vs 0 ls) S w) : Owns [.sl z T (.slice (.int .i64)) ls] (fun x => S x ∨ feet (owF vs 0 ls) x) w := by
 have hp := List.pairwise_cons.1 h5.apart;refine ⟨fun e he => ?_, fun x ⟨e, he, hb⟩ => ?_, List.pairwise_singleton _ _⟩
 ·simp only [List.mem_cons, List.not_mem_nil, or_false] at he;subst he;rcases h5.holds _ (List.mem_cons_self ..) with ⟨e, hl⟩ | ⟨b, cap, cc, e, q1, q1', q2, q3, q4⟩
  ·refine .inl ⟨e, ?_⟩;have := congrArg List.length hl;rw [vlF_len] at this;exact List.eq_nil_of_length_eq_zero this
  ·rw [vlF_len] at e q1 q4;refine .inr ⟨b, cap, cc, e, q1, q1', q2, q3, ?_⟩;exact vl_rd (S := S) (fun _ h => .inl h) (fun d hd => ⟨h5.holds d (List.mem_cons_of_mem _ hd), fun b hb => .inr ⟨d, hd, hb⟩⟩) q4
 ·simp only [List.mem_cons, List.not_mem_nil, or_false] at he;subst he;have h7 := h5.own x ⟨_, List.mem_cons_self .., hb⟩;exact ⟨fun h => h.elim h7.1 fun ⟨d, hd, hb'⟩ => hp.1 d hd x hb hb', h7.2⟩

/-- A contract that hands back such a list: frozen slices in an own one. -/
theorem Ctr.frzAll {P : Program} {f : Nat} {as : List A} {T : TypeId} {r : List (List Int)} (h : Ctr P f as [] (fun z : Value × (Nat → Value) => (resA [.eq z.1], .sl z.1 T .val (vlF z.2 0 r) :: owF z.2 0 r))) :
 Ctr P f as [] (fun z : Value => (resA [.eq z], [.sl z T (.slice (.int .i64)) r])) := fun S w vs hd hall hO => (h S w vs hd hall hO).mono fun _ _ hh => by
 obtain ⟨x, S', v, he, g1, g2, g3, g4⟩ := hh
 have hft : ∀ b, feet (owF x.2 0 r) b → feet (.sl x.1 T .val (vlF x.2 0 r) :: owF x.2 0 r) b := fun b ⟨d, hd, e⟩ => ⟨d, List.mem_cons_of_mem _ hd, e⟩
 refine ⟨x.1, fun b => S' b ∨ feet (owF x.2 0 r) b, v, he, ⟨fun b hb => .inl (g1.sub b hb), fun b hb => ?_, fun b hb => ?_, g1.size, g1.keep, g1.os, g1.tape, g1.output⟩, g2, frz_owns g3, fun b ⟨d, hd, e⟩ => ?_⟩
 ·
  rcases hb with hb | hb
  ·
   exact g1.new b hb
  ·
   exact .inr ((g4 b (hft b hb)).symm)
 ·
  rcases hb with hb | hb
  ·
   exact g1.dom b hb
  ·
   exact (g3.own b (hft b hb)).2
 ·
  simp only [List.mem_cons, List.not_mem_nil, or_false] at hd
  subst hd
  exact g4 b ⟨_, List.mem_cons_self .., e⟩

theorem pickD_all {Δ : List D} : pickD Δ (List.range Δ.length) = some Δ := by
 have key : ∀ (n j : Nat), j + n = Δ.length → pickD Δ (List.range' j n) = some (Δ.drop j) := by
  intro n
  induction n with
  | zero => intro j h; rw [List.range'_zero, pickD, List.drop_eq_nil_of_le (by omega)]
  | succ n ih =>
   intro j h;have hj : j < Δ.length := by omega
   rw [List.range'_succ, pickD, ih (j + 1) (by omega), List.getElem?_eq_getElem hj, List.drop_eq_getElem_cons hj]
 have := key Δ.length 0 (by omega);rw [List.range_eq_range'];simpa using this

theorem vl_geti {vs : Nat → Value} {ls : List (List Int)} {i : Int} {x : List Int} (h : geti ls i = some x) : geti (vlF vs 0 ls) i = some (vs i.toNat) := by
 unfold geti at h ⊢;split
 ·rename_i h0;rw [if_pos h0] at h;rw [vlF_get, h, Nat.zero_add]; rfl
 ·rename_i h0;rw [if_neg h0] at h; cases h
theorem geti_q' {α : Type} {l : List α} {i : Int} {x : α} (h : geti l i = some x) : 0 ≤ i ∧ l[i.toNat]? = some x := by
 unfold geti at h;split at h
 ·exact ⟨‹_›, h⟩
 ·cases h
theorem perm0 {L : List D} : L.Perm (L ++ []) := by rw [List.append_nil]
theorem ck_val {a b : Int} (h : ck a = some b) : b = a := by
 unfold ck at h;split at h
 ·cases h; rfl
 ·cases h
end K
end Go.Proofs.Ytfhdclhbdmhnmaa
