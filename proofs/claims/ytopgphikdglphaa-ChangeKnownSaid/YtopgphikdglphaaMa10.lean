/- The machine, part 10: new channels; a variable and a variable that points to it are frozen together; views without the shared. -/
import Derived.Test.YtopgphikdglphaaB5
namespace Go.Proofs.Ytopgphikdglphaa
namespace K
open Go Go.Conc

/-- The type's channels, made without a buffer. -/
def McOk (P : Program) (T : TypeId) : Prop := ∀ w : World, (Instr.makeChan T (.int .i64 0)).runT P w #[] = (.ok (.chan (some w.heap.size)) (w.alloc (.chan 0 #[] false 0 0 false)), #[])
section
variable {P : Program} {M : Md P} {o : Oper} {T : TypeId}
theorem o_makeChan (ho : o.op = .makeChan T (.const (.int .i64 0))) (hT : McOk P T) : OpT M o [] [] (fun z : Nat => (.eq (.chan (some z)), [.raw z (.chan 0 #[] false 0 0 false)])) := by
 have hnd : nd o.op = true := by simp only [nd, *]
 refine ⟨hnd, fun rd S v a next Q hd _ hO k v1 hr => ?_⟩;rw [Oper.semAt_eq _ _ _ (fun c e => by rw [e] at hnd; cases hnd)];have h1 := hT v1.toWorld;have r1 : (Instr.makeChan T (.int .i64 0)).run P v1 = .ok (.chan (some v1.heap.size)) (v1.alloc (.chan 0 #[] false 0 0 false)) := by rw [← Sem.runT_fst P _ _ #[], h1]
 have e1 : (Instr.makeChan T (.int .i64 0)).events P v1 #[] = #[] := by unfold Sem.events; rw [h1]
 have hx : execOp a.eval o = (do pure (.value (← Instr.makeChan T (.int .i64 0))) : Sem Next) := by unfold execOp; rw [ho]; rfl
 have hrun : (execOp a.eval o).run P v1 = .ok (.value (.chan (some v1.heap.size))) (v1.alloc (.chan 0 #[] false 0 0 false)) := by rw [hx]; simp [r1]
 have hev : (execOp a.eval o).events P v1 #[] = #[] := by rw [hx]; simp [e1]
 have hd1 : ∀ b, S b → b < v1.heap.size := fun b hb => Nat.lt_of_lt_of_le (hd b hb) hr.size;have hO1 := hO.rely hd hr;refine ⟨?_, ?_⟩
 ·unfold Sg;rw [hrun];refine ⟨fun b hb _ => alloc_old v1 _ b hb, by simp, rfl, rfl, rfl, fun e he => by rw [hev] at he; simp at he⟩
 ·rw [hrun];refine k v1.heap.size S (v1.upd (v1.alloc (.chan 0 #[] false 0 0 false))) _ ((CStep.rely hd hr).trans (CStep.of (step_alloc (X := feet []) hd1 _)) fun b hb => .inl hb) rfl (hO1.alloc hd1 _) fun b hb => ?_;have : v1.heap.size = b := by simpa [D.foot] using feet_one.1 hb
  exact .inr (this ▸ hr.size)
end

section
variable {c : Cx} {Γ : Ga} {F : List D}
/-- A variable and another that points to it are frozen. -/
theorem SE.frzBox {b b2 : Nat} {T T2 : TypeId} {t : Ty} {x : t.den} {a0 : A} (ss : List Nat) (he : Ent a0 t x) (hh : Holding Γ (.pointer (some ⟨b, 0, none⟩)) ss) :
 SE c Γ (.obj b T a0 :: .obj b2 T2 (.eq (.pointer (some ⟨b, 0, none⟩))) :: F) (setAll Γ (.at t x) ss) (.obj b2 T2 (.at t x) :: F) := fun a w h => by
 obtain ⟨h1, h2, S, h3, h4, h5, h6⟩ := h
 obtain ⟨cs, q1, q2⟩ := h5.holds _ (List.mem_cons_self ..)
 obtain ⟨cs2, p1, p2⟩ := h5.holds (.obj b2 T2 (.eq (.pointer (some ⟨b, 0, none⟩)))) (List.mem_cons_of_mem _ (List.mem_cons_self ..))
 have hp := List.pairwise_cons.1 h5.apart
 have hfe : feet (.obj b T a0 :: .obj b2 T2 (.eq (.pointer (some ⟨b, 0, none⟩))) :: F) b := ⟨_, List.mem_cons_self .., rfl⟩
 have hown := h5.own b hfe
 have hK : Keep S w w := fun _ _ => rfl
 have hat : (A.at t x).holds (fun x => S x ∨ x = b) w (.pointer (some ⟨b, 0, none⟩)) := by
  have hr := he.cells q2;have l := rd_length t hr;refine ⟨b, 0, cs.toArray, T, (0, 0), rfl, .inr rfl, q1, ?_⟩;rw [List.toList_toArray, List.drop_zero, List.take_of_length_le (by omega)];exact rd_mono (fun _ h => .inl h) hK t hr
 have hft : ∀ y, feet (.obj b2 T2 (.at t x) :: F) y → feet (.obj b T a0 :: .obj b2 T2 (.eq (.pointer (some ⟨b, 0, none⟩))) :: F) y ∧ y ≠ b := fun y ⟨e, he, hb⟩ => by
  rcases List.mem_cons.1 he with rfl | he
  ·have hy : (D.obj b2 T2 (.eq (.pointer (some ⟨b, 0, none⟩)))).foot = some y := hb;exact ⟨⟨_, List.mem_cons_of_mem _ (List.mem_cons_self ..), hy⟩, fun e => hp.1 _ (List.mem_cons_self ..) b rfl (e ▸ hy)⟩
  ·exact ⟨⟨e, List.mem_cons_of_mem _ (List.mem_cons_of_mem _ he), hb⟩, fun e' => hp.1 e (List.mem_cons_of_mem _ he) b rfl (e' ▸ hb)⟩
 refine ⟨h1, h2, fun x => S x ∨ x = b, ⟨fun x hx => .inl (h3.sub x hx), fun x hx => ?_, fun x hx => ?_, h3.size, h3.keep, h3.os, h3.tape, h3.output, h3.subA, h3.oldA, h3.Z⟩, fun y hy => h4 y (hft y hy).1, h5.re ⟨fun e he => ?_, fun y hy => ?_, ?_⟩ (fun y hy => (hft y hy).1) (fun x (hx : S x ∨ x = b) => hx.imp id fun e => by rw [e]; exact hfe), fun s q hq => ?_⟩
 ·
  rcases hx with hx | hx
  ·exact h3.new x hx
  ·subst hx; exact .inr ((h4 x hfe).symm)
 ·
  rcases hx with hx | hx
  ·exact h3.dom x hx
  ·subst hx; exact hown.2
 ·
  rcases List.mem_cons.1 he with rfl | he
  ·refine ⟨cs2, p1, ?_⟩;have e2 : cs2 = [.pointer (some ⟨b, 0, none⟩)] := p2.1;subst e2;exact hat
  ·exact D.holds_mono (fun _ h => .inl h) hK e (fun _ _ => rfl) (h5.holds e (List.mem_cons_of_mem _ (List.mem_cons_of_mem _ he)))
 ·
  have h7 := h5.own y (hft y hy).1;exact ⟨fun hx => hx.elim h7.1 (hft y hy).2, h7.2⟩
 ·
  have hp2 := List.pairwise_cons.1 hp.2;exact List.pairwise_cons.2 ⟨fun e he => hp2.1 e he, hp2.2⟩
 ·
  rcases lk_setAll hq with ⟨hs, rfl⟩ | hq
  ·have e1 : a.tmps.getD s undef = .pointer (some ⟨b, 0, none⟩) := h6 s _ (hh.mem hs);rw [e1];exact hat
  ·exact A.mono (fun _ h => .inl h) hK q (h6 s q hq)
end

/-- The view without what is shared. -/
@[reducible] def ez (v : VW) : VW := ⟨v.toWorld, v.A, fun _ => False⟩
theorem CStep.ez {X : Nat → Prop} {S S' : FS} {v v' : VW} (h : CStep X S v S' v') : CStep X S (K.ez v) S' (K.ez v') := ⟨h.sub, h.new, h.dom, h.size, h.keep, h.os, h.tape, h.output, h.subA, h.oldA, rfl⟩
end K
end Go.Proofs.Ytopgphikdglphaa
