/- The calculus, part 22: resources behind resources that are not listed one by one; contracts over the same resources in another order. -/
import Derived.Test.YtfhdclhbdmhnmaaCore21
namespace Go.Proofs.Ytfhdclhbdmhnmaa
namespace K
open Go

/-- A value of a type of integers, as an interface's. -/
theorem o_iface {P : Program} {o : Oper} {x : Operand} {T : TypeId} {n : Int} (ho : o.op = .makeInterface T x) (hT : P.underlying T = some (.int .i64)) : OpT P o [(x, .eq (.int .i64 n))] [] (fun _ : Unit => (.eq (.iface T (.int .i64 n)), [])) :=
  .val0 fun S w a hN => by
    have e : a.eval x = .int .i64 n := hN.1
    refine ⟨_, ?_, rfl⟩
    simp [execOp, ho, e, Instr.makeInterface, run_underlying hT]

section
variable {c : Cx} {ops : Array Oper} {o : Oper} {l : List Oper} {Q : Exit → Act → World → Prop} {Γ Γ' : Ga} {Δ Δ' F E pre pre' : List D} {N : List (Operand × A)} {d : Nat} {X : Type} {R : X → A × List D} {r : A}

/-- All resources are used. -/
theorem JO.stepA (hg : o.guard = none) (hd : o.dst = some d) (hdN : Nat.blt d c.N = true) (ht : OpT c.P o N Δ R) (hh : Has Γ N) (h : ∀ x, JO c ops l Q ((d, (R x).1) :: Γ) (R x).2) : JO c ops (o :: l) Q Γ Δ := by
  have := JO.stepG (c := c) (ops := ops) (o := o) (l := l) (Q := Q) (Γ := Γ) (Δ := Δ) (F := []) (N := N) (d := d) (R := R) (fun _ _ _ => wanted_none hg _) hd hdN ht hh (fun x => by rw [List.append_nil]; exact h x)
  rwa [List.append_nil] at this

/-- The last resources are used. -/
theorem JO.stepT (pre : List D) (hg : o.guard = none) (hd : o.dst = some d) (hdN : Nat.blt d c.N = true) (ht : OpT c.P o N Δ R) (hh : Has Γ N) (h : ∀ x, JO c ops l Q ((d, (R x).1) :: Γ) (pre ++ (R x).2)) : JO c ops (o :: l) Q Γ (pre ++ Δ) := by
  have h1 : JO c ops (o :: l) Q Γ (Δ ++ pre) := JO.stepG (fun _ _ _ => wanted_none hg _) hd hdN ht hh (fun x a w st => h x a w (st.perm List.perm_append_comm))
  exact fun a w st => h1 a w (st.perm List.perm_append_comm)

theorem feet_sub {Δ Δ' : List D} (h : ∀ d ∈ Δ', d ∈ Δ) {b : Nat} : feet Δ' b → feet Δ b := fun ⟨d, hd, e⟩ => ⟨d, h d hd, e⟩

theorem pick_mem {ks : List Nat} (hk : pickD Δ ks = some Δ') : ∀ d ∈ Δ', d ∈ Δ := fun d hd => by
  obtain ⟨k, _, e⟩ := mem_of_pickD hk d hd
  exact List.mem_of_getElem? e

theorem Owns.pick {S : FS} {w : World} {ks : List Nat} (hk : pickD Δ ks = some Δ') (hn : ks.Nodup) (h : Owns Δ S w) : Owns Δ' S w :=
  ⟨fun d hd => h.holds d (pick_mem hk d hd), fun b hb => h.own b (feet_sub (pick_mem hk) hb), pickD_pairwise (fun a b hab x e e' => hab x e' e) h.apart hn hk⟩

/-- What is kept, where a tail stands behind. -/
theorem SE.finT (pre : List D) (E : List D) (ks : List Nat) (hs : Sub Γ' Γ) (hk : pickD pre ks = some pre') (hn : ks.Nodup := by decide) : SE c Γ (pre ++ E) Γ' (pre' ++ E) := by
  rintro a w ⟨h1, h2, S, h3, h4, h5, h6⟩
  have hm := pick_mem hk
  have hap := List.pairwise_append.1 h5.apart
  have hO : Owns pre' S w := Owns.pick hk hn ⟨fun d hd => h5.holds d (List.mem_append.2 (.inl hd)), fun b ⟨d, hd, e⟩ => h5.own b ⟨d, List.mem_append.2 (.inl hd), e⟩, hap.1⟩
  have hsub : ∀ d ∈ pre' ++ E, d ∈ pre ++ E := fun d hd => by
    rcases List.mem_append.1 hd with hd | hd
    · exact List.mem_append.2 (.inl (hm d hd))
    · exact List.mem_append.2 (.inr hd)
  exact ⟨h1, h2, S, h3, fun b hb => h4 b (feet_sub hsub hb), ⟨fun d hd => h5.holds d (hsub d hd), fun b hb => h5.own b (feet_sub hsub hb), List.pairwise_append.2 ⟨hO.apart, hap.2.1, fun d hd d' hd' => hap.2.2 d (hm d hd) d' hd'⟩⟩, fun s r hl => h6 s r (hs.lk hl)⟩

/-- The same resources, in another order. -/
theorem RPost.pick {S : FS} {w : World} {X : Type} {R R' : X → A × List D} {ks ks2 : List Nat} (hk : pickD Δ ks = some Δ') (h1 : ∀ x, (R' x).1 = (R x).1) (hk2 : ∀ x, pickD (R' x).2 ks2 = some (R x).2) (hn2 : ks2.Nodup) {e : Ending} {w' : World}
    (h : RPost S w Δ' R' e w') : RPost S w Δ R e w' := by
  obtain ⟨x, S', v, he, g1, g2, g3, g4⟩ := h
  refine ⟨x, S', v, he, g1.mono (fun b hb => feet_sub (pick_mem hk) hb), by rw [← h1]; exact g2, g3.pick (hk2 x) hn2, fun b hb => ?_⟩
  rcases g4 b (feet_sub (pick_mem (hk2 x)) hb) with hh | hh
  · exact .inl (feet_sub (pick_mem hk) hh)
  · exact .inr hh

theorem Ctr.pick {P : Program} {f : Nat} {as : List A} {X : Type} {R R' : X → A × List D} (ks ks2 : List Nat) (h : Ctr P f as Δ' R') (hk : pickD Δ ks = some Δ') (hk2 : ∀ x, pickD (R' x).2 ks2 = some (R x).2) (h1 : ∀ x, (R' x).1 = (R x).1)
    (hn : ks.Nodup := by decide) (hn2 : ks2.Nodup := by decide) : Ctr P f as Δ R :=
  fun S w vs hd hall hO => (h S w vs hd hall (hO.pick hk hn)).mono fun _ _ hh => RPost.pick hk h1 hk2 hn2 hh

theorem YT.pick {P : Program} {i : Nat} {as : List A} {X : Type} {R R' : X → A × List D} (ks ks2 : List Nat) (h : YT P i as Δ' R') (hk : pickD Δ ks = some Δ') (hk2 : ∀ x, pickD (R' x).2 ks2 = some (R x).2) (h1 : ∀ x, (R' x).1 = (R x).1)
    (hn : ks.Nodup := by decide) (hn2 : ks2.Nodup := by decide) : YT P i as Δ R := fun S w vs hd hall hO => by
  obtain ⟨fn, tm, asg, bd, g1, g2⟩ := h S w vs hd hall (hO.pick hk hn)
  exact ⟨fn, tm, asg, bd, g1, g2.mono fun _ _ hh => RPost.pick hk h1 hk2 hn2 hh⟩

/-- A raw block, told by a property. -/
theorem SE.rawInv {b : Nat} {ob : Obj} (p : Obj → Prop) (hp : p ob) : SE c Γ (.raw b ob :: F) Γ (.inv b p :: F) := fun a w h =>
  h.swap (d := .raw b ob) (d' := .inv b p) (fun b' => Iff.rfl) fun S hs => ⟨ob, hs, hp⟩

/-- The return of all that is left. -/
theorem JN.retA {P : Program} {S : FS} {w0 : World} {Δ0 : List D} {X : Type} {R : X → A × List D} {N : Nat} {fn : Func} (x : X) (rs : List A)
    (hr : Res P Γ Δ fn.results.toList rs) (hR : R x = (resA rs, Δ)) : JN ⟨P, N, S, w0, feet Δ0, none, []⟩ (bodyPost P fn (RPost S w0 Δ0 R) .ret) Γ Δ :=
  JN.ret x rs Δ.length hr (by rw [hR, List.take_length])

/-- The second resource, an own slice that was made, is frozen at once. -/
theorem OpT.frzB {P : Program} {TE : TypeId} {t : Ty} {dd : List t.den} {e : D} (h : OpT P o N Δ (fun v : Value => (.eq v, [e, .sl v TE t dd]))) : OpT P o N Δ (fun _ : Unit => (.rep (.slice t) dd, [e])) := by
  have h2 : OpT P o N Δ (fun v : Value => (.eq v, .sl v TE t dd :: [e])) := by
    refine ⟨h.1, fun ro S w a next Q hd hN hO k => h.2 ro S w a next Q hd hN hO fun x S' w' v hs hr ho hf => k x S' w' v hs hr (ho.perm (List.Perm.swap _ _ _)) fun b hb => hf b (by rwa [feet_perm (List.Perm.swap _ _ _)])⟩
  exact OpT.frz h2
end
end K
end Go.Proofs.Ytfhdclhbdmhnmaa
