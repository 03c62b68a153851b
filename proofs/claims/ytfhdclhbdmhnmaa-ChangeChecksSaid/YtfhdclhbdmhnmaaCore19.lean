/- The calculus, part 19: a tail that has come to an operation that waits for all; a map that is told by its value; goto; a panic that is recovered. -/
import Derived.Test.YtfhdclhbdmhnmaaCore18
import Derived.ScopeJumps
namespace Go.Proofs.Ytfhdclhbdmhnmaa
namespace K
open Go

section
variable {c : Cx} {full : List Oper} {Q : Exit → Act → World → Prop} {Γ0 Γ Γt : Ga} {Δ Δr Δt F : List D} {acc : List DE} {l : List Oper} {id : Nat} {must : List Bool} {T : List Nat} {vs : List Value} {k : Nat} {o : Oper}

/-- From here on all stands in one order. -/
def chkA (full : List Oper) (n : Nat) : Bool := (List.range full.length).all fun j => Nat.blt j n || (List.range j).all fun i => ((clos [] full).getD j 0).testBit i

theorem JT.all (hA : chkA full (acc.length + k) = true) (h : JO c full.toArray (o :: l) Q (GB acc vs ++ Γt) (Δr ++ Δt)) : JT c full Q Γ0 Δ acc must T vs Δr k (o :: l) Γt Δt := by
  intro hfull hdr hDR hck hfl hvs fuel
  obtain ⟨hc1, hlt, hc3, hc4, hc5, hc6, hc7⟩ := chkT_parts hck
  have hforced : ∀ m, acc.length + k ≤ m → m < full.length → ∀ i, i < m → ((clos [] full).getD m 0).testBit i = true := fun m hm1 hm2 i hi => by
    unfold chkA at hA
    rw [List.all_eq_true] at hA
    have := hA m (List.mem_range.2 hm2)
    simp only [Bool.or_eq_true, Nat.blt_eq] at this
    rcases this with h | h
    · omega
    · rw [List.all_eq_true] at h
      exact h i (List.mem_range.2 hi)
  have hjl : acc.length + k < full.length := by
    rcases Nat.lt_or_ge (acc.length + k) full.length with h | h
    · exact h
    · rw [List.drop_eq_nil_of_le h] at hdr; cases hdr
  induction fuel with
  | zero =>
    intro L a w hI hf
    simp only [List.length_cons] at hf
    omega
  | succ n ih =>
    intro L a w hI hf
    by_cases h0 : cnt L acc.length = 0
    · have hall := cnt_zero h0
      refine tail_any hlt (o :: l) (acc.length + k) hdr hforced L hI.size (fun i hi _ => ?_) (fun i hi => ?_) a w ?_ (n + 1) (by omega)
      · rcases Nat.lt_or_ge i acc.length with hh | hh
        · exact hall i hh
        · rw [hI.tail i hh]; simpa using hi
      · rw [hI.tail i (by omega)]; simp; omega
      · obtain ⟨S, h3, h4, h5, h6, h7⟩ := hI.ex
        refine h a w ⟨hI.defers, hI.tmps, S, h3, h4, h5, fun s r hl => ?_⟩
        rcases lk_GB hvs hl with ⟨j, e, hj, hd, hr⟩ | ⟨h8, h9⟩
        · have hjl : j < acc.length := by
            rcases Nat.lt_or_ge j acc.length with h | h
            · exact h
            · simp [List.getElem?_eq_none h] at hj
          subst hd hr
          exact h7 j e hj (hall j hjl)
        · exact h6 s r h9 h8
    · obtain ⟨j, hj1, hj2, hj3⟩ := cnt_pos h0
      obtain ⟨oj, hoj⟩ : ∃ oj, full[j]? = some oj := ⟨_, List.getElem?_eq_getElem (by omega)⟩
      have hrj : j ∈ Region.ready .any full.toArray L := (ready_iff hI.size).2 ⟨oj, hoj, hj2, fun i hi => hj3 i (hlt j oj hoj i hi)⟩
      refine ⟨fun hr => (by rw [hr] at hrj; cases hrj), fun i hi => ?_⟩
      obtain ⟨oi, hoi, hli, hpi⟩ := (ready_iff hI.size).1 hi
      have hil : i < full.length := by
        rcases Nat.lt_or_ge i full.length with h | h
        · exact h
        · simp [List.getElem?_eq_none h] at hoi
      have hiL : i < L.size := by rw [hI.size]; exact hil
      have hia : i < acc.length := by
        rcases Nat.lt_or_ge i acc.length with h | h
        · exact h
        · exfalso
          have hki : acc.length + k ≤ i := by
            rw [hI.tail i h] at hli
            simp at hli
            omega
          have := ahead hI.closed hlt i i oi (Nat.le_refl _) hoi hpi j (hforced i hki hil j (by omega))
          rw [hj2] at this
          cases this
      refine wpOpIn_mono (fun a' w' hI' => ih _ a' w' hI' ?_) (TI.float hfull hDR hck hfl hI hia hi)
      have := cnt_set (L := L) (L' := L.setIfInBounds i true) (i := i) (fun j hj => by rw [lst_set hiL, if_neg (Ne.symm hj)]) hli (by rw [lst_set hiL, if_pos rfl]) hia
      omega

end

section
variable {c : Cx} {Q : Exit → Act → World → Prop} {Γ Γ' : Ga} {Δ Δ' : List D} {C C' : Code} {M : Act → World → Prop}

/-! ### Scopes and goto -/
theorem JC.label {i : Nat} (h : JN c (Q .normal) Γ Δ) : JC c (.label i) Q Γ Δ := fun a w s => wpIn_label (h a w s)
theorem JC.goto {i : Nat} (h : JN c (Q (.goto i)) Γ Δ) : JC c (.goto i) Q Γ Δ := fun a w s => wpIn_goto (h a w s)
theorem JN.then_g {i : Nat} (h : JN c (Q (.goto i)) Γ Δ) : JN c (Exit.then M Q (.goto i)) Γ Δ := h
theorem JN.jmp_n {i : Nat} {J : Act → World → Prop} (h : JN c (Q .normal) Γ Δ) : JN c (Exit.jump i J Q .normal) Γ Δ := h
theorem JN.jmp_r {i : Nat} {J : Act → World → Prop} (h : JN c (Q .ret) Γ Δ) : JN c (Exit.jump i J Q .ret) Γ Δ := h

theorem least_nat {p : Nat → Prop} : ∀ n, p n → ∃ m, p m ∧ ∀ k, p k → m ≤ k := by
  intro n
  induction n using Nat.strongRecOn with
  | _ n ih =>
    intro h
    by_cases hk : ∃ k, k < n ∧ p k
    · obtain ⟨k, h1, h2⟩ := hk
      exact ih k h1 h2
    · exact ⟨n, h, fun k h1 => Nat.le_of_not_lt fun h2 => hk ⟨k, h2, h1⟩⟩

end
end K
end Go.Proofs.Ytfhdclhbdmhnmaa
