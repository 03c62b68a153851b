/- The calculus, part 16: parts of slices; structs' fields out of values; interfaces of two types. -/
import Derived.Test.YtfhdclhbdmhnmaaCore15
namespace Go.Proofs.Ytfhdclhbdmhnmaa
namespace K
open Go

section
variable {P : Program} {o : Oper} {x y z : Operand} {T T' e : TypeId} {r r' : A} {t u : Ty}

theorem rdAll_drop {α : Type} {R : α → List Value → Prop} {m : Nat} (hR : ∀ x cs, R x cs → cs.length = m) (k : Nat) : ∀ {l : List α} {cs : List Value}, rdAll R l cs → rdAll R (l.drop k) (cs.drop (k * m)) := by
  induction k with
  | zero => intro l cs h; simpa using h
  | succ k ih =>
    intro l cs h
    cases l with
    | nil => simp [rdAll] at h; subst h; simp [rdAll]
    | cons x l =>
      obtain ⟨a, b, rfl, h1, h2⟩ := h
      have la := hR _ _ h1
      have := ih h2
      rw [List.drop_succ_cons, show (k + 1) * m = a.length + k * m by rw [Nat.add_mul, la]; omega, List.drop_append, List.drop_eq_nil_of_le (Nat.le_add_right a.length (k * m)), Nat.add_sub_cancel_left, List.nil_append]
      exact this

/-- What a part of a frozen slice reads as. -/
theorem rd_sliced {S : FS} {w : World} {l : List t.den} {a : Option Addr} {n cap i j : Nat} (hlen : n = l.length) (h : rd S w (.slice t) l [.slice a n cap]) (hij : i ≤ j) (hj : j ≤ l.length) :
    rd S w (.slice t) ((l.take j).drop i) [sliced a i j cap t.cells] := by
  subst hlen
  rcases h with ⟨a', cap', e, rfl⟩ | ⟨b, off, cap', c, T0, fz, e, hle, hS, hb, hr⟩
  · simp only [List.length_nil] at hj
    have : j = 0 := by omega
    subst this
    have : i = 0 := by omega
    subst this
    exact .inl ⟨_, _, rfl, by simp⟩
  · simp only [List.cons.injEq, Value.slice.injEq, true_and, and_true] at e
    obtain ⟨rfl, rfl⟩ := e
    by_cases hd : i = j
    · subst hd
      refine .inl ⟨if cap = i then some ⟨b, off, none⟩ else (some ⟨b, off, none⟩ : Option Addr).map (·.add (i * t.cells)), cap - i, ?_, ?_⟩
      · simp [sliced]
      · rw [List.drop_eq_nil_of_le (by simp only [List.length_take]; omega)]
    · have hc : ¬ cap = i := by omega
      refine .inr ⟨b, off + i * t.cells, cap - i, c, T0, fz, ?_, ?_, hS, hb, ?_⟩
      · simp only [sliced, if_neg hc, Option.map_some, Addr.add_mk, List.length_drop, List.length_take, Nat.min_eq_left hj]
      · simp only [List.length_drop, List.length_take]; omega
      · have h1 := rdAll_drop (fun _ _ h => rd_length t h) i (rdAll_take (fun _ _ h => rd_length t h) j hr)
        have e1 : (((c.toList.drop off).take (l.length * t.cells)).take (j * t.cells)).drop (i * t.cells) = (c.toList.drop (off + i * t.cells)).take (((l.take j).drop i).length * t.cells) := by
          have hm : j * t.cells ≤ l.length * t.cells := Nat.mul_le_mul_right _ hj
          rw [List.take_take, Nat.min_eq_left hm, List.drop_take, List.drop_drop]
          congr 1
          simp only [List.length_drop, List.length_take, Nat.min_eq_left hj, Nat.sub_mul]
        rw [← e1]
        exact h1

theorem rep_slice {S : FS} {w : World} {l : List t.den} {v : Value} (h : (A.rep (.slice t) l).holds S w v) : ∃ a cap, v = .slice a l.length cap ∧ rd S w (.slice t) l [.slice a l.length cap] := by
  obtain ⟨cs, h1, h2⟩ := h
  rcases h1 with ⟨a, cap, rfl, rfl⟩ | ⟨b, off, cap, c, T0, fz, rfl, hle, hS, hb, hr⟩
  · exact ⟨a, cap, h2, .inl ⟨a, cap, rfl, rfl⟩⟩
  · exact ⟨_, cap, h2, .inr ⟨b, off, cap, c, T0, fz, rfl, hle, hS, hb, hr⟩⟩

theorem rd_cap {S : FS} {w : World} {l : List t.den} {a : Option Addr} {cap : Nat} (h : rd S w (.slice t) l [.slice a l.length cap]) : l.length ≤ cap ∨ l = [] := by
  rcases h with ⟨a', cap', e, rfl⟩ | ⟨b, off, cap', c, T0, fz, e, hle, _⟩
  · exact .inr rfl
  · simp only [List.cons.injEq, Value.slice.injEq, true_and, and_true] at e
    obtain ⟨_, rfl⟩ := e
    exact .inl hle

theorem o_slice_h {l : List t.den} {k : IntKind} {j : Int} {g : Bool} (ho : o.op = .slice T x none (some y) none) (hT : P.underlying T = some (.slice e)) (he : SzOk P e t.cells g) (h0 : 0 ≤ j) (h1 : j ≤ l.length) :
    OpT P o [(x, .rep (.slice t) l), (y, .eq (.int k j))] [] (fun _ : Unit => (.rep (.slice t) (l.take j.toNat), [])) :=
  .val0 fun S w a hN => by
    obtain ⟨b, cap, e1, hr⟩ := rep_slice hN.1
    have e2 : a.eval y = .int k j := hN.2.1
    have hel : P.elem T = e := by simp [Program.elem, hT]
    have hu : P.underlying T = some (.slice (P.elem T)) := by rw [hel]; exact hT
    have hcap : j ≤ cap := by
      rcases rd_cap hr with h | h
      · omega
      · subst h; simp at h1; omega
    refine ⟨sliced b 0 j.toNat cap t.cells, ?_, ?_⟩
    · have := run_slice_h (P := P) w T b l.length cap hu k j h0 hcap
      simp [execOp, ho, e1, e2, run_sliceAt_slice w T _ _ _ _ hu, this, hel, he.size]
    · have := rd_sliced rfl hr (Nat.zero_le j.toNat) (by omega)
      rw [List.drop_zero] at this
      exact ⟨_, this, rfl⟩

end
end K
end Go.Proofs.Ytfhdclhbdmhnmaa
