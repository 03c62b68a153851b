/- Plain law, part 1: computations in Option that come to an answer; the lots. -/
import Derived.Test.YtfhdclhbdmhnmaaF1
namespace Go.Proofs.Ytfhdclhbdmhnmaa
open K Go Go.Proofs

/-- It comes to an answer, and the answer meets this. -/
def W {α : Type} (x : Option α) (Q : α → Prop) : Prop := ∃ a, x = some a ∧ Q a

namespace W
variable {α β ε : Type} {Q : β → Prop}
theorem ret {a : β} (h : Q a) : W (some a) Q := ⟨a, rfl, h⟩
theorem mono {x : Option β} {R : β → Prop} (h : W x R) (hq : ∀ a, R a → Q a) : W x Q := let ⟨a, e, r⟩ := h; ⟨a, e, hq a r⟩
theorem bind {x : Option α} {f : α → Option β} {R : α → Prop} (h : W x R) (hf : ∀ a, R a → W (f a) Q) : W (x.bind f) Q := by
  obtain ⟨a, rfl, r⟩ := h
  exact hf a r
theorem bindE {x : Option α} {a : α} {f : α → Option β} (h : x = some a) (hf : W (f a) Q) : W (x.bind f) Q := by rw [h]; exact hf
theorem ck {n : Int} {f : Int → Option β} (h1 : -9223372036854775808 ≤ n) (h2 : n ≤ 9223372036854775807) (hf : W (f n) Q) : W ((K.ck n).bind f) Q := by
  rw [K.ck, if_pos ⟨h1, h2⟩]; exact hf
theorem chk {p : Prop} [Decidable p] {f : Unit → Option β} (h : p) (hf : W (f ()) Q) : W ((chkP p).bind f) Q := by
  rw [chkP, if_pos h]; exact hf
theorem at_ {l : List α} {i : Int} {f : α → Option β} (h0 : 0 ≤ i) (h1 : i < l.length) (hf : ∀ x, l[i.toNat]? = some x → W (f x) Q) : W ((geti l i).bind f) Q := by
  have : i.toNat < l.length := by omega
  rw [geti, if_pos h0, List.getElem?_eq_getElem this]
  exact hf _ (List.getElem?_eq_getElem this)
theorem sb {a : α} {f : α → Option β} (h : W (f a) Q) : W ((some a).bind f) Q := h
theorem bindEB {γ : Type} {x : Option α} {a : α} {f : α → Option γ} {g : γ → Option β} (h : x = some a) (hf : W ((f a).bind g) Q) : W ((x.bind f).bind g) Q := by rw [h]; exact hf
theorem iteBB {γ : Type} {p : Prop} [Decidable p] {a b : Option α} {f : α → Option γ} {g : γ → Option β} (h1 : p → W ((a.bind f).bind g) Q) (h2 : ¬ p → W ((b.bind f).bind g) Q) : W (((if p then a else b).bind f).bind g) Q := by
  split
  · exact h1 ‹_›
  · exact h2 ‹_›
theorem sbB {γ : Type} {a : α} {f : α → Option γ} {g : γ → Option β} (h : W ((f a).bind g) Q) : W (((some a).bind f).bind g) Q := h
theorem chkB {γ : Type} {p : Prop} [Decidable p] {f : Unit → Option γ} {g : γ → Option β} (h : p) (hf : W ((f ()).bind g) Q) : W (((chkP p).bind f).bind g) Q := by
  rw [chkP, if_pos h]; exact hf
theorem ite {p : Prop} [Decidable p] {a b : Option β} (h1 : p → W a Q) (h2 : ¬ p → W b Q) : W (if p then a else b) Q := by
  split
  · exact h1 ‹_›
  · exact h2 ‹_›
theorem iteB {p : Prop} [Decidable p] {a b : Option α} {f : α → Option β} (h1 : p → W (a.bind f) Q) (h2 : ¬ p → W (b.bind f) Q) : W ((if p then a else b).bind f) Q := by
  split
  · exact h1 ‹_›
  · exact h2 ‹_›
theorem bEE {x : Option (Except ε α)} {g : ε → Option β} {f : α → Option β} {R : Except ε α → Prop} (h : W x R) (hg : ∀ e, R (.error e) → W (g e) Q) (hf : ∀ a, R (.ok a) → W (f a) Q) : W (K.bE x g f) Q := by
  obtain ⟨a, rfl, r⟩ := h
  cases a with
  | error e => exact hg e r
  | ok a => exact hf a r
theorem loop {T : Type} {f : Nat → T → Option β} (I : Nat → T → Prop) (step : ∀ fuel m y, I m y → (∀ m' y', m' < m → I m' y' → W (f fuel y') Q) → W (f (fuel + 1) y) Q) : ∀ m fuel y, m < fuel → I m y → W (f fuel y) Q := by
  intro m
  induction m using Nat.strongRecOn with
  | _ m ih =>
    intro fuel y hm hI
    cases fuel with
    | zero => omega
    | succ fuel => exact step fuel m y hI fun m' y' h hI' => ih m' h fuel y' (by omega) hI'
end W

theorem wrap_u64 (n : Int) : 0 ≤ IntKind.u64.wrap n ∧ IntKind.u64.wrap n < 18446744073709551616 := by
  have h1 := Int.emod_nonneg n (show (18446744073709551616 : Int) ≠ 0 by decide)
  have h2 := Int.emod_lt_of_pos n (show (0 : Int) < 18446744073709551616 by decide)
  have e : IntKind.u64.wrap n = n % 18446744073709551616 := by
    simp [IntKind.wrap, IntKind.signed, IntKind.bits]
  rw [e]
  exact ⟨h1, h2⟩

theorem wrap_u64_id {n : Int} (h0 : 0 ≤ n) (h1 : n < 18446744073709551616) : IntKind.u64.wrap n = n := by
  have e : IntKind.u64.wrap n = n % 18446744073709551616 := by
    simp [IntKind.wrap, IntKind.signed, IntKind.bits]
  rw [e]
  exact Int.emod_eq_of_lt h0 h1

/-- So many numbers are drawn at most. -/
def Lo (l : dLots) (m : Int) : Prop := 0 ≤ l.2.1 ∧ l.2.1 ≤ m

theorem next_ok {k : Nat} {l : dLots} {m : Int} (h : Lo l m) (hm : m ≤ 1000000000) : W (kit_Lots_next k l) fun r => 0 ≤ r.1 ∧ r.1 < 72057594037927936 ∧ Lo r.2 (m + 1) := by
  obtain ⟨h0, h1⟩ := h
  unfold kit_Lots_next
  have fin : ∀ x : Int, W ((K.ck (l.2.1 + 1)).bind fun x4 => some (ishr .u64 (ixor .u64 (IntKind.u64.wrap ((ixor .u64 x (ishr .u64 x (29 : Int))) * (2685821657736338717 : Int))) (ishr .u64 (IntKind.u64.wrap ((ixor .u64 x (ishr .u64 x (29 : Int))) * (2685821657736338717 : Int))) (32 : Int))) (8 : Int), (l.1, x4, x)))
      fun r => 0 ≤ r.1 ∧ r.1 < 72057594037927936 ∧ Lo r.2 (m + 1) := fun x => by
    refine W.ck (by omega) (by omega) (W.ret ?_)
    generalize IntKind.u64.wrap ((ixor .u64 x (ishr .u64 x (29 : Int))) * (2685821657736338717 : Int)) = y
    have hx : 0 ≤ ixor .u64 y (ishr .u64 y 32) ∧ ixor .u64 y (ishr .u64 y 32) < 18446744073709551616 := wrap_u64 _
    have e : ishr .u64 (ixor .u64 y (ishr .u64 y 32)) 8 = (ixor .u64 y (ishr .u64 y 32)) / 256 := by
      unfold ishr
      rw [Int.fdiv_eq_ediv_of_nonneg _ (by decide)]
      rfl
    refine ⟨?_, ?_, ?_, ?_⟩
    · show 0 ≤ ishr .u64 (ixor .u64 y (ishr .u64 y 32)) 8
      rw [e]; omega
    · show ishr .u64 (ixor .u64 y (ishr .u64 y 32)) 8 < _
      rw [e]; omega
    · show 0 ≤ l.2.1 + 1; omega
    · show l.2.1 + 1 ≤ m + 1; omega
  refine W.iteB (fun hlt => ?_) (fun _ => fin _)
  cases hg : geti l.1 l.2.1 with
  | some v => exact fin _
  | none =>
    exfalso
    have : l.2.1.toNat < l.1.length := by omega
    rw [geti, if_pos h0, List.getElem?_eq_getElem this] at hg
    cases hg

theorem upto_ok {k : Nat} {l : dLots} {m n : Int} (h : Lo l m) (hm : m ≤ 1000000000) (hn : n ≤ 1000000000) : W (kit_Lots_Upto k l n) fun r => 0 ≤ r.1 ∧ (0 ≤ n → r.1 ≤ n) ∧ Lo r.2 (m + 1) := by
  unfold kit_Lots_Upto
  refine W.ite (fun h1 => W.ret ⟨Int.le_refl 0, fun h => h, h.1, by show l.2.1 ≤ m + 1; have := h.2; omega⟩) (fun h1 => ?_)
  refine W.bind (next_ok h hm) fun r hr => ?_
  refine W.ck (by omega) (by omega) ?_
  have e : IntKind.u64.wrap (n + 1) = n + 1 := wrap_u64_id (by omega) (by omega)
  refine W.chk (by rw [e]; omega) ?_
  rw [e]
  have h2 : Int.tmod r.1 (n + 1) = r.1 % (n + 1) := Int.tmod_eq_emod_of_nonneg hr.1
  have h3 := Int.emod_nonneg r.1 (show n + 1 ≠ 0 by omega)
  have h4 := Int.emod_lt_of_pos r.1 (show 0 < n + 1 by omega)
  rw [h2]
  refine W.ck (by omega) (by omega) (W.ret ⟨h3, fun _ => by show r.1 % (n + 1) ≤ n; omega, hr.2.2⟩)

theorem in_ok {k : Nat} {l : dLots} {m a b : Int} (h : Lo l m) (hm : m ≤ 1000000000) (ha : 0 ≤ a) (hab : a ≤ b) (hb : b ≤ 1000000) : W (kit_Lots_In k l a b) fun r => a ≤ r.1 ∧ r.1 ≤ b ∧ Lo r.2 (m + 1) := by
  unfold kit_Lots_In
  refine W.ck (by omega) (by omega) (W.bind (upto_ok h hm (by omega)) fun r hr => ?_)
  have := hr.2.1 (by omega)
  refine W.ck (by omega) (by omega) (W.ret ⟨by show a ≤ a + r.1; omega, by show a + r.1 ≤ b; omega, hr.2.2⟩)

theorem rare_ok {k : Nat} {l : dLots} {m a : Int} (h : Lo l m) (hm : m ≤ 1000000000) (ha : 0 ≤ a) (hb : a ≤ 1000000) : W (kit_Lots_Rare k l a) fun r => Lo r.2 (m + 1) := by
  unfold kit_Lots_Rare
  exact W.ck (by omega) (by omega) (W.bind (upto_ok h hm (by omega)) fun r hr => W.ret hr.2.2)

theorem of_ok {k : Nat} {l : dLots} {m : Int} {some_ : List Int} (h : Lo l m) (hm : m ≤ 1000000000) (h0 : 0 < some_.length) (h1 : some_.length ≤ 1000000) : W (kit_Lots_Of k l some_) fun r => r.1 ∈ some_ ∧ Lo r.2 (m + 1) := by
  unfold kit_Lots_Of
  refine W.ck (by omega) (by omega) (W.bind (upto_ok h hm (by omega)) fun r hr => ?_)
  have := hr.2.1 (by omega)
  refine W.at_ hr.1 (by omega) fun x hx => W.ret ⟨List.mem_of_getElem? hx, hr.2.2⟩
end Go.Proofs.Ytfhdclhbdmhnmaa
