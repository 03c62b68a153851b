/- Plain law, part 6: sets of small numbers as bits; ascending lists are let by. -/
import Derived.Test.YtfhdclhbdmhnmaaLaw5
namespace Go.Proofs.Ytfhdclhbdmhnmaa
open K Go Go.Proofs

/-- A set of numbers below eight. -/
def Mask (s : Int) : Prop := 0 ≤ s ∧ s < 256
/-- This number is in it. -/
def Has (s : Int) (i : Nat) : Prop := s.toNat.testBit i = true
instance (s : Int) (i : Nat) : Decidable (Has s i) := by unfold Has; infer_instance

theorem wrap_u8 {x : Nat} (h : x < 256) : IntKind.u8.wrap (x : Int) = x := by
  have e : IntKind.u8.wrap (x : Int) = (x : Int) % 256 := by simp [IntKind.wrap, IntKind.signed, IntKind.bits]
  rw [e]
  omega

theorem mask_nat {s : Int} (h : Mask s) : ∃ n : Nat, n < 256 ∧ s = n := ⟨s.toNat, by have := h.1; have := h.2; omega, by have := h.1; omega⟩
theorem ofInt8 {n : Nat} (h : n < 256) : (BitVec.ofInt IntKind.u8.bits (n : Int)).toNat = n := by
  show (BitVec.ofInt 8 (n : Int)).toNat = n
  rw [BitVec.ofInt_natCast, BitVec.toNat_ofNat]
  exact Nat.mod_eq_of_lt h
theorem lt_or8 {n m : Nat} (hn : n < 256) (hm : m < 256) : n ||| m < 256 := Nat.or_lt_two_pow (n := 8) hn hm
theorem lt_and8 {n m : Nat} (hn : n < 256) : n &&& m < 256 := Nat.lt_of_le_of_lt Nat.and_le_left hn
theorem lt_xor8 {n m : Nat} (hn : n < 256) (hm : m < 256) : n ^^^ m < 256 := Nat.xor_lt_two_pow (n := 8) hn hm

theorem ior_ok {a b : Int} (ha : Mask a) (hb : Mask b) : Mask (ior .u8 a b) ∧ ∀ i, Has (ior .u8 a b) i ↔ Has a i ∨ Has b i := by
  obtain ⟨n, hn, rfl⟩ := mask_nat ha
  obtain ⟨m, hm, rfl⟩ := mask_nat hb
  have e : ior .u8 (n : Int) (m : Int) = ((n ||| m : Nat) : Int) := by
    unfold ior
    rw [BitVec.toNat_or, ofInt8 hn, ofInt8 hm]
    exact wrap_u8 (lt_or8 hn hm)
  rw [e]
  refine ⟨⟨by omega, by have := lt_or8 hn hm; omega⟩, fun i => ?_⟩
  simp [Has, Nat.testBit_or]
theorem iand_ok {a b : Int} (ha : Mask a) (hb : Mask b) : Mask (iand .u8 a b) ∧ ∀ i, Has (iand .u8 a b) i ↔ Has a i ∧ Has b i := by
  obtain ⟨n, hn, rfl⟩ := mask_nat ha
  obtain ⟨m, hm, rfl⟩ := mask_nat hb
  have e : iand .u8 (n : Int) (m : Int) = ((n &&& m : Nat) : Int) := by
    unfold iand
    rw [BitVec.toNat_and, ofInt8 hn, ofInt8 hm]
    exact wrap_u8 (lt_and8 hn)
  rw [e]
  refine ⟨⟨by omega, by have := lt_and8 (m := m) hn; omega⟩, fun i => ?_⟩
  simp [Has, Nat.testBit_and]
theorem ixor_ok {a b : Int} (ha : Mask a) (hb : Mask b) : Mask (ixor .u8 a b) ∧ ∀ i, Has (ixor .u8 a b) i ↔ ((Has a i ∧ ¬ Has b i) ∨ (¬ Has a i ∧ Has b i)) := by
  obtain ⟨n, hn, rfl⟩ := mask_nat ha
  obtain ⟨m, hm, rfl⟩ := mask_nat hb
  have e : ixor .u8 (n : Int) (m : Int) = ((n ^^^ m : Nat) : Int) := by
    unfold ixor
    rw [BitVec.toNat_xor, ofInt8 hn, ofInt8 hm]
    exact wrap_u8 (lt_xor8 hn hm)
  rw [e]
  refine ⟨⟨by omega, by have := lt_xor8 hn hm; omega⟩, fun i => ?_⟩
  simp only [Has, Int.toNat_natCast, Nat.testBit_xor]
  cases n.testBit i <;> cases m.testBit i <;> simp

theorem one_ok {x : Int} (h0 : 0 ≤ x) (h8 : x < 8) : Mask (ishl .u8 1 x) ∧ ∀ i : Nat, Has (ishl .u8 1 x) i ↔ (i : Int) = x := by
  obtain ⟨n, rfl⟩ := Int.eq_ofNat_of_zero_le h0
  have hn : n < 8 := by omega
  have e : ishl .u8 1 (n : Int) = ((2 ^ n : Nat) : Int) := by
    unfold ishl
    have h1 : min (Int.toNat (n : Int)) IntKind.u8.bits = n := by
      show min n 8 = n
      omega
    rw [h1, Int.one_mul]
    have h2 : 2 ^ n < 256 := Nat.pow_lt_pow_right (by decide) hn
    have h3 : ((2 : Int) ^ n) = ((2 ^ n : Nat) : Int) := by simp
    rw [h3]
    exact wrap_u8 h2
  rw [e]
  have h9 : 2 ^ n < 256 := Nat.pow_lt_pow_right (by decide) hn
  refine ⟨⟨Int.natCast_nonneg _, Int.ofNat_lt.2 h9⟩, fun i => ?_⟩
  simp only [Has, Int.toNat_natCast, Nat.testBit_two_pow, decide_eq_true_eq]
  omega

theorem has_ok {k : Nat} {s : Int} (hs : Mask s) {i : Nat} (hi : i < 8) : chg_set_has k s (i : Int) = some (decide (Has s i)) := by
  obtain ⟨n, hn, rfl⟩ := mask_nat hs
  unfold chg_set_has
  rw [chkP, if_pos (by omega)]
  show some _ = some _
  congr 1
  have e1 : ishr .u8 (n : Int) (i : Int) = ((n >>> i : Nat) : Int) := by
    unfold ishr
    have h1 : min (Int.toNat (i : Int)) IntKind.u8.bits = i := by
      show min i 8 = i
      omega
    have h3 : ((2 : Int) ^ i) = ((2 ^ i : Nat) : Int) := by simp
    rw [h1, h3, Int.fdiv_eq_ediv_of_nonneg _ (Int.natCast_nonneg _), Nat.shiftRight_eq_div_pow]
    rfl
  have hlt : n >>> i < 256 := Nat.lt_of_le_of_lt (by rw [Nat.shiftRight_eq_div_pow]; exact Nat.div_le_self _ _) hn
  have e2 : iand .u8 ((n >>> i : Nat) : Int) 1 = (((n >>> i) &&& 1 : Nat) : Int) := by
    unfold iand
    have h1 : (BitVec.ofInt IntKind.u8.bits 1).toNat = 1 := rfl
    rw [BitVec.toNat_and, ofInt8 hlt, h1]
    exact wrap_u8 (lt_and8 hlt)
  rw [e1, e2]
  have e3 : (((n >>> i) &&& 1 : Nat) : Int) = 1 ↔ Has (n : Int) i := by
    rw [Has, Int.toNat_natCast, Nat.testBit]
    have h5 : (n >>> i) &&& 1 = 1 &&& (n >>> i) := Nat.and_comm _ _
    rw [h5]
    have h4 : 1 &&& (n >>> i) < 2 := Nat.lt_of_le_of_lt Nat.and_le_left (by decide)
    simp only [bne_iff_ne, ne_eq]
    omega
  exact decide_eq_decide.2 e3

/-- A list as a set. -/
theorem of_set_ok {k : Nat} (hk : 50 ≤ k) {l : List Int} (hl : l.length ≤ 20) (hb : ∀ x ∈ l, 0 ≤ x ∧ x < 8) : W (chg_of k l) fun s => Mask s ∧ ∀ i : Nat, Has s i ↔ (i : Int) ∈ l := by
  unfold chg_of
  refine W.bind (R := fun s => Mask s ∧ ∀ i : Nat, Has s i ↔ (i : Int) ∈ l) ?_ fun s h => W.ret h
  refine W.loop (f := chg_of_l1 k l) (fun q y => ∃ j : Nat, y.2 = (j : Int) ∧ j ≤ l.length ∧ q = l.length - j ∧ Mask y.1 ∧ ∀ i : Nat, Has y.1 i ↔ (i : Int) ∈ l.take j) ?_ l.length k (0, 0) (by omega)
    ⟨0, rfl, by omega, by omega, ⟨by decide, by decide⟩, fun i => by simp [Has]⟩
  rintro fuel q ⟨s, y⟩ ⟨j, hj, hle, hq, hm, hh⟩ ih
  simp only at hj hm hh
  subst hj
  unfold chg_of_l1
  dsimp only
  refine W.ite (fun hlt => ?_) (fun hge => W.ret ?_)
  · have hlt' : j < l.length := by omega
    have hx := hb l[j] (List.getElem_mem hlt')
    obtain ⟨o1, o2⟩ := one_ok hx.1 hx.2
    obtain ⟨p1, p2⟩ := ior_ok hm o1
    refine W.bindE (geti_W hlt') (W.chk hx.1 (W.ck (by omega) (by omega) (ih (q - 1) (_, (j : Int) + 1) (by omega) ⟨j + 1, ?_, by omega, by omega, p1, fun i => ?_⟩)))
    · show (j : Int) + 1 = ((j + 1 : Nat) : Int)
      omega
    · show Has (ior .u8 s (ishl .u8 1 l[j])) i ↔ _
      rw [p2, hh, o2, List.take_add_one, List.getElem?_eq_getElem hlt']
      simp only [Option.toList_some, List.mem_append, List.mem_singleton]
  · have : j = l.length := by omega
    subst this
    rw [List.take_length] at hh
    exact ⟨hm, hh⟩

theorem outside_in {k : Nat} {x a b : Int} (h : a ≤ x ∧ x ≤ b) : chg_outside k x a b = some false := by
  unfold chg_outside
  rw [if_neg (by omega)]
  show some (decide (b < x)) = some false
  rw [decide_eq_false (by omega)]

theorem checkList_ok {k : Nat} (hk : 50 ≤ k) {l : List Int} {n but : Int} (hn : 1 ≤ n ∧ n ≤ 8) (h : Asc l n) (hb : ∀ x ∈ l, x ≠ but) : chg_checkList k l n but = some 0 := by
  have hlen := h.len (by omega)
  have key : W (chg_checkList_l1 k l n but k 0) fun r => r = .ok () := by
    refine W.loop (f := chg_checkList_l1 k l n but) (fun q y => ∃ j : Nat, y = (j : Int) ∧ j ≤ l.length ∧ q = l.length - j) ?_ l.length k 0 (by omega) ⟨0, rfl, by omega, by omega⟩
    rintro fuel q y ⟨j, hj, hle, hq⟩ ih
    subst hj
    unfold chg_checkList_l1
    refine W.ite (fun hlt => ?_) (fun hge => W.ret rfl)
    have hlt' : j < l.length := by omega
    have hx := h.2 l[j] (List.getElem_mem hlt')
    have hne := hb l[j] (List.getElem_mem hlt')
    refine W.bindE (geti_W hlt') ?_
    have e1 : ((K.ck (n - (1 : Int))).bind fun x8 => (chg_outside k l[j] (0 : Int) x8).bind fun r9 => if r9 = true then (some true) else (some (decide (l[j] = but)))) = some false := by
      rw [K.ck, if_pos (by omega)]
      show ((chg_outside k l[j] (0 : Int) (n - 1)).bind fun r9 => _) = _
      rw [outside_in (by omega)]
      show some (decide (l[j] = but)) = some false
      rw [decide_eq_false hne]
    refine W.bindE e1 ?_
    rw [if_neg (by decide)]
    have e2 : (if (0 : Int) < (j : Int) then ((K.ck ((j : Int) - (1 : Int))).bind fun x12 => (geti l x12).bind fun x13 => some (decide (l[j] ≤ x13))) else (some false)) = some false := by
      split
      · rename_i hj0
        have hp : (j : Int) - 1 = ((j - 1 : Nat) : Int) := by omega
        have hl1 : j - 1 < l.length := by omega
        rw [K.ck, if_pos (by omega)]
        show ((geti l ((j : Int) - 1)).bind fun x13 => _) = _
        rw [hp, geti_W hl1]
        show some (decide (l[j] ≤ l[j - 1])) = some false
        have := List.pairwise_iff_getElem.1 h.1 (j - 1) j hl1 hlt' (by omega)
        rw [decide_eq_false (by omega)]
      · rfl
    refine W.bindE e2 ?_
    rw [if_neg (by decide)]
    exact W.ck (by omega) (by omega) (ih (q - 1) ((j : Int) + 1) (by omega) ⟨j + 1, by omega, by omega, by omega⟩)
  obtain ⟨r, e, rfl⟩ := key
  unfold chg_checkList
  rw [e]
  rfl
end Go.Proofs.Ytfhdclhbdmhnmaa
