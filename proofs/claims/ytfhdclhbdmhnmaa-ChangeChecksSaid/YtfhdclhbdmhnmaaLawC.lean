/- Plain law: copies. -/
import Derived.Test.YtfhdclhbdmhnmaaLaw11
namespace Go.Proofs.Ytfhdclhbdmhnmaa
open K Go Go.Proofs

theorem copyInts_ok {k : Nat} {l : List Int} (h : l.length ≤ 1000) : kit_CopyInts k l = some l := by
  unfold kit_CopyInts
  rw [chkP, if_pos (okLen_of (by simpa using h))]
  rfl

theorem copyChange_ok {k : Nat} (hk : 50 ≤ k) {c : dChange} (h1 : c.1.length ≤ 20) (h2 : c.2.1.length ≤ 20) (h3 : ∀ t ∈ c.1, t.1.length ≤ 20) (h4 : ∀ d ∈ c.2.1, d.1.length ≤ 20) (h5 : c.2.2.1.length ≤ 20) (h6 : c.2.2.2.length ≤ 20) : kit_CopyChange k c = some c := by
  have k1 : W (kit_CopyChange_l1 k c k ([], 0)) fun r => r = c.1 := by
    refine W.loop (f := kit_CopyChange_l1 k c) (fun m y => ∃ j : Nat, y.2 = (j : Int) ∧ j ≤ c.1.length ∧ m = c.1.length - j ∧ y.1 = c.1.take j) ?_ c.1.length k _ (by omega) ⟨0, rfl, by omega, by omega, by simp⟩
    rintro fuel m ⟨o, y⟩ ⟨j, hj, hle, hq, ho⟩ ih
    simp only at hj ho
    subst hj ho
    unfold kit_CopyChange_l1
    dsimp only
    refine W.ite (fun hlt => ?_) (fun hge => W.ret (by have : j = c.1.length := by omega
                                                       subst this; rw [List.take_length]))
    have hlt' : j < c.1.length := by omega
    refine W.bindE (geti_W hlt') (W.bindE (copyInts_ok (by have := h3 _ (List.getElem_mem hlt'); omega)) (W.chk (okLen_of (by simp only [List.length_take, List.length_cons, List.length_nil]; omega)) (W.ck (by omega) (by omega) (ih (m - 1) (_, (j : Int) + 1) (by omega) ⟨j + 1, ?_, by omega, by omega, ?_⟩))))
    · show (j : Int) + 1 = ((j + 1 : Nat) : Int)
      omega
    · show c.1.take j ++ [_] = _
      rw [List.take_add_one, List.getElem?_eq_getElem hlt']
      rfl
  have k2 : W (kit_CopyChange_l2 k c k ([], 0)) fun r => r = c.2.1 := by
    refine W.loop (f := kit_CopyChange_l2 k c) (fun m y => ∃ j : Nat, y.2 = (j : Int) ∧ j ≤ c.2.1.length ∧ m = c.2.1.length - j ∧ y.1 = c.2.1.take j) ?_ c.2.1.length k _ (by omega) ⟨0, rfl, by omega, by omega, by simp⟩
    rintro fuel m ⟨o, y⟩ ⟨j, hj, hle, hq, ho⟩ ih
    simp only at hj ho
    subst hj ho
    unfold kit_CopyChange_l2
    dsimp only
    refine W.ite (fun hlt => ?_) (fun hge => W.ret (by have : j = c.2.1.length := by omega
                                                       subst this; rw [List.take_length]))
    have hlt' : j < c.2.1.length := by omega
    refine W.bindE (geti_W hlt') (W.bindE (copyInts_ok (by have := h4 _ (List.getElem_mem hlt'); omega)) (W.chk (okLen_of (by simp only [List.length_take, List.length_cons, List.length_nil]; omega)) (W.ck (by omega) (by omega) (ih (m - 1) (_, (j : Int) + 1) (by omega) ⟨j + 1, ?_, by omega, by omega, ?_⟩))))
    · show (j : Int) + 1 = ((j + 1 : Nat) : Int)
      omega
    · show c.2.1.take j ++ [_] = _
      rw [List.take_add_one, List.getElem?_eq_getElem hlt']
      rfl
  obtain ⟨x1, e1, rfl⟩ := k1
  obtain ⟨x2, e2, rfl⟩ := k2
  unfold kit_CopyChange
  rw [copyInts_ok (by omega), copyInts_ok (by omega), e1, e2]
  rfl

end Go.Proofs.Ytfhdclhbdmhnmaa
