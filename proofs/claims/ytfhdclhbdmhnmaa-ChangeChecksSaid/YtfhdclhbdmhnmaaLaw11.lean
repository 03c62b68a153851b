/- Plain law, part 11: small tools for the laws' own loops; what the tasks of a change are. -/
import Derived.Test.YtfhdclhbdmhnmaaLaw10
namespace Go.Proofs.Ytfhdclhbdmhnmaa
open K Go Go.Proofs

section
variable {α β ε : Type}
/-- A loop that only looks. -/
theorem for_all {f : Nat → Int → Option (Except ε Unit)} (i0 N : Nat) (step : ∀ n (j : Nat), i0 ≤ j → j < N → f (n + 1) (j : Int) = f n ((j : Int) + 1)) (stop : ∀ n (j : Nat), i0 ≤ j → N ≤ j → f (n + 1) (j : Int) = some (.ok ())) :
    ∀ n, N - i0 < n → f n (i0 : Int) = some (.ok ()) := by
  have key : ∀ (m : Nat) (j n : Nat), N - j = m → i0 ≤ j → m < n → f n (j : Int) = some (.ok ()) := by
    intro m
    induction m with
    | zero =>
      intro j n h1 h2 h3
      obtain ⟨n, rfl⟩ : ∃ n', n = n' + 1 := ⟨n - 1, by omega⟩
      exact stop n j h2 (by omega)
    | succ m ih =>
      intro j n h1 h2 h3
      obtain ⟨n, rfl⟩ : ∃ n', n = n' + 1 := ⟨n - 1, by omega⟩
      rw [step n j h2 (by omega)]
      have := ih (j + 1) n (by omega) (by omega) (by omega)
      rw [← this]
      rfl
  intro n hn
  exact key (N - i0) i0 n rfl (Nat.le_refl _) hn

/-- A loop that looks, and leaves at the first place where something is so. -/
theorem for_find {f : Nat → Int → Option (Except ε Unit)} {e : ε} (N i : Nat) (hi : i < N) (step : ∀ n (j : Nat), j < i → f (n + 1) (j : Int) = f n ((j : Int) + 1)) (stop : ∀ n, f (n + 1) (i : Int) = some (.error e)) :
    ∀ n, N < n → f n 0 = some (.error e) := by
  have key : ∀ (m : Nat) (j n : Nat), i - j = m → j ≤ i → m < n → f n (j : Int) = some (.error e) := by
    intro m
    induction m with
    | zero =>
      intro j n h1 h2 h3
      obtain ⟨n, rfl⟩ : ∃ n', n = n' + 1 := ⟨n - 1, by omega⟩
      have : j = i := by omega
      subst this
      exact stop n
    | succ m ih =>
      intro j n h1 h2 h3
      obtain ⟨n, rfl⟩ : ∃ n', n = n' + 1 := ⟨n - 1, by omega⟩
      rw [step n j (by omega)]
      have := ih (j + 1) n (by omega) (by omega) (by omega)
      rw [← this]
      rfl
  intro n hn
  exact key i 0 n (by omega) (by omega) (by omega)
end

theorem sameInts_self {k : Nat} {l : List Int} (h : l.length < k) (hk : l.length ≤ 1000000) : kit_SameInts k l l = some true := by
  unfold kit_SameInts
  have key := for_all (f := kit_SameInts_l1 k l l) 0 l.length (fun n j _ hj => by simp (disch := omega) only [kit_SameInts_l1, Int.ofNat_lt, hj, if_true, geti_W hj, bs, not_true_eq_false, if_false, ck_ok]) (fun n j _ hj => by simp only [kit_SameInts_l1]; rw [if_neg (by omega)]) k (by omega)
  rw [if_neg (by simp), show kit_SameInts_l1 k l l k 0 = _ from key, bE_k]
end Go.Proofs.Ytfhdclhbdmhnmaa
