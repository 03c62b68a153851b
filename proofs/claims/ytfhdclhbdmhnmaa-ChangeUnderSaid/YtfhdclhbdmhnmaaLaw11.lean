/- Plain law, part 11: small tools for the laws' own loops; what the tasks of a change are. -/
import Derived.Test.YtfhdclhbdmhnmaaLaw10
namespace Go.Proofs.Ytfhdclhbdmhnmaa
open K Go Go.Proofs

section
variable {α β ε : Type}
/-- A loop that only looks. -/
theorem for_all {f : Nat → Int → Option (Except ε Unit)} (i0 N : Nat) (step : ∀ n (j : Nat), i0 ≤ j → j < N → f (n + 1) (j : Int) = f n ((j : Int) + 1)) (stop : ∀ n (j : Nat), i0 ≤ j → N ≤ j → f (n + 1) (j : Int) = some (.ok ())) :
    ∀ n, N - i0 < n → f n (i0 : Int) = some (.ok ()) := by
  have key : ∀ (m : Nat) (j n : Nat), N - j = m → i0 ≤ j → m < n → f n (j : Int) = some (.ok ()) := by
    intro m
    induction m with
    | zero =>
      intro j n h1 h2 h3
      obtain ⟨n, rfl⟩ : ∃ n', n = n' + 1 := ⟨n - 1, by omega⟩
      exact stop n j h2 (by omega)
    | succ m ih =>
      intro j n h1 h2 h3
      obtain ⟨n, rfl⟩ : ∃ n', n = n' + 1 := ⟨n - 1, by omega⟩
      rw [step n j h2 (by omega)]
      have := ih (j + 1) n (by omega) (by omega) (by omega)
      rw [← this]
      rfl
  intro n hn
  exact key (N - i0) i0 n rfl (Nat.le_refl _) hn

/-- A loop that looks, and leaves at the first place where something is so. -/
theorem for_find {f : Nat → Int → Option (Except ε Unit)} {e : ε} (N i : Nat) (hi : i < N) (step : ∀ n (j : Nat), j < i → f (n + 1) (j : Int) = f n ((j : Int) + 1)) (stop : ∀ n, f (n + 1) (i : Int) = some (.error e)) :
    ∀ n, N < n → f n 0 = some (.error e) := by
  have key : ∀ (m : Nat) (j n : Nat), i - j = m → j ≤ i → m < n → f n (j : Int) = some (.error e) := by
    intro m
    induction m with
    | zero =>
      intro j n h1 h2 h3
      obtain ⟨n, rfl⟩ : ∃ n', n = n' + 1 := ⟨n - 1, by omega⟩
      have : j = i := by omega
      subst this
      exact stop n
    | succ m ih =>
      intro j n h1 h2 h3
      obtain ⟨n, rfl⟩ : ∃ n', n = n' + 1 := ⟨n - 1, by omega⟩
      rw [step n j (by omega)]
      have := ih (j + 1) n (by omega) (by omega) (by omega)
      rw [← this]
      rfl
  intro n hn
  exact key i 0 n (by omega) (by omega) (by omega)
end

theorem sameInts_self {k : Nat} {l : List Int} (h : l.length < k) (hk : l.length ≤ 1000000) : kit_SameInts k l l = some true := by
  unfold kit_SameInts
  have key := for_all (f := kit_SameInts_l1 k l l) 0 l.length (fun n j _ hj => by simp (disch := omega) only [kit_SameInts_l1, Int.ofNat_lt, hj, if_true, geti_W hj, bs, not_true_eq_false, if_false, ck_ok]) (fun n j _ hj => by simp only [kit_SameInts_l1]; rw [if_neg (by omega)]) k (by omega)
  rw [if_neg (by simp), show kit_SameInts_l1 k l l k 0 = _ from key, bE_k]
theorem sameSteps_self {k : Nat} {l : List dStep} (h : l.length < k) (hk : l.length ≤ 1000000) : kit_SameSteps k l l = some true := by
  unfold kit_SameSteps
  have key := for_all (f := kit_SameSteps_l1 k l l) 0 l.length (fun n j _ hj => by simp (disch := omega) only [kit_SameSteps_l1, Int.ofNat_lt, hj, if_true, geti_W hj, bs, not_true_eq_false, if_false, ck_ok]) (fun n j _ hj => by simp only [kit_SameSteps_l1]; rw [if_neg (by omega)]) k (by omega)
  rw [if_neg (by simp), show kit_SameSteps_l1 k l l k 0 = _ from key, bE_k]

theorem tsC_pw {c : dChange} {mv : List Bool} : (tsC c mv).Pairwise fun x y => (x.1 = true → y.1 = true) ∧ (x.1 = y.1 → x.2 < y.2) := by
  unfold tsC
  have pw : ∀ {ws : List Int} (b : Bool), ((tsL mv ws c.1.length).map fun x => (b, x)).Pairwise fun x y => (x.1 = true → y.1 = true) ∧ (x.1 = y.1 → x.2 < y.2) := fun {ws} b => by
    rw [List.pairwise_map]
    exact (tsL_pw (mv := mv) (ws := ws) (n := c.1.length)).imp fun {a b'} h => ⟨fun h => h, fun _ => h⟩
  refine List.pairwise_append.2 ⟨pw false, pw true, fun a ha b hb => ?_⟩
  simp only [List.mem_map] at ha hb
  obtain ⟨x, _, rfl⟩ := ha
  obtain ⟨y, _, rfl⟩ := hb
  exact ⟨fun _ => rfl, fun h => nomatch h⟩

/-- What moves is what has to. -/
theorem fix_iff {c : dChange} {mv : List Bool} (h : Fix c mv) {i : Nat} (hi : i < c.1.length) : In mv i ↔ Forced c (In mv) i := by
  refine ⟨fun hm => ?_, h.shut i hi⟩
  have hs : Shut c (fun i => i < c.1.length ∧ Forced c (In mv) i) := fun i hi hf => ⟨hi, hf.mono fun j hj => h.shut j hj.1 hj.2⟩
  exact (h.sound _ hs i hm).2
theorem fix_ww {c : dChange} {mv : List Bool} (h : Fix c mv) {i : Nat} (hm : In mv i) : (i : Int) ∈ c.2.2.1 ∨ (i : Int) ∈ c.2.2.2 :=
  h.sound (fun i => (i : Int) ∈ c.2.2.1 ∨ (i : Int) ∈ c.2.2.2) (fun i _ hf => by
    rcases hf with (⟨a, _⟩ | ⟨_, a⟩) | ⟨a, _, _⟩
    · exact .inl a
    · exact .inr a
    · exact .inl a) i hm
theorem mem_swap {c : dChange} {mv : List Bool} {i : Nat} {b : Bool} : ((i : Int), b) ∈ (tsC c mv).map (fun x => (x.2, x.1)) ↔ i < c.1.length ∧ In mv i ∧ (i : Int) ∈ (if b = true then c.2.2.2 else c.2.2.1) := by
  have : ((i : Int), b) ∈ (tsC c mv).map (fun x => (x.2, x.1)) ↔ (b, (i : Int)) ∈ tsC c mv := by
    simp only [List.mem_map, Prod.mk.injEq, Prod.exists]
    constructor
    · rintro ⟨x, y, h, rfl, rfl⟩; exact h
    · intro h; exact ⟨_, _, h, rfl, rfl⟩
  rw [this, mem_tsC]
  constructor
  · rintro ⟨j, h1, h2, h3, h4⟩
    simp only at h2
    have : i = j := by omega
    subst this
    exact ⟨h1, h3, h4⟩
  · rintro ⟨h1, h2, h3⟩
    exact ⟨i, h1, rfl, h2, h3⟩
end Go.Proofs.Ytfhdclhbdmhnmaa
