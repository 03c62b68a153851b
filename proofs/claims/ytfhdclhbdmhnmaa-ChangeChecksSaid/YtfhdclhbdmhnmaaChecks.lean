/- Plain law: ChangeChecks. -/
import Derived.Test.YtfhdclhbdmhnmaaRef1
import Derived.Test.YtfhdclhbdmhnmaaLawCF
namespace Go.Proofs.Ytfhdclhbdmhnmaa
open K Go Go.Proofs

/-- A loop that only looks, from the start. -/
theorem for_all0 {ε : Type} {f : Nat → Int → Option (Except ε Unit)} {N k : Nat} (hk : N < k) (step : ∀ n (j : Nat), j < N → f (n + 1) (j : Int) = f n ((j : Int) + 1)) (stop : ∀ n, f (n + 1) (N : Int) = some (.ok ())) : f k 0 = some (.ok ()) := by
  have key : ∀ (m j n : Nat), N - j = m → j ≤ N → m < n → f n (j : Int) = some (.ok ()) := by
    intro m
    induction m with
    | zero =>
      intro j n h1 h2 h3
      obtain ⟨n, rfl⟩ : ∃ n', n = n' + 1 := ⟨n - 1, by omega⟩
      have : j = N := by omega
      subst this
      exact stop n
    | succ m ih =>
      intro j n h1 h2 h3
      obtain ⟨n, rfl⟩ : ∃ n', n = n' + 1 := ⟨n - 1, by omega⟩
      rw [step n j (by omega)]
      exact ih (j + 1) n (by omega) (by omega) (by omega)
  exact key N 0 k rfl (Nat.zero_le _) hk

theorem sameLists_self {k : Nat} {l : List (List Int)} (h : l.length < k) (hk : l.length ≤ 1000000) (hx : ∀ x ∈ l, x.length < k ∧ x.length ≤ 1000000) : kit_SameLists k l l = some true := by
  unfold kit_SameLists
  have key : kit_SameLists_l1 k l l k 0 = some (.ok ()) := for_all0 (N := l.length) h (fun n j hj => by
    obtain ⟨a, b⟩ := hx _ (List.getElem_mem hj)
    simp (disch := omega) only [kit_SameLists_l1, Int.ofNat_lt, hj, if_true, geti_W hj, bs, sameInts_self a b, not_true_eq_false, if_false, ck_ok]) (fun n => by simp [kit_SameLists_l1])
  rw [if_neg (by simp), key, bE_k]

theorem sameChanges_self {k : Nat} (hk : 50 ≤ k) {c : dChange} (hs : Short c) : kit_SameChanges k c c = some true := by
  have h1 := hs.things
  have h2 := hs.dressers
  have h3 := hs.wears
  have h4 := hs.wants
  have k1 : kit_SameChanges_l1 k c c k 0 = some (.ok ()) := for_all0 (N := c.1.length) (by omega) (fun n j hj => by
    have := hs.over _ (List.getElem_mem hj)
    have hck : ck ((j : Int) + 1) = some ((j : Int) + 1) := ck_ok (by omega) (by omega)
    simp only [kit_SameChanges_l1, Int.ofNat_lt, hj, if_true, geti_W hj, bs, sameInts_self (show (c.1[j]).1.length < k by omega) (show (c.1[j]).1.length ≤ 1000000 by omega), not_true_eq_false, if_false, hck, decide_true, Bool.not_true, Bool.false_eq_true]) (fun n => by simp [kit_SameChanges_l1])
  have k2 : kit_SameChanges_l2 k c c k 0 = some (.ok ()) := for_all0 (N := c.2.1.length) (by omega) (fun n j hj => by
    have := hs.can _ (List.getElem_mem hj)
    have hck : ck ((j : Int) + 1) = some ((j : Int) + 1) := ck_ok (by omega) (by omega)
    simp only [kit_SameChanges_l2, Int.ofNat_lt, hj, if_true, geti_W hj, bs, sameInts_self (show (c.2.1[j]).1.length < k by omega) (show (c.2.1[j]).1.length ≤ 1000000 by omega), not_true_eq_false, if_false, hck, decide_true, Bool.not_true, Bool.false_eq_true]) (fun n => by simp [kit_SameChanges_l2])
  unfold kit_SameChanges
  simp only [sameInts_self (show c.2.2.1.length < k by omega) (show c.2.2.1.length ≤ 1000000 by omega), sameInts_self (show c.2.2.2.length < k by omega) (show c.2.2.2.length ≤ 1000000 by omega), bs, not_true_eq_false, if_false, decide_true, Bool.not_true, Bool.false_eq_true, k1, k2, bE_k]

theorem copy_short {k : Nat} (hk : 50 ≤ k) {c : dChange} (hs : Short c) : kit_CopyChange k c = some c := copyChange_ok hk hs.things hs.dressers hs.over hs.can hs.wears hs.wants
theorem copyF_short {k : Nat} (hk : 50 ≤ k) {c : dChange} (hs : Short c) : kit_CopyChangeF k c = some c := copyChangeF_ok hk hs.things hs.dressers hs.over hs.can hs.wears hs.wants
theorem short_of_vc {n : Int} {c : dChange} (hc : VC n c) : Short c := by
  obtain ⟨w1, w2, w3, w4, w5⟩ := hc.wl
  have := hc.dl
  exact ⟨by omega, by omega, by omega, by omega, fun t h => by have := w4 t h; omega, fun d h => by have := w5 d h; omega⟩

/-- A loop over a list that leaves at the first that is too long. -/
theorem long_loop {α : Type} {l : List α} {g : α → Nat} {f : Nat → Int → Option (Except Bool Unit)} {k : Nat} (hk : l.length < k) (step : ∀ n (j : Nat) (h : j < l.length), f (n + 1) (j : Int) = if 20 < g l[j] then some (.error true) else f n ((j : Int) + 1)) (stop : ∀ n, f (n + 1) (l.length : Int) = some (.ok ())) :
    W (f k 0) fun r => r = .error true ∨ (r = .ok () ∧ ∀ x ∈ l, g x ≤ 20) := by
  have key : ∀ (m j n : Nat), l.length - j = m → j ≤ l.length → m < n → W (f n (j : Int)) fun r => r = .error true ∨ (r = .ok () ∧ ∀ x ∈ l.drop j, g x ≤ 20) := by
    intro m
    induction m with
    | zero =>
      intro j n h1 h2 h3
      obtain ⟨n, rfl⟩ : ∃ n', n = n' + 1 := ⟨n - 1, by omega⟩
      have : j = l.length := by omega
      subst this
      exact ⟨_, stop n, .inr ⟨rfl, by simp⟩⟩
    | succ m ih =>
      intro j n h1 h2 h3
      obtain ⟨n, rfl⟩ : ∃ n', n = n' + 1 := ⟨n - 1, by omega⟩
      have hj : j < l.length := by omega
      rw [step n j hj]
      by_cases hg : 20 < g l[j]
      · rw [if_pos hg]; exact ⟨_, rfl, .inl rfl⟩
      · rw [if_neg hg]
        obtain ⟨r, e, h⟩ := ih (j + 1) n (by omega) (by omega) (by omega)
        refine ⟨r, e, h.imp id fun ⟨h1, h2⟩ => ⟨h1, fun x hx => ?_⟩⟩
        rw [List.drop_eq_getElem_cons hj, List.mem_cons] at hx
        rcases hx with rfl | hx
        · omega
        · exact h2 x hx
  exact key l.length 0 k rfl (Nat.zero_le _) hk

theorem long_ok {k : Nat} (hk : 50 ≤ k) {c : dChange} : W (law_long k c) fun r => r = false → Short c := by
  unfold law_long
  by_cases h1 : (20 : Int) < (c.1.length : Int)
  · rw [if_pos h1, bs, if_pos rfl]; exact ⟨_, rfl, fun h => (nomatch h)⟩
  by_cases h2 : (20 : Int) < (c.2.1.length : Int)
  · rw [if_neg h1, if_pos h2, bs, if_pos rfl]; exact ⟨_, rfl, fun h => (nomatch h)⟩
  by_cases h3 : (20 : Int) < (c.2.2.1.length : Int)
  · rw [if_neg h1, if_neg h2, if_pos h3, bs, if_pos rfl]; exact ⟨_, rfl, fun h => (nomatch h)⟩
  by_cases h4 : (20 : Int) < (c.2.2.2.length : Int)
  · rw [if_neg h1, if_neg h2, if_neg h3, bs, if_pos (decide_eq_true h4)]; exact ⟨_, rfl, fun h => (nomatch h)⟩
  rw [if_neg h1, if_neg h2, if_neg h3, bs, if_neg (by simpa using h4)]
  obtain ⟨r1, e1, g1⟩ := long_loop (l := c.1) (g := fun t => t.1.length) (f := law_long_l1 k c) (k := k) (by omega) (fun n j h => by
    have hck : ck ((j : Int) + 1) = some ((j : Int) + 1) := ck_ok (by omega) (by omega)
    simp only [law_long_l1, Int.ofNat_lt, h, if_true, geti_W h, bs, hck]
    by_cases hx : 20 < (c.1[j]).1.length
    · rw [if_pos (by omega), if_pos hx]
    · rw [if_neg (by omega), if_neg hx]) (fun n => by simp [law_long_l1])
  obtain ⟨r2, e2, g2⟩ := long_loop (l := c.2.1) (g := fun t => t.1.length) (f := law_long_l2 k c) (k := k) (by omega) (fun n j h => by
    have hck : ck ((j : Int) + 1) = some ((j : Int) + 1) := ck_ok (by omega) (by omega)
    simp only [law_long_l2, Int.ofNat_lt, h, if_true, geti_W h, bs, hck]
    by_cases hx : 20 < (c.2.1[j]).1.length
    · rw [if_pos (by omega), if_pos hx]
    · rw [if_neg (by omega), if_neg hx]) (fun n => by simp [law_long_l2])
  rw [e1, e2]
  rcases g1 with rfl | ⟨rfl, g1⟩
  · rw [bE_e]; exact ⟨_, rfl, fun h => (nomatch h)⟩
  rcases g2 with rfl | ⟨rfl, g2⟩
  · rw [bE_k, bE_e]; exact ⟨_, rfl, fun h => (nomatch h)⟩
  rw [bE_k, bE_k]
  exact ⟨_, rfl, fun _ => ⟨by omega, by omega, by omega, by omega, g1, g2⟩⟩

/-- **The changes of a law.** -/
theorem sets_ok {k : Nat} (hk : 50 ≤ k) {c : dChange} (hs : Short c) {l : dLots} {m : Int} (hl : Lo l m) (hm : 0 ≤ m ∧ m ≤ 1000) : W (law_sets k c l) fun r => Lo r.2 (m + 310) ∧ r.1.length = 4 ∧ ∀ x ∈ r.1, Short x := by
  obtain ⟨r2, e2, hlo, _, n, mv, q, hc, _⟩ := lots_ok hk hl hm
  have hs2 := short_of_vc hc
  have hn := hc.n4
  have hl2 := hc.len
  have hd2 := hc.dl
  obtain ⟨r9, e9, _, _, h9⟩ := upto_ok (k := k) (n := 2) hlo (by omega) (by decide)
  unfold law_sets
  rw [e2, bs, copy_short hk hs2, bs]
  have fin : ∀ (x : (List dThing) × (List dDresser) × (List Int) × (List Int) × Int × Int), Lo (x.2.2.2.1, x.2.2.2.2.1, x.2.2.2.2.2) (m + 310) → Short (x.1, x.2.1, r2.1.2.2.1, x.2.2.1) →
      W ((some x).bind fun x7 => some ([c, r2.1, (x7.1, x7.2.1, r2.1.2.2.1, x7.2.2.1), r2.1], (x7.2.2.2.1, x7.2.2.2.2.1, x7.2.2.2.2.2))) fun r => Lo r.2 (m + 310) ∧ r.1.length = 4 ∧ ∀ x ∈ r.1, Short x := fun x h1 h2 => by
    refine W.ret ⟨h1, rfl, fun y hy => ?_⟩
    simp only [List.mem_cons, List.not_mem_nil, or_false] at hy
    rcases hy with rfl | rfl | rfl | rfl
    · exact hs
    · exact hs2
    · exact h2
    · exact hs2
  rw [show kit_Lots_Upto k (r2.2.1, r2.2.2.1, r2.2.2.2) 2 = some r9 from e9, bs]
  by_cases c0 : r9.1 = 0
  · rw [if_pos c0, copyInts_ok (by have := hs.wants; omega), bs]
    exact fin _ (h9.mono (by omega)) ⟨hs2.things, hs2.dressers, hs2.wears, hs.wants, hs2.over, hs2.can⟩
  rw [if_neg c0]
  by_cases c1 : r9.1 = 1
  · rw [if_pos c1]
    by_cases hp : (0 : Int) < (c.1.length : Int)
    · rw [if_pos hp, ck_ok (by omega) (by omega), bs]
      obtain ⟨r14, e14, a14, b14, h14⟩ := upto_ok (k := k) (n := (r2.1.1.length : Int) - 1) h9 (by omega) (by omega)
      rw [show kit_Lots_Upto k (r9.2.1, r9.2.2.1, r9.2.2.2) _ = some r14 from e14, bs, copyF_short hk hs, bs]
      have b14 := b14 (by omega)
      have hg0 : 0 < c.1.length := by omega
      rw [show geti c.1 0 = some c.1[0] from geti_W (i := 0) hg0, bs, geti_at a14 (by omega), bs]
      refine fin _ (h14.mono (by omega)) ⟨by simpa using hs2.things, hs2.dressers, hs2.wears, hs2.wants, fun t ht => ?_, hs2.can⟩
      rcases List.mem_or_eq_of_mem_set ht with h | rfl
      · exact hs2.over t h
      · exact hs.over _ (List.getElem_mem hg0)
    · rw [if_neg hp]
      exact fin _ (h9.mono (by omega)) hs2
  rw [if_neg c1]
  by_cases c2 : r9.1 = 2
  · rw [if_pos c2]
    by_cases hp : (0 : Int) < (c.2.1.length : Int)
    · rw [if_pos hp, ck_ok (by omega) (by omega), bs]
      obtain ⟨r14, e14, a14, b14, h14⟩ := upto_ok (k := k) (n := (r2.1.2.1.length : Int) - 1) h9 (by omega) (by omega)
      rw [show kit_Lots_Upto k (r9.2.1, r9.2.2.1, r9.2.2.2) _ = some r14 from e14, bs, copyF_short hk hs, bs]
      have b14 := b14 (by omega)
      have hg0 : 0 < c.2.1.length := by omega
      rw [show geti c.2.1 0 = some c.2.1[0] from geti_W (i := 0) hg0, bs, geti_at a14 (by omega), bs]
      refine fin _ (h14.mono (by omega)) ⟨hs2.things, by simpa using hs2.dressers, hs2.wears, hs2.wants, hs2.over, fun t ht => ?_⟩
      rcases List.mem_or_eq_of_mem_set ht with h | rfl
      · exact hs2.can t h
      · exact hs.can _ (List.getElem_mem hg0)
    · rw [if_neg hp]
      exact fin _ (h9.mono (by omega)) hs2
  · rw [if_neg c2]
    exact fin _ (h9.mono (by omega)) hs2

theorem frS_two {c : dChange} {ts : List (Bool × Int)} {m : Nat} {x : List Int} (h : x ∈ frS c ts m) : x.length = 2 := by
  unfold frS at h
  simp only [List.mem_flatMap, List.mem_map] at h
  obtain ⟨a, _, b, _, rfl⟩ := h
  rfl

theorem bool_of (p : Prop) : ∃ b : Bool, b = true ↔ p := by
  by_cases h : p
  · exact ⟨true, by simp [h]⟩
  · exact ⟨false, by simp [h]⟩

/-- What the program and the reference say of a change. -/
theorem said_eq {k : Nat} (hk : 50 ≤ k) {c : dChange} (hs : Short c) : ∃ (e e' : Int) (ts : List dTask) (fs : List (List Int)), chg_Check k c = some e ∧ ref_Check k c = some e ∧ chg_Tasks k c = some (ts, e') ∧ ref_Tasks k c = some (ts, e') ∧ chg_Firsts k c = some (fs, e') ∧ ref_Firsts k c = some (fs, e') ∧ ts.length ≤ 20 ∧ fs.length ≤ 20 ∧ ∀ x ∈ fs, x.length ≤ 20 := by
  obtain ⟨b, hb⟩ := bool_of (∃ i, Rch c i i)
  by_cases h : chkS c b = 0
  · have hc := vc_of_chk hs hb h
    obtain ⟨mv, hF⟩ := hc.fix
    have ha := refAsked_eq hk hs hb (fun _ => hF)
    rw [if_neg (by simp [h])] at ha
    by_cases h4 : 4 < (tsC c mv).length
    · have hbg := (begin_ok hk hc hF).1 h4
      rw [if_pos h4] at ha
      refine ⟨0, 6, [], [], (chgCheck_eq hk hs hb).trans (by rw [h]), (refCheck_eq hk hs hb).trans (by rw [h]), ?_, ?_, ?_, ?_, by simp, by simp, by simp⟩
      · unfold chg_Tasks
        rw [hbg, bs, co_none, if_pos (by decide)]
      · unfold ref_Tasks
        rw [ha, bs, if_pos (by decide)]
      · unfold chg_Firsts
        rw [hbg, bs, co_none, if_pos (by decide)]
      · unfold ref_Firsts
        rw [ha, bs, if_pos (by decide)]
    · obtain ⟨q, hbg, hq⟩ := (begin_ok hk hc hF).2 (by omega)
      rw [if_neg h4] at ha
      have hl := frS_len (c := c) (ts := tsC c mv) (m := (tsC c mv).length)
      have hm := Nat.mul_le_mul (show (tsC c mv).length ≤ 4 by omega) (show (tsC c mv).length ≤ 4 by omega)
      refine ⟨0, 0, (tsC c mv).map fun x => (x.2, x.1), frS c (tsC c mv) (tsC c mv).length, (chgCheck_eq hk hs hb).trans (by rw [h]), (refCheck_eq hk hs hb).trans (by rw [h]), tasks_eq hk hq hbg, ?_, FirstsX_eq hk hq hbg, ?_, by rw [List.length_map]; omega, by omega, fun x hx => by rw [frS_two hx]; omega⟩
      · unfold ref_Tasks
        rw [ha, bs, if_neg (by simp), refTasks_eq hk hc hF, bs]
      · unfold ref_Firsts
        rw [ha, bs, if_neg (by simp), refTasks_eq hk hc hF, bs, refFirstsL_eq hk hc (by omega), bs]
  · have ha := refAsked_eq hk hs hb (mv := []) (fun h' => absurd h' h)
    rw [if_pos h] at ha
    have hbg : chg_begin k c = some (none, chkS c b) := by
      unfold chg_begin
      rw [chgCheck_eq hk hs hb, bs, if_pos h]
    refine ⟨chkS c b, chkS c b, [], [], chgCheck_eq hk hs hb, refCheck_eq hk hs hb, ?_, ?_, ?_, ?_, by simp, by simp, by simp⟩
    · unfold chg_Tasks
      rw [hbg, bs, co_none, if_pos h]
    · unfold ref_Tasks
      rw [ha, bs, if_pos h]
    · unfold chg_Firsts
      rw [hbg, bs, co_none, if_pos h]
    · unfold ref_Firsts
      rw [ha, bs, if_pos h]

/-- **The law.** -/
theorem checks_law {k : Nat} (hk : 50 ≤ k) (hd : law_dressed k = some true) (a0 : dChange) (a1 : List Int) : law_ChangeChecks k a0 a1 = some true := by
  obtain ⟨b, eb, hb⟩ := long_ok hk (c := a0)
  unfold law_ChangeChecks
  rw [eb, bs]
  cases b with
  | true => rw [if_pos rfl, hd, bs]
  | false =>
    have hs := hb rfl
    rw [if_neg (by decide)]
    obtain ⟨⟨cs, l⟩, e, _, h4, hx⟩ := sets_ok hk hs (l := (a1, 0, 1)) (m := 0) newLots_ok (by decide)
    rw [show kit_NewLots k a1 = some (a1, 0, 1) from rfl, bs, e, bs]
    have key : law_ChangeChecks_l1 k (cs, l) k 0 = some (.ok ()) := for_all0 (N := cs.length) (by simp only at h4; omega) (fun n j hj => by
      have hS := hx _ (List.getElem_mem hj)
      obtain ⟨e, e', ts, fs, g1, g2, g3, g4, g5, g6, l1, l2, l3⟩ := said_eq hk hS
      have hck : ck ((j : Int) + 1) = some ((j : Int) + 1) := ck_ok (by simp only at h4; omega) (by simp only at h4; omega)
      simp only [law_ChangeChecks_l1, Int.ofNat_lt, hj, if_true, geti_W hj, bs, copy_short hk hS, g1, g2, g3, g4, g5, g6, not_true_eq_false, if_false, sameTasks_self (show ts.length < k by omega) (show ts.length ≤ 1000000 by omega), sameLists_self (show fs.length < k by omega) (show fs.length ≤ 1000000 by omega) (fun x h => ⟨by have := l3 x h; omega, by have := l3 x h; omega⟩), sameChanges_self hk hS, Bool.not_true, Bool.false_eq_true, hck]) (fun n => by simp [law_ChangeChecks_l1])
    rw [key, bE_k, hd, bs]
end Go.Proofs.Ytfhdclhbdmhnmaa
