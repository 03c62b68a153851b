/- Plain law: no plan is better. -/
import Derived.Test.YtfhdclhbdmhnmaaFewest
namespace Go.Proofs.Ytfhdclhbdmhnmaa
open K Go Go.Proofs

theorem stepLt_trans {x y z : dStep} (h : stepLt x y = true) (h' : stepLt y z = true) : stepLt x z = true := by
  unfold stepLt at *
  simp only [Bool.or_eq_true, Bool.and_eq_true, decide_eq_true_eq] at *
  omega
theorem soonB_trans : ∀ {a b d : List dStep}, soonB a b = true → soonB b d = true → soonB a d = true
  | [], _, _, h, _ => by simp [soonB] at h
  | _ :: _, [], _, h, _ => by simp [soonB] at h
  | _ :: _, _ :: _, [], _, h => by simp [soonB] at h
  | x :: a, y :: b, z :: d, h, h' => by
    simp only [soonB] at h h' ⊢
    by_cases e : x = y
    · subst e
      rw [if_pos rfl] at h
      by_cases e2 : x = z
      · subst e2
        rw [if_pos rfl] at h' ⊢
        exact soonB_trans h h'
      · rw [if_neg e2] at h' ⊢
        exact h'
    · rw [if_neg e] at h
      by_cases e2 : y = z
      · subst e2
        rw [if_neg e]
        exact h
      · rw [if_neg e2] at h'
        by_cases e3 : x = z
        · subst e3
          have := stepLt_asym h
          rw [h'] at this; cases this
        · rw [if_neg e3]
          exact stepLt_trans h h'

theorem sooner_eq {k : Nat} {a b : List dStep} (hl : a.length = b.length) (h : a.length < k) (hk : a.length ≤ 1000000) : law_sooner k a b = some (soonB a b) := by
  have key := for_foldE (f := law_sooner_l1 k a b) a (fun (_ : Unit) j => j) (fun _ j x => if x = b[j]?.getD (0, 0) then .ok () else Except.error (stepLt x (b[j]?.getD (0, 0)))) (fun _ _ => True) (fun r => some r)
    (fun n s j hj _ => by
      have hjb : j < b.length := by omega
      have hb : b[j]?.getD (0, 0) = b[j] := by simp [List.getElem?_eq_getElem hjb]
      have hck : ck ((j : Int) + 1) = some ((j : Int) + 1) := ck_ok (by omega) (by omega)
      rw [hb]
      simp only [law_sooner_l1, Int.ofNat_lt, hj, if_true, geti_W hj, geti_W hjb, bs]
      generalize a[j] = x
      generalize b[j] = y
      by_cases e : x = y
      · simp [e, hck]
      · refine .inl ⟨stepLt x y, by rw [if_neg e], ?_⟩
        rw [if_pos e]
        unfold stepLt
        by_cases h1 : x.1 < y.1
        · simp [h1]
        · by_cases h2 : x.1 = y.1
          · simp [h2]
          · simp [h1, h2])
    (fun n s _ => by simp [law_sooner_l1]) (n := k) (s0 := ()) h trivial
  unfold law_sooner
  rw [show law_sooner_l1 k a b k 0 = _ from key]
  have : ∀ (a : List dStep) (j : Nat), a.length + j = b.length → foldE (fun (_ : Unit) j x => if x = b[j]?.getD (0, 0) then .ok () else Except.error (stepLt x (b[j]?.getD (0, 0)))) j a () = if soonB a (b.drop j) = true then .error true else if a = b.drop j then .ok () else .error false := by
    intro a
    induction a with
    | nil =>
      intro j hj
      have : b.drop j = [] := List.drop_eq_nil_of_le (by simp only [List.length_nil] at hj; omega)
      rw [this]
      simp [foldE, soonB]
    | cons x a ih =>
      intro j hj
      simp only [List.length_cons] at hj
      have hjb : j < b.length := by omega
      have hd : b.drop j = b[j] :: b.drop (j + 1) := List.drop_eq_getElem_cons hjb
      have hb : b[j]?.getD (0, 0) = b[j] := by simp [List.getElem?_eq_getElem hjb]
      rw [foldE, hb, hd]
      by_cases e : x = b[j]
      · have h1 : soonB (x :: a) (b[j] :: b.drop (j + 1)) = soonB a (b.drop (j + 1)) := by rw [soonB, if_pos e]
        have h2 : (x :: a = b[j] :: b.drop (j + 1)) = (a = b.drop (j + 1)) := propext ⟨fun h => (List.cons.inj h).2, fun h => by rw [h, e]⟩
        rw [if_pos e]
        simp only [h1, h2]
        exact ih (j + 1) (by omega)
      · have h1 : soonB (x :: a) (b[j] :: b.drop (j + 1)) = stepLt x b[j] := by rw [soonB, if_neg e]
        have h2 : ¬ (x :: a = b[j] :: b.drop (j + 1)) := fun h => e (List.cons.inj h).1
        rw [if_neg e]
        simp only [h1, h2, if_false]
        cases stepLt x b[j] <;> simp
  rw [this a 0 (by omega), List.drop_zero]
  cases hs : soonB a b with
  | true => rw [if_pos rfl, bE_e]
  | false =>
    rw [if_neg (by decide)]
    by_cases e : a = b
    · rw [if_pos e, bE_k]
    · rw [if_neg e, bE_e]

theorem lenS_nonneg {n : Int} {c : dChange} {mv : List Bool} (hc : VC n c) {p : List dStep} (hp : cpS c (tsC c mv) p = 0) : 0 ≤ lenS c (tsC c mv) p := by
  obtain ⟨_, b⟩ := cpS_ok hp
  have := bge_bnd hc (mv := mv) (p := p) (E := E0) (F := F0 c) (b := 9) (fun s hs => ((cpGo_ok b).1 s hs).1) (fun i => ⟨Int.le_refl 0, by unfold E0; decide⟩) (F0_bnd hc) 0
  unfold lenS maxE
  simp only [le_imax]
  omega

/-- What has been found among some lists. -/
structure Found (c : dChange) (ts : List (Bool × Int)) (P : List (List dStep)) (best : List dStep) (least : Int) : Prop where
  ex : (least < 0 ∧ ∀ p ∈ P, cpS c ts p ≠ 0) ∨ (0 ≤ least ∧ cpS c ts best = 0 ∧ least = lenS c ts best ∧ ∀ p ∈ P, cpS c ts p = 0 → least < lenS c ts p ∨ (least = lenS c ts p ∧ soonB p best = false))
structure FoundK (c : dChange) (ts : List (Bool × Int)) (P : List (List dStep)) (keeps : List dStep) (some_ : Bool) : Prop where
  ex : (some_ = false ∧ ∀ p ∈ P, cpS c ts p = 0 → keepsB c ts (fun _ => false) p = false) ∨ (some_ = true ∧ cpS c ts keeps = 0 ∧ keepsB c ts (fun _ => false) keeps = true ∧ ∀ p ∈ P, cpS c ts p = 0 → keepsB c ts (fun _ => false) p = true → soonB p keeps = false)

theorem Found.skip {c : dChange} {ts : List (Bool × Int)} {P : List (List dStep)} {best : List dStep} {least : Int} {x : List dStep} (h : Found c ts P best least) (hx : cpS c ts x ≠ 0) : Found c ts (P ++ [x]) best least := by
  rcases h.ex with ⟨h1, h2⟩ | ⟨h1, h2, h3, h4⟩
  · exact ⟨.inl ⟨h1, fun p hp => by
      rcases List.mem_append.1 hp with hp | hp
      · exact h2 p hp
      · simp only [List.mem_singleton] at hp; subst hp; exact hx⟩⟩
  · exact ⟨.inr ⟨h1, h2, h3, fun p hp hc => by
      rcases List.mem_append.1 hp with hp | hp
      · exact h4 p hp hc
      · simp only [List.mem_singleton] at hp; subst hp; exact absurd hc hx⟩⟩
theorem FoundK.skip {c : dChange} {ts : List (Bool × Int)} {P : List (List dStep)} {keeps : List dStep} {some_ : Bool} {x : List dStep} (h : FoundK c ts P keeps some_) (hx : cpS c ts x = 0 → keepsB c ts (fun _ => false) x = false) : FoundK c ts (P ++ [x]) keeps some_ := by
  rcases h.ex with ⟨h1, h2⟩ | ⟨h1, h2, h3, h4⟩
  · exact ⟨.inl ⟨h1, fun p hp hc => by
      rcases List.mem_append.1 hp with hp | hp
      · exact h2 p hp hc
      · simp only [List.mem_singleton] at hp; subst hp; exact hx hc⟩⟩
  · exact ⟨.inr ⟨h1, h2, h3, fun p hp hc hk => by
      rcases List.mem_append.1 hp with hp | hp
      · exact h4 p hp hc hk
      · simp only [List.mem_singleton] at hp; subst hp; rw [hx hc] at hk; cases hk⟩⟩
theorem soonB_irrefl {a : List dStep} : soonB a a = false := by
  cases h : soonB a a with
  | false => rfl
  | true => have := soonB_asym h; rw [h] at this; cases this
theorem Found.take {c : dChange} {ts : List (Bool × Int)} {P : List (List dStep)} {best : List dStep} {least : Int} {x : List dStep} (h : Found c ts P best least) (hx : cpS c ts x = 0) (h0 : 0 ≤ lenS c ts x)
    (hb : least < 0 ∨ lenS c ts x < least ∨ (lenS c ts x = least ∧ soonB x best = true)) : Found c ts (P ++ [x]) x (lenS c ts x) := by
  refine ⟨.inr ⟨h0, hx, rfl, fun p hp hc => ?_⟩⟩
  rcases List.mem_append.1 hp with hp | hp
  · rcases h.ex with ⟨h1, h2⟩ | ⟨h1, h2, h3, h4⟩
    · exact absurd hc (h2 p hp)
    · rcases h4 p hp hc with h5 | ⟨h5, h6⟩
      · exact .inl (by omega)
      · rcases hb with hb | hb | ⟨hb, hs⟩
        · omega
        · exact .inl (by omega)
        · refine .inr ⟨by omega, ?_⟩
          cases hpx : soonB p x with
          | false => rfl
          | true => rw [soonB_trans hpx hs] at h6; cases h6
  · simp only [List.mem_singleton] at hp
    subst hp
    exact .inr ⟨rfl, soonB_irrefl⟩
theorem Found.keep {c : dChange} {ts : List (Bool × Int)} {P : List (List dStep)} {best : List dStep} {least : Int} {x : List dStep} (h : Found c ts P best least) (h0 : 0 ≤ least)
    (hb : least < lenS c ts x ∨ (least = lenS c ts x ∧ soonB x best = false)) : Found c ts (P ++ [x]) best least := by
  rcases h.ex with ⟨h1, h2⟩ | ⟨h1, h2, h3, h4⟩
  · omega
  · exact ⟨.inr ⟨h1, h2, h3, fun p hp hc => by
      rcases List.mem_append.1 hp with hp | hp
      · exact h4 p hp hc
      · simp only [List.mem_singleton] at hp; subst hp; exact hb⟩⟩

/-- **No plan is better.** -/
theorem fewest_law {k : Nat} (hk : 70000 ≤ k) (hdr : law_dressed k = some true) (a0 : List Int) : law_ChangeFewest k a0 = some true := by
  have hk5 : 50 ≤ k := by omega
  unfold law_ChangeFewest
  rw [show kit_NewLots k a0 = some (a0, 0, 1) from rfl, bs]
  obtain ⟨⟨c0, l⟩, e3, hlo, hG, n, mv, q0, hc0, hb0, hq0⟩ := lots_ok hk5 (l := (a0, 0, 1)) (m := 0) newLots_ok (by decide)
  simp only at hc0 hb0 hq0 hG
  have hdl0 := hc0.dl
  rw [e3, bs]
  simp only
  have hmin : ∃ j : Nat, imin 2 (c0.2.1.length : Int) = (j : Int) ∧ 1 ≤ j ∧ j ≤ 2 ∧ j ≤ c0.2.1.length := by
    unfold imin
    split
    · exact ⟨c0.2.1.length, rfl, by omega, by omega, by omega⟩
    · exact ⟨2, rfl, by omega, by omega, by omega⟩
  obtain ⟨j, hj, j1, j2, j3⟩ := hmin
  have htl : (c0.2.1.take j).length = j := by simp; omega
  obtain ⟨q, hb, hq⟩ := begin_with hk5 hG hq0 (ds := c0.2.1.take j) (fun x hx => hc0.dressers x (List.mem_of_mem_take hx)) (by omega)
  have hF : Fix (wD c0 (c0.2.1.take j)) mv := hq.fix
  rw [hj, chk_ok (by omega), bs, Int.toNat_natCast]
  have hlaw : ∀ m y, law_ChangeFewest_l1 k (c0, l) (allS (tsC (wD c0 (c0.2.1.take j)) mv).length (wD c0 (c0.2.1.take j)).2.1.length) m y = law_ChangeFewest_l1 k (c0, l) (allS (tsC (wD c0 (c0.2.1.take j)) mv).length (wD c0 (c0.2.1.take j)).2.1.length) m y := fun _ _ => rfl
  generalize hcc : wD c0 (c0.2.1.take j) = c at *
  have hce : ((c0.1, c0.2.1.take j, c0.2.2) : dChange) = c := hcc
  have hc := hq.vc
  have ht := hq.t4
  have hdl := hc.dl
  rw [hce, Fewest_eq hk5 hq hb, bs, Kept_eq hk5 hq hb, bs, all_eq (by omega) hc hF ht, bs]
  have hLl := allS_len (n := (tsC c mv).length) (D := c.2.1.length) ht (by omega)
  have hLm : ∀ p ∈ allS (tsC c mv).length c.2.1.length, p.length = (tsC c mv).length := fun p hp => allS_mem hp
  have hLa : ∀ p, cpS c (tsC c mv) p = 0 → p ∈ allS (tsC c mv).length c.2.1.length := fun p hp => allS_all hp
  generalize allS (tsC c mv).length c.2.1.length = L at *
  -- the loop
  have loop : W (law_ChangeFewest_l1 k (c0, l) L k ([], [], (-1 : Int), false, (0 : Int))) fun r => ∃ best keeps least some_, r = .ok (best, keeps, least, some_) ∧ Found c (tsC c mv) L best least ∧ FoundK c (tsC c mv) L keeps some_ := by
    refine W.loop (f := law_ChangeFewest_l1 k (c0, l) L) (fun m y => ∃ i : Nat, y.2.2.2.2 = (i : Int) ∧ i ≤ L.length ∧ m = L.length - i ∧ Found c (tsC c mv) (L.take i) y.1 y.2.2.1 ∧ FoundK c (tsC c mv) (L.take i) y.2.1 y.2.2.2.1) ?_ L.length k _ (by omega)
      ⟨0, rfl, by omega, by omega, ⟨.inl ⟨by decide, by simp⟩⟩, ⟨.inl ⟨rfl, by simp⟩⟩⟩
    rintro fuel m ⟨best, keeps, least, some_, y⟩ ⟨i, hi, hle, hm, hF1, hF2⟩ ih
    simp only at hi hF1 hF2
    subst hi
    have o1 : i < L.length → m - 1 < m ∧ m - 1 = L.length - (i + 1) ∧ i + 1 ≤ L.length := by clear ih; omega
    unfold law_ChangeFewest_l1
    dsimp only
    refine W.ite (fun hlt => ?_) (fun hge => W.ret (by
      have : i = L.length := by clear ih; omega
      subst this
      rw [List.take_length] at hF1 hF2
      exact ⟨_, _, _, _, rfl, hF1, hF2⟩))
    have hlt' : i < L.length := by clear ih; omega
    have hx := hLm _ (List.getElem_mem hlt')
    have htk : L.take (i + 1) = L.take i ++ [L[i]] := by rw [List.take_add_one, List.getElem?_eq_getElem hlt']; rfl
    rw [hj, Int.toNat_natCast, hce, geti_W hlt', bs, Bars_eq hk5 hq hb (by rw [hx]; omega), bs]
    have next : ∀ best' keeps' least' some', Found c (tsC c mv) (L.take i ++ [L[i]]) best' least' → FoundK c (tsC c mv) (L.take i ++ [L[i]]) keeps' some' → W (bE (some (.ok (best', keeps', least', some')) : Option (Except Bool ((List dStep) × (List dStep) × Int × Bool))) (fun e => some (.error e)) fun x13 =>
        (ck ((i : Int) + (1 : Int))).bind fun x31 => law_ChangeFewest_l1 k (c0, l) L fuel (x13.1, x13.2.1, x13.2.2.1, x13.2.2.2, x31)) fun r => ∃ best keeps least some_, r = .ok (best, keeps, least, some_) ∧ Found c (tsC c mv) L best least ∧ FoundK c (tsC c mv) L keeps some_ := fun b1 b2 b3 b4 g1 g2 => by
      rw [bE_k, ck_ok (by clear ih; omega) (by clear ih; omega), bs]
      exact ih (m - 1) (b1, b2, b3, b4, (i : Int) + 1) (o1 hlt').1 ⟨i + 1, rfl, (o1 hlt').2.2, (o1 hlt').2.1, by rw [htk]; exact g1, by rw [htk]; exact g2⟩
    by_cases hv : cpS c (tsC c mv) L[i] = 0
    · rw [if_pos hv]
      simp only [not_true_eq_false, if_false, bs]
      rw [Late_eq hk5 hq hb (by rw [hx]; omega)]
      simp only [bs, hv, if_true, not_true_eq_false, if_false]
      have h0 := lenS_nonneg hc hv
      -- the best
      have hbest : ∃ b' l', (if least < 0 then some true else if lenS c (tsC c mv) L[i] < least then some true else if lenS c (tsC c mv) L[i] = least then (law_sooner k L[i] best).bind fun r22 => some r22 else some false).bind (fun x19 => if x19 = true then some (L[i], lenS c (tsC c mv) L[i]) else some (best, least)) = some (b', l') ∧ Found c (tsC c mv) (L.take i ++ [L[i]]) b' l' := by
        by_cases h1 : least < 0
        · exact ⟨_, _, by rw [if_pos h1, bs, if_pos rfl], hF1.take hv h0 (.inl h1)⟩
        · by_cases h2 : lenS c (tsC c mv) L[i] < least
          · exact ⟨_, _, by rw [if_neg h1, if_pos h2, bs, if_pos rfl], hF1.take hv h0 (.inr (.inl h2))⟩
          · by_cases h3 : lenS c (tsC c mv) L[i] = least
            · have hbl : best.length = (tsC c mv).length := by
                rcases hF1.ex with ⟨g, _⟩ | ⟨_, g, _⟩
                · exact absurd g h1
                · exact (cpS_ok g).1
              have hso := sooner_eq (k := k) (a := L[i]) (b := best) (by rw [hx, hbl]) (by rw [hx]; omega) (by rw [hx]; omega)
              cases hs : soonB L[i] best with
              | true => exact ⟨_, _, by rw [if_neg h1, if_neg h2, if_pos h3, hso, bs, bs, hs, if_pos rfl], hF1.take hv h0 (.inr (.inr ⟨h3, hs⟩))⟩
              | false => exact ⟨_, _, by rw [if_neg h1, if_neg h2, if_pos h3, hso, bs, bs, hs, if_neg (by decide)], hF1.keep (by omega) (.inr ⟨h3.symm, hs⟩)⟩
            · exact ⟨_, _, by rw [if_neg h1, if_neg h2, if_neg h3, bs, if_neg (by decide)], hF1.keep (by omega) (.inl (by omega))⟩
      obtain ⟨b', l', eb, hFb⟩ := hbest
      rw [eb, bs]
      simp only
      have hkb : keepsB c (tsC c mv) (fun _ => false) L[i] = decide ((lateS c (tsC c mv) (bge c (tsC c mv) E0 (F0 c) L[i]) (fun _ => false) L[i]).1 < 0) := rfl
      by_cases h1 : (lateS c (tsC c mv) (bge c (tsC c mv) E0 (F0 c) L[i]) (fun _ => false) L[i]).1 < 0
      · have hkt : keepsB c (tsC c mv) (fun _ => false) L[i] = true := by rw [hkb]; exact decide_eq_true h1
        rw [if_pos h1]
        cases some_ with
        | false =>
          simp only [Bool.false_eq_true, not_false_eq_true, if_true, bs]
          refine next _ _ _ _ hFb ⟨.inr ⟨rfl, hv, hkt, fun p hp hcp hkp => ?_⟩⟩
          rcases hF2.ex with ⟨_, g⟩ | ⟨g, _⟩
          · rcases List.mem_append.1 hp with hp | hp
            · rw [g p hp hcp] at hkp; cases hkp
            · simp only [List.mem_singleton] at hp; subst hp; exact soonB_irrefl
          · cases g
        | true =>
          rcases hF2.ex with ⟨g, _⟩ | ⟨_, g1, g2, g3⟩
          · cases g
          have hso := sooner_eq (k := k) (a := L[i]) (b := keeps) (by rw [hx, (cpS_ok g1).1]) (by rw [hx]; omega) (by rw [hx]; omega)
          simp only [not_true_eq_false, if_false, hso, bs]
          cases hs : soonB L[i] keeps with
          | true =>
            rw [if_pos rfl]
            refine next _ _ _ _ hFb ⟨.inr ⟨rfl, hv, hkt, fun p hp hcp hkp => ?_⟩⟩
            rcases List.mem_append.1 hp with hp | hp
            · cases hpx : soonB p L[i] with
              | false => rfl
              | true => have := g3 p hp hcp hkp; rw [soonB_trans hpx hs] at this; cases this
            · simp only [List.mem_singleton] at hp; subst hp; exact soonB_irrefl
          | false =>
            rw [if_neg (by decide)]
            refine next _ _ _ _ hFb ⟨.inr ⟨rfl, g1, g2, fun p hp hcp hkp => ?_⟩⟩
            rcases List.mem_append.1 hp with hp | hp
            · exact g3 p hp hcp hkp
            · simp only [List.mem_singleton] at hp; subst hp; exact hs
      · have hkt : keepsB c (tsC c mv) (fun _ => false) L[i] = false := by rw [hkb]; exact decide_eq_false h1
        rw [if_neg h1, bs, if_neg (by decide)]
        exact next _ _ _ _ hFb (hF2.skip fun _ => hkt)
    · rw [if_neg hv]
      simp only [hv, not_false_eq_true, if_true]
      exact next _ _ _ _ (hF1.skip hv) (hF2.skip fun h => absurd h hv)
  obtain ⟨r, er, best, keeps, least, some_, rfl, hFo, hFk⟩ := loop
  rw [er, bE_k]
  simp only
  rcases fewS_spec (c := c) (ts := tsC c mv) with ⟨f1, f2, f3⟩ | ⟨f1, f2, f3, f4⟩
  · -- no plan
    have hneg : least < 0 := by
      rcases hFo.ex with ⟨g, _⟩ | ⟨_, g, _⟩
      · exact g
      · exact absurd g (f3 _)
    have hnil : (plansS c (tsC c mv)).find? (keepsB c (tsC c mv) fun _ => false) = none := by
      rw [List.find?_eq_none]
      intro p hp
      exact absurd (mem_plansS.1 hp) (f3 p)
    rw [if_pos hneg, hnil]
    simp [f1, hdr]
  · have hpos : 0 ≤ least ∧ cpS c (tsC c mv) best = 0 ∧ least = lenS c (tsC c mv) best ∧ ∀ p ∈ L, cpS c (tsC c mv) p = 0 → least < lenS c (tsC c mv) p ∨ (least = lenS c (tsC c mv) p ∧ soonB p best = false) := by
      rcases hFo.ex with ⟨_, g⟩ | g
      · exact absurd f2 (g _ (hLa _ f2))
      · exact g
    obtain ⟨p0, p1, p2, p3⟩ := hpos
    have heq : best = (fewS c (tsC c mv)).2.2 := by
      false_or_by_contra
      rename_i hne
      have a1 := p3 _ (hLa _ f2) f2
      have a2 := fewS_first p1
      rcases soonB_total (by rw [(cpS_ok p1).1, (cpS_ok f2).1]) hne with hs | hs
      · rcases a2 with a2 | ⟨a2, a3⟩
        · rcases a1 with a1 | ⟨a1, _⟩ <;> omega
        · rw [hs] at a3; cases a3
      · rcases a1 with a1 | ⟨a1, a3⟩
        · rcases a2 with a2 | ⟨a2, _⟩ <;> omega
        · rw [hs] at a3; cases a3
    have hle : (fewS c (tsC c mv)).2.1 = least := by rw [f3, p2, heq]
    have hsl : (fewS c (tsC c mv)).2.2.length = (tsC c mv).length := (cpS_ok f2).1
    rw [if_neg (by omega), if_pos f1]
    simp only [not_true_eq_false, if_false, hle, heq, sameSteps_self (l := (fewS c (tsC c mv)).2.2) (k := k) (by omega) (by omega), bs, Bool.not_true, Bool.false_eq_true]
    cases hf : (plansS c (tsC c mv)).find? (keepsB c (tsC c mv) fun _ => false) with
    | none =>
      rw [List.find?_eq_none] at hf
      have hs : some_ = false := by
        rcases hFk.ex with ⟨g, _⟩ | ⟨_, g1, g2, _⟩
        · exact g
        · exact absurd g2 (hf _ (mem_plansS.2 g1))
      subst hs
      simp [hdr]
    | some x =>
      have hxm := List.mem_of_find?_eq_some hf
      have hxk := List.find?_some hf
      have hxv := mem_plansS.1 hxm
      have hs : some_ = true ∧ cpS c (tsC c mv) keeps = 0 ∧ keepsB c (tsC c mv) (fun _ => false) keeps = true ∧ ∀ p ∈ L, cpS c (tsC c mv) p = 0 → keepsB c (tsC c mv) (fun _ => false) p = true → soonB p keeps = false := by
        rcases hFk.ex with ⟨_, g⟩ | g
        · have := g x (hLa _ hxv) hxv
          rw [hxk] at this; cases this
        · exact g
      obtain ⟨rfl, s1, s2, s3⟩ := hs
      have hke : keeps = x := by
        false_or_by_contra
        rename_i hne
        rcases soonB_total (by rw [(cpS_ok s1).1, (cpS_ok hxv).1]) hne with hs | hs
        · have := find_first plansS_pw hf keeps (mem_plansS.2 s1) s2
          rw [hs] at this; cases this
        · have := s3 x (hLa _ hxv) hxv hxk
          rw [hs] at this; cases this
      subst hke
      have hkl : keeps.length = (tsC c mv).length := (cpS_ok s1).1
      simp [sameSteps_self (l := keeps) (k := k) (by omega) (by omega), hdr]
set_option maxRecDepth 100000 in
theorem dressed70000 : law_dressed 70000 = some true := by decide +kernel
end Go.Proofs.Ytfhdclhbdmhnmaa
