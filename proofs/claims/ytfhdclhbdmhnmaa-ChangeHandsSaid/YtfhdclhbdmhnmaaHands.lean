/- Plain law: more hands. -/
import Derived.Test.YtfhdclhbdmhnmaaLawM
namespace Go.Proofs.Ytfhdclhbdmhnmaa
open K Go Go.Proofs

/-- One dresser is another one, who is no worse. -/
theorem fewS_one {c : dChange} {ts : List (Bool × Int)} {d : Nat} {x y : dDresser} (hx : c.2.1[d]? = some x) (h1 : ∀ v ∈ x.1, v ∈ y.1) (h2 : y.2.1 = 0 ∨ y.2.1 = x.2.1) (h3 : y.2.2 ≤ x.2.2) (h : (fewS c ts).1 = true) :
    (fewS (wD c (c.2.1.set d y)) ts).1 = true ∧ (fewS (wD c (c.2.1.set d y)) ts).2.1 ≤ (fewS c ts).2.1 := by
  have hd : d < c.2.1.length := (List.getElem?_eq_some_iff.1 hx).1
  have hdx : drs c (d : Int) = x := by simp [drs, hx]
  have := fewS_more (c := c) (c' := wD c (c.2.1.set d y)) (ts := ts) rfl (by simp) (fun i w h0 hi _ hc => ?_) (δ := 0) (Int.le_refl 0) (fun i => ?_) h
  · exact ⟨this.1, by omega⟩
  · have e := drs_set (c := c) (ds := c.2.1) (x := y) hd h0
    by_cases hid : i = (d : Int)
    · rw [if_pos hid] at e
      subst hid
      unfold canB at hc ⊢
      rw [hdx] at hc
      rw [e]
      have et : ∀ v, thg (wD c (c.2.1.set d y)) v = thg c v := fun _ => rfl
      rw [et]
      simp only [Bool.and_eq_true, Bool.or_eq_true, decide_eq_true_eq] at hc ⊢
      refine ⟨h1 _ hc.1, ?_⟩
      rcases h2 with h2 | h2
      · exact .inl (.inr h2)
      · rw [h2]; exact hc.2
    · rw [if_neg hid] at e
      unfold canB at hc ⊢
      rw [e]
      exact hc
  · unfold F0
    have e := drs_set (c := c) (ds := c.2.1) (x := y) hd (i := (i : Int)) (by omega)
    rw [e]
    by_cases hid : (i : Int) = (d : Int)
    · rw [if_pos hid, hid, hdx]; omega
    · rw [if_neg hid]
      show (drs c (i : Int)).2.2 ≤ _
      omega

/-- **More hands.** -/
theorem hands_law {k : Nat} (hk : 50 ≤ k) (hdr : law_dressed k = some true) (a0 : List Int) : law_ChangeHands k a0 = some true := by
  unfold law_ChangeHands
  rw [show kit_NewLots k a0 = some (a0, 0, 1) from rfl, bs]
  obtain ⟨⟨c, l⟩, e3, hlo, hG, n, mv, q, hc, hb, hq⟩ := lots_ok hk (l := (a0, 0, 1)) (m := 0) newLots_ok (by decide)
  simp only at hc hb hq hG hlo
  have hdl := hc.dl
  have hn := hc.n4
  have hln := hc.len
  obtain ⟨w1, w2, w3, w4, w5⟩ := hc.wl
  obtain ⟨⟨r7, l7⟩, e7, a7, b7, c7⟩ := upto_ok (k := k) (l := l) (n := (c.2.1.length : Int) - 1) (hlo.mono (m' := 300) (by omega)) (by omega) (by omega)
  obtain ⟨⟨r9, l9⟩, e9, a9, b9, c9⟩ := upto_ok (k := k) (l := l7) (n := (c.1.length : Int) - 1) c7 (by omega) (by omega)
  simp only at a7 b7 a9 b9
  have b7 := b7 (by omega)
  have b9 := b9 (by omega)
  obtain ⟨d, rfl⟩ : ∃ d : Nat, r7 = (d : Int) := ⟨r7.toNat, by omega⟩
  have hd : d < c.2.1.length := by omega
  have hx := List.getElem?_eq_getElem hd
  have hxG := hc.dressers _ (List.getElem_mem hd)
  have hst := hxG.start
  obtain ⟨r15, e15, f1, f2, f3⟩ := able_eq hk (d := c.2.1[d]) (l := c.2.1[d].1) (t := r9) (n := c.1.length) (by have := w5 _ (List.getElem_mem hd); omega) (by omega)
  rw [e3, bs, Fewest_eq hk hq hb, bs]
  simp only
  rw [ck_ok (by omega) (by omega), bs, show ((l.1, l.2.1, l.2.2) : dLots) = l from rfl, e7, bs, ck_ok (by omega) (by omega), bs]
  simp only
  rw [show ((l7.1, l7.2.1, l7.2.2) : dLots) = l7 from rfl, e9, bs, geti_W hd, bs, ck_ok (by omega) (by omega), bs, e15, bs]
  have ets : ∀ ds, tsC (wD c ds) mv = tsC c mv := fun _ => rfl
  -- one of the others
  have one : ∀ y : dDresser, GoodD n y → (∀ v ∈ c.2.1[d].1, v ∈ y.1) → (y.2.1 = 0 ∨ y.2.1 = c.2.1[d].2.1) → y.2.2 ≤ c.2.1[d].2.2 → ∃ r22, chg_Fewest k (wD c (c.2.1.set d y)) = some r22 ∧ (r22.2.2 = 0 ∨ r22.2.2 = 11) ∧ ((fewS c (tsC c mv)).1 = true → r22.2.2 = 0 ∧ r22.2.1 ≤ (fewS c (tsC c mv)).2.1) := fun y hy h1 h2 h3 => by
    obtain ⟨q1, hb1, hq1⟩ := begin_with hk hG hq (ds := c.2.1.set d y) (good_set hc.dressers hy) (by simpa using hdl)
    refine ⟨_, Fewest_eq hk hq1 hb1, ?_, fun hf => ?_⟩
    · split
      · exact .inl rfl
      · exact .inr rfl
    · obtain ⟨g1, g2⟩ := fewS_one hx h1 h2 h3 hf
      rw [ets, if_pos g1]
      exact ⟨rfl, g2⟩
  have hloop : ∀ r5 : (List dStep) × Int × Int, r5 = (if (fewS c (tsC c mv)).1 = true then ((fewS c (tsC c mv)).2.2, (fewS c (tsC c mv)).2.1, 0) else ([], 0, 11)) →
      law_ChangeHands_l1 k (c, l) r5 ((d : Int), l7) c.2.1[d] (c.2.1[d].2.2 - 1) r15 k 0 = some (.ok ()) := fun r5 hr5 => by
    refine for_all 0 3 (fun m j _ hj => ?_) (fun m j _ hj => by rw [law_ChangeHands_l1]; rw [if_neg (by simp only [List.length_cons, List.length_nil]; omega)]) k (by omega)
    have hck : ck ((j : Int) + 1) = some ((j : Int) + 1) := ck_ok (by omega) (by omega)
    have tot : ∀ y : dDresser, geti [(c.2.1[d].1, c.2.1[d].2.1, imax (0 : Int) (c.2.1[d].2.2 - 1)), r15, (c.2.1[d].1, (0 : Int), c.2.1[d].2.2)] (j : Int) = some y → GoodD n y → (∀ v ∈ c.2.1[d].1, v ∈ y.1) → (y.2.1 = 0 ∨ y.2.1 = c.2.1[d].2.1) → y.2.2 ≤ c.2.1[d].2.2 →
        law_ChangeHands_l1 k (c, l) r5 ((d : Int), l7) c.2.1[d] (c.2.1[d].2.2 - 1) r15 (m + 1) (j : Int) = law_ChangeHands_l1 k (c, l) r5 ((d : Int), l7) c.2.1[d] (c.2.1[d].2.2 - 1) r15 m ((j : Int) + 1) := fun y hg hy h1 h2 h3 => by
      obtain ⟨r22, e22, g1, g2⟩ := one y hy h1 h2 h3
      rw [law_ChangeHands_l1]
      rw [if_pos (by simp only [List.length_cons, List.length_nil]; omega), hg, bs]
      simp only
      rw [instead_eq hk hc hd, bs, e22, bs]
      by_cases hf : (fewS c (tsC c mv)).1 = true
      · obtain ⟨g3, g4⟩ := g2 hf
        rw [if_pos hf] at hr5
        subst hr5
        have : ¬ (fewS c (tsC c mv)).2.1 < r22.2.1 := by omega
        simp [g3, this, hck]
      · rw [if_neg hf] at hr5
        subst hr5
        rcases g1 with g1 | g1 <;> simp [g1, hck]
    have him : (0 ≤ imax 0 (c.2.1[d].2.2 - 1) ∧ imax 0 (c.2.1[d].2.2 - 1) ≤ 9) ∧ imax 0 (c.2.1[d].2.2 - 1) ≤ c.2.1[d].2.2 := by unfold imax; split <;> omega
    have t0 := tot (c.2.1[d].1, c.2.1[d].2.1, imax (0 : Int) (c.2.1[d].2.2 - 1))
    have t1 := tot r15
    have t2 := tot (c.2.1[d].1, (0 : Int), c.2.1[d].2.2)
    have hj3 : j = 0 ∨ j = 1 ∨ j = 2 := by omega
    rcases hj3 with rfl | rfl | rfl
    · exact t0 rfl ⟨hxG.can, hxG.side, him.1⟩ (fun v h => h) (.inr rfl) him.2
    · refine t1 rfl ⟨?_, ?_, ?_⟩ (fun v h => (f3 v).2 ⟨(hxG.can.2 v h).1, ?_, .inr h⟩) (.inr (by rw [f1])) (by rw [f1]; exact Int.le_refl _)
      · rw [hln] at f2; exact f2
      · rw [f1]; exact hxG.side
      · rw [f1]; exact hxG.start
      · have := (hxG.can.2 v h).2; omega
    · exact t2 rfl ⟨hxG.can, ⟨Int.le_refl 0, by show (0 : Int) ≤ 2; decide⟩, hxG.start⟩ (fun v h => h) (.inl rfl) (Int.le_refl _)
  rw [hloop _ rfl, bE_k]
  by_cases hf : (fewS c (tsC c mv)).1 = true <;> simp [hf, hdr]
end Go.Proofs.Ytfhdclhbdmhnmaa
