/- Plain law: how late a dresser can come. -/
import Derived.Test.YtfhdclhbdmhnmaaLawD
namespace Go.Proofs.Ytfhdclhbdmhnmaa
open K Go Go.Proofs

theorem clone_dr {k : Nat} {l : List dDresser} (h : l.length ≤ 1000) : slc_Clone_Dresser k l = some l := by
  unfold slc_Clone_Dresser
  rw [chk_ok (okLen_of h), bs]

theorem cpS_from {c : dChange} {ts : List (Bool × Int)} {d : Nat} {x : dDresser} {v : Int} (hx : c.2.1[d]? = some x) {p : List dStep} : cpS (wD c (c.2.1.set d (x.1, x.2.1, v))) ts p = cpS c ts p :=
  cpS_congr (c := c) (c' := wD c (c.2.1.set d (x.1, x.2.1, v))) rfl (by simp) fun i w h0 _ _ => canB_from (c := c) (ds := c.2.1) hx h0

theorem fewS_from {c : dChange} {ts : List (Bool × Int)} {d : Nat} {x : dDresser} {v : Int} (hx : c.2.1[d]? = some x) (h : (fewS c ts).1 = true) : (fewS (wD c (c.2.1.set d (x.1, x.2.1, v))) ts).1 = true := by
  rw [fewS_some] at h ⊢
  obtain ⟨p, hp⟩ := h
  exact ⟨p, by rw [cpS_from hx, hp]⟩

/-- What Spare finds. -/
theorem spare_ok {k : Nat} (hk : 50 ≤ k) {k' : Nat} {n : Int} {c : dChange} {mv : List Bool} {q : dQuick} (hG : GoodC k' c) (hq : QV n c mv q) (hb : chg_begin k c = some (some q, 0)) {d : Nat} {x : dDresser} (hx : c.2.1[d]? = some x) :
    W (chg_Spare k c (d : Int)) fun r => if (fewS c (tsC c mv)).1 = true then r.2 = 0 ∧ x.2.2 ≤ r.1 ∧ r.1 ≤ 9 ∧ (fewS (wD c (c.2.1.set d (x.1, x.2.1, r.1))) (tsC c mv)).2.1 ≤ (fewS c (tsC c mv)).2.1 ∧
      (r.1 < 9 → (fewS c (tsC c mv)).2.1 < (fewS (wD c (c.2.1.set d (x.1, x.2.1, r.1 + 1))) (tsC c mv)).2.1) else r = (0, 11) := by
  have hdl := hq.vc.dl
  have hd : d < c.2.1.length := (List.getElem?_eq_some_iff.1 hx).1
  have hxG := hq.vc.dressers x (List.mem_of_getElem? hx)
  have hst := hxG.start
  unfold chg_Spare
  rw [hb, bs, co_some, if_neg (by simp), hq.eq, ck_ok (by omega) (by omega), bs, outside_eq, bs]
  have hno : ¬ ¬ (0 ≤ (d : Int) ∧ (d : Int) ≤ (c.2.1.length : Int) - 1) := by omega
  rw [decide_eq_false hno, if_neg (by simp)]
  have hcq : (((c.1, c.2.1, c.2.2.1, c.2.2.2), q.2.1, q.2.2) : dQuick) = q := by rw [← hq.eq]
  rw [hcq, least_eq hk hq, bs]
  have hfe : minL (lenS c (tsC c mv)) (false, 0, []) (plansS c (tsC c mv)) = fewS c (tsC c mv) := rfl
  rw [hfe]
  by_cases hf : (fewS c (tsC c mv)).1 = true
  · simp only [hf, not_true_eq_false, if_false, if_true]
    rw [clone_dr (by omega), bs]
    refine W.loop (f := chg_Spare_j1 k (d : Int) q ((fewS c (tsC c mv)).2.2, (fewS c (tsC c mv)).2.1, true)) (fun m y => x.2.2 ≤ y.1 ∧ y.1 ≤ 9 ∧ m = (y.1 - x.2.2).toNat ∧ (∃ z : dDresser, y.2[d]? = some z ∧ z.1 = x.1 ∧ z.2.1 = x.2.1) ∧ (∀ v, y.2.set d v = c.2.1.set d v) ∧
      (y.1 < 9 → (fewS c (tsC c mv)).2.1 < (fewS (wD c (c.2.1.set d (x.1, x.2.1, y.1 + 1))) (tsC c mv)).2.1)) ?_ (9 - x.2.2).toNat k (9, c.2.1) (by omega) ⟨by omega, by simp, rfl, ⟨x, hx, rfl, rfl⟩, fun _ => rfl, fun h => by simp at h⟩
    rintro fuel m ⟨from_, oth⟩ ⟨h1, h2, hm, ⟨z, hz, z1, z2⟩, hset, hmore⟩ ih
    simp only at h1 h2 hm hz hset hmore
    unfold chg_Spare_j1
    dsimp only
    rw [geti_q (by omega) (by simpa using hz), bs, z1, z2]
    have e1 : (Int.toNat (d : Int)) = d := by omega
    rw [e1, hset]
    obtain ⟨q', hb', hq'⟩ := begin_with hk hG hq (ds := c.2.1.set d (x.1, x.2.1, from_)) (good_set hq.vc.dressers (goodD_from hxG (by omega))) (by simpa using hdl)
    rw [fewestF_eq hk (c := wD c (c.2.1.set d (x.1, x.2.1, from_))) (by simp only [hq.eq]) hq' hb', bs]
    have ets : tsC (wD c (c.2.1.set d (x.1, x.2.1, from_))) mv = tsC c mv := rfl
    simp only [ets]
    refine W.ite (fun hlt => ?_) (fun hge => W.ret ⟨rfl, h1, h2, by simp only; omega, hmore⟩)
    have hne : from_ ≠ x.2.2 := fun e => by
      subst e
      have e2 : c.2.1.set d (x.1, x.2.1, x.2.2) = c.2.1 := by
        apply List.ext_getElem?
        intro i
        rw [List.getElem?_set]
        by_cases hi : d = i
        · subst hi; rw [if_pos rfl, if_pos hd, hx]
        · rw [if_neg hi]
      rw [e2] at hlt
      exact absurd hlt (Int.lt_irrefl _)
    rw [ck_ok (by omega) (by omega), bs]
    refine ih (m - 1) (from_ - 1, _) (by omega) ⟨by simp only; omega, by simp only; omega, by simp only; omega, ⟨(x.1, x.2.1, from_), by simp [hd], rfl, rfl⟩, fun v => by simp [List.set_set], fun _ => ?_⟩
    have : from_ - 1 + 1 = from_ := by omega
    simp only [this]
    exact hlt
  · have hf' : (fewS c (tsC c mv)).1 = false := by simpa using hf
    simp only [hf', Bool.false_eq_true, not_false_eq_true, if_true, if_false]
    exact W.ret rfl

/-- **How late a dresser can come.** -/
theorem spare_law {k : Nat} (hk : 50 ≤ k) (hdr : law_dressed k = some true) (a0 : List Int) : law_ChangeSpare k a0 = some true := by
  unfold law_ChangeSpare
  rw [show kit_NewLots k a0 = some (a0, 0, 1) from rfl, bs]
  obtain ⟨⟨c, l⟩, e3, hlo, hG, n, mv, q, hc, hb, hq⟩ := lots_ok hk (l := (a0, 0, 1)) (m := 0) newLots_ok (by decide)
  simp only at hc hb hq hG
  have hdl := hc.dl
  rw [e3, bs, Fewest_eq hk hq hb, bs]
  have key : ∀ r5 : (List dStep) × Int × Int, r5 = (if (fewS c (tsC c mv)).1 = true then ((fewS c (tsC c mv)).2.2, (fewS c (tsC c mv)).2.1, 0) else ([], 0, 11)) → law_ChangeSpare_l1 k (c, l) r5 k 0 = some (.ok ()) := fun r5 hr5 => by
    refine for_all 0 c.2.1.length (fun m d _ hd => ?_) (fun m d _ hd => by rw [law_ChangeSpare_l1]; rw [if_neg (by simp only; omega)]) k (by omega)
    have hx := List.getElem?_eq_getElem hd
    have hxG := hc.dressers _ (List.getElem_mem hd)
    have hst := hxG.start
    have hck : ck ((d : Int) + 1) = some ((d : Int) + 1) := ck_ok (by omega) (by omega)
    obtain ⟨⟨r, re⟩, er, hr⟩ := spare_ok hk hG hq hb hx
    rw [law_ChangeSpare_l1]
    dsimp only
    rw [if_pos (by omega), er, bs]
    by_cases hf : (fewS c (tsC c mv)).1 = true
    · rw [if_pos hf] at hr hr5
      obtain ⟨rfl, h1, h2, h3, h4⟩ := hr
      subst hr5
      simp only at h1 h2 h3 h4
      have g1 : law_instead k c (d : Int) (c.2.1[d].1, c.2.1[d].2.1, r) = _ := instead_eq hk hc hd
      obtain ⟨q1, hb1, hq1⟩ := begin_with hk hG hq (ds := c.2.1.set d (c.2.1[d].1, c.2.1[d].2.1, r)) (good_set hc.dressers (goodD_from hxG (by omega))) (by simpa using hdl)
      have f1 := Fewest_eq hk hq1 hb1
      have ets : ∀ ds, tsC (wD c ds) mv = tsC c mv := fun _ => rfl
      rw [ets, if_pos (fewS_from hx hf)] at f1
      have hlt1 : ¬ r < c.2.1[d].2.2 := by omega
      have hlt2 : ¬ 9 < r := by omega
      have hlt3 : ¬ (fewS c (tsC c mv)).2.1 < (fewS (wD c (c.2.1.set d (c.2.1[d].1, c.2.1[d].2.1, r))) (tsC c mv)).2.1 := by omega
      simp only [not_true_eq_false, if_false, bs, Bool.false_eq_true, copyVC hk hc, geti_W hd, hlt1, hlt2, decide_false, g1, f1, hlt3]
      by_cases h9 : r < 9
      · have g2 : law_instead k c (d : Int) (c.2.1[d].1, c.2.1[d].2.1, r + 1) = _ := instead_eq hk hc hd
        obtain ⟨q2, hb2, hq2⟩ := begin_with hk hG hq (ds := c.2.1.set d (c.2.1[d].1, c.2.1[d].2.1, r + 1)) (good_set hc.dressers (goodD_from hxG (by omega))) (by simpa using hdl)
        have f2 := Fewest_eq hk hq2 hb2
        rw [ets, if_pos (fewS_from hx hf)] at f2
        have hlt4 : ¬ (fewS (wD c (c.2.1.set d (c.2.1[d].1, c.2.1[d].2.1, r + 1))) (tsC c mv)).2.1 ≤ (fewS c (tsC c mv)).2.1 := by have := h4 h9; omega
        have hck2 : ck (r + 1) = some (r + 1) := ck_ok (by omega) (by omega)
        simp only [h9, if_true, hck2, bs, g2, f2, not_true_eq_false, if_false, hlt4, decide_false, Bool.false_eq_true, bE_k, hck]
      · simp only [h9, if_false, bE_k, hck, bs]
    · rw [if_neg hf] at hr hr5
      obtain ⟨rfl, rfl⟩ := Prod.mk.inj hr
      subst hr5
      simp [bE_k, hck]
  rw [key _ rfl, bE_k, hdr, bs]
end Go.Proofs.Ytfhdclhbdmhnmaa
