/- Plain law: changes one after the other. -/
import Derived.Test.YtfhdclhbdmhnmaaLawM
namespace Go.Proofs.Ytfhdclhbdmhnmaa
open K Go Go.Proofs

/-- Dressers, as they are so many bars later. -/
def lat (t : Int) (d : dDresser) : dDresser := (d.1, d.2.1, imax 0 (d.2.2 - t))

theorem shift_eq {k : Nat} (hk : 50 ≤ k) {t : Int} {ds : List dDresser} (hl : ds.length ≤ 3) (ht : 0 ≤ t ∧ t ≤ 1000) (hd : ∀ d ∈ ds, 0 ≤ d.2.2 ∧ d.2.2 ≤ 9) : chg_Through_l5 k t ds k (ds, 0) = some (ds.map (lat t)) := by
  have key : W (chg_Through_l5 k t ds k (ds, 0)) fun r => r = ds.map (lat t) := by
    refine W.loop (f := chg_Through_l5 k t ds) (fun m y => ∃ j : Nat, y.2 = (j : Int) ∧ j ≤ ds.length ∧ m = ds.length - j ∧ y.1 = (ds.take j).map (lat t) ++ ds.drop j) ?_ ds.length k (ds, 0) (by omega) ⟨0, rfl, by omega, by omega, by simp⟩
    rintro fuel m ⟨o, y⟩ ⟨j, hj, hle, hm, ho⟩ ih
    simp only at hj ho
    subst hj ho
    unfold chg_Through_l5
    dsimp only
    refine W.ite (fun hlt => ?_) (fun hge => W.ret (by
      have : j = ds.length := by omega
      subst this
      simp))
    have hlt' : j < ds.length := by omega
    have hjl : ((ds.take j).map (lat t)).length = j := by simp; omega
    have hdr : ds.drop j = ds[j] :: ds.drop (j + 1) := List.drop_eq_getElem_cons hlt'
    have hg : geti ((ds.take j).map (lat t) ++ ds.drop j) (j : Int) = some ds[j] := by
      refine geti_q (by omega) ?_
      rw [Int.toNat_natCast, List.getElem?_append_right (by omega), hjl, hdr]
      simp
    have hb := hd _ (List.getElem_mem hlt')
    rw [hg, bs, ck_ok (by omega) (by omega), bs, bs, ck_ok (by omega) (by omega), bs]
    refine ih (m - 1) (_, (j : Int) + 1) (by omega) ⟨j + 1, by show (j : Int) + 1 = ((j + 1 : Nat) : Int); omega, by omega, by omega, ?_⟩
    simp only [Int.toNat_natCast]
    rw [List.set_append_right _ _ (by omega), hjl, hdr, Nat.sub_self, List.set_cons_zero, List.take_add_one, List.getElem?_eq_getElem hlt', List.map_append, List.append_assoc]
    rfl
  obtain ⟨r, e, rfl⟩ := key
  exact e

theorem lat_zero {n : Int} {ds : List dDresser} (hd : ∀ x ∈ ds, GoodD n x) : ds.map (lat 0) = ds := by
  have : ds.map (lat 0) = ds.map id := List.map_congr_left fun d h => by
    have := (hd d h).start
    have e : imax 0 (d.2.2 - 0) = d.2.2 := by unfold imax; split <;> omega
    unfold lat
    rw [e]; rfl
  rw [this, List.map_id]

theorem lat_good {n t : Int} {ds : List dDresser} (ht : 0 ≤ t) (hd : ∀ x ∈ ds, GoodD n x) : ∀ x ∈ ds.map (lat t), GoodD n x := fun x hx => by
  obtain ⟨d, h, rfl⟩ := List.mem_map.1 hx
  have hg := hd d h
  have := hg.start
  refine ⟨hg.can, hg.side, ?_⟩
  show 0 ≤ imax 0 (d.2.2 - t) ∧ imax 0 (d.2.2 - t) ≤ 9
  unfold imax
  split <;> omega

theorem drs_map {c : dChange} {ds : List dDresser} {f : dDresser → dDresser} (i : Nat) (hi : i < ds.length) : drs (wD c (ds.map f)) (i : Int) = f (drs (wD c ds) (i : Int)) := by
  simp [drs, List.getElem?_eq_getElem hi]

/-- The fewest bars, where the dressers are there so many bars sooner. -/
theorem few_lat {n : Int} {c : dChange} {ts : List (Bool × Int)} {t u : Int} (hc : VC n c) (hu : t ≤ u) (h : (fewS (wD c (c.2.1.map (lat t))) ts).1 = true) :
    (fewS (wD c (c.2.1.map (lat u))) ts).1 = true ∧ (fewS (wD c (c.2.1.map (lat u))) ts).2.1 ≤ (fewS (wD c (c.2.1.map (lat t))) ts).2.1 ∧ (fewS (wD c (c.2.1.map (lat t))) ts).2.1 ≤ (fewS (wD c (c.2.1.map (lat u))) ts).2.1 + (u - t) := by
  have hcan : ∀ (a b : Int) (i : Int) w, 0 ≤ i → i < c.2.1.length → canB (wD c (c.2.1.map (lat a))) i w = canB (wD c (c.2.1.map (lat b))) i w := fun a b i w h0 h1 => by
    obtain ⟨j, rfl⟩ := Int.eq_ofNat_of_zero_le h0
    have hj : j < c.2.1.length := by omega
    unfold canB
    rw [drs_map j hj, drs_map j hj]
    rfl
  have hF : ∀ (a b δ : Int), 0 ≤ δ → (∀ x : Int, 0 ≤ x → imax 0 (x - a) ≤ imax 0 (x - b) + δ) → ∀ i, F0 (wD c (c.2.1.map (lat a))) i ≤ F0 (wD c (c.2.1.map (lat b))) i + δ := fun a b δ h0 hx i => by
    unfold F0
    by_cases hi : i < c.2.1.length
    · rw [drs_map i hi, drs_map i hi]
      refine hx _ ?_
      have : drs (wD c c.2.1) (i : Int) = c.2.1[i] := by simp [drs, List.getElem?_eq_getElem hi]
      rw [this]
      exact (hc.dressers _ (List.getElem_mem hi)).start.1
    · have : ∀ a, drs (wD c (c.2.1.map (lat a))) (i : Int) = ([], 0, 0) := fun a => by
        unfold drs
        rw [List.getElem?_eq_none (by simp; omega)]; rfl
      rw [this, this]
      simp only; omega
  have g1 := fewS_more (c := wD c (c.2.1.map (lat t))) (c' := wD c (c.2.1.map (lat u))) (ts := ts) rfl (by simp) (fun i w h0 hi _ hc' => by rw [hcan u t i w h0 (by simpa using hi)]; exact hc') (δ := 0) (Int.le_refl 0)
    (hF u t 0 (Int.le_refl 0) fun x hx => by unfold imax; split <;> split <;> omega) h
  have g2 := fewS_more (c := wD c (c.2.1.map (lat u))) (c' := wD c (c.2.1.map (lat t))) (ts := ts) rfl (by simp) (fun i w h0 hi _ hc' => by rw [hcan t u i w h0 (by simpa using hi)]; exact hc') (δ := u - t) (by omega)
    (hF t u (u - t) (by omega) fun x hx => by unfold imax; split <;> split <;> omega) g1.1
  exact ⟨g1.1, by omega, g2.2⟩

theorem clone_dr2 {k : Nat} {l : List dDresser} (h : l.length ≤ 1000) : slc_Clone_Dresser k l = some l := by
  unfold slc_Clone_Dresser
  rw [chk_ok (okLen_of h), bs]

/-- Two changes, one after the other. -/
theorem Through2_eq {k : Nat} (hk : 50 ≤ k) {kb : Nat} {na nb : Int} {a b : dChange} {ma mb : List Bool} {qa qb : dQuick} {rest : Int} (hGb : GoodC kb b) (hqa : QV na a ma qa) (hqb : QV nb b mb qb) (ha : chg_begin k a = some (some qa, 0)) (hb : chg_begin k b = some (some qb, 0))
    (hl : b.2.1.length = a.2.1.length) (hr : 0 ≤ rest ∧ rest ≤ 20) : chg_Through k [a, b] [rest] = some (if (fewS a (tsC a ma)).1 = true then (if (fewS (wD b (b.2.1.map (lat ((fewS a (tsC a ma)).2.1 + rest)))) (tsC b mb)).1 = true then
      ([(fewS a (tsC a ma)).2.1, (fewS a (tsC a ma)).2.1 + rest + (fewS (wD b (b.2.1.map (lat ((fewS a (tsC a ma)).2.1 + rest)))) (tsC b mb)).2.1], 0) else ([], 11)) else ([], 11)) := by
  obtain ⟨k', e⟩ : ∃ k', k = k' + 3 := ⟨k - 3, by omega⟩
  have hla := hqa.vc.dl
  have hlb := hqb.vc.dl
  have fba := few_bnd hqa.vc hqa.t4
  have c1 : ck ((0 : Int) + 1) = some 1 := rfl
  have c2 : ck ((1 : Int) + 1) = some 2 := rfl
  have g0 : ∀ x y : dChange, geti [x, y] 0 = some x := fun _ _ => rfl
  have g1 : ∀ x y : dChange, geti [x, y] 1 = some y := fun _ _ => rfl
  have q0 : ∀ x y : dquick, geti [x, y] 0 = some x := fun _ _ => rfl
  have q1 : ∀ x y : dquick, geti [x, y] 1 = some y := fun _ _ => rfl
  have l1 : chg_Through_l1 k [a, b] k ([], 0) = some (.ok [(a, qa.2.1, qa.2.2, ()), (b, qb.2.1, qb.2.2, ())]) := by
    have : chg_Through_l1 k [a, b] k = chg_Through_l1 k [a, b] (k' + 3) := by rw [← e]
    rw [this, chg_Through_l1, if_pos (by simp)]
    simp only [g0, bs, ha, co_some, not_true_eq_false, if_false]
    rw [chk_ok (okLen_of (by simp)), bs, c1, bs, chg_Through_l1, if_pos (by simp)]
    simp only [g1, bs, hb, co_some, not_true_eq_false, if_false]
    rw [chk_ok (okLen_of (by simp)), bs, c2, bs, chg_Through_l1, if_neg (by simp)]
    rw [hqa.eq, hqb.eq]
    rfl
  have l2 : chg_Through_l2 k [(a, qa.2.1, qa.2.2, ()), (b, qb.2.1, qb.2.2, ())] k 0 = some (.ok ()) := by
    have : chg_Through_l2 k [(a, qa.2.1, qa.2.2, ()), (b, qb.2.1, qb.2.2, ())] k = chg_Through_l2 k [(a, qa.2.1, qa.2.2, ()), (b, qb.2.1, qb.2.2, ())] (k' + 3) := by rw [← e]
    rw [this, chg_Through_l2, if_pos (by simp)]
    simp only [q0, bs, not_true_eq_false, if_false, c1]
    rw [chg_Through_l2, if_pos (by simp)]
    simp only [q0, q1, bs, hl, not_true_eq_false, if_false, c2]
    rw [chg_Through_l2, if_neg (by simp)]
  have l3 : chg_Through_l3 k [rest] k 0 = some (.ok ()) := by
    have : chg_Through_l3 k [rest] k = chg_Through_l3 k [rest] (k' + 3) := by rw [← e]
    rw [this, chg_Through_l3, if_pos (by simp), show geti [rest] 0 = some rest from rfl, bs, outside_eq, bs, decide_eq_false (by omega), if_neg (by decide), c1, bs, chg_Through_l3, if_neg (by simp)]
  have sa := shift_eq hk (t := 0) (ds := a.2.1) (by omega) (by omega) (fun d h => (hqa.vc.dressers d h).start)
  rw [lat_zero hqa.vc.dressers] at sa
  have sb := shift_eq hk (t := (fewS a (tsC a ma)).2.1 + rest) (ds := b.2.1) (by omega) (by omega) (fun d h => (hqb.vc.dressers d h).start)
  obtain ⟨qb', hb', hqb'⟩ := begin_with hk hGb hqb (ds := b.2.1.map (lat ((fewS a (tsC a ma)).2.1 + rest))) (lat_good (by omega) hqb.vc.dressers) (by simpa using hlb)
  have fa := fewestF_eq hk (a0 := (a, qa.2.1, qa.2.2, ())) (ds := a.2.1) (c := a) rfl hqa ha
  have fb := fewestF_eq hk (a0 := (b, qb.2.1, qb.2.2, ())) (ds := b.2.1.map (lat ((fewS a (tsC a ma)).2.1 + rest))) (c := wD b (b.2.1.map (lat ((fewS a (tsC a ma)).2.1 + rest)))) rfl hqb' hb'
  have etb : tsC (wD b (b.2.1.map (lat ((fewS a (tsC a ma)).2.1 + rest)))) mb = tsC b mb := rfl
  rw [etb] at fb
  have fbb := few_bnd hqb'.vc hqb'.t4
  rw [etb] at fbb
  unfold chg_Through
  have hs : chg_sized k (([a, b].length : Nat) : Int) 3 = some 0 := by
    unfold chg_sized
    rw [if_neg (by simp), if_neg (by simp)]
  rw [hs, bs, if_neg (by simp), l1, bE_k, l2, bE_k]
  have hck : ck ((([a, b].length : Nat) : Int) - 1) = some 1 := rfl
  rw [hck, bs, if_neg (by simp), l3, bE_k]
  have l4 : chg_Through_l4 k [rest] [(a, qa.2.1, qa.2.2, ()), (b, qb.2.1, qb.2.2, ())] k ([], 0, 0) = some (if (fewS a (tsC a ma)).1 = true then (if (fewS (wD b (b.2.1.map (lat ((fewS a (tsC a ma)).2.1 + rest)))) (tsC b mb)).1 = true then
      .ok [(fewS a (tsC a ma)).2.1, (fewS a (tsC a ma)).2.1 + rest + (fewS (wD b (b.2.1.map (lat ((fewS a (tsC a ma)).2.1 + rest)))) (tsC b mb)).2.1] else .error ([], 11)) else .error ([], 11)) := by
    generalize hla' : (fewS a (tsC a ma)).2.1 = A at *
    have : ∀ l, chg_Through_l4 k [rest] l k = chg_Through_l4 k [rest] l (k' + 3) := fun l => by rw [← e]
    rw [this, chg_Through_l4, if_pos (by simp)]
    simp only [q0, bs, Int.lt_irrefl, if_false, clone_dr2 (l := a.2.1) (k := k) (by omega), sa, fa]
    by_cases ha1 : (fewS a (tsC a ma)).1 = true
    · simp only [ha1, not_true_eq_false, if_false, if_true]
      rw [ck_ok (by omega) (by omega), bs, chk_ok (okLen_of (by simp)), bs, bE_k]
      simp only
      rw [c1, bs, chg_Through_l4, if_pos (by simp)]
      simp only [q1, bs]
      have hz : (0 : Int) + A = A := by omega
      rw [if_pos (by decide), show ck ((1 : Int) - 1) = some 0 from rfl, bs, show geti [rest] 0 = some rest from rfl, bs, hz, ck_ok (by omega) (by omega), bs, bs]
      simp only [clone_dr2 (l := b.2.1) (k := k) (by omega), bs, sb, fb]
      by_cases hb1 : (fewS (wD b (b.2.1.map (lat (A + rest)))) (tsC b mb)).1 = true
      · simp only [hb1, not_true_eq_false, if_false, if_true]
        rw [ck_ok (by omega) (by omega), bs, chk_ok (okLen_of (by simp)), bs, bE_k]
        simp only
        rw [c2, bs, chg_Through_l4, if_neg (by simp)]
        simp
      · simp only [hb1, not_false_eq_true, if_true, if_false, bE_e, Bool.false_eq_true]
    · simp only [ha1, not_false_eq_true, if_true, if_false, bE_e, Bool.false_eq_true]
  rw [l4]
  by_cases ha1 : (fewS a (tsC a ma)).1 = true
  · by_cases hb1 : (fewS (wD b (b.2.1.map (lat ((fewS a (tsC a ma)).2.1 + rest)))) (tsC b mb)).1 = true
    · simp only [ha1, hb1, if_true, bE_k]
    · simp only [ha1, hb1, if_true, if_false, bE_e, Bool.false_eq_true]
  · simp only [ha1, if_false, bE_e, Bool.false_eq_true]

theorem good_take {k : Nat} (hk : 50 ≤ k) {n : Int} {c : dChange} {mv : List Bool} {j : Nat} (h : GoodC k c) (hc : VC n c) (hF : Fix c mv) (hj : 1 ≤ j) : GoodC k (wD c (c.2.1.take j)) := by
  have hdl := hc.dl
  have hc' : VC n (wD c (c.2.1.take j)) := vc_with h hc (fun x hx => hc.dressers x (List.mem_of_mem_take hx)) (by simp only [List.length_take]; omega)
  obtain ⟨⟨up, n', h1, h4, hl, hg, hw, hv, hd⟩, hdl, ht⟩ := h
  refine ⟨⟨up, n', h1, h4, hl, hg, hw, hv, fun x hx => hd x (List.mem_of_mem_take hx)⟩, by simp only [List.length_take]; omega, fun r hr => ?_⟩
  have e1 := tasksOf_eq hk hc hF
  rw [tasksOf_eq hk hc' (fix_with hF)] at hr
  cases hr
  exact ht _ e1

theorem through_law {k : Nat} (hk : 50 ≤ k) (hdr : law_dressed k = some true) (a0 : List Int) : law_ChangeThrough k a0 = some true := by
  unfold law_ChangeThrough
  rw [show kit_NewLots k a0 = some (a0, 0, 1) from rfl, bs]
  obtain ⟨⟨a, l⟩, e3, hlo, hGa, na, ma, qa, hca, hba, hqa⟩ := lots_ok hk (l := (a0, 0, 1)) (m := 0) newLots_ok (by decide)
  simp only at hca hba hqa hGa hlo
  obtain ⟨⟨b, l2⟩, e4, hlo2, hGb, nb, mb, qb, hcb, hbb, hqb⟩ := lots_ok hk (l := l) (m := 300) (hlo.mono (by omega)) (by decide)
  simp only at hcb hbb hqb hGb hlo2
  obtain ⟨⟨r9, l9⟩, e9, a9, b9, c9⟩ := upto_ok (k := k) (l := l2) (n := 8) (hlo2.mono (m' := 700) (by omega)) (by omega) (by omega)
  obtain ⟨⟨r10, l10⟩, e10, a10, b10, c10⟩ := upto_ok (k := k) (l := l9) (n := 6) c9 (by omega) (by omega)
  simp only at a9 b9 a10 b10
  have b9 := b9 (by decide)
  have b10 := b10 (by decide)
  have hda := hca.dl
  have hdb := hcb.dl
  rw [e3, bs]
  simp only
  rw [show ((l.1, l.2.1, l.2.2) : dLots) = l from rfl, e4, bs]
  simp only
  rw [show ((l2.1, l2.2.1, l2.2.2) : dLots) = l2 from rfl]
  have hmin : ∃ j : Nat, imin (a.2.1.length : Int) (b.2.1.length : Int) = (j : Int) ∧ 1 ≤ j ∧ j ≤ a.2.1.length ∧ j ≤ b.2.1.length := by
    unfold imin
    split
    · exact ⟨b.2.1.length, rfl, by omega, by omega, by omega⟩
    · exact ⟨a.2.1.length, rfl, by omega, by omega, by omega⟩
  obtain ⟨j, hj, j1, j2, j3⟩ := hmin
  rw [hj, chk_ok (by omega), bs, chk_ok (by omega), bs, e9, bs]
  simp only
  rw [show ((l9.1, l9.2.1, l9.2.2) : dLots) = l9 from rfl, e10, bs]
  simp only [Int.toNat_natCast]
  have hta : (a.2.1.take j).length = j := by simp; omega
  have htb : (b.2.1.take j).length = j := by simp; omega
  obtain ⟨qa', hba', hqa'⟩ := begin_with hk hGa hqa (ds := a.2.1.take j) (fun x hx => hca.dressers x (List.mem_of_mem_take hx)) (by omega)
  obtain ⟨qb', hbb', hqb'⟩ := begin_with hk hGb hqb (ds := b.2.1.take j) (fun x hx => hcb.dressers x (List.mem_of_mem_take hx)) (by omega)
  have hGa' := good_take hk (j := j) hGa hca hqa.fix j1
  have hGb' := good_take hk (j := j) hGb hcb hqb.fix j1
  have fa := Fewest_eq hk hqa' hba'
  have fb := Fewest_eq hk hqb' hbb'
  have hl' : (wD b (b.2.1.take j)).2.1.length = (wD a (a.2.1.take j)).2.1.length := by show (b.2.1.take j).length = (a.2.1.take j).length; omega
  have t1 := Through2_eq hk (rest := r9) hGb' hqa' hqb' hba' hbb' hl' (by omega)
  have t2 := Through2_eq hk (rest := r9 + r10) hGb' hqa' hqb' hba' hbb' hl' (by omega)
  have bA := few_bnd hqa'.vc hqa'.t4
  have bB := few_bnd hqb'.vc hqb'.t4
  have hcB := hqb'.vc
  have l0 := lat_zero hcB.dressers
  generalize hA : wD a (a.2.1.take j) = A at *
  generalize hB : wD b (b.2.1.take j) = B at *
  rw [show ((a.1, a.2.1.take j, a.2.2) : dChange) = A from hA, show ((b.1, b.2.1.take j, b.2.2) : dChange) = B from hB]
  rw [fa, bs, fb, bs, t1, bs, ck_ok (by omega) (by omega), bs, t2, bs]
  by_cases ha1 : (fewS A (tsC A ma)).1 = true
  · have mono : ∀ t u : Int, t ≤ u → (fewS (wD B (B.2.1.map (lat t))) (tsC B mb)).1 = true → _ := fun t u => few_lat (ts := tsC B mb) hcB (t := t) (u := u)
    by_cases hb1 : (fewS B (tsC B mb)).1 = true
    · have hb0 : (fewS (wD B (B.2.1.map (lat 0))) (tsC B mb)).1 = true := by rw [l0]; exact hb1
      have z0 : (fewS (wD B (B.2.1.map (lat 0))) (tsC B mb)).2.1 = (fewS B (tsC B mb)).2.1 := by rw [l0]
      obtain ⟨m1, m2, m3⟩ := mono 0 ((fewS A (tsC A ma)).2.1 + r9) (by omega) hb0
      obtain ⟨m4, m5, m6⟩ := mono ((fewS A (tsC A ma)).2.1 + r9) ((fewS A (tsC A ma)).2.1 + (r9 + r10)) (by omega) m1
      rw [z0] at m2 m3
      have bnd : ∀ t : Int, 0 ≤ t → 0 ≤ (fewS (wD B (B.2.1.map (lat t))) (tsC B mb)).2.1 ∧ (fewS (wD B (B.2.1.map (lat t))) (tsC B mb)).2.1 ≤ 25 := fun t ht => by
        obtain ⟨_, _, hq3⟩ := begin_with hk hGb' hqb' (ds := B.2.1.map (lat t)) (lat_good ht hcB.dressers) (by simpa using hcB.dl)
        exact few_bnd hq3.vc hq3.t4
      have b1 := bnd ((fewS A (tsC A ma)).2.1 + r9) (by omega)
      have b2 := bnd ((fewS A (tsC A ma)).2.1 + (r9 + r10)) (by omega)
      simp only [ha1, hb1, m1, m4, if_true, not_true_eq_false, if_false, decide_true, Bool.not_true, bs, Bool.false_eq_true]
      generalize (fewS A (tsC A ma)).2.1 = x at *
      generalize (fewS B (tsC B mb)).2.1 = y at *
      generalize (fewS (wD B (B.2.1.map (lat (x + r9)))) (tsC B mb)).2.1 = u at *
      generalize (fewS (wD B (B.2.1.map (lat (x + (r9 + r10))))) (tsC B mb)).2.1 = v at *
      have g0 : ∀ p q : Int, geti [p, q] 0 = some p := fun _ _ => rfl
      have g1 : ∀ p q : Int, geti [p, q] 1 = some q := fun _ _ => rfl
      simp only [List.length_cons, List.length_nil, g0, g1, bs, decide_true, not_true_eq_false, if_false, Bool.not_true, Bool.false_eq_true]
      have k1 : y ≤ x + r9 + u := by omega
      have k2 : x + r9 + u ≤ x + r9 + y := by omega
      have k3 : x + r9 + u ≤ x + (r9 + r10) + v := by omega
      have k4 : x + (r9 + r10) + v - (x + r9 + u) ≤ r10 := by omega
      have c1 : ck (x + r9) = some (x + r9) := ck_ok (by omega) (by omega)
      have c2 : ck (x + r9 + y) = some (x + r9 + y) := ck_ok (by omega) (by omega)
      have c3 : ck (x + (r9 + r10) + v - (x + r9 + u)) = some (x + (r9 + r10) + v - (x + r9 + u)) := ck_ok (by omega) (by omega)
      rw [if_neg (by decide), if_neg (by decide)]
      simp only [k1, if_true, c1, c2, c3, bs, k2, k3, k4, hdr, Bool.false_eq_true, if_false]
    · have hn : ∀ t : Int, 0 ≤ t → ¬ (fewS (wD B (B.2.1.map (lat t))) (tsC B mb)).1 = true := fun t ht h => by
        refine hb1 ?_
        rw [fewS_some] at h ⊢
        obtain ⟨p, hp⟩ := h
        refine ⟨p, ?_⟩
        rw [← hp]
        refine (cpS_congr (c := B) (c' := wD B (B.2.1.map (lat t))) rfl (by simp) fun i w h0 h1 _ => ?_).symm
        obtain ⟨i', rfl⟩ := Int.eq_ofNat_of_zero_le h0
        have hi : i' < B.2.1.length := by omega
        unfold canB
        rw [drs_map i' hi]
        rfl
      have n1 := hn ((fewS A (tsC A ma)).2.1 + r9) (by omega)
      have n2 := hn ((fewS A (tsC A ma)).2.1 + (r9 + r10)) (by omega)
      simp [ha1, hb1, n1, n2, hdr]
  · by_cases hb1 : (fewS B (tsC B mb)).1 = true
    · simp [ha1, hb1, hdr]
    · simp [ha1, hb1, hdr]
end Go.Proofs.Ytfhdclhbdmhnmaa
