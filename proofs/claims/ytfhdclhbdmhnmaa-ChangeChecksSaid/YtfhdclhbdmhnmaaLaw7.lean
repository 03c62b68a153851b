/- Plain law, part 7: a good change passes all checks. -/
import Derived.Test.YtfhdclhbdmhnmaaLaw6
namespace Go.Proofs.Ytfhdclhbdmhnmaa
open K Go Go.Proofs

/-- Further up, or further down. -/
def Dir (up : Bool) (i x : Nat) : Prop := if up = true then i < x else x < i
theorem Dir.trans {up : Bool} {a b c : Nat} (h : Dir up a b) (h' : Dir up b c) : Dir up a c := by
  unfold Dir at *
  split at h <;> rename_i hu
  · rw [if_pos hu] at h' ⊢; omega
  · rw [if_neg hu] at h' ⊢; omega
theorem Dir.irrefl {up : Bool} {a : Nat} (h : Dir up a a) : False := by
  unfold Dir at h
  split at h <;> omega
theorem dir_of {up : Bool} {i : Nat} {x : Int} (h0 : 0 ≤ x) (h : decide ((i : Int) < x) = up ∧ x ≠ (i : Int)) : Dir up i x.toNat := by
  unfold Dir
  cases up with
  | true => rw [if_pos rfl]; have := of_decide_eq_true h.1; omega
  | false => rw [if_neg (by decide)]; have := of_decide_eq_false h.1; have := h.2; omega

def Abv (up : Bool) (ab : List Int) : Prop := ab.length = 4 ∧ ∀ (i : Nat) s, ab[i]? = some s → Mask s ∧ ∀ x, Has s x → Dir up i x

theorem above1_ok {k : Nat} (hk : 50 ≤ k) {up : Bool} {n : Int} {i : Nat} {ab0 ab : List Int} {t : dThing} (hn : 1 ≤ n ∧ n ≤ 4) (hi : (i : Int) < n) (hab : Abv up ab) (ho : OverOk up (i : Int) n t.1) :
    W (chg_checkThings_l4 k (ab0, (i : Int)) t k (ab, 0)) (Abv up) := by
  have hlen := ho.1.len (by omega)
  refine W.loop (f := chg_checkThings_l4 k (ab0, (i : Int)) t) (fun q y => ∃ j : Nat, y.2 = (j : Int) ∧ j ≤ t.1.length ∧ q = t.1.length - j ∧ Abv up y.1) ?_ t.1.length k (ab, 0) (by omega) ⟨0, rfl, by omega, by omega, hab⟩
  rintro fuel q ⟨b, y⟩ ⟨j, hj, hle, hq, hA⟩ ih
  simp only at hj hA
  subst hj
  unfold chg_checkThings_l4
  dsimp only
  refine W.ite (fun hlt => ?_) (fun hge => W.ret hA)
  have hlt' : j < t.1.length := by omega
  have hx := ho.1.2 t.1[j] (List.getElem_mem hlt')
  have hd := ho.2 t.1[j] (List.getElem_mem hlt')
  have hdir := dir_of hx.1 hd
  have hib : i < b.length := by rw [hA.1]; omega
  have hxb : t.1[j].toNat < b.length := by rw [hA.1]; omega
  have hxn : t.1[j] = ((t.1[j].toNat : Nat) : Int) := by omega
  have g1 : geti b (i : Int) = some b[i] := geti_W hib
  have g2 : geti b t.1[j] = some (b[t.1[j].toNat]'hxb) := by
    rw [geti, if_pos hx.1]
    exact List.getElem?_eq_getElem hxb
  obtain ⟨m1, d1⟩ := hA.2 i _ (List.getElem?_eq_getElem hib)
  obtain ⟨m2, d2⟩ := hA.2 t.1[j].toNat _ (List.getElem?_eq_getElem hxb)
  obtain ⟨s, es, m3, d3⟩ := of_set_ok (k := k) hk (l := [t.1[j]]) (by simp) (fun x h => by simp only [List.mem_singleton] at h; subst h; omega)
  obtain ⟨m4, d4⟩ := ior_ok m2 m3
  obtain ⟨m5, d5⟩ := ior_ok m1 m4
  refine W.bindE (geti_W hlt') (W.chk (by omega) (W.bindE g1 (W.chk (by omega) (W.bindE g2 (W.bindE es (W.chk (by omega) (W.ck (by omega) (by omega) (ih (q - 1) (_, (j : Int) + 1) (by omega) ⟨j + 1, ?_, by omega, by omega, ?_, fun i' s' h => ?_⟩))))))))
  · show (j : Int) + 1 = ((j + 1 : Nat) : Int)
    omega
  · show (List.set b _ _).length = 4
    rw [List.length_set]; exact hA.1
  · have e : Int.toNat (i : Int) = i := by omega
    have h : (List.set b (Int.toNat (i : Int)) (ior .u8 b[i] (ior .u8 (b[t.1[j].toNat]'hxb) s)))[i']? = some s' := h
    rw [e, List.getElem?_set] at h
    by_cases hii : i = i'
    · subst hii
      rw [if_pos rfl, if_pos hib] at h
      cases h
      refine ⟨m5, fun x hx' => ?_⟩
      rcases (d5 x).1 hx' with h | h
      · exact d1 x h
      · rcases (d4 x).1 h with h | h
        · exact hdir.trans (d2 x h)
        · have := (d3 x).1 h
          simp only [List.mem_singleton] at this
          have : x = t.1[j].toNat := by omega
          subst this
          exact hdir
    · rw [if_neg hii] at h
      exact hA.2 i' s' h

theorem above2_ok {k : Nat} (hk : 50 ≤ k) {up : Bool} {n : Int} {c : dChange} {ab : List Int} (hn : 1 ≤ n ∧ n ≤ 4) (hl : (c.1.length : Int) = n) (hg : ∀ (j : Nat) t, c.1[j]? = some t → GoodT up n j t) (hab : Abv up ab) :
    W (chg_checkThings_l3 k c k (ab, 0)) (Abv up) := by
  refine W.loop (f := chg_checkThings_l3 k c) (fun q y => ∃ j : Nat, y.2 = (j : Int) ∧ j ≤ c.1.length ∧ q = c.1.length - j ∧ Abv up y.1) ?_ c.1.length k (ab, 0) (by omega) ⟨0, rfl, by omega, by omega, hab⟩
  rintro fuel q ⟨b, y⟩ ⟨j, hj, hle, hq, hA⟩ ih
  simp only at hj hA
  subst hj
  unfold chg_checkThings_l3
  dsimp only
  refine W.ite (fun hlt => ?_) (fun hge => W.ret hA)
  have hlt' : j < c.1.length := by omega
  refine W.bindEB (geti_W hlt') (W.bind (above1_ok hk (ab0 := b) hn (by omega) hA (hg j _ (List.getElem?_eq_getElem hlt')).over) fun b' hb' => W.ck (by omega) (by omega) (ih (q - 1) (b', (j : Int) + 1) (by omega) ⟨j + 1, ?_, by omega, by omega, hb'⟩))
  show (j : Int) + 1 = ((j + 1 : Nat) : Int)
  omega

theorem above3_ok {k : Nat} (hk : 50 ≤ k) {up : Bool} {n : Int} {c : dChange} {ab : List Int} (hn : 1 ≤ n ∧ n ≤ 4) (hl : (c.1.length : Int) = n) (hg : ∀ (j : Nat) t, c.1[j]? = some t → GoodT up n j t) (hab : Abv up ab) :
    W (chg_checkThings_l2 k c k (ab, 0)) (Abv up) := by
  refine W.loop (f := chg_checkThings_l2 k c) (fun q y => ∃ j : Nat, y.2 = (j : Int) ∧ j ≤ c.1.length ∧ q = c.1.length - j ∧ Abv up y.1) ?_ c.1.length k (ab, 0) (by omega) ⟨0, rfl, by omega, by omega, hab⟩
  rintro fuel q ⟨b, y⟩ ⟨j, hj, hle, hq, hA⟩ ih
  simp only at hj hA
  subst hj
  unfold chg_checkThings_l2
  dsimp only
  refine W.ite (fun hlt => ?_) (fun hge => W.ret hA)
  have hlt' : j < c.1.length := by omega
  refine W.bind (above2_ok hk hn hl hg hA) fun b' hb' => W.ck (by omega) (by omega) (ih (q - 1) (b', (j : Int) + 1) (by omega) ⟨j + 1, ?_, by omega, by omega, hb'⟩)
  show (j : Int) + 1 = ((j + 1 : Nat) : Int)
  omega

theorem checkThings_ok {k : Nat} (hk : 50 ≤ k) {up : Bool} {n : Int} {c : dChange} (hn : 1 ≤ n ∧ n ≤ 4) (hl : (c.1.length : Int) = n) (hg : ∀ (j : Nat) t, c.1[j]? = some t → GoodT up n j t) : chg_checkThings k c = some 0 := by
  have h1 : W (chg_checkThings_l1 k c k 0) fun r => r = .ok () := by
    refine W.loop (f := chg_checkThings_l1 k c) (fun q y => ∃ j : Nat, y = (j : Int) ∧ j ≤ c.1.length ∧ q = c.1.length - j) ?_ c.1.length k 0 (by omega) ⟨0, rfl, by omega, by omega⟩
    rintro fuel q y ⟨j, hj, hle, hq⟩ ih
    subst hj
    unfold chg_checkThings_l1
    refine W.ite (fun hlt => ?_) (fun hge => W.ret rfl)
    have hlt' : j < c.1.length := by omega
    have hG := hg j _ (List.getElem?_eq_getElem hlt')
    refine W.bindE (geti_W hlt') ?_
    have e1 : chg_checkList k c.1[j].1 (c.1.length : Int) (j : Int) = some 0 := by
      rw [hl]
      exact checkList_ok hk (by omega) hG.over.1 fun x hx => (hG.over.2 x hx).2
    refine W.bindE e1 ?_
    rw [if_neg (by decide)]
    have e2 : ((chg_outside k c.1[j].2.1 (1 : Int) (4 : Int)).bind fun r12 => if r12 = true then (some true) else ((chg_outside k c.1[j].2.2.1 (1 : Int) (4 : Int)).bind fun r13 => some r13)) = some false := by
      rw [outside_in hG.off]
      show (if false = true then (some true) else ((chg_outside k c.1[j].2.2.1 (1 : Int) (4 : Int)).bind fun r13 => some r13)) = some false
      rw [if_neg (by decide), outside_in hG.put]
      rfl
    refine W.bindE e2 ?_
    rw [if_neg (by decide)]
    refine W.bindE (outside_in hG.side) ?_
    rw [if_neg (by decide)]
    refine W.bindE (outside_in (by have := hG.due; omega)) ?_
    rw [if_neg (by decide)]
    exact W.ck (by omega) (by omega) (ih (q - 1) ((j : Int) + 1) (by omega) ⟨j + 1, by omega, by omega, by omega⟩)
  have h0 : Abv up [(0 : Int), 0, 0, 0] := by
    refine ⟨rfl, fun i s h => ?_⟩
    have hs : s = 0 := by
      have := List.mem_of_getElem? h
      simp only [List.mem_cons, List.not_mem_nil, or_false, or_self] at this
      exact this
    subst hs
    refine ⟨⟨by decide, by decide⟩, fun x hx => ?_⟩
    simp [Has] at hx
  obtain ⟨ab, e18, hab⟩ := above3_ok hk hn hl hg h0
  have h5 : W (chg_checkThings_l5 k c ab k 0) fun r => r = .ok () := by
    refine W.loop (f := chg_checkThings_l5 k c ab) (fun q y => ∃ j : Nat, y = (j : Int) ∧ j ≤ c.1.length ∧ q = c.1.length - j) ?_ c.1.length k 0 (by omega) ⟨0, rfl, by omega, by omega⟩
    rintro fuel q y ⟨j, hj, hle, hq⟩ ih
    subst hj
    unfold chg_checkThings_l5
    refine W.ite (fun hlt => ?_) (fun hge => W.ret rfl)
    have hjb : j < ab.length := by rw [hab.1]; omega
    obtain ⟨m1, d1⟩ := hab.2 j _ (List.getElem?_eq_getElem hjb)
    refine W.chk (by omega) (W.bindE (geti_W hjb) (W.bindE (has_ok m1 (by omega)) ?_))
    rw [if_neg (fun h => (d1 j (of_decide_eq_true h)).irrefl)]
    exact W.ck (by omega) (by omega) (ih (q - 1) ((j : Int) + 1) (by omega) ⟨j + 1, by omega, by omega, by omega⟩)
  obtain ⟨x1, e1, rfl⟩ := h1
  obtain ⟨x5, e5, rfl⟩ := h5
  unfold chg_checkThings
  have es : chg_sized k (c.1.length : Int) 4 = some 0 := by
    unfold chg_sized
    rw [if_neg (by omega), if_neg (by omega)]
  rw [es]
  show (if ¬ ((0 : Int) = 0) then (some 0) else (bE (α := Unit) (chg_checkThings_l1 k c k (0 : Int)) (some) fun _ => _)) = some (0 : Int)
  rw [if_neg (by decide), e1]
  show ((chg_checkThings_l2 k c k ([(0 : Int), (0 : Int), (0 : Int), (0 : Int)], (0 : Int))).bind fun x18 => bE (α := Unit) (chg_checkThings_l5 k c x18 k (0 : Int)) (some) fun _ => some (0 : Int)) = some (0 : Int)
  rw [e18]
  show (bE (α := Unit) (chg_checkThings_l5 k c ab k (0 : Int)) (some) fun _ => some (0 : Int)) = some (0 : Int)
  rw [e5]
  rfl

/-- **A good change is let by.** -/
theorem check_ok {k : Nat} (hk : 50 ≤ k) {up : Bool} {n : Int} {c : dChange} (hn : 1 ≤ n ∧ n ≤ 4) (hl : (c.1.length : Int) = n) (hg : ∀ (j : Nat) t, c.1[j]? = some t → GoodT up n j t)
    (hw : Asc c.2.2.1 n) (hv : Asc c.2.2.2 n) (hd : ∀ x ∈ c.2.1, GoodD n x) (hdl : 1 ≤ c.2.1.length ∧ c.2.1.length ≤ 3) : chg_Check k c = some 0 := by
  have neg : ∀ (l : List Int), Asc l n → ∀ x ∈ l, x ≠ (-1 : Int) := fun l h x hx => by have := (h.2 x hx).1; omega
  have h1 : W (chg_Check_l1 k c k 0) fun r => r = .ok () := by
    refine W.loop (f := chg_Check_l1 k c) (fun q y => ∃ j : Nat, y = (j : Int) ∧ j ≤ c.2.1.length ∧ q = c.2.1.length - j) ?_ c.2.1.length k 0 (by omega) ⟨0, rfl, by omega, by omega⟩
    rintro fuel q y ⟨j, hj, hle, hq⟩ ih
    subst hj
    unfold chg_Check_l1
    refine W.ite (fun hlt => ?_) (fun hge => W.ret rfl)
    have hlt' : j < c.2.1.length := by omega
    have hG := hd _ (List.getElem_mem hlt')
    refine W.bindE (geti_W hlt') ?_
    have e1 : chg_checkList k c.2.1[j].1 (c.1.length : Int) (-1) = some 0 := by
      rw [hl]
      exact checkList_ok hk (by omega) hG.can (neg _ hG.can)
    refine W.bindE e1 ?_
    rw [if_neg (by decide)]
    refine W.bindE (outside_in hG.side) ?_
    rw [if_neg (by decide)]
    refine W.bindE (outside_in (by have := hG.start; omega)) ?_
    rw [if_neg (by decide)]
    exact W.ck (by omega) (by omega) (ih (q - 1) ((j : Int) + 1) (by omega) ⟨j + 1, by omega, by omega, by omega⟩)
  obtain ⟨x1, e1, rfl⟩ := h1
  have es : chg_sized k (c.2.1.length : Int) 3 = some 0 := by
    unfold chg_sized
    rw [if_neg (by omega), if_neg (by omega)]
  have ew : chg_checkList k c.2.2.1 (c.1.length : Int) (-1) = some 0 := by rw [hl]; exact checkList_ok hk (by omega) hw (neg _ hw)
  have ev : chg_checkList k c.2.2.2 (c.1.length : Int) (-1) = some 0 := by rw [hl]; exact checkList_ok hk (by omega) hv (neg _ hv)
  unfold chg_Check
  rw [checkThings_ok hk hn hl hg]
  simp only [Option.bind_some, es, e1, ew, ev]
  rfl
end Go.Proofs.Ytfhdclhbdmhnmaa
