/- Plain law: all lists of steps are tried. -/
import Derived.Test.YtfhdclhbdmhnmaaLawW
import Derived.Test.YtfhdclhbdmhnmaaLaw15
namespace Go.Proofs.Ytfhdclhbdmhnmaa
open K Go Go.Proofs

/-! All tuples. -/
def tupS (n : Nat) : Nat → List (List Int) → List (List Int)
  | 0, l => l
  | m + 1, l => tupS n m (l.flatMap fun o => (List.range n).map fun (x : Nat) => o ++ [(x : Int)])

theorem flatMap_len {α β : Type} {f : α → List β} {n : Nat} (h : ∀ x, (f x).length = n) : ∀ {l : List α}, (l.flatMap f).length = l.length * n
  | [] => by simp
  | x :: l => by rw [List.flatMap_cons, List.length_append, h, flatMap_len h, List.length_cons, Nat.succ_mul]; omega
theorem mem_tupS {n : Nat} : ∀ {m : Nat} {l : List (List Int)} {x : List Int}, x ∈ tupS n m l ↔ ∃ o ∈ l, ∃ y : List Int, x = o ++ y ∧ y.length = m ∧ ∀ v ∈ y, 0 ≤ v ∧ v < (n : Int)
  | 0, l, x => by
    rw [tupS]
    constructor
    · intro h; exact ⟨x, h, [], by simp, rfl, by simp⟩
    · rintro ⟨o, ho, y, rfl, hy, _⟩
      rw [List.length_eq_zero_iff.1 hy, List.append_nil]; exact ho
  | m + 1, l, x => by
    rw [tupS, mem_tupS]
    simp only [List.mem_flatMap, List.mem_map, List.mem_range]
    constructor
    · rintro ⟨_, ⟨o, ho, v, hv, rfl⟩, y, rfl, hy, hb⟩
      refine ⟨o, ho, (v : Int) :: y, by simp, by simp [hy], fun w hw => ?_⟩
      rcases List.mem_cons.1 hw with rfl | hw
      · omega
      · exact hb w hw
    · rintro ⟨o, ho, y, rfl, hy, hb⟩
      cases y with
      | nil => simp at hy
      | cons v y =>
        have hv := hb v (by simp)
        refine ⟨o ++ [v], ⟨o, ho, v.toNat, by omega, by congr 2; omega⟩, y, by simp, by simpa using hy, fun w hw => hb w (List.mem_cons_of_mem _ hw)⟩

theorem copyInts' {k : Nat} {l : List Int} (h : l.length ≤ 1000) : kit_CopyInts k l = some l := by
  unfold kit_CopyInts
  rw [chk_ok (okLen_of (by simpa using h)), bs]
  rfl

theorem tup3_eq {k : Nat} (hk : 500 ≤ k) {n : Nat} {y3 : Int × (List (List Int))} {y9 : (List (List Int)) × Int} {o : List Int} {out : List (List Int)} (hn : n ≤ 4) (ho : geti y3.2 y9.2 = some o) (hol : o.length ≤ 8) (hl : out.length ≤ 2000) :
    kit_Tuples_l3 k (n : Int) y3 y9 k (out, 0) = some (out ++ (List.range n).map fun (x : Nat) => o ++ [(x : Int)]) := by
  have key : W (kit_Tuples_l3 k (n : Int) y3 y9 k (out, 0)) fun r => r = out ++ (List.range n).map fun (x : Nat) => o ++ [(x : Int)] := by
    refine W.loop (f := kit_Tuples_l3 k (n : Int) y3 y9) (fun m y => ∃ j : Nat, y.2 = (j : Int) ∧ j ≤ n ∧ m = n - j ∧ y.1 = out ++ (List.range j).map fun (x : Nat) => o ++ [(x : Int)]) ?_ n k (out, 0) (by omega) ⟨0, rfl, by omega, by omega, by simp⟩
    rintro fuel m ⟨r, y⟩ ⟨j, hj, hle, hm, hr⟩ ih
    simp only at hj hr
    subst hj hr
    unfold kit_Tuples_l3
    dsimp only
    refine W.ite (fun hlt => ?_) (fun hge => W.ret (by
      have : j = n := by omega
      subst this; rfl))
    rw [ho, bs, copyInts' (by omega), bs, chk_ok (okLen_of (by simp only [List.length_cons, List.length_nil]; omega)), bs, chk_ok (by unfold okLen; simp only [List.length_append, List.length_map, List.length_range, List.length_cons, List.length_nil]; omega), bs, ck_ok (by omega) (by omega), bs]
    refine ih (m - 1) (_, (j : Int) + 1) (by omega) ⟨j + 1, rfl, by omega, by omega, ?_⟩
    rw [List.range_succ, List.map_append, ← List.append_assoc]
    rfl
  obtain ⟨r, e, rfl⟩ := key
  exact e

theorem tup2_eq {k : Nat} (hk : 500 ≤ k) {n : Nat} {y3 : Int × (List (List Int))} (hn : n ≤ 4) (hl : y3.2.length ≤ 256) (hol : ∀ o ∈ y3.2, o.length ≤ 8) : kit_Tuples_l2 k (n : Int) y3 k ([], 0) = some (y3.2.flatMap fun o => (List.range n).map fun (x : Nat) => o ++ [(x : Int)]) := by
  have key : W (kit_Tuples_l2 k (n : Int) y3 k ([], 0)) fun r => r = y3.2.flatMap fun o => (List.range n).map fun (x : Nat) => o ++ [(x : Int)] := by
    refine W.loop (f := kit_Tuples_l2 k (n : Int) y3) (fun m y => ∃ j : Nat, y.2 = (j : Int) ∧ j ≤ y3.2.length ∧ m = y3.2.length - j ∧ y.1 = (y3.2.take j).flatMap fun o => (List.range n).map fun (x : Nat) => o ++ [(x : Int)]) ?_ y3.2.length k ([], 0) (by omega) ⟨0, rfl, by omega, by omega, by simp⟩
    rintro fuel m ⟨r, y⟩ ⟨j, hj, hle, hm, hr⟩ ih
    simp only at hj hr
    subst hj
    unfold kit_Tuples_l2
    dsimp only
    refine W.ite (fun hlt => ?_) (fun hge => W.ret (by
      have : j = y3.2.length := by omega
      subst this; rw [hr, List.take_length]))
    have hlt' : j < y3.2.length := by omega
    have hrl : r.length ≤ 2000 := by
      rw [hr, flatMap_len (n := n) (fun x => by simp), List.length_take]
      have : min j y3.2.length * n ≤ 256 * 4 := Nat.mul_le_mul (by omega) hn
      omega
    rw [tup3_eq hk hn (geti_W hlt') (hol _ (List.getElem_mem hlt')) hrl, bs, ck_ok (by omega) (by omega), bs]
    refine ih (m - 1) (_, (j : Int) + 1) (by omega) ⟨j + 1, rfl, by omega, by omega, ?_⟩
    rw [List.take_add_one, List.getElem?_eq_getElem hlt', List.flatMap_append, hr]
    simp
  obtain ⟨r, e, rfl⟩ := key
  exact e

theorem tup1_eq {k : Nat} (hk : 500 ≤ k) {n : Nat} (hn : n ≤ 4) : ∀ (m fuel : Nat) (l : List (List Int)), m < fuel → l.length * 4 ^ m ≤ 256 → (∀ o ∈ l, o.length + m ≤ 8) → m ≤ 8 → kit_Tuples_l1 k (n : Int) fuel ((m : Int), l) = some (tupS n m l)
  | 0, fuel, l, hf, _, _, _ => by
    obtain ⟨fuel, rfl⟩ : ∃ f, fuel = f + 1 := ⟨fuel - 1, by omega⟩
    rw [kit_Tuples_l1, if_neg (by simp)]; rfl
  | m + 1, fuel, l, hf, hl, ho, h8 => by
    obtain ⟨fuel, rfl⟩ : ∃ f, fuel = f + 1 := ⟨fuel - 1, by omega⟩
    have hp : 1 ≤ 4 ^ (m + 1) := Nat.one_le_pow _ _ (by decide)
    have hll : l.length ≤ 256 := by
      have := Nat.mul_le_mul (Nat.le_refl l.length) hp
      omega
    rw [kit_Tuples_l1, if_pos (by simp only; omega), tup2_eq hk (y3 := (((m + 1 : Nat) : Int), l)) hn hll (fun o h => by have := ho o h; omega), bs, bs]
    have e : (((m + 1 : Nat) : Int) - 1) = (m : Int) := by omega
    simp only
    rw [e, ck_ok (by omega) (by omega), bs, tup1_eq hk hn m fuel _ (by omega) ?_ ?_ (by omega)]
    · rfl
    · rw [flatMap_len (n := n) (fun x => by simp)]
      have h1 : l.length * n * 4 ^ m ≤ l.length * 4 * 4 ^ m := Nat.mul_le_mul (Nat.mul_le_mul (Nat.le_refl _) hn) (Nat.le_refl _)
      have h2 : l.length * 4 ^ (m + 1) = l.length * 4 * 4 ^ m := by rw [Nat.pow_succ, Nat.mul_assoc, Nat.mul_comm (4 ^ m) 4]
      omega
    · intro o h
      simp only [List.mem_flatMap, List.mem_map] at h
      obtain ⟨o', ho', x, _, rfl⟩ := h
      have := ho o' ho'
      simp; omega

theorem tuples_eq {k : Nat} (hk : 500 ≤ k) {n m : Nat} (hn : n ≤ 4) (hm : m ≤ 4) : kit_Tuples k (n : Int) (m : Int) = some (tupS n m [[]]) := by
  unfold kit_Tuples
  have h4 : 4 ^ m ≤ 4 ^ 4 := Nat.pow_le_pow_right (by decide) hm
  rw [tup1_eq hk hn m k [[]] (by omega) (by simpa using h4) (by simp; omega) (by omega), bs]

theorem tupS_len {n : Nat} (hn : n ≤ 4) : ∀ (m : Nat) (l : List (List Int)), (tupS n m l).length ≤ l.length * 4 ^ m
  | 0, l => by simp [tupS]
  | m + 1, l => by
    have := tupS_len hn m (l.flatMap fun o => (List.range n).map fun (x : Nat) => o ++ [(x : Int)])
    rw [flatMap_len (n := n) (fun x => by simp)] at this
    have h1 : l.length * n * 4 ^ m ≤ l.length * 4 * 4 ^ m := Nat.mul_le_mul (Nat.mul_le_mul (Nat.le_refl _) hn) (Nat.le_refl _)
    have h2 : l.length * 4 ^ (m + 1) = l.length * 4 * 4 ^ m := by rw [Nat.pow_succ, Nat.mul_assoc, Nat.mul_comm (4 ^ m) 4]
    rw [tupS]
    omega
theorem tup_len {n m : Nat} (hn : n ≤ 4) (hm : m ≤ 4) : (tupS n m [[]]).length ≤ 256 := by
  have := tupS_len hn m [[]]
  have h4 : 4 ^ m ≤ 4 ^ 4 := Nat.pow_le_pow_right (by decide) hm
  simp only [List.length_cons, List.length_nil] at this
  omega
theorem mem_tup {n m : Nat} {x : List Int} : x ∈ tupS n m [[]] ↔ x.length = m ∧ ∀ v ∈ x, 0 ≤ v ∧ v < (n : Int) := by
  rw [mem_tupS]
  simp

/-- All orders. -/
def rowS (n : Nat) : List (List Int) := (tupS n n [[]]).filter fun o => (List.range n).all fun (x : Nat) => decide ((x : Int) ∈ o)

theorem rows_eq {k : Nat} (hk : 500 ≤ k) {n : Nat} (hn : n ≤ 4) : kit_Rows k (n : Int) = some (rowS n) := by
  unfold kit_Rows
  rw [tuples_eq hk hn hn, bs]
  have hl := tup_len hn hn
  have hol : ∀ o ∈ tupS n n [[]], o.length ≤ 8 := fun o h => by have := (mem_tup.1 h).1; omega
  unfold rowS
  generalize tupS n n [[]] = T at *
  have key : W (kit_Rows_l1 k (n : Int) T k ([], 0)) fun r => r = T.filter fun o => (List.range n).all fun (x : Nat) => decide ((x : Int) ∈ o) := by
    refine W.loop (f := kit_Rows_l1 k (n : Int) T) (fun m y => ∃ j : Nat, y.2 = (j : Int) ∧ j ≤ T.length ∧ m = T.length - j ∧ y.1 = (T.take j).filter fun o => (List.range n).all fun (x : Nat) => decide ((x : Int) ∈ o)) ?_ T.length k ([], 0) (by omega) ⟨0, rfl, by omega, by omega, by simp⟩
    rintro fuel m ⟨r, y⟩ ⟨j, hj, hle, hm, hr⟩ ih
    simp only at hj hr
    subst hj
    have hrl : r.length ≤ 900 := by
      rw [hr]
      have := List.length_filter_le (fun o => (List.range n).all fun (x : Nat) => decide ((x : Int) ∈ o)) (T.take j)
      rw [List.length_take] at this
      omega
    unfold kit_Rows_l1
    dsimp only
    refine W.ite (fun hlt => ?_) (fun hge => W.ret (by
      have : j = T.length := by omega
      subst this; rw [hr, List.take_length]))
    have hlt' : j < T.length := by omega
    have ho := hol _ (List.getElem_mem hlt')
    have once : W (kit_Rows_l2 k (n : Int) T (r, (j : Int)) k (true, 0)) fun b => b = (List.range n).all fun (x : Nat) => decide ((x : Int) ∈ T[j]) := by
      refine W.loop (f := kit_Rows_l2 k (n : Int) T (r, (j : Int))) (fun m y => ∃ i : Nat, y.2 = (i : Int) ∧ i ≤ n ∧ m = n - i ∧ y.1 = (List.range i).all fun (x : Nat) => decide ((x : Int) ∈ T[j])) ?_ n k (true, 0) (by omega) ⟨0, rfl, by omega, by omega, by simp⟩
      rintro fuel m ⟨b, y⟩ ⟨i, hi, hle, hm, hb⟩ _ih
      simp only at hi hb
      subst hi
      unfold kit_Rows_l2
      dsimp only
      refine W.ite (fun hlt => ?_) (fun hge => W.ret (by
        have : i = n := by omega
        subst this; exact hb))
      obtain ⟨r15, e15, i15⟩ := at_ok (k := k) (l := T[j]) (x := (i : Int)) (by omega) (by omega)
      have e : (if b = true then ((geti T (j : Int)).bind fun x14 => (kit_At k x14 (i : Int)).bind fun r15 => some (decide ((0 : Int) ≤ r15))) else (some false)) = some ((List.range (i + 1)).all fun (x : Nat) => decide ((x : Int) ∈ T[j])) := by
        rw [List.range_succ, List.all_append, ← hb]
        cases b with
        | false => simp
        | true =>
          rw [if_pos rfl, geti_W hlt', bs, e15, bs]
          simp only [List.all_cons, List.all_nil, Bool.and_true, Bool.true_and]
          congr 1
          rw [decide_eq_decide]
          exact i15
      rw [e, bs, ck_ok (by omega) (by omega), bs]
      exact _ih (m - 1) (_, (i : Int) + 1) (by omega) ⟨i + 1, rfl, by omega, by omega, rfl⟩
    obtain ⟨b, eb, hb⟩ := once
    rw [eb, bs]
    have next : ∀ r' : List (List Int), r' = ((T.take (j + 1)).filter fun o => (List.range n).all fun (x : Nat) => decide ((x : Int) ∈ o)) → W ((some r' : Option (List (List Int))).bind fun x6 => (ck ((j : Int) + (1 : Int))).bind fun x20 => kit_Rows_l1 k (n : Int) T fuel (x6, x20)) fun r => r = T.filter fun o => (List.range n).all fun (x : Nat) => decide ((x : Int) ∈ o) := fun r' hr' => by
      rw [bs, ck_ok (by omega) (by omega), bs]
      exact ih (m - 1) (r', (j : Int) + 1) (by omega) ⟨j + 1, rfl, by omega, by omega, hr'⟩
    have hnew : ((T.take (j + 1)).filter fun o => (List.range n).all fun (x : Nat) => decide ((x : Int) ∈ o)) = r ++ (if b = true then [T[j]] else []) := by
      rw [List.take_add_one, List.getElem?_eq_getElem hlt', List.filter_append, ← hr, hb]
      simp only [Option.toList_some, List.filter_cons, List.filter_nil]
    cases b with
    | true =>
      rw [if_pos rfl, geti_W hlt', bs, chk_ok (okLen_of (by simp only [List.length_cons, List.length_nil]; omega)), bs]
      exact next _ (by rw [hnew]; rfl)
    | false => rw [if_neg (by decide)]; exact next _ (by rw [hnew]; simp)
  obtain ⟨r, e, rfl⟩ := key
  rw [e, bs]

theorem pg : ∀ {l r : List Int}, l.Nodup → (∀ x ∈ l, x ∈ r) → l.length ≤ r.length
  | [], _, _, _ => by simp
  | x :: l, r, hn, hs => by
    obtain ⟨h1, h2⟩ := List.nodup_cons.1 hn
    have hx := hs x (by simp)
    have := pg (l := l) (r := r.erase x) h2 fun y hy => (List.mem_erase_of_ne (fun e => h1 (by rw [← e]; exact hy))).2 (hs y (List.mem_cons_of_mem _ hy))
    rw [List.length_erase_of_mem hx] at this
    have : 0 < r.length := List.length_pos_of_mem hx
    simp only [List.length_cons]
    omega
/-- So many different small numbers are all of them. -/
theorem pg_all {l : List Int} {n : Nat} (hn : l.Nodup) (hb : ∀ x ∈ l, 0 ≤ x ∧ x < (n : Int)) (hl : l.length = n) : ∀ x : Nat, x < n → (x : Int) ∈ l := fun x hx => by
  false_or_by_contra
  rename_i hm
  have hr : ∀ y ∈ l, y ∈ ((List.range n).map fun (x : Nat) => (x : Int)).erase (x : Int) := fun y hy => by
    refine (List.mem_erase_of_ne (fun e => hm (by rw [← e]; exact hy))).2 ?_
    have := hb y hy
    exact List.mem_map.2 ⟨y.toNat, by simp; omega, by omega⟩
  have := pg hn hr
  rw [List.length_erase_of_mem (List.mem_map.2 ⟨x, by simp; omega, rfl⟩)] at this
  simp at this
  omega

/-- All lists of steps. -/
def allS (n D : Nat) : List (List dStep) := (rowS n).flatMap fun o => (tupS D n [[]]).map fun h => o.zip h

theorem zip_take {o h : List Int} {j : Nat} (h1 : j < o.length) (h2 : j < h.length) : (o.zip h).take (j + 1) = (o.zip h).take j ++ [(o[j], h[j])] := by
  rw [List.take_add_one, List.getElem?_eq_getElem (by simp; omega)]
  simp

theorem all_eq {k : Nat} (hk : 500 ≤ k) {n : Int} {c : dChange} {mv : List Bool} (hc : VC n c) (hF : Fix c mv) (ht : (tsC c mv).length ≤ 4) : law_all k c = some (allS (tsC c mv).length c.2.1.length) := by
  have hdl := hc.dl
  unfold law_all
  rw [tasksOf_eq (by omega) hc hF, bs, List.length_map, rows_eq hk ht, bs, tuples_eq hk (by omega) ht, bs]
  have hrl : (rowS (tsC c mv).length).length ≤ 256 := Nat.le_trans (List.length_filter_le _ _) (tup_len ht ht)
  have hhl := tup_len (n := c.2.1.length) (by omega) ht
  have hro : ∀ o ∈ rowS (tsC c mv).length, o.length = (tsC c mv).length := fun o h => (mem_tup.1 (List.mem_filter.1 h).1).1
  have hho : ∀ o ∈ tupS c.2.1.length (tsC c mv).length [[]], o.length = (tsC c mv).length := fun o h => (mem_tup.1 h).1
  unfold allS
  have hTl : ((tsC c mv).map fun x => (x.2, x.1)).length = (tsC c mv).length := List.length_map ..
  generalize (tsC c mv).map (fun x => (x.2, x.1)) = r2 at *
  generalize (tsC c mv).length = m at *
  generalize rowS m = R at *
  generalize tupS c.2.1.length m [[]] = H at *
  have l3 : ∀ (y7 : (List (List dStep)) × Int) (y11 : (List (List dStep)) × Int) (o h : List Int), geti R y7.2 = some o → geti H y11.2 = some h → o.length = m → h.length = m → law_all_l3 k r2 R H y7 y11 k ([], 0) = some (o.zip h) := fun y7 y11 o h e1 e2 ho hh => by
    have key : W (law_all_l3 k r2 R H y7 y11 k ([], 0)) fun r => r = o.zip h := by
      refine W.loop (f := law_all_l3 k r2 R H y7 y11) (fun q y => ∃ j : Nat, y.2 = (j : Int) ∧ j ≤ m ∧ q = m - j ∧ y.1 = (o.zip h).take j) ?_ m k ([], 0) (by omega) ⟨0, rfl, by omega, by omega, by simp⟩
      rintro fuel q ⟨r, y⟩ ⟨j, hj, hle, hq, hr⟩ ih
      simp only at hj hr
      subst hj hr
      unfold law_all_l3
      dsimp only
      refine W.ite (fun hlt => ?_) (fun hge => W.ret (by
        have : j = (o.zip h).length := by simp; omega
        subst this; rw [List.take_length]))
      rw [e1, bs, geti_W (by omega), bs, e2, bs, geti_W (by omega), bs, chk_ok (okLen_of (by simp only [List.length_take, List.length_zip, List.length_cons, List.length_nil]; omega)), bs, ck_ok (by omega) (by omega), bs]
      exact ih (q - 1) (_, (j : Int) + 1) (by omega) ⟨j + 1, rfl, by omega, by omega, (zip_take (by omega) (by omega)).symm⟩
    obtain ⟨r, e, rfl⟩ := key
    exact e
  have l2 : ∀ (y7 : (List (List dStep)) × Int) (out : List (List dStep)) (o : List Int), geti R y7.2 = some o → o.length = m → out.length ≤ 70000 → law_all_l2 k r2 R H y7 k (out, 0) = some (out ++ H.map fun h => o.zip h) := fun y7 out o e1 ho hout => by
    have key : W (law_all_l2 k r2 R H y7 k (out, 0)) fun r => r = out ++ H.map fun h => o.zip h := by
      refine W.loop (f := law_all_l2 k r2 R H y7) (fun q y => ∃ j : Nat, y.2 = (j : Int) ∧ j ≤ H.length ∧ q = H.length - j ∧ y.1 = out ++ (H.take j).map fun h => o.zip h) ?_ H.length k (out, 0) (by omega) ⟨0, rfl, by omega, by omega, by simp⟩
      rintro fuel q ⟨r, y⟩ ⟨j, hj, hle, hq, hr⟩ ih
      simp only at hj hr
      subst hj hr
      unfold law_all_l2
      dsimp only
      refine W.ite (fun hlt => ?_) (fun hge => W.ret (by
        have : j = H.length := by omega
        subst this; rw [List.take_length]))
      have hlt' : j < H.length := by omega
      rw [l3 _ _ o H[j] e1 (geti_W hlt') ho (hho _ (List.getElem_mem hlt')), bs, chk_ok (by unfold okLen; simp only [List.length_append, List.length_map, List.length_take, List.length_cons, List.length_nil]; omega), bs, bs, ck_ok (by omega) (by omega), bs]
      refine ih (q - 1) (_, (j : Int) + 1) (by omega) ⟨j + 1, rfl, by omega, by omega, ?_⟩
      rw [List.take_add_one, List.getElem?_eq_getElem hlt', List.map_append, List.append_assoc]
      rfl
    obtain ⟨r, e, rfl⟩ := key
    exact e
  have key : W (law_all_l1 k r2 R H k ([], 0)) fun r => r = R.flatMap fun o => H.map fun h => o.zip h := by
    refine W.loop (f := law_all_l1 k r2 R H) (fun q y => ∃ j : Nat, y.2 = (j : Int) ∧ j ≤ R.length ∧ q = R.length - j ∧ y.1 = (R.take j).flatMap fun o => H.map fun h => o.zip h) ?_ R.length k ([], 0) (by omega) ⟨0, rfl, by omega, by omega, by simp⟩
    rintro fuel q ⟨r, y⟩ ⟨j, hj, hle, hq, hr⟩ ih
    simp only at hj hr
    subst hj
    unfold law_all_l1
    dsimp only
    refine W.ite (fun hlt => ?_) (fun hge => W.ret (by
      have : j = R.length := by omega
      subst this; rw [hr, List.take_length]))
    have hlt' : j < R.length := by omega
    have hrl : r.length ≤ 70000 := by
      rw [hr, flatMap_len (n := H.length) (fun x => by simp), List.length_take]
      have := Nat.mul_le_mul (show min j R.length ≤ 256 by omega) hhl
      omega
    rw [l2 _ r R[j] (geti_W hlt') (hro _ (List.getElem_mem hlt')) hrl, bs, ck_ok (by omega) (by omega), bs]
    refine ih (q - 1) (_, (j : Int) + 1) (by omega) ⟨j + 1, rfl, by omega, by omega, ?_⟩
    rw [List.take_add_one, List.getElem?_eq_getElem hlt', List.flatMap_append, hr]
    simp
  obtain ⟨r, e, rfl⟩ := key
  rw [e, bs]

theorem allS_len {n D : Nat} (hn : n ≤ 4) (hD : D ≤ 4) : (allS n D).length ≤ 65536 := by
  unfold allS
  rw [flatMap_len (n := (tupS D n [[]]).length) (fun x => by simp)]
  have h1 : (rowS n).length ≤ 256 := Nat.le_trans (List.length_filter_le _ _) (tup_len hn hn)
  exact Nat.mul_le_mul h1 (tup_len hD hn)
theorem allS_mem {n D : Nat} {p : List dStep} (h : p ∈ allS n D) : p.length = n := by
  unfold allS at h
  simp only [List.mem_flatMap, List.mem_map] at h
  obtain ⟨o, ho, h, hh, rfl⟩ := h
  have h1 := (mem_tup.1 (List.mem_filter.1 ho).1).1
  have h2 := (mem_tup.1 hh).1
  simp; omega
/-- **All plans are among them.** -/
theorem allS_all {c : dChange} {ts : List (Bool × Int)} {p : List dStep} (h : cpS c ts p = 0) : p ∈ allS ts.length c.2.1.length := by
  obtain ⟨h1, h2⟩ := cpS_ok h
  obtain ⟨h3, h4⟩ := cpGo_ok h2
  have hz : (p.map (·.1)).zip (p.map (·.2)) = p := by
    clear h h1 h2 h3 h4
    induction p with
    | nil => rfl
    | cons x p ih => simp [ih]
  unfold allS
  simp only [List.mem_flatMap, List.mem_map]
  have hb : ∀ x ∈ p.map (·.1), 0 ≤ x ∧ x < (ts.length : Int) := fun x hx => by
    obtain ⟨s, hs, rfl⟩ := List.mem_map.1 hx
    have := (h3 s hs).1
    exact ⟨this.1, this.2.1⟩
  refine ⟨p.map (·.1), ?_, p.map (·.2), mem_tup.2 ⟨by simp [h1], fun x hx => ?_⟩, hz⟩
  · refine List.mem_filter.2 ⟨mem_tup.2 ⟨by simp [h1], hb⟩, ?_⟩
    rw [List.all_eq_true]
    intro x hx
    exact decide_eq_true (pg_all h4 hb (by simp [h1]) x (by simpa using hx))
  · obtain ⟨s, hs, rfl⟩ := List.mem_map.1 hx
    have := (h3 s hs).1
    exact ⟨this.2.2.1, this.2.2.2⟩
end Go.Proofs.Ytfhdclhbdmhnmaa
