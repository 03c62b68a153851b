/- Plain law, part 17: the error of any change: lists, things, dressers. -/
import Derived.Test.YtfhdclhbdmhnmaaLaw11
namespace Go.Proofs.Ytfhdclhbdmhnmaa
open K Go Go.Proofs

/-- Is a number not above the one before? -/
def prB (pr : Option Int) (x : Int) : Bool := match pr with
  | some p => decide (x ≤ p)
  | none => false
/-- The error of a list of numbers of things, behind a number. -/
def lstE (n but : Int) : Option Int → List Int → Int
  | _, [] => 0
  | pr, x :: l => if ¬ (0 ≤ x ∧ x ≤ n - 1) ∨ x = but then 3 else if prB pr x = true then 5 else lstE n but (some x) l
/-- Good lists are those without an error. -/
theorem lstE_zero {n but : Int} : ∀ {l : List Int} {pr : Option Int}, lstE n but pr l = 0 ↔ (∀ x ∈ l, 0 ≤ x ∧ x < n ∧ x ≠ but) ∧ l.Pairwise (· < ·) ∧ ∀ p, pr = some p → ∀ x ∈ l, p < x
  | [], pr => by simp [lstE]
  | x :: l, pr => by
    rw [lstE]
    by_cases h1 : ¬ (0 ≤ x ∧ x ≤ n - 1) ∨ x = but
    · rw [if_pos h1]
      refine ⟨fun h => (by cases h), fun h => ?_⟩
      have := h.1 x (by simp)
      omega
    · rw [if_neg h1]
      have hx : 0 ≤ x ∧ x < n ∧ x ≠ but := by omega
      by_cases h2 : prB pr x = true
      · rw [if_pos h2]
        refine ⟨fun h => (by cases h), fun h => ?_⟩
        cases pr with
        | none => cases h2
        | some p =>
          have := h.2.2 p rfl x (by simp)
          have h2 := of_decide_eq_true h2
          omega
      · rw [if_neg h2, lstE_zero]
        have hp : ∀ p, pr = some p → p < x := fun p e => by
          subst e
          have h2 : ¬ decide (x ≤ p) = true := h2
          rw [decide_eq_true_eq] at h2
          omega
        constructor
        · rintro ⟨a, b, d⟩
          refine ⟨fun y hy => ?_, List.pairwise_cons.2 ⟨fun y hy => d x rfl y hy, b⟩, fun p e y hy => ?_⟩
          · rcases List.mem_cons.1 hy with rfl | hy
            · exact hx
            · exact a y hy
          · have hpx := hp p e
            rcases List.mem_cons.1 hy with rfl | hy
            · exact hpx
            · have := d x rfl y hy; omega
        · rintro ⟨a, b, d⟩
          obtain ⟨b1, b2⟩ := List.pairwise_cons.1 b
          exact ⟨fun y hy => a y (List.mem_cons_of_mem _ hy), b2, fun p e y hy => by cases e; exact b1 y hy⟩

theorem outside_eq' {k : Nat} {x a b : Int} : chg_outside k x a b = some (decide (¬ (a ≤ x ∧ x ≤ b))) := by
  unfold chg_outside
  by_cases h : x < a
  · rw [if_pos h, bs, decide_eq_true (by omega)]
  · rw [if_neg h, bs]
    congr 1
    rw [decide_eq_decide]
    omega

/-- The element before. -/
def prv (l : List Int) (j : Nat) : Option Int := if j = 0 then none else l[j - 1]?

theorem checkList_eq {k : Nat} (hk : 50 ≤ k) {l : List Int} {n but : Int} (hl : l.length ≤ 20) (hn : 0 ≤ n ∧ n ≤ 1000) : chg_checkList k l n but = some (lstE n but none l) := by
  have key : W (chg_checkList_l1 k l n but k 0) fun r => r = match lstE n but none l with | 0 => .ok () | e => .error e := by
    refine W.loop (f := chg_checkList_l1 k l n but) (fun q y => ∃ j : Nat, y = (j : Int) ∧ j ≤ l.length ∧ q = l.length - j ∧ lstE n but none l = lstE n but (prv l j) (l.drop j)) ?_ l.length k 0 (by omega) ⟨0, rfl, by omega, by omega, by simp [prv]⟩
    rintro fuel q y ⟨j, hj, hle, hq, hE⟩ ih
    subst hj
    unfold chg_checkList_l1
    refine W.ite (fun hlt => ?_) (fun hge => W.ret (by
      have : j = l.length := by omega
      subst this
      rw [hE, List.drop_length]; rfl))
    have hlt' : j < l.length := by omega
    have hdr : l.drop j = l[j] :: l.drop (j + 1) := List.drop_eq_getElem_cons hlt'
    rw [hdr, lstE] at hE
    rw [geti_W hlt', bs, ck_ok (by omega) (by omega), bs, outside_eq', bs]
    have hb : (if decide (¬ (0 ≤ l[j] ∧ l[j] ≤ n - 1)) = true then some true else some (decide (l[j] = but))) = some (decide (¬ (0 ≤ l[j] ∧ l[j] ≤ n - 1) ∨ l[j] = but)) := by
      by_cases h : 0 ≤ l[j] ∧ l[j] ≤ n - 1 <;> simp [h]
    rw [hb, bs]
    by_cases h1 : ¬ (0 ≤ l[j] ∧ l[j] ≤ n - 1) ∨ l[j] = but
    · rw [if_pos h1] at hE
      rw [decide_eq_true h1, if_pos rfl, hE]
      exact W.ret rfl
    · rw [if_neg h1] at hE
      rw [decide_eq_false h1, if_neg (by decide)]
      have hp : (if (0 : Int) < (j : Int) then ((ck ((j : Int) - 1)).bind fun x12 => (geti l x12).bind fun x13 => some (decide (l[j] ≤ x13))) else some false) = some (prB (prv l j) l[j]) := by
        unfold prv prB
        by_cases hj0 : j = 0
        · subst hj0; simp
        · have e : (j : Int) - 1 = ((j - 1 : Nat) : Int) := by omega
          rw [if_pos (by omega), ck_ok (by omega) (by omega), bs, e, geti_W (by omega), bs, if_neg hj0, List.getElem?_eq_getElem (by omega)]
      rw [hp, bs]
      by_cases h2 : prB (prv l j) l[j] = true
      · rw [if_pos h2] at hE
        rw [if_pos h2, hE]
        exact W.ret rfl
      · rw [if_neg h2] at hE
        rw [if_neg h2, ck_ok (by omega) (by omega), bs]
        exact ih (q - 1) ((j : Int) + 1) (by omega) ⟨j + 1, rfl, by omega, by omega, by rw [hE]; simp [prv, List.getElem?_eq_getElem hlt']⟩
  obtain ⟨r, e, rfl⟩ := key
  unfold chg_checkList
  rw [e]
  split
  · rename_i h; rw [bE_k, h]
  · rw [bE_e]

theorem inside_eq {k : Nat} {x a b : Int} : ref_inside k x a b = some (decide (a ≤ x ∧ x ≤ b)) := by
  unfold ref_inside
  by_cases h : a ≤ x
  · rw [if_pos h, bs]; simp [h]
  · rw [if_neg h, bs]; simp [h]

theorem things_eq {k : Nat} (hk : 50 ≤ k) {c : dChange} {l : List Int} {but : Int} (hl : l.length ≤ 20) (hn : c.1.length ≤ 1000) : ref_things k c l but = some (lstE (c.1.length : Int) but none l) := by
  have key : W (ref_things_l1 k c l but k 0) fun r => r = match lstE (c.1.length : Int) but none l with | 0 => .ok () | e => .error e := by
    refine W.loop (f := ref_things_l1 k c l but) (fun q y => ∃ j : Nat, y = (j : Int) ∧ j ≤ l.length ∧ q = l.length - j ∧ lstE (c.1.length : Int) but none l = lstE (c.1.length : Int) but (prv l j) (l.drop j)) ?_ l.length k 0 (by omega) ⟨0, rfl, by omega, by omega, by simp [prv]⟩
    rintro fuel q y ⟨j, hj, hle, hq, hE⟩ ih
    subst hj
    unfold ref_things_l1
    refine W.ite (fun hlt => ?_) (fun hge => W.ret (by
      have : j = l.length := by omega
      subst this
      rw [hE, List.drop_length]; rfl))
    have hlt' : j < l.length := by omega
    have hdr : l.drop j = l[j] :: l.drop (j + 1) := List.drop_eq_getElem_cons hlt'
    rw [hdr, lstE] at hE
    rw [geti_W hlt', bs, ck_ok (by omega) (by omega), bs, inside_eq, bs]
    simp only [bs]
    have hb : (if ¬ decide (0 ≤ l[j] ∧ l[j] ≤ (c.1.length : Int) - 1) = true then some true else some (decide (l[j] = but))) = some (decide (¬ (0 ≤ l[j] ∧ l[j] ≤ (c.1.length : Int) - 1) ∨ l[j] = but)) := by
      by_cases h : 0 ≤ l[j] ∧ l[j] ≤ (c.1.length : Int) - 1 <;> simp [h]
    rw [hb, bs]
    by_cases h1 : ¬ (0 ≤ l[j] ∧ l[j] ≤ (c.1.length : Int) - 1) ∨ l[j] = but
    · rw [if_pos h1] at hE
      rw [decide_eq_true h1, if_pos rfl, hE]
      exact W.ret rfl
    · rw [if_neg h1] at hE
      rw [decide_eq_false h1, if_neg (by decide)]
      have hp : (if (0 : Int) < (j : Int) then ((ck ((j : Int) - 1)).bind fun x15 => (geti l x15).bind fun x16 => some (decide (l[j] ≤ x16))) else some false) = some (prB (prv l j) l[j]) := by
        unfold prv prB
        by_cases hj0 : j = 0
        · subst hj0; simp
        · have e : (j : Int) - 1 = ((j - 1 : Nat) : Int) := by omega
          rw [if_pos (by omega), ck_ok (by omega) (by omega), bs, e, geti_W (by omega), bs, if_neg hj0, List.getElem?_eq_getElem (by omega)]
      rw [hp, bs]
      by_cases h2 : prB (prv l j) l[j] = true
      · rw [if_pos h2] at hE
        rw [if_pos h2, hE]
        exact W.ret rfl
      · rw [if_neg h2] at hE
        rw [if_neg h2, ck_ok (by omega) (by omega), bs]
        exact ih (q - 1) ((j : Int) + 1) (by omega) ⟨j + 1, rfl, by omega, by omega, by rw [hE]; simp [prv, List.getElem?_eq_getElem hlt']⟩
  obtain ⟨r, e, rfl⟩ := key
  unfold ref_things
  rw [e]
  split
  · rename_i h; rw [bE_k, h]
  · rw [bE_e]

/-- The error of a thing, and of all things. -/
def thE (n : Int) (i : Nat) (t : dThing) : Int :=
  if ¬ lstE n (i : Int) none t.1 = 0 then lstE n (i : Int) none t.1 else if ¬ (1 ≤ t.2.1 ∧ t.2.1 ≤ 4) ∨ ¬ (1 ≤ t.2.2.1 ∧ t.2.2.1 ≤ 4) then 1 else if ¬ (0 ≤ t.2.2.2.1 ∧ t.2.2.2.1 ≤ 2) then 8 else if ¬ (0 ≤ t.2.2.2.2 ∧ t.2.2.2.2 ≤ 30) then 1 else 0
def drE (n : Int) (_ : Nat) (d : dDresser) : Int :=
  if ¬ lstE n (-1) none d.1 = 0 then lstE n (-1) none d.1 else if ¬ (0 ≤ d.2.1 ∧ d.2.1 ≤ 2) then 8 else if ¬ (0 ≤ d.2.2 ∧ d.2.2 ≤ 9) then 1 else 0
/-- The first error. -/
def fstE {α : Type} (f : Nat → α → Int) : Nat → List α → Int
  | _, [] => 0
  | j, x :: l => if ¬ f j x = 0 then f j x else fstE f (j + 1) l
theorem fstE_zero {α : Type} {f : Nat → α → Int} : ∀ {l : List α} {j : Nat}, fstE f j l = 0 ↔ ∀ i x, l[i]? = some x → f (j + i) x = 0
  | [], j => by simp [fstE]
  | x :: l, j => by
    rw [fstE]
    by_cases h : f j x = 0
    · rw [if_neg (by simp [h]), fstE_zero]
      constructor
      · intro h' i y hy
        cases i with
        | zero => simp at hy; subst hy; exact h
        | succ i => have := h' i y (by simpa using hy); rw [show j + (i + 1) = j + 1 + i by omega]; exact this
      · intro h' i y hy
        have := h' (i + 1) y (by simpa using hy)
        rw [show j + 1 + i = j + (i + 1) by omega]; exact this
    · rw [if_pos h]
      exact ⟨fun h' => absurd h' h, fun h' => absurd (h' 0 x rfl) h⟩

theorem fstE_loop {α : Type} {f : Nat → Int → Option (Except Int Unit)} {l : List α} {g : Nat → α → Int} (step : ∀ n (j : Nat) (h : j < l.length), f (n + 1) (j : Int) = if ¬ g j l[j] = 0 then some (.error (g j l[j])) else f n ((j : Int) + 1)) (stop : ∀ n, f (n + 1) (l.length : Int) = some (.ok ())) {n : Nat} (hn : l.length < n) :
    f n 0 = some (if fstE g 0 l = 0 then .ok () else .error (fstE g 0 l)) := by
  have key := for_foldE (f := f) l (fun (_ : Unit) j => j) (fun _ j x => if ¬ g j x = 0 then Except.error (g j x) else .ok ()) (fun _ _ => True) (fun r => some r)
    (fun n s j h _ => by
      rw [step n j h]
      by_cases hg : g j l[j] = 0
      · simp [hg]
      · simp [hg]) (fun n s _ => stop n) (n := n) (s0 := ()) hn trivial
  have : ∀ (l : List α) (j : Nat), foldE (fun (_ : Unit) j x => if ¬ g j x = 0 then Except.error (g j x) else .ok ()) j l () = if fstE g j l = 0 then .ok () else .error (fstE g j l) := by
    intro l
    induction l with
    | nil => intro j; simp [foldE, fstE]
    | cons x l ih =>
      intro j
      rw [foldE, fstE]
      by_cases hg : g j x = 0
      · rw [if_neg (by simp [hg])]
        simp only
        rw [ih]
        simp [hg]
      · rw [if_pos hg]
        simp [hg]
  rw [this] at key
  exact key

/-- Lists that are not long. -/
structure Short (c : dChange) : Prop where
  things : c.1.length ≤ 20
  dressers : c.2.1.length ≤ 20
  wears : c.2.2.1.length ≤ 20
  wants : c.2.2.2.length ≤ 20
  over : ∀ t ∈ c.1, t.1.length ≤ 20
  can : ∀ d ∈ c.2.1, d.1.length ≤ 20

theorem chgTh_eq {k : Nat} (hk : 50 ≤ k) {c : dChange} (hs : Short c) : chg_checkThings_l1 k c k 0 = some (if fstE (thE (c.1.length : Int)) 0 c.1 = 0 then .ok () else .error (fstE (thE (c.1.length : Int)) 0 c.1)) := by
  have h1 := hs.things
  refine fstE_loop (fun n j h => ?_) (fun n => by simp [chg_checkThings_l1]) (by omega)
  have h2 := hs.over _ (List.getElem_mem h)
  have hck : ck ((j : Int) + 1) = some ((j : Int) + 1) := ck_ok (by omega) (by omega)
  rw [chg_checkThings_l1, if_pos (by omega), geti_W h, bs, checkList_eq hk h2 (by omega)]
  simp only [bs, outside_eq', hck]
  unfold thE
  generalize c.1[j] = t
  by_cases a1 : lstE (c.1.length : Int) (j : Int) none t.1 = 0
  · by_cases a2 : 1 ≤ t.2.1 ∧ t.2.1 ≤ 4 <;> by_cases a3 : 1 ≤ t.2.2.1 ∧ t.2.2.1 ≤ 4 <;> by_cases a4 : 0 ≤ t.2.2.2.1 ∧ t.2.2.2.1 ≤ 2 <;> by_cases a5 : 0 ≤ t.2.2.2.2 ∧ t.2.2.2.2 ≤ 30 <;> simp [a1, a2, a3, a4, a5]
  · simp [a1]
theorem refTh_eq {k : Nat} (hk : 50 ≤ k) {c : dChange} (hs : Short c) : ref_Check_l1 k c k 0 = some (if fstE (thE (c.1.length : Int)) 0 c.1 = 0 then .ok () else .error (fstE (thE (c.1.length : Int)) 0 c.1)) := by
  have h1 := hs.things
  refine fstE_loop (fun n j h => ?_) (fun n => by simp [ref_Check_l1]) (by omega)
  have h2 := hs.over _ (List.getElem_mem h)
  have hck : ck ((j : Int) + 1) = some ((j : Int) + 1) := ck_ok (by omega) (by omega)
  rw [ref_Check_l1, if_pos (by omega), geti_W h, bs, things_eq hk h2 (by omega)]
  simp only [bs, inside_eq, hck]
  unfold thE
  generalize c.1[j] = t
  by_cases a1 : lstE (c.1.length : Int) (j : Int) none t.1 = 0
  · by_cases a2 : 1 ≤ t.2.1 ∧ t.2.1 ≤ 4 <;> by_cases a3 : 1 ≤ t.2.2.1 ∧ t.2.2.1 ≤ 4 <;> by_cases a4 : 0 ≤ t.2.2.2.1 ∧ t.2.2.2.1 ≤ 2 <;> by_cases a5 : 0 ≤ t.2.2.2.2 ∧ t.2.2.2.2 ≤ 30 <;> simp [a1, a2, a3, a4, a5]
  · simp [a1]
theorem chgDr_eq {k : Nat} (hk : 50 ≤ k) {c : dChange} (hs : Short c) : chg_Check_l1 k c k 0 = some (if fstE (drE (c.1.length : Int)) 0 c.2.1 = 0 then .ok () else .error (fstE (drE (c.1.length : Int)) 0 c.2.1)) := by
  have h1 := hs.dressers
  have h3 := hs.things
  refine fstE_loop (fun n j h => ?_) (fun n => by simp [chg_Check_l1]) (by omega)
  have h2 := hs.can _ (List.getElem_mem h)
  have hck : ck ((j : Int) + 1) = some ((j : Int) + 1) := ck_ok (by omega) (by omega)
  rw [chg_Check_l1, if_pos (by omega), geti_W h, bs, checkList_eq hk h2 (by omega)]
  simp only [bs, outside_eq', hck]
  unfold drE
  generalize c.2.1[j] = t
  by_cases a1 : lstE (c.1.length : Int) (-1) none t.1 = 0
  · by_cases a4 : 0 ≤ t.2.1 ∧ t.2.1 ≤ 2 <;> by_cases a5 : 0 ≤ t.2.2 ∧ t.2.2 ≤ 9 <;> simp [a1, a4, a5]
  · simp [a1]
theorem refDr_eq {k : Nat} (hk : 50 ≤ k) {c : dChange} (hs : Short c) : ref_Check_l3 k c k 0 = some (if fstE (drE (c.1.length : Int)) 0 c.2.1 = 0 then .ok () else .error (fstE (drE (c.1.length : Int)) 0 c.2.1)) := by
  have h1 := hs.dressers
  have h3 := hs.things
  refine fstE_loop (fun n j h => ?_) (fun n => by simp [ref_Check_l3]) (by omega)
  have h2 := hs.can _ (List.getElem_mem h)
  have hck : ck ((j : Int) + 1) = some ((j : Int) + 1) := ck_ok (by omega) (by omega)
  rw [ref_Check_l3, if_pos (by omega), geti_W h, bs, things_eq hk h2 (by omega)]
  simp only [bs, inside_eq, hck]
  unfold drE
  generalize c.2.1[j] = t
  by_cases a1 : lstE (c.1.length : Int) (-1) none t.1 = 0
  · by_cases a4 : 0 ≤ t.2.1 ∧ t.2.1 ≤ 2 <;> by_cases a5 : 0 ≤ t.2.2 ∧ t.2.2 ≤ 9 <;> simp [a1, a4, a5]
  · simp [a1]
end Go.Proofs.Ytfhdclhbdmhnmaa
