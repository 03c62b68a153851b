/- Plain law, part 3: the tasks of a change, as the law's kit counts them: what moves, and the list. -/
import Derived.Test.YtfhdclhbdmhnmaaLaw2
namespace Go.Proofs.Ytfhdclhbdmhnmaa
open K Go Go.Proofs

theorem geti_W {α : Type} {l : List α} {i : Nat} (h : i < l.length) : geti l (i : Int) = some l[i] := by
  rw [geti, if_pos (by omega)]
  exact List.getElem?_eq_getElem h

/-- A set that holds all that has to move. -/
def Shut (c : dChange) (C : Nat → Prop) : Prop := ∀ i, i < c.1.length → Forced c C i → C i

abbrev cntT (mv : List Bool) : Nat := mv.count true

theorem count_set {mv : List Bool} {i : Nat} (h : mv[i]? = some false) : cntT (mv.set i true) = cntT mv + 1 := by
  induction mv generalizing i with
  | nil => cases h
  | cons b mv ih =>
    cases i with
    | zero =>
      simp only [List.getElem?_cons_zero, Option.some.injEq] at h
      subst h
      simp [cntT]
    | succ i =>
      simp only [List.getElem?_cons_succ] at h
      have := ih h
      simp only [cntT, List.set_cons_succ, List.count_cons] at this ⊢
      omega

theorem in_set {mv : List Bool} {i j : Nat} (hi : i < mv.length) : In (mv.set i true) j ↔ j = i ∨ In mv j := by
  unfold In
  rw [List.getElem?_set]
  by_cases h : i = j
  · subst h
    simp [hi]
  · simp [h, Ne.symm h]

/-- What a pass leaves. -/
structure Pass (c : dChange) (mv0 mv : List Bool) (again : Bool) (j : Nat) : Prop where
  len : mv.length = c.1.length
  mono : ∀ i, In mv0 i → In mv i
  sound : ∀ C, Shut c C → (∀ i, In mv0 i → C i) → ∀ i, In mv i → C i
  same : again = false → mv = mv0 ∧ ∀ i, i < j → Forced c (In mv0) i → In mv0 i
  more : again = true → cntT mv0 < cntT mv
  le : cntT mv0 ≤ cntT mv

theorem Forced.mono {c : dChange} {M N : Nat → Prop} (h : ∀ i, M i → N i) {i : Nat} (hf : Forced c M i) : Forced c N i := by
  rcases hf with hf | ⟨a, b, q, t, h1, h2, h3⟩
  · exact .inl hf
  · exact .inr ⟨a, b, q, t, h1, h q h2, h3⟩


theorem pass_ok {k : Nat} (hk : 50 ≤ k) {c : dChange} (hs : Small c) {mv0 : List Bool} (hmv : mv0.length = c.1.length) : W (kit_TasksOf_l2 k c k (mv0, false, 0)) fun r => Pass c mv0 r.1 r.2 c.1.length := by
  have h8 := hs.things
  refine W.loop (f := kit_TasksOf_l2 k c) (fun m y => ∃ j : Nat, y.2.2 = (j : Int) ∧ j ≤ c.1.length ∧ m = c.1.length - j ∧ Pass c mv0 y.1 y.2.1 j) ?_ c.1.length k (mv0, false, 0) (by omega)
    ⟨0, rfl, by omega, by omega, hmv, fun _ h => h, fun C hC h => h, fun _ => ⟨rfl, fun i hi => by omega⟩, fun h => (by cases h), Nat.le_refl _⟩
  rintro fuel m ⟨mv, again, y⟩ ⟨j, hj, hle, hm, hP⟩ ih
  simp only at hj hP
  subst hj
  unfold kit_TasksOf_l2
  refine W.ite (fun hlt => ?_) (fun hge => W.ret ?_)
  · obtain ⟨r1, e1, i1⟩ := at_ok (k := k) (l := c.2.2.1) (x := (j : Int)) (by have := hs.wears; omega) (by have := hs.wears; omega)
    obtain ⟨r2, e2, i2⟩ := at_ok (k := k) (l := c.2.2.2) (x := (j : Int)) (by have := hs.wants; omega) (by have := hs.wants; omega)
    obtain ⟨d, e3, i3⟩ := due_ok hk (c := c) (mv := mv) (again := again) (i := j) hs hP.len (d0 := !decide ((decide (0 ≤ r1)) = (decide (0 ≤ r2))))
    have hlt' : j < c.1.length := by simp only at hlt; omega
    have hfd : d = true ↔ Forced c (In mv) j := by
      rw [i3]
      unfold Forced
      have : ((!decide ((decide (0 ≤ r1)) = (decide (0 ≤ r2)))) = true) ↔ (((j : Int) ∈ c.2.2.1 ∧ ¬ (j : Int) ∈ c.2.2.2) ∨ (¬ (j : Int) ∈ c.2.2.1 ∧ (j : Int) ∈ c.2.2.2)) := by
        rw [← i1, ← i2]
        by_cases a : 0 ≤ r1 <;> by_cases b : 0 ≤ r2 <;> simp [a, b]
      rw [this]
    have hlm : j < mv.length := by rw [hP.len]; exact hlt'
    simp only [e1, e2, Option.bind_some]
    rw [e3]
    simp only [Option.bind_some, geti_W hlm]
    -- the next
    have next : ∀ mv' again', Pass c mv0 mv' again' (j + 1) → W ((some (mv', again') : Option (List Bool × Bool)).bind fun x12 => (K.ck ((j : Int) + 1)).bind fun x34 => kit_TasksOf_l2 k c fuel (x12.1, x12.2, x34)) fun r => Pass c mv0 r.1 r.2 c.1.length := fun mv' again' h => by
      refine W.sb (W.ck (by omega) (by omega) (ih (m - 1) (mv', again', (j : Int) + 1) (by omega) ⟨j + 1, ?_, by omega, by omega, h⟩))
      show (j : Int) + 1 = ((j + 1 : Nat) : Int)
      omega
    by_cases hd : d = true
    · have hF := hfd.1 hd
      rw [if_pos hd]
      simp only [Option.bind_some]
      by_cases hb : mv[j] = true
      · have hnb : ¬ ((!mv[j]) = true) := by rw [hb]; decide
        rw [if_neg hnb]
        have hIn : In mv j := by rw [In, List.getElem?_eq_getElem hlm, hb]
        refine next mv again ⟨hP.len, hP.mono, hP.sound, fun ha => ⟨(hP.same ha).1, fun i hi hf => ?_⟩, hP.more, hP.le⟩
        obtain ⟨h1, h2⟩ := hP.same ha
        subst h1
        by_cases hij : i < j
        · exact h2 i hij hf
        · have : i = j := by omega
          subst this
          exact hIn
      · have hbf : mv[j] = false := by simpa using hb
        have hnb : (!mv[j]) = true := by rw [hbf]; rfl
        rw [if_pos hnb]
        have hget : mv[j]? = some false := by rw [List.getElem?_eq_getElem hlm, hbf]
        have hcs := count_set hget
        refine next (mv.set j true) true ⟨by rw [List.length_set]; exact hP.len, fun i hi => (in_set hlm).2 (.inr (hP.mono i hi)), fun C hC h0 i hi => ?_, fun h => (by cases h), fun _ => ?_, ?_⟩
        · rcases (in_set hlm).1 hi with rfl | hi
          · exact hC _ hlt' (hF.mono (hP.sound C hC h0))
          · exact hP.sound C hC h0 i hi
        · have := hP.le; omega
        · have := hP.le; omega
    · rw [if_neg hd]
      simp only [Option.bind_some]
      rw [if_neg (by decide)]
      refine next mv again ⟨hP.len, hP.mono, hP.sound, fun ha => ⟨(hP.same ha).1, fun i hi hf => ?_⟩, hP.more, hP.le⟩
      obtain ⟨h1, h2⟩ := hP.same ha
      subst h1
      by_cases hij : i < j
      · exact h2 i hij hf
      · have : i = j := by omega
        subst this
        exact absurd (hfd.2 hf) hd
  · have : j = c.1.length := by simp only at hge; omega
    subst this
    exact hP

/-- What moves in the end. -/
structure Fix (c : dChange) (mv : List Bool) : Prop where
  len : mv.length = c.1.length
  sound : ∀ C, Shut c C → ∀ i, In mv i → C i
  shut : Shut c (In mv)

theorem fix_ok {k : Nat} (hk : 50 ≤ k) {c : dChange} (hs : Small c) : W (kit_TasksOf_l1 k c k (List.replicate c.1.length false, true)) (Fix c) := by
  have h8 := hs.things
  have hcl : ∀ mv : List Bool, mv.length = c.1.length → cntT mv ≤ c.1.length := fun mv h => by rw [← h]; exact List.count_le_length
  refine W.loop (f := kit_TasksOf_l1 k c) (fun m y => m = (if y.2 = true then c.1.length - cntT y.1 + 1 else 0) ∧ y.1.length = c.1.length ∧ (∀ C, Shut c C → ∀ i, In y.1 i → C i) ∧ (y.2 = false → Shut c (In y.1))) ?_ (c.1.length + 1) k _ (by omega)
    ⟨by simp [cntT, List.count_replicate], by simp, fun C _ i h => (by
      exfalso
      have h : (List.replicate c.1.length false)[i]? = some true := h
      rw [List.getElem?_replicate] at h
      split at h <;> cases h), fun h => (by cases h)⟩
  rintro fuel m ⟨mv, again⟩ ⟨hm, hl, hsd, hsh⟩ ih
  simp only at hm hl hsd hsh
  unfold kit_TasksOf_l1
  refine W.ite (fun ha => ?_) (fun ha => W.ret ⟨hl, hsd, hsh (by simpa using ha)⟩)
  simp only at ha
  rw [if_pos ha] at hm
  refine W.bind (pass_ok hk hs hl) fun r hP => ih _ (r.1, r.2) ?_ ⟨rfl, hP.len, fun C hC => hP.sound C hC (hsd C hC), fun hr => ?_⟩
  · have h1 := hcl _ hl
    have h2 := hcl _ hP.len
    have h3 := hP.le
    show (if r.2 = true then c.1.length - cntT r.1 + 1 else 0) < m
    simp only at h3
    split
    · rename_i hr
      have := hP.more hr
      simp only at this
      omega
    · omega
  · obtain ⟨e, h⟩ := hP.same hr
    rw [e]
    exact h

/-- The tasks of one kind. -/
def sel (mv : List Bool) (ws : List Int) (b : Bool) (j : Nat) : List dTask := ((List.range j).filter fun (i : Nat) => mv[i]?.getD false && decide ((i : Int) ∈ ws)).map fun (i : Nat) => ((i : Int), b)

theorem sel_succ {mv : List Bool} {ws : List Int} {b : Bool} {j : Nat} : sel mv ws b (j + 1) = sel mv ws b j ++ (if In mv j ∧ (j : Int) ∈ ws then [((j : Int), b)] else []) := by
  unfold sel
  rw [List.range_succ, List.filter_append, List.map_append]
  congr 1
  by_cases h : In mv j ∧ (j : Int) ∈ ws
  · rw [if_pos h]
    have h1 : mv[j]? = some true := h.1
    simp [h1, h.2]
  · rw [if_neg h]
    rw [List.filter_cons]
    split
    · rename_i hh
      exfalso
      simp only [Bool.and_eq_true, decide_eq_true_eq] at hh
      refine h ⟨?_, hh.2⟩
      cases hg : mv[j]? with
      | none => rw [hg] at hh; simp at hh
      | some b => rw [hg] at hh; simp at hh; show mv[j]? = _; rw [hg, hh.1]
    · rfl

theorem sel_len {mv : List Bool} {ws : List Int} {b : Bool} {j : Nat} : (sel mv ws b j).length ≤ j := by
  unfold sel
  rw [List.length_map]
  exact Nat.le_trans (List.length_filter_le _ _) (by simp)

theorem okLen_of {n : Nat} (h : n ≤ 1000) : okLen n := by unfold okLen; omega


/-- One kind round. -/
theorem kind_ok {k : Nat} (hk : 50 ≤ k) {c : dChange} (hs : Small c) {mv : List Bool} (hl : mv.length = c.1.length) {out : List dTask} (ho : out.length ≤ 20) {on : Int} (hon : on = 0 ∨ on = 1) :
    W (kit_TasksOf_l5 k c mv (out, on) k (out, 0)) fun r => r = out ++ sel mv (if on = 0 then c.2.2.1 else c.2.2.2) (decide (on = 1)) mv.length := by
  have h8 := hs.things
  refine W.loop (f := kit_TasksOf_l5 k c mv (out, on)) (fun m y => ∃ j : Nat, y.2 = (j : Int) ∧ j ≤ mv.length ∧ m = mv.length - j ∧ y.1 = out ++ sel mv (if on = 0 then c.2.2.1 else c.2.2.2) (decide (on = 1)) j) ?_ mv.length k (out, 0) (by omega)
    ⟨0, rfl, by omega, by omega, by simp [sel]⟩
  rintro fuel m ⟨o, y⟩ ⟨j, hj, hle, hm, ho'⟩ ih
  simp only at hj ho'
  subst hj ho'
  unfold kit_TasksOf_l5
  refine W.ite (fun hlt => ?_) (fun hge => W.ret ?_)
  · have hlt' : j < mv.length := by simp only at hlt; omega
    obtain ⟨r1, e1, i1⟩ := at_ok (k := k) (l := c.2.2.1) (x := (j : Int)) (by have := hs.wears; omega) (by have := hs.wears; omega)
    obtain ⟨r2, e2, i2⟩ := at_ok (k := k) (l := c.2.2.2) (x := (j : Int)) (by have := hs.wants; omega) (by have := hs.wants; omega)
    have hsl := sel_len (mv := mv) (ws := if on = 0 then c.2.2.1 else c.2.2.2) (b := decide (on = 1)) (j := j)
    have next : ∀ bb : Bool, (bb = true ↔ In mv j ∧ (j : Int) ∈ (if on = 0 then c.2.2.1 else c.2.2.2)) →
        W (((some bb : Option Bool).bind fun x45 => if x45 = true then ((chkP (okLen (List.length (out ++ sel mv (if on = 0 then c.2.2.1 else c.2.2.2) (decide (on = 1)) j) + List.length [((j : Int), decide (on = (1 : Int)))]))).bind fun _ =>
          some ((out ++ sel mv (if on = 0 then c.2.2.1 else c.2.2.2) (decide (on = 1)) j) ++ [((j : Int), decide (on = (1 : Int)))])) else (some (out ++ sel mv (if on = 0 then c.2.2.1 else c.2.2.2) (decide (on = 1)) j))).bind fun x43 =>
          (K.ck ((j : Int) + 1)).bind fun x53 => kit_TasksOf_l5 k c mv (out, on) fuel (x43, x53)) fun r => r = out ++ sel mv (if on = 0 then c.2.2.1 else c.2.2.2) (decide (on = 1)) mv.length := by
      intro bb hbb
      refine W.sb (W.iteB (fun hb => ?_) (fun hb => ?_))
      · have hc : okLen (List.length (out ++ sel mv (if on = 0 then c.2.2.1 else c.2.2.2) (decide (on = 1)) j) + List.length [((j : Int), decide (on = (1 : Int)))]) := okLen_of (by rw [List.length_append]; simp only [List.length_cons, List.length_nil]; omega)
        refine W.chkB hc (W.sb (W.ck (by omega) (by omega) (ih (m - 1) (_, (j : Int) + 1) (by omega) ⟨j + 1, ?_, by omega, by omega, ?_⟩)))
        · show (j : Int) + 1 = ((j + 1 : Nat) : Int)
          omega
        · show (out ++ _) ++ _ = _
          rw [sel_succ, if_pos (hbb.1 hb), List.append_assoc]
      · refine W.sb (W.ck (by omega) (by omega) (ih (m - 1) (_, (j : Int) + 1) (by omega) ⟨j + 1, ?_, by omega, by omega, ?_⟩))
        · show (j : Int) + 1 = ((j + 1 : Nat) : Int)
          omega
        · show out ++ _ = _
          rw [sel_succ, if_neg (fun h => hb (hbb.2 h)), List.append_nil]
    simp only [geti_W hlt', e1, e2, Option.bind_some]
    have hIn : In mv j ↔ mv[j] = true := by unfold In; rw [List.getElem?_eq_getElem hlt']; simp
    by_cases hb : mv[j] = true
    · rw [if_pos hb]
      rcases hon with rfl | rfl
      · simp only [if_true]
        by_cases h1 : 0 ≤ r1
        · rw [if_pos h1]
          exact next true ⟨fun _ => ⟨hIn.2 hb, i1.1 h1⟩, fun _ => rfl⟩
        · rw [if_neg h1]
          exact next false ⟨fun h => (by cases h), fun h => absurd (i1.2 h.2) h1⟩
      · rw [if_neg (by decide), if_pos rfl]
        exact next (decide (0 ≤ r2)) ⟨fun h => ⟨hIn.2 hb, i2.1 (of_decide_eq_true h)⟩, fun h => decide_eq_true (i2.2 h.2)⟩
    · rw [if_neg hb]
      exact next false ⟨fun h => (by cases h), fun h => absurd (hIn.1 h.1) hb⟩
  · have : j = mv.length := by simp only at hge; omega
    subst this
    rfl

/-- **The tasks of a change.** -/
theorem tasksOf_ok {k : Nat} (hk : 50 ≤ k) {c : dChange} (hs : Small c) : W (kit_TasksOf k c) fun r => ∃ mv, Fix c mv ∧ r = sel mv c.2.2.1 false c.1.length ++ sel mv c.2.2.2 true c.1.length := by
  have h8 := hs.things
  unfold kit_TasksOf
  refine W.chk ⟨by omega, okLen_of (by omega)⟩ ?_
  have e : Int.toNat (c.1.length : Int) = c.1.length := by omega
  rw [e]
  refine W.bind (fix_ok hk hs) fun mv hF => ?_
  have hsl := sel_len (mv := mv) (ws := c.2.2.1) (b := false) (j := mv.length)
  have hlen := hF.len
  have hw := sel_len (mv := mv) (ws := c.2.2.1) (b := false) (j := mv.length)
  obtain ⟨o1, f1, g1⟩ := kind_ok hk hs hF.len (out := []) (by simp) (on := 0) (.inl rfl)
  have g1' : o1 = sel mv c.2.2.1 false mv.length := by rw [g1]; simp
  have hl1 : o1.length ≤ 20 := by rw [g1']; omega
  obtain ⟨o2, f2, g2⟩ := kind_ok hk hs hF.len hl1 (on := 1) (.inr rfl)
  have g2' : o2 = o1 ++ sel mv c.2.2.2 true mv.length := by rw [g2]; simp
  have run : kit_TasksOf_l4 k c mv k ([], 0) = some o2 := by
    obtain ⟨k', rfl⟩ : ∃ k', k = k' + 3 := ⟨k - 3, by omega⟩
    have e0 : K.ck ((0 : Int) + 1) = some 1 := rfl
    have e1 : K.ck ((1 : Int) + 1) = some 2 := rfl
    have s1 : kit_TasksOf_l4 (k' + 3) c mv (k' + 3) ([], 0) = kit_TasksOf_l4 (k' + 3) c mv (k' + 2) (o1, 1) := by
      rw [kit_TasksOf_l4]
      simp only [f1, Option.bind_some, e0]
      rfl
    have s2 : kit_TasksOf_l4 (k' + 3) c mv (k' + 2) (o1, 1) = kit_TasksOf_l4 (k' + 3) c mv (k' + 1) (o2, 2) := by
      rw [kit_TasksOf_l4]
      simp only [f2, Option.bind_some, e1]
      rfl
    have s3 : kit_TasksOf_l4 (k' + 3) c mv (k' + 1) (o2, 2) = some o2 := by
      rw [kit_TasksOf_l4]
      simp
    rw [s1, s2, s3]
  rw [run]
  refine W.ret ⟨mv, hF, ?_⟩
  rw [g2', g1', ← hF.len]
end Go.Proofs.Ytfhdclhbdmhnmaa
