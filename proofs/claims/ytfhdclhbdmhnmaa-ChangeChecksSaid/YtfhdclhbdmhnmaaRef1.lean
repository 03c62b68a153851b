/- Plain law: the reference's tasks, and its pairs of what comes first. -/
import Derived.Test.YtfhdclhbdmhnmaaLaw18
import Derived.Test.YtfhdclhbdmhnmaaLawT
import Derived.Test.YtfhdclhbdmhnmaaLaw12
namespace Go.Proofs.Ytfhdclhbdmhnmaa
open K Go Go.Proofs

theorem ref_has_eq {k : Nat} {l : List Int} {x : Int} (h : l.length < k) (hk : l.length ≤ 1000000) : ref_has k l x = some (decide (x ∈ l)) := by
  have key := for_foldE (f := ref_has_l1 k l x) l (fun (_ : Unit) j => j) (fun _ _ y => if y = x then Except.error true else .ok ()) (fun _ _ => True) (fun r => some r)
    (fun n s j h _ => by
      simp (disch := omega) only [ref_has_l1, Int.ofNat_lt, h, if_true, geti_W h, bs, ck_ok]
      by_cases hx : l[j] = x <;> simp [hx]) (fun n s _ => by simp [ref_has_l1]) (n := k) (s0 := ()) h trivial
  unfold ref_has
  rw [show ref_has_l1 k l x k 0 = _ from key]
  have : ∀ (l : List Int) (j : Nat), foldE (fun (_ : Unit) _ y => if y = x then Except.error true else .ok ()) j l () = if x ∈ l then .error true else .ok () := by
    intro l
    induction l with
    | nil => intro j; simp [foldE]
    | cons y l ih =>
      intro j
      by_cases hy : y = x
      · simp [foldE, hy]
      · rw [foldE, if_neg hy]
        simp only
        rw [ih (j + 1)]
        simp [List.mem_cons, Ne.symm hy]
  rw [this]
  by_cases hm : x ∈ l
  · rw [if_pos hm, bE_e, decide_eq_true hm]
  · rw [if_neg hm, bE_k, decide_eq_false hm]

/-- What a round of the reference leaves. -/
structure RPass (c : dChange) (mv0 mv : List Bool) : Prop where
  len : mv.length = c.1.length
  mono : ∀ i, In mv0 i → In mv i
  sound : ∀ C, Shut c C → (∀ i, In mv0 i → C i) → ∀ i, In mv i → C i

theorem rch3_ok {k : Nat} (hk : 50 ≤ k) {n : Int} {c : dChange} (hc : VC n c) {mv0 mvx : List Bool} {i : Nat} (hi : i < c.1.length) {b1 b2 : Bool} (h1 : b1 = true ↔ (i : Int) ∈ c.2.2.1) (h2 : b2 = true ↔ (i : Int) ∈ c.2.2.2) (hl : mv0.length = c.1.length) :
    W (ref_changed_l3 k c (mvx, (i : Int)) b1 b2 k (mv0, 0)) fun r => RPass c mv0 r ∧ (((i : Int) ∈ c.2.2.1 ∧ (i : Int) ∈ c.2.2.2 ∧ ∃ (q : Nat) (t : dThing), c.1[q]? = some t ∧ In mv0 q ∧ (i : Int) ∈ t.1) → In r i) := by
  obtain ⟨w1, w2, w3, w4, _⟩ := hc.wl
  refine W.loop (f := ref_changed_l3 k c (mvx, (i : Int)) b1 b2) (fun m y => ∃ j : Nat, y.2 = (j : Int) ∧ j ≤ c.1.length ∧ m = c.1.length - j ∧ RPass c mv0 y.1 ∧ (((i : Int) ∈ c.2.2.1 ∧ (i : Int) ∈ c.2.2.2 ∧ ∃ (q : Nat) (t : dThing), q < j ∧ c.1[q]? = some t ∧ In mv0 q ∧ (i : Int) ∈ t.1) → In y.1 i)) ?_ c.1.length k (mv0, 0) (by omega)
    ⟨0, rfl, by omega, by omega, ⟨hl, fun _ h => h, fun _ _ h => h⟩, fun ⟨_, _, q, t, h, _⟩ => by omega⟩
  rintro fuel m ⟨mv, y⟩ ⟨j, hj, hle, hm, hP, hd⟩ ih
  simp only at hj hP hd
  subst hj
  have o1 : j < c.1.length → m - 1 < m ∧ m - 1 = c.1.length - (j + 1) ∧ j + 1 ≤ c.1.length := by clear hd ih; omega
  have hck : ck ((j : Int) + 1) = some ((j : Int) + 1) := ck_ok (by clear hd ih; omega) (by clear hd ih; omega)
  unfold ref_changed_l3
  dsimp only
  have fin : ¬ ((j : Int) < (c.1.length : Int) ∧ (i : Int) ∈ c.2.2.1 ∧ (i : Int) ∈ c.2.2.2) → W (some mv) fun r => RPass c mv0 r ∧ (((i : Int) ∈ c.2.2.1 ∧ (i : Int) ∈ c.2.2.2 ∧ ∃ (q : Nat) (t : dThing), c.1[q]? = some t ∧ In mv0 q ∧ (i : Int) ∈ t.1) → In r i) := fun hn =>
    W.ret ⟨hP, fun ⟨a, b, q, t, h3, h4, h5⟩ => hd ⟨a, b, q, t, by
      have := (List.getElem?_eq_some_iff.1 h3).1
      false_or_by_contra
      exact hn ⟨by clear hd ih; omega, a, b⟩, h3, h4, h5⟩⟩
  by_cases hlt : (j : Int) < (c.1.length : Int)
  · rw [if_pos hlt]
    by_cases hw : (i : Int) ∈ c.2.2.1
    · rw [if_pos (h1.2 hw), bs]
      by_cases hv : (i : Int) ∈ c.2.2.2
      · rw [if_pos (h2.2 hv)]
        have hlt' : j < c.1.length := by clear hd ih; omega
        have hjm : j < mv.length := by rw [hP.len]; exact hlt'
        have him : i < mv.length := by rw [hP.len]; exact hi
        have hIn : In mv j ↔ mv[j] = true := by unfold In; rw [List.getElem?_eq_getElem hjm]; simp
        have hb : ((geti mv (j : Int)).bind fun x27 => if x27 = true then ((geti c.1 (j : Int)).bind fun x28 => (ref_has k x28.1 (i : Int)).bind fun r29 => some r29) else (some false)) = some (decide (In mv j ∧ (i : Int) ∈ c.1[j].1)) := by
          rw [geti_W hjm, bs]
          by_cases hmj : mv[j] = true
          · have hl4 := w4 _ (List.getElem_mem hlt')
            rw [if_pos hmj, geti_W hlt', bs, ref_has_eq (by clear hd ih; omega) (by clear hd ih; omega), bs]
            have e : decide ((i : Int) ∈ c.1[j].1) = decide (In mv j ∧ (i : Int) ∈ c.1[j].1) := decide_eq_decide.2 ⟨fun h => ⟨hIn.2 hmj, h⟩, fun h => h.2⟩
            rw [e]
          · rw [if_neg hmj, decide_eq_false (fun h => hmj (hIn.1 h.1))]
        rw [hb, bs]
        by_cases hx : In mv j ∧ (i : Int) ∈ c.1[j].1
        · rw [decide_eq_true hx, if_pos rfl, geti_W him, bs, bs, hck, bs, Int.toNat_natCast]
          refine ih (m - 1) (_, (j : Int) + 1) (o1 hlt').1 ⟨j + 1, rfl, (o1 hlt').2.2, (o1 hlt').2.1, ⟨by simpa using hP.len, fun x h => (in_set him).2 (.inr (hP.mono x h)), fun C hC h0 x h => ?_⟩, fun _ => (in_set him).2 (.inl rfl)⟩
          rcases (in_set him).1 h with rfl | h
          · exact hC _ hi (.inr ⟨hw, hv, j, _, List.getElem?_eq_getElem hlt', hP.sound C hC h0 j hx.1, hx.2⟩)
          · exact hP.sound C hC h0 x h
        · rw [decide_eq_false hx, if_neg (by decide), bs, hck, bs]
          refine ih (m - 1) (mv, (j : Int) + 1) (o1 hlt').1 ⟨j + 1, rfl, (o1 hlt').2.2, (o1 hlt').2.1, hP, fun ⟨a, b, q, t, g1, g2, g3, g4⟩ => ?_⟩
          by_cases hqj : q = j
          · subst hqj
            rw [List.getElem?_eq_getElem hlt'] at g2
            cases g2
            exact absurd ⟨hP.mono _ g3, g4⟩ hx
          · exact hd ⟨a, b, q, t, by clear hd ih; omega, g2, g3, g4⟩
      · rw [if_neg (fun h => hv (h2.1 h))]; exact fin (fun h => hv h.2.2)
    · rw [if_neg (fun h => hw (h1.1 h)), bs, if_neg (by decide)]; exact fin (fun h => hw h.2.1)
  · rw [if_neg hlt, bs, if_neg (by decide)]; exact fin (fun h => hlt h.1)

theorem rch2_ok {k : Nat} (hk : 50 ≤ k) {n : Int} {c : dChange} (hc : VC n c) {mv0 : List Bool} (hl : mv0.length = c.1.length) : W (ref_changed_l2 k c k (mv0, 0)) fun r => RPass c mv0 r ∧ ∀ i, i < c.1.length → Forced c (In mv0) i → In r i := by
  obtain ⟨w1, w2, w3, w4, _⟩ := hc.wl
  refine W.loop (f := ref_changed_l2 k c) (fun m y => ∃ j : Nat, y.2 = (j : Int) ∧ j ≤ c.1.length ∧ m = c.1.length - j ∧ RPass c mv0 y.1 ∧ ∀ i, i < j → Forced c (In mv0) i → In y.1 i) ?_ c.1.length k (mv0, 0) (by omega)
    ⟨0, rfl, by omega, by omega, ⟨hl, fun _ h => h, fun _ _ h => h⟩, fun i h => by omega⟩
  rintro fuel m ⟨mv, y⟩ ⟨j, hj, hle, hm, hP, hd⟩ ih
  simp only at hj hP hd
  subst hj
  unfold ref_changed_l2
  dsimp only
  refine W.ite (fun hlt => ?_) (fun hge => W.ret ⟨hP, fun i hi => hd i (by omega)⟩)
  have hlt' : j < c.1.length := by omega
  have hjm : j < mv.length := by rw [hP.len]; exact hlt'
  rw [ref_has_eq (by omega) (by omega), bs, ref_has_eq (by omega) (by omega), bs]
  have hx : ∃ mv1, (if ¬ decide ((j : Int) ∈ c.2.2.1) = decide ((j : Int) ∈ c.2.2.2) then ((geti mv (j : Int)).bind fun x18 => some (List.set mv (Int.toNat (j : Int)) true)) else (some mv)) = some mv1 ∧ RPass c mv0 mv1 ∧ (∀ i, In mv i → In mv1 i) ∧
      ((((j : Int) ∈ c.2.2.1 ∧ ¬ (j : Int) ∈ c.2.2.2) ∨ (¬ (j : Int) ∈ c.2.2.1 ∧ (j : Int) ∈ c.2.2.2)) → In mv1 j) := by
    by_cases h : (decide ((j : Int) ∈ c.2.2.1)) = (decide ((j : Int) ∈ c.2.2.2))
    · refine ⟨mv, by rw [if_neg (by simpa using h)], hP, fun _ h => h, fun h' => ?_⟩
      rw [decide_eq_decide] at h
      rcases h' with ⟨a, b⟩ | ⟨a, b⟩
      · exact absurd (h.1 a) b
      · exact absurd (h.2 b) a
    · have hor : ((j : Int) ∈ c.2.2.1 ∧ ¬ (j : Int) ∈ c.2.2.2) ∨ (¬ (j : Int) ∈ c.2.2.1 ∧ (j : Int) ∈ c.2.2.2) := by
        by_cases a : (j : Int) ∈ c.2.2.1 <;> by_cases b : (j : Int) ∈ c.2.2.2
        · exact absurd (by simp [a, b]) h
        · exact .inl ⟨a, b⟩
        · exact .inr ⟨a, b⟩
        · exact absurd (by simp [a, b]) h
      refine ⟨_, by rw [if_pos h, geti_W hjm, bs, Int.toNat_natCast], ⟨by simpa using hP.len, fun i hi => (in_set hjm).2 (.inr (hP.mono i hi)), fun C hC h0 i hi => ?_⟩, fun i hi => (in_set hjm).2 (.inr hi), fun _ => (in_set hjm).2 (.inl rfl)⟩
      rcases (in_set hjm).1 hi with rfl | hi
      · exact hC _ hlt' (.inl hor)
      · exact hP.sound C hC h0 i hi
  obtain ⟨mv1, e1, hP1, hm1, hd1⟩ := hx
  rw [e1, bs]
  obtain ⟨r, er, hR, hRd⟩ := rch3_ok hk hc (mv0 := mv1) (mvx := mv) hlt' (b1 := decide ((j : Int) ∈ c.2.2.1)) (b2 := decide ((j : Int) ∈ c.2.2.2)) (by simp) (by simp) hP1.len
  rw [er, bs, ck_ok (by omega) (by omega), bs]
  refine ih (m - 1) (r, (j : Int) + 1) (by omega) ⟨j + 1, rfl, by omega, by omega, ⟨hR.len, fun i h => hR.mono i (hP1.mono i h), fun C hC h0 i h => hR.sound C hC (hP1.sound C hC h0) i h⟩, fun i hi hF => ?_⟩
  by_cases hij : i = j
  · subst hij
    rcases hF with hF | ⟨a, b, q, t, h3, h4, h5⟩
    · exact hR.mono _ (hd1 hF)
    · exact hRd ⟨a, b, q, t, h3, hP1.mono q h4, h5⟩
  · exact hR.mono i (hm1 i (hd i (by omega) hF))

theorem rch_ok {k : Nat} (hk : 50 ≤ k) {n : Int} {c : dChange} (hc : VC n c) : W (ref_changed k c) (Fix c) := by
  obtain ⟨w1, w2, w3, w4, _⟩ := hc.wl
  unfold ref_changed
  rw [chk_ok ⟨by omega, okLen_of (by omega)⟩, bs, Int.toNat_natCast]
  refine W.bind (R := Fix c) ?_ fun r h => W.ret h
  refine W.loop (f := ref_changed_l1 k c) (fun m y => ∃ j : Nat, y.2 = (j : Int) ∧ j ≤ c.1.length + 1 ∧ m = c.1.length + 1 - j ∧ y.1.length = c.1.length ∧ (∀ C, Shut c C → ∀ i, In y.1 i → C i) ∧ (Shut c (In y.1) ∨ j ≤ cntT y.1)) ?_ (c.1.length + 1) k _ (by omega)
    ⟨0, rfl, by omega, by omega, by simp, fun C _ i h => (by
      exfalso
      have h : (List.replicate c.1.length false)[i]? = some true := h
      rw [List.getElem?_replicate] at h
      split at h <;> cases h), .inr (by omega)⟩
  rintro fuel m ⟨mv, y⟩ ⟨j, hj, hle, hm, hl, hs, hor⟩ ih
  simp only at hj hl hs hor
  subst hj
  unfold ref_changed_l1
  dsimp only
  refine W.ite (fun hlt => ?_) (fun hge => W.ret ⟨hl, hs, ?_⟩)
  · obtain ⟨r, er, hR, hRd⟩ := rch2_ok hk hc hl
    rw [er, bs, ck_ok (by omega) (by omega), bs]
    refine ih (m - 1) (r, (j : Int) + 1) (by omega) ⟨j + 1, rfl, by omega, by omega, hR.len, fun C hC => hR.sound C hC (hs C hC), ?_⟩
    simp only
    rcases hor with h | h
    · refine .inl fun i hi hF => hR.mono i (h i hi (hF.mono fun x hx => hR.sound (In mv) h (fun _ h => h) x hx))
    · by_cases hnew : ∃ x, In r x ∧ ¬ In mv x
      · have := (cntT_lt (by rw [hl, hR.len]) hR.mono).2 hnew
        exact .inr (by omega)
      · refine .inl fun i hi hF => hRd i hi (hF.mono fun x hx => ?_)
        false_or_by_contra
        rename_i hb
        exact hnew ⟨x, hx, hb⟩
  · have hjn : j = c.1.length + 1 := by omega
    rcases hor with h | h
    · exact h
    · have : cntT mv ≤ mv.length := List.count_le_length
      omega

theorem rsel_ok {k : Nat} (hk : 50 ≤ k) {n : Int} {c : dChange} (hc : VC n c) {mv : List Bool} (hl : mv.length = c.1.length) {o : List dTask} (ho : o.length ≤ 20) :
    ref_tasks_l1 k c mv k (o, 0) = some (o ++ sel mv c.2.2.1 false c.1.length) ∧ ref_tasks_l2 k c mv k (o, 0) = some (o ++ sel mv c.2.2.2 true c.1.length) := by
  obtain ⟨w1, w2, w3, w4, _⟩ := hc.wl
  constructor
  · have key : W (ref_tasks_l1 k c mv k (o, 0)) fun r => r = o ++ sel mv c.2.2.1 false c.1.length := by
      refine W.loop (f := ref_tasks_l1 k c mv) (fun m y => ∃ j : Nat, y.2 = (j : Int) ∧ j ≤ mv.length ∧ m = mv.length - j ∧ y.1 = o ++ sel mv c.2.2.1 false j) ?_ mv.length k (o, 0) (by omega) ⟨0, rfl, by omega, by omega, by simp [sel]⟩
      rintro fuel m ⟨r, y⟩ ⟨j, hj, hle, hm, hr⟩ ih
      simp only at hj hr
      subst hj hr
      unfold ref_tasks_l1
      dsimp only
      refine W.ite (fun hlt => ?_) (fun hge => W.ret (by
        have : j = c.1.length := by omega
        subst this; rfl))
      have hlt' : j < mv.length := by omega
      have hsl := sel_len (mv := mv) (ws := c.2.2.1) (b := false) (j := j)
      have hb : ((geti mv (j : Int)).bind fun x11 => if x11 = true then ((ref_has k c.2.2.1 (j : Int)).bind fun r12 => some r12) else (some false)) = some (decide (In mv j ∧ (j : Int) ∈ c.2.2.1)) := by
        have hIn : In mv j ↔ mv[j] = true := by unfold In; rw [List.getElem?_eq_getElem hlt']; simp
        rw [geti_W hlt', bs]
        by_cases hmj : mv[j] = true
        · rw [if_pos hmj, ref_has_eq (by omega) (by omega), bs]
          congr 1
          rw [decide_eq_decide, hIn]
          exact ⟨fun h => ⟨hmj, h⟩, fun h => h.2⟩
        · rw [if_neg hmj, decide_eq_false (fun h => hmj (hIn.1 h.1))]
      rw [hb, bs]
      have next : ∀ r', r' = o ++ sel mv c.2.2.1 false (j + 1) → W ((some r' : Option (List dTask)).bind fun x7 => (ck ((j : Int) + (1 : Int))).bind fun x15 => ref_tasks_l1 k c mv fuel (x7, x15)) fun r => r = o ++ sel mv c.2.2.1 false c.1.length := fun r' hr' => by
        rw [bs, ck_ok (by omega) (by omega), bs]
        exact ih (m - 1) (r', (j : Int) + 1) (by omega) ⟨j + 1, rfl, by omega, by omega, hr'⟩
      by_cases hx : In mv j ∧ (j : Int) ∈ c.2.2.1
      · rw [decide_eq_true hx, if_pos rfl, chk_ok (okLen_of (by simp only [List.length_append, List.length_cons, List.length_nil]; omega)), bs]
        exact next _ (by rw [sel_succ, if_pos hx, List.append_assoc])
      · rw [decide_eq_false hx, if_neg (by decide)]
        exact next _ (by rw [sel_succ, if_neg hx, List.append_nil])
    obtain ⟨r, e, rfl⟩ := key
    exact e
  · have key : W (ref_tasks_l2 k c mv k (o, 0)) fun r => r = o ++ sel mv c.2.2.2 true c.1.length := by
      refine W.loop (f := ref_tasks_l2 k c mv) (fun m y => ∃ j : Nat, y.2 = (j : Int) ∧ j ≤ mv.length ∧ m = mv.length - j ∧ y.1 = o ++ sel mv c.2.2.2 true j) ?_ mv.length k (o, 0) (by omega) ⟨0, rfl, by omega, by omega, by simp [sel]⟩
      rintro fuel m ⟨r, y⟩ ⟨j, hj, hle, hm, hr⟩ ih
      simp only at hj hr
      subst hj hr
      unfold ref_tasks_l2
      dsimp only
      refine W.ite (fun hlt => ?_) (fun hge => W.ret (by
        have : j = c.1.length := by omega
        subst this; rfl))
      have hlt' : j < mv.length := by omega
      have hsl := sel_len (mv := mv) (ws := c.2.2.2) (b := true) (j := j)
      have hb : ((geti mv (j : Int)).bind fun x24 => if x24 = true then ((ref_has k c.2.2.2 (j : Int)).bind fun r25 => some r25) else (some false)) = some (decide (In mv j ∧ (j : Int) ∈ c.2.2.2)) := by
        have hIn : In mv j ↔ mv[j] = true := by unfold In; rw [List.getElem?_eq_getElem hlt']; simp
        rw [geti_W hlt', bs]
        by_cases hmj : mv[j] = true
        · rw [if_pos hmj, ref_has_eq (by omega) (by omega), bs]
          congr 1
          rw [decide_eq_decide, hIn]
          exact ⟨fun h => ⟨hmj, h⟩, fun h => h.2⟩
        · rw [if_neg hmj, decide_eq_false (fun h => hmj (hIn.1 h.1))]
      rw [hb, bs]
      have next : ∀ r', r' = o ++ sel mv c.2.2.2 true (j + 1) → W ((some r' : Option (List dTask)).bind fun x20 => (ck ((j : Int) + (1 : Int))).bind fun x28 => ref_tasks_l2 k c mv fuel (x20, x28)) fun r => r = o ++ sel mv c.2.2.2 true c.1.length := fun r' hr' => by
        rw [bs, ck_ok (by omega) (by omega), bs]
        exact ih (m - 1) (r', (j : Int) + 1) (by omega) ⟨j + 1, rfl, by omega, by omega, hr'⟩
      by_cases hx : In mv j ∧ (j : Int) ∈ c.2.2.2
      · rw [decide_eq_true hx, if_pos rfl, chk_ok (okLen_of (by simp only [List.length_append, List.length_cons, List.length_nil]; omega)), bs]
        exact next _ (by rw [sel_succ, if_pos hx, List.append_assoc])
      · rw [decide_eq_false hx, if_neg (by decide)]
        exact next _ (by rw [sel_succ, if_neg hx, List.append_nil])
    obtain ⟨r, e, rfl⟩ := key
    exact e

/-- **The reference's tasks.** -/
theorem refTasks_eq {k : Nat} (hk : 50 ≤ k) {n : Int} {c : dChange} {mv : List Bool} (hc : VC n c) (hF : Fix c mv) : ref_tasks k c = some ((tsC c mv).map fun x => (x.2, x.1)) := by
  obtain ⟨mv', e, hF'⟩ := rch_ok hk hc
  have := fix_unique hF' hF
  subst this
  obtain ⟨w1, w2, w3, w4, _⟩ := hc.wl
  have hsl := sel_len (mv := mv') (ws := c.2.2.1) (b := false) (j := c.1.length)
  unfold ref_tasks
  rw [e, bs, (rsel_ok hk hc hF.len (o := []) (by simp)).1, bs, (rsel_ok hk hc hF.len (o := [] ++ sel mv' c.2.2.1 false c.1.length) (by simp; omega)).2, bs, ← tsC_sel, List.nil_append]

theorem refAsked_eq {k : Nat} (hk : 50 ≤ k) {c : dChange} {mv : List Bool} (hs : Short c) {b : Bool} (hb : b = true ↔ ∃ i, Rch c i i) (hF : chkS c b = 0 → Fix c mv) : ref_asked k c = some (if ¬ chkS c b = 0 then chkS c b else if 4 < (tsC c mv).length then 6 else 0) := by
  unfold ref_asked
  rw [refCheck_eq hk hs hb, bs]
  by_cases h : chkS c b = 0
  · have hc := vc_of_chk hs hb h
    rw [if_neg (by simp [h]), if_neg (by simp [h]), refTasks_eq hk hc (hF h), bs, List.length_map]
    by_cases h4 : 4 < (tsC c mv).length
    · rw [if_pos (by omega), if_pos h4]
    · rw [if_neg (by omega), if_neg h4]
  · rw [if_pos h, if_pos h]

theorem refBefore_eq {k : Nat} (hk : 50 ≤ k) {n : Int} {c : dChange} {mv : List Bool} (hc : VC n c) {x y : Bool × Int} (hx : x ∈ tsC c mv) (hy : y ∈ tsC c mv) : ref_before k c (x.2, x.1) (y.2, y.1) = some (befB c x y) := by
  obtain ⟨w1, w2, w3, w4, _⟩ := hc.wl
  obtain ⟨i, hi, ei⟩ := tsC_rng x hx
  obtain ⟨j, hj, ej⟩ := tsC_rng y hy
  obtain ⟨xb, xv⟩ := x
  obtain ⟨yb, yv⟩ := y
  simp only at ei ej
  subst ei ej
  have gi := List.getElem?_eq_getElem hi
  have gj := List.getElem?_eq_getElem hj
  have li := w4 _ (List.getElem_mem hi)
  have lj := w4 _ (List.getElem_mem hj)
  unfold ref_before befB
  simp only [thg_some gi, thg_some gj]
  by_cases hij : (i : Int) = (j : Int)
  · have : i = j := by omega
    subst this
    have hirr := (hc.good i _ gi).irr
    rw [if_pos rfl]
    cases xb <;> cases yb <;> simp [hirr, bs]
  · rw [if_neg hij, geti_W hj, bs, ref_has_eq (by omega) (by omega), bs, geti_W hi, bs, ref_has_eq (by omega) (by omega), bs]
    by_cases a : (i : Int) ∈ c.1[j].1 <;> by_cases b : (j : Int) ∈ c.1[i].1 <;> cases xb <;> cases yb <;> simp [a, b, hij, bs]

/-- The pairs, in order. -/
def frS (c : dChange) (ts : List (Bool × Int)) (m : Nat) : List (List Int) := (List.range m).flatMap fun a => ((List.range ts.length).filter fun b => bef c ts a b).map fun (b : Nat) => [(a : Int), (b : Int)]
theorem frS_succ {c : dChange} {ts : List (Bool × Int)} {m : Nat} : frS c ts (m + 1) = frS c ts m ++ ((List.range ts.length).filter fun b => bef c ts m b).map fun (b : Nat) => [(m : Int), (b : Int)] := by
  unfold frS
  rw [List.range_succ, List.flatMap_append]
  simp
theorem frS_len {c : dChange} {ts : List (Bool × Int)} : ∀ {m : Nat}, (frS c ts m).length ≤ m * ts.length
  | 0 => by simp [frS]
  | m + 1 => by
    rw [frS_succ, List.length_append, List.length_map, Nat.succ_mul]
    have := frS_len (c := c) (ts := ts) (m := m)
    have := List.length_filter_le (fun b => bef c ts m b) (List.range ts.length)
    rw [List.length_range] at this
    omega
def frR (c : dChange) (ts : List (Bool × Int)) (a j : Nat) : List (List Int) := ((List.range j).filter fun b => bef c ts a b).map fun (b : Nat) => [(a : Int), (b : Int)]
theorem frR_succ {c : dChange} {ts : List (Bool × Int)} {a j : Nat} : frR c ts a (j + 1) = frR c ts a j ++ (if bef c ts a j = true then [[(a : Int), (j : Int)]] else []) := by
  unfold frR
  rw [List.range_succ, List.filter_append, List.map_append]
  congr 1
  by_cases h : bef c ts a j = true <;> simp [h]
theorem frR_len {c : dChange} {ts : List (Bool × Int)} {a j : Nat} : (frR c ts a j).length ≤ j := by
  unfold frR
  rw [List.length_map]
  exact Nat.le_trans (List.length_filter_le _ _) (by simp)

theorem FirstsX_eq {k : Nat} (hk : 50 ≤ k) {n : Int} {c : dChange} {mv : List Bool} {q : dQuick} (h : QV n c mv q) (hb : chg_begin k c = some (some q, 0)) : chg_Firsts k c = some (frS c (tsC c mv) (tsC c mv).length, 0) := by
  have ht := h.t4
  unfold chg_Firsts
  rw [hb, bs, co_some, if_neg (by simp)]
  have key : W (chg_Firsts_l1 k q k ([], 0)) fun r => r = frS c (tsC c mv) (tsC c mv).length := by
    refine W.loop (f := chg_Firsts_l1 k q) (fun m y => ∃ i : Nat, y.2 = (i : Int) ∧ i ≤ (tsC c mv).length ∧ m = (tsC c mv).length - i ∧ y.1 = frS c (tsC c mv) i) ?_ (tsC c mv).length k ([], 0) (by omega) ⟨0, rfl, by omega, by omega, rfl⟩
    rintro fuel m ⟨o, y⟩ ⟨i, hi, hle, hm, ho⟩ ih
    simp only at hi ho
    subst hi ho
    unfold chg_Firsts_l1
    dsimp only
    rw [h.tasks]
    refine W.ite (fun hlt => ?_) (fun hge => W.ret (by
      have : i = (tsC c mv).length := by omega
      rw [this]))
    have hfl := frS_len (c := c) (ts := tsC c mv) (m := i)
    have hml := Nat.mul_le_mul (show i ≤ 4 by omega) ht
    have inner : W (chg_Firsts_l2 k q (frS c (tsC c mv) i, (i : Int)) k (frS c (tsC c mv) i, 0)) fun r => r = frS c (tsC c mv) i ++ frR c (tsC c mv) i (tsC c mv).length := by
      refine W.loop (f := chg_Firsts_l2 k q (frS c (tsC c mv) i, (i : Int))) (fun m y => ∃ j : Nat, y.2 = (j : Int) ∧ j ≤ (tsC c mv).length ∧ m = (tsC c mv).length - j ∧ y.1 = frS c (tsC c mv) i ++ frR c (tsC c mv) i j) ?_ (tsC c mv).length k (frS c (tsC c mv) i, 0) (by omega) ⟨0, rfl, by omega, by omega, by simp [frR]⟩
      rintro fuel m ⟨r, y⟩ ⟨j, hj, hle, hm, hr⟩ ih2
      simp only at hj hr
      subst hj hr
      unfold chg_Firsts_l2
      dsimp only
      rw [h.tasks]
      refine W.ite (fun hlt2 => ?_) (fun hge => W.ret (by
        have : j = (tsC c mv).length := by omega
        rw [this]))
      obtain ⟨mk, em, hmk, hmb, _⟩ := h.mask (b := j) (by omega)
      have hrl := frR_len (c := c) (ts := tsC c mv) (a := i) (j := j)
      have hck : ck ((j : Int) + 1) = some ((j : Int) + 1) := ck_ok (by omega) (by omega)
      rw [chk_ok (by omega), bs, geti_q (by omega) (by simpa using em), bs, has_ok hmk (by omega), bs]
      by_cases hh : Has mk i
      · rw [decide_eq_true hh, if_pos rfl, chk_ok (okLen_of (by simp only [List.length_append, List.length_cons, List.length_nil]; omega)), bs, bs, hck, bs]
        exact ih2 (m - 1) (_, (j : Int) + 1) (by omega) ⟨j + 1, rfl, by omega, by omega, by simp only; rw [frR_succ, if_pos ((hmb i).1 hh), List.append_assoc]⟩
      · rw [decide_eq_false hh, if_neg (by decide), bs, hck, bs]
        exact ih2 (m - 1) (_, (j : Int) + 1) (by omega) ⟨j + 1, rfl, by omega, by omega, by simp only; rw [frR_succ, if_neg (fun h => hh ((hmb i).2 h)), List.append_nil]⟩
    obtain ⟨r, er, rfl⟩ := inner
    rw [er, bs, ck_ok (by omega) (by omega), bs]
    exact ih (m - 1) (_, (i : Int) + 1) (by omega) ⟨i + 1, rfl, by omega, by omega, by simp only; rw [frS_succ]; rfl⟩
  obtain ⟨r, e, rfl⟩ := key
  rw [e, bs]

theorem refFirstsL_eq {k : Nat} (hk : 50 ≤ k) {n : Int} {c : dChange} {mv : List Bool} (hc : VC n c) (ht : (tsC c mv).length ≤ 4) : ref_Firsts_l1 k c ((tsC c mv).map fun x => (x.2, x.1)) k ([], 0) = some (frS c (tsC c mv) (tsC c mv).length) := by
  have hTl : ((tsC c mv).map fun x => (x.2, x.1)).length = (tsC c mv).length := List.length_map ..
  have key : W (ref_Firsts_l1 k c ((tsC c mv).map fun x => (x.2, x.1)) k ([], 0)) fun r => r = frS c (tsC c mv) (tsC c mv).length := by
    refine W.loop (f := ref_Firsts_l1 k c ((tsC c mv).map fun x => (x.2, x.1))) (fun m y => ∃ i : Nat, y.2 = (i : Int) ∧ i ≤ (tsC c mv).length ∧ m = (tsC c mv).length - i ∧ y.1 = frS c (tsC c mv) i) ?_ (tsC c mv).length k ([], 0) (by omega) ⟨0, rfl, by omega, by omega, rfl⟩
    rintro fuel m ⟨o, y⟩ ⟨i, hi, hle, hm, ho⟩ ih
    simp only at hi ho
    subst hi ho
    unfold ref_Firsts_l1
    dsimp only
    rw [hTl]
    refine W.ite (fun hlt => ?_) (fun hge => W.ret (by
      have : i = (tsC c mv).length := by omega
      rw [this]))
    have hfl := frS_len (c := c) (ts := tsC c mv) (m := i)
    have hml := Nat.mul_le_mul (show i ≤ 4 by omega) ht
    have hil : i < (tsC c mv).length := by omega
    have inner : W (ref_Firsts_l2 k c ((tsC c mv).map fun x => (x.2, x.1)) (frS c (tsC c mv) i, (i : Int)) k (frS c (tsC c mv) i, 0)) fun r => r = frS c (tsC c mv) i ++ frR c (tsC c mv) i (tsC c mv).length := by
      refine W.loop (f := ref_Firsts_l2 k c ((tsC c mv).map fun x => (x.2, x.1)) (frS c (tsC c mv) i, (i : Int))) (fun m y => ∃ j : Nat, y.2 = (j : Int) ∧ j ≤ (tsC c mv).length ∧ m = (tsC c mv).length - j ∧ y.1 = frS c (tsC c mv) i ++ frR c (tsC c mv) i j) ?_ (tsC c mv).length k (frS c (tsC c mv) i, 0) (by omega) ⟨0, rfl, by omega, by omega, by simp [frR]⟩
      rintro fuel m ⟨r, y⟩ ⟨j, hj, hle, hm, hr⟩ ih2
      simp only at hj hr
      subst hj hr
      unfold ref_Firsts_l2
      dsimp only
      rw [hTl]
      refine W.ite (fun hlt2 => ?_) (fun hge => W.ret (by
        have : j = (tsC c mv).length := by omega
        rw [this]))
      have hjl : j < (tsC c mv).length := by omega
      have hrl := frR_len (c := c) (ts := tsC c mv) (a := i) (j := j)
      have hck : ck ((j : Int) + 1) = some ((j : Int) + 1) := ck_ok (by omega) (by omega)
      have hbe : bef c (tsC c mv) i j = befB c (tsC c mv)[i] (tsC c mv)[j] := by unfold bef; rw [List.getElem?_eq_getElem hil, List.getElem?_eq_getElem hjl]
      rw [geti_W (by omega), bs, geti_W (by omega), bs, List.getElem_map, List.getElem_map, refBefore_eq hk hc (List.getElem_mem hil) (List.getElem_mem hjl), bs, ← hbe]
      by_cases hh : bef c (tsC c mv) i j = true
      · rw [if_pos hh, chk_ok (okLen_of (by simp only [List.length_append, List.length_cons, List.length_nil]; omega)), bs, bs, hck, bs]
        exact ih2 (m - 1) (_, (j : Int) + 1) (by omega) ⟨j + 1, rfl, by omega, by omega, by simp only; rw [frR_succ, if_pos hh, List.append_assoc]⟩
      · rw [if_neg hh, bs, hck, bs]
        exact ih2 (m - 1) (_, (j : Int) + 1) (by omega) ⟨j + 1, rfl, by omega, by omega, by simp only; rw [frR_succ, if_neg hh, List.append_nil]⟩
    obtain ⟨r, er, rfl⟩ := inner
    rw [er, bs, ck_ok (by omega) (by omega), bs]
    exact ih (m - 1) (_, (i : Int) + 1) (by omega) ⟨i + 1, rfl, by omega, by omega, by simp only; rw [frS_succ]; rfl⟩
  obtain ⟨r, e, rfl⟩ := key
  exact e
end Go.Proofs.Ytfhdclhbdmhnmaa
