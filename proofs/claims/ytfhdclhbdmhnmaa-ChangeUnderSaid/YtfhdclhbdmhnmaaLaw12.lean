/- Plain law, part 12: who can do what, what comes first, the error of a plan. -/
import Derived.Test.YtfhdclhbdmhnmaaLaw11
namespace Go.Proofs.Ytfhdclhbdmhnmaa
open K Go Go.Proofs

theorem iandn_ok {a b : Int} (ha : Mask a) (hb : Mask b) : (iandn .u8 a b = 0 ↔ ∀ i, Has a i → Has b i) := by
  obtain ⟨n, hn, rfl⟩ := mask_nat ha
  obtain ⟨m, hm, rfl⟩ := mask_nat hb
  have h1 : ((BitVec.ofInt IntKind.u8.bits (n : Int)) &&& ~~~ (BitVec.ofInt IntKind.u8.bits (m : Int))).toNat = n &&& (255 - m) := by
    show ((BitVec.ofInt 8 (n : Int)) &&& ~~~ (BitVec.ofInt 8 (m : Int))).toNat = n &&& (255 - m)
    have e1 : (BitVec.ofInt 8 (n : Int)).toNat = n := ofInt8 hn
    have e2 : (BitVec.ofInt 8 (m : Int)).toNat = m := ofInt8 hm
    rw [BitVec.toNat_and, BitVec.toNat_not, e1, e2]
  have e : iandn .u8 (n : Int) (m : Int) = ((n &&& (255 - m) : Nat) : Int) := by
    unfold iandn
    rw [h1]
    exact wrap_u8 (lt_and8 hn)
  rw [e]
  have h2 : ((n &&& (255 - m) : Nat) : Int) = 0 ↔ n &&& (255 - m) = 0 := by omega
  have h3 : ∀ i, i < 8 → (255 - m).testBit i = !m.testBit i := fun i hi => by
    have := Nat.testBit_two_pow_sub_succ (n := 8) (x := m) hm i
    have e : 2 ^ 8 - (m + 1) = 255 - m := by omega
    rw [e] at this
    simp [this, hi]
  rw [h2]
  constructor
  · intro h i hi
    have hi' : n.testBit i = true := by simpa [Has] using hi
    have h8 : i < 8 := by
      false_or_by_contra
      have := Nat.testBit_lt_two_pow (x := n) (i := i) (Nat.lt_of_lt_of_le hn (Nat.pow_le_pow_right (by decide) (by omega) : 2 ^ 8 ≤ 2 ^ i))
      rw [this] at hi'; cases hi'
    have := congrArg (fun x => Nat.testBit x i) h
    simp only [Nat.testBit_and, h3 i h8, hi', Nat.zero_testBit, Bool.true_and] at this
    show (m : Int).toNat.testBit i = true
    simpa using this
  · intro h
    apply Nat.eq_of_testBit_eq
    intro i
    simp only [Nat.testBit_and, Nat.zero_testBit]
    by_cases h8 : i < 8
    · cases hb : n.testBit i with
      | false => rfl
      | true =>
        have := h i (by simpa [Has] using hb)
        have : m.testBit i = true := by simpa [Has] using this
        rw [h3 i h8, this]; rfl
    · have := Nat.testBit_lt_two_pow (x := n) (i := i) (Nat.lt_of_lt_of_le hn (Nat.pow_le_pow_right (by decide) (by omega) : 2 ^ 8 ≤ 2 ^ i))
      rw [this]; rfl

/-- A thing of a change. -/
def thg (c : dChange) (x : Int) : dThing := c.1[x.toNat]?.getD ([], 0, 0, 0, 0)
def drs (c : dChange) (d : Int) : dDresser := c.2.1[d.toNat]?.getD ([], 0, 0)
/-- Can a dresser do a task? -/
def canB (c : dChange) (d : Int) (w : Bool × Int) : Bool := decide (w.2 ∈ (drs c d).1) && (decide ((thg c w.2).2.2.2.1 = 0) || decide ((drs c d).2.1 = 0) || decide ((drs c d).2.1 = (thg c w.2).2.2.2.1))
def barsB (c : dChange) (w : Bool × Int) : Int := if w.1 = true then (thg c w.2).2.2.1 else (thg c w.2).2.1
/-- Has a task to be done before another one? -/
def befB (c : dChange) (x y : Bool × Int) : Bool := (decide (x.2 = y.2) && !x.1 && y.1) || (decide (x.2 ∈ (thg c y.2).1) && !x.1) || (decide (y.2 ∈ (thg c x.2).1) && y.1)
def bef (c : dChange) (ts : List (Bool × Int)) (a b : Nat) : Bool := match ts[a]?, ts[b]? with
  | some x, some y => befB c x y
  | _, _ => false
def befL (c : dChange) (ts : List (Bool × Int)) (b : Nat) : List Nat := (List.range ts.length).filter fun a => bef c ts a b

theorem thg_some {c : dChange} {i : Nat} {t : dThing} (h : c.1[i]? = some t) : thg c (i : Int) = t := by simp [thg, h]
theorem geti_thg {c : dChange} {x : Int} (h0 : 0 ≤ x) (h : x.toNat < c.1.length) : geti c.1 x = some (thg c x) := by
  rw [geti_at h0 h, thg, List.getElem?_eq_getElem h]; rfl
theorem geti_drs {c : dChange} {d : Int} (h0 : 0 ≤ d) (h : d < c.2.1.length) : geti c.2.1 d = some (drs c d) := by
  have : d.toNat < c.2.1.length := by omega
  rw [geti_at h0 this, drs, List.getElem?_eq_getElem this]; rfl

theorem befT_iff {c : dChange} {x y : Bool × Int} (hx : ∃ i : Nat, i < c.1.length ∧ x.2 = (i : Int)) (hy : ∃ i : Nat, i < c.1.length ∧ y.2 = (i : Int)) : BefT c x y ↔ befB c x y = true := by
  obtain ⟨i, hi, ei⟩ := hx
  obtain ⟨j, hj, ej⟩ := hy
  obtain ⟨xb, xv⟩ := x
  obtain ⟨yb, yv⟩ := y
  simp only at ei ej
  subst ei ej
  have hgi := List.getElem?_eq_getElem hi
  have hgj := List.getElem?_eq_getElem hj
  simp only [BefT, befB, Bool.or_eq_true, Bool.and_eq_true, decide_eq_true_eq, Bool.not_eq_true', thg_some hgi, thg_some hgj]
  constructor
  · rintro (⟨a, b, d⟩ | ⟨i', t, a, b, d, e⟩ | ⟨i', t, a, b, d, e⟩)
    · exact .inl (.inl ⟨⟨a, b⟩, d⟩)
    · have : j = i' := by omega
      subst this
      rw [hgj] at a; cases a
      exact .inl (.inr ⟨d, e⟩)
    · have : i = i' := by omega
      subst this
      rw [hgi] at a; cases a
      exact .inr ⟨d, e⟩
  · rintro ((⟨⟨a, b⟩, d⟩ | ⟨a, b⟩) | ⟨a, b⟩)
    · exact .inl ⟨a, b, d⟩
    · exact .inr (.inl ⟨j, _, hgj, rfl, a, b⟩)
    · exact .inr (.inr ⟨i, _, hgi, rfl, a, b⟩)

theorem QV.mask {n : Int} {c : dChange} {mv : List Bool} {q : dQuick} (h : QV n c mv q) {b : Nat} (hb : b < 8) : ∃ m, q.2.2[b]? = some m ∧ Mask m ∧ (∀ a : Nat, Has m a ↔ bef c (tsC c mv) a b = true) ∧ bitsL m 8 = (befL c (tsC c mv) b).map fun (a : Nat) => (a : Int) := by
  have hl : b < q.2.2.length := by rw [h.len]; exact hb
  obtain ⟨h1, h2⟩ := h.masks b _ (List.getElem?_eq_getElem hl)
  have h3 : ∀ a : Nat, Has q.2.2[b] a ↔ bef c (tsC c mv) a b = true := fun a => by
    rw [h2]
    unfold bef
    constructor
    · rintro ⟨x, y, e1, e2, hb⟩
      rw [e1, e2]
      exact (befT_iff (tsC_rng _ (List.mem_of_getElem? e1)) (tsC_rng _ (List.mem_of_getElem? e2))).1 hb
    · intro hm
      cases e1 : (tsC c mv)[a]? with
      | none => rw [e1] at hm; simp at hm
      | some x => cases e2 : (tsC c mv)[b]? with
        | none => rw [e1, e2] at hm; simp at hm
        | some y =>
          rw [e1, e2] at hm
          exact ⟨x, y, rfl, rfl, (befT_iff (tsC_rng _ (List.mem_of_getElem? e1)) (tsC_rng _ (List.mem_of_getElem? e2))).2 hm⟩
  refine ⟨_, List.getElem?_eq_getElem hl, h1, h3, ?_⟩
  unfold bitsL befL
  have hf : ∀ i, decide (Has q.2.2[b] i) = true → i < (tsC c mv).length := fun i hi => by
    have := (h3 i).1 (of_decide_eq_true hi)
    unfold bef at this
    cases e1 : (tsC c mv)[i]? with
    | none => rw [e1] at this; simp at this
    | some x => exact (List.getElem?_eq_some_iff.1 e1).1
  rw [filter_range hf 8 (by have := h.t4; omega)]
  congr 1
  apply List.filter_congr
  intro i _
  rw [Bool.eq_iff_iff, decide_eq_true_eq]
  exact h3 i

theorem contains_eq {k : Nat} {l : List Int} {x : Int} (h : l.length < k) (hk : l.length ≤ 1000000) : slc_Contains_int k l x = some (decide (x ∈ l)) := by
  have key := for_foldE (f := slc_Index_int_l1 k l x) l (fun (_ : Unit) j => j) (fun _ j y => if decide (x = y) then Except.error (j : Int) else .ok ()) (fun _ _ => True) (fun r => some r)
    (fun n s j h _ => by
      simp (disch := omega) only [slc_Index_int_l1, Int.ofNat_lt, h, if_true, geti_W h, bs, ck_ok]
      by_cases hx : x = l[j] <;> simp [hx]) (fun n s _ => by simp [slc_Index_int_l1]) (n := k) (s0 := ()) h trivial
  unfold slc_Contains_int slc_Index_int
  rw [show slc_Index_int_l1 k l x k 0 = _ from key, foldE_find (fun y => decide (x = y))]
  cases hf : l.findIdx? (fun y => decide (x = y)) with
  | none =>
    simp only [bE_k, bs]
    rw [List.findIdx?_eq_none_iff] at hf
    have : x ∉ l := fun hm => by have := hf x hm; simp at this
    simp [this]
  | some i =>
    simp only [bE_e, bs]
    rw [List.findIdx?_eq_some_iff_getElem] at hf
    obtain ⟨hi, h1, _⟩ := hf
    have h1 := of_decide_eq_true h1
    have : x ∈ l := by rw [h1]; exact List.getElem_mem hi
    simp [this]

theorem work_thing {k : Nat} {w : Bool × Int} : cond w.1 (chg_on_thing k w.2) (chg_off_thing k w.2) = some w.2 := by
  obtain ⟨b, v⟩ := w
  cases b <;> rfl

theorem can_eq {k : Nat} (hk : 50 ≤ k) {n : Int} {c : dChange} {mv : List Bool} {q : dQuick} (h : QV n c mv q) {d : Int} {w : Bool × Int} (hd : 0 ≤ d ∧ d < c.2.1.length) (hw : w ∈ tsC c mv) : chg_quick_can k q d w = some (canB c d w) := by
  obtain ⟨i, hi, ei⟩ := tsC_rng w hw
  obtain ⟨_, _, _, _, w5⟩ := h.vc.wl
  have hl : (drs c d).1.length ≤ 4 := by
    have hdl : d.toNat < c.2.1.length := by omega
    rw [drs, List.getElem?_eq_getElem hdl]
    exact w5 _ (List.getElem_mem hdl)
  unfold chg_quick_can
  rw [h.eq, geti_drs hd.1 hd.2, bs, work_thing, bs, geti_thg (by omega) (by omega), bs, bs, contains_eq (by omega) (by omega), bs]
  unfold canB
  by_cases h1 : w.2 ∈ (drs c d).1
  · by_cases h2 : (thg c w.2).2.2.2.1 = 0
    · simp [h1, h2]
    · by_cases h3 : (drs c d).2.1 = 0
      · simp [h1, h3]
      · simp [h1, h2, h3]
  · simp [h1]

theorem bars_eq {k : Nat} {n : Int} {c : dChange} {mv : List Bool} {q : dQuick} (h : QV n c mv q) {w : Bool × Int} (hw : w ∈ tsC c mv) : chg_quick_bars k q w = some (barsB c w) := by
  obtain ⟨i, hi, ei⟩ := tsC_rng w hw
  unfold chg_quick_bars barsB
  rw [work_thing, bs, h.eq, geti_thg (by omega) (by omega), bs]
  by_cases hb : w.1 = true <;> simp [hb]

theorem barsB_rng {n : Int} {c : dChange} {mv : List Bool} (hc : VC n c) {w : Bool × Int} (hw : w ∈ tsC c mv) : 1 ≤ barsB c w ∧ barsB c w ≤ 4 := by
  obtain ⟨i, hi, ei⟩ := tsC_rng w hw
  have hg := List.getElem?_eq_getElem hi
  have hG := hc.good i _ hg
  unfold barsB
  rw [ei, thg_some hg]
  split
  · exact hG.put
  · exact hG.off

/-- The error of a step, where some tasks are done. -/
def stepErr (c : dChange) (ts : List (Bool × Int)) (done : List Int) (s : dStep) : Int :=
  if ¬ (0 ≤ s.1 ∧ s.1 < ts.length) then 3
  else if s.1 ∈ done then 4
  else if ¬ (0 ≤ s.2 ∧ s.2 < c.2.1.length) then 3
  else if canB c s.2 (ts[s.1.toNat]?.getD (false, 0)) = false then 8
  else if ¬ (∀ a ∈ befL c ts s.1.toNat, (a : Int) ∈ done) then 5
  else 0
def cpGo (c : dChange) (ts : List (Bool × Int)) : List Int → List dStep → Int
  | _, [] => 0
  | done, s :: p => if ¬ stepErr c ts done s = 0 then stepErr c ts done s else cpGo c ts (done ++ [s.1]) p
/-- The error of a plan. -/
def cpS (c : dChange) (ts : List (Bool × Int)) (p : List dStep) : Int := if p.length < ts.length then 7 else if ts.length < p.length then 6 else cpGo c ts [] p

theorem outside_eq {k : Nat} {x a b : Int} : chg_outside k x a b = some (decide (¬ (a ≤ x ∧ x ≤ b))) := by
  unfold chg_outside
  by_cases h : x < a
  · rw [if_pos h, bs, decide_eq_true (by omega)]
  · rw [if_neg h, bs]
    congr 1
    rw [decide_eq_decide]
    omega

theorem mem_befL {c : dChange} {ts : List (Bool × Int)} {a b : Nat} : a ∈ befL c ts b ↔ bef c ts a b = true := by
  unfold befL
  simp only [List.mem_filter, List.mem_range]
  refine ⟨fun h => h.2, fun h => ⟨?_, h⟩⟩
  unfold bef at h
  cases e1 : ts[a]? with
  | none => rw [e1] at h; simp at h
  | some x => exact (List.getElem?_eq_some_iff.1 e1).1

theorem cp_loop {k : Nat} (hk : 50 ≤ k) {n : Int} {c : dChange} {mv : List Bool} {q : dQuick} (h : QV n c mv q) {p : List dStep} (hp : p.length ≤ 40) :
    chg_quick_checkPlan_l1 k q p k (0, 0) = some (match cpGo c (tsC c mv) [] p with | 0 => .ok () | e => .error e) := by
  have ht := h.t4
  have hdl := h.vc.dl
  have key : W (chg_quick_checkPlan_l1 k q p k (0, 0)) fun r => r = (match cpGo c (tsC c mv) [] p with | 0 => .ok () | e => .error e) := by
    refine W.loop (f := chg_quick_checkPlan_l1 k q p) (fun m y => ∃ (j : Nat) (done : List Int), y.2 = (j : Int) ∧ j ≤ p.length ∧ m = p.length - j ∧ Mask y.1 ∧ (∀ a : Nat, Has y.1 a ↔ (a : Int) ∈ done) ∧ cpGo c (tsC c mv) [] p = cpGo c (tsC c mv) done (p.drop j)) ?_ p.length k (0, 0) (by omega)
      ⟨0, [], rfl, by omega, by omega, ⟨by decide, by decide⟩, fun a => by simp [Has], by simp⟩
    rintro fuel m ⟨s, y⟩ ⟨j, done, hj, hle, hm, hM, hH, hE⟩ ih
    simp only at hj hM hH
    subst hj
    unfold chg_quick_checkPlan_l1
    dsimp only
    refine W.ite (fun hlt => ?_) (fun hge => W.ret (by
      have : j = p.length := by omega
      subst this
      rw [hE, List.drop_length]; rfl))
    have hlt' : j < p.length := by omega
    have hdr : p.drop j = p[j] :: p.drop (j + 1) := List.drop_eq_getElem_cons hlt'
    rw [hdr] at hE
    rw [geti_W hlt', bs, h.tasks, h.eq, ck_ok (by omega) (by omega), bs, outside_eq, bs]
    generalize p[j] = st at hE
    obtain ⟨t, d⟩ := st
    have hE2 : cpGo c (tsC c mv) [] p = if ¬ stepErr c (tsC c mv) done (t, d) = 0 then stepErr c (tsC c mv) done (t, d) else cpGo c (tsC c mv) (done ++ [t]) (p.drop (j + 1)) := by rw [hE]; rfl
    have err : ∀ e : Int, e ≠ 0 → stepErr c (tsC c mv) done (t, d) = e → (Except.error e : Except Int Unit) = (match cpGo c (tsC c mv) [] p with | 0 => .ok () | e => .error e) := fun e he hs => by
      rw [hE2, hs, if_pos he]
      split
      · exact absurd rfl he
      · rfl
    by_cases h1 : 0 ≤ t ∧ t < (tsC c mv).length
    · have h1' : ¬ ¬ (0 ≤ t ∧ t ≤ ((tsC c mv).length : Int) - 1) := by omega
      rw [decide_eq_false h1', if_neg (by simp)]
      obtain ⟨t, rfl⟩ : ∃ t' : Nat, t = (t' : Int) := ⟨t.toNat, by omega⟩
      have htl : t < (tsC c mv).length := by omega
      rw [has_ok hM (by omega), bs]
      by_cases h2 : (t : Int) ∈ done
      · rw [decide_eq_true ((hH t).2 h2), if_pos rfl]
        exact W.ret (err 4 (by decide) (by simp only [stepErr]; rw [if_neg (by omega), if_pos h2]))
      · rw [decide_eq_false (fun h => h2 ((hH t).1 h)), if_neg (by simp), ck_ok (by omega) (by omega), bs, outside_eq, bs]
        by_cases h3 : 0 ≤ d ∧ d < c.2.1.length
        · have h3' : ¬ ¬ (0 ≤ d ∧ d ≤ (c.2.1.length : Int) - 1) := by omega
          rw [decide_eq_false h3', if_neg (by simp), geti_W htl, bs]
          have hcq : (((c.1, c.2.1, c.2.2.1, c.2.2.2), tsC c mv, q.2.2) : dQuick) = q := by rw [← h.tasks, ← h.eq]
          rw [hcq, can_eq hk h h3 (List.getElem_mem htl), bs]
          have hgd : (tsC c mv)[((t : Nat) : Int).toNat]?.getD (false, 0) = (tsC c mv)[t] := by simp [List.getElem?_eq_getElem htl]
          by_cases h4 : canB c d (tsC c mv)[t] = true
          · rw [h4, if_neg (by simp)]
            obtain ⟨mk, em, hmk, hmb, _⟩ := h.mask (b := t) (by omega)
            rw [chk_ok (by omega), bs, geti_q (by omega) (by simpa using em), bs]
            by_cases h5 : ∀ a ∈ befL c (tsC c mv) t, (a : Int) ∈ done
            · have h5' : iandn .u8 mk s = 0 := (iandn_ok hmk hM).2 fun i hi => (hH i).2 (h5 i (mem_befL.2 ((hmb i).1 hi)))
              rw [h5', if_neg (by simp)]
              obtain ⟨r17, e17, m17, d17⟩ := of_set_ok (k := k) hk (l := [(t : Int)]) (by simp) (fun x hx => by simp only [List.mem_singleton] at hx; subst hx; omega)
              obtain ⟨m6, d6⟩ := ior_ok hM m17
              rw [e17, bs]
              refine W.ck (by omega) (by omega) (ih (m - 1) (ior .u8 s r17, (j : Int) + 1) (by omega) ⟨j + 1, done ++ [(t : Int)], by show (j : Int) + 1 = ((j + 1 : Nat) : Int); omega, by omega, by omega, m6, fun a => ?_, ?_⟩)
              · rw [d6, hH, d17, List.mem_append]
              · have h0 : stepErr c (tsC c mv) done ((t : Int), d) = 0 := by
                  simp only [stepErr]
                  rw [if_neg (by omega), if_neg h2, if_neg (by omega), hgd, if_neg (by simp [h4])]
                  rw [if_neg (by simpa using h5)]
                rw [hE2, if_neg (by simp [h0])]
            · have h5' : ¬ iandn .u8 mk s = 0 := fun h => h5 fun a ha => (hH a).1 ((iandn_ok hmk hM).1 h a ((hmb a).2 (mem_befL.1 ha)))
              rw [if_pos h5']
              refine W.ret (err 5 (by decide) ?_)
              simp only [stepErr]
              rw [if_neg (by omega), if_neg h2, if_neg (by omega), hgd, if_neg (by simp [h4]), if_pos (by simpa using h5)]
          · have h4 : canB c d (tsC c mv)[t] = false := by simpa using h4
            rw [h4, if_pos (by simp)]
            refine W.ret (err 8 (by decide) ?_)
            simp only [stepErr]
            rw [if_neg (by omega), if_neg h2, if_neg (by omega), hgd, if_pos h4]
        · have h3' : ¬ (0 ≤ d ∧ d ≤ (c.2.1.length : Int) - 1) := by omega
          rw [decide_eq_true h3', if_pos rfl]
          refine W.ret (err 3 (by decide) ?_)
          simp only [stepErr]
          rw [if_neg (by omega), if_neg h2, if_pos (by omega)]
    · have h1' : ¬ (0 ≤ t ∧ t ≤ ((tsC c mv).length : Int) - 1) := by omega
      rw [decide_eq_true h1', if_pos rfl]
      refine W.ret (err 3 (by decide) ?_)
      simp only [stepErr]
      rw [if_pos (by omega)]
  obtain ⟨r, e, rfl⟩ := key
  exact e

theorem checkPlan_eq {k : Nat} (hk : 50 ≤ k) {n : Int} {c : dChange} {mv : List Bool} {q : dQuick} (h : QV n c mv q) {p : List dStep} (hp : p.length ≤ 40) : chg_quick_checkPlan k q p = some (cpS c (tsC c mv) p) := by
  unfold chg_quick_checkPlan cpS
  rw [h.tasks]
  by_cases h1 : p.length < (tsC c mv).length
  · rw [if_pos (by omega), if_pos h1]
  · rw [if_neg (by omega), if_neg h1]
    by_cases h2 : (tsC c mv).length < p.length
    · rw [if_pos (by omega), if_pos h2]
    · rw [if_neg (by omega), if_neg h2, cp_loop hk h hp]
      split
      · rw [bE_k]; rename_i h0; rw [h0]
      · rw [bE_e]

theorem asked_eq {k : Nat} (hk : 50 ≤ k) {n : Int} {c : dChange} {mv : List Bool} {q : dQuick} (h : QV n c mv q) (hb : chg_begin k c = some (some q, 0)) {p : List dStep} (hp : p.length ≤ 40) : chg_asked k c p = some (some q, cpS c (tsC c mv) p) := by
  unfold chg_asked
  rw [hb]
  simp only [bs, co_some, not_true_eq_false, if_false]
  rw [checkPlan_eq hk h hp, bs]
end Go.Proofs.Ytfhdclhbdmhnmaa
