/- Plain law: the first step that is late. -/
import Derived.Test.YtfhdclhbdmhnmaaPlan
namespace Go.Proofs.Ytfhdclhbdmhnmaa
open K Go Go.Proofs

theorem bgo_len {c : dChange} {ts : List (Bool × Int)} : ∀ {p : List dStep} {E F : Nat → Int}, (bgo c ts E F p).length = p.length
  | [], _, _ => rfl
  | s :: p, _, _ => by simp [bgo, bgo_len (p := p)]
theorem bge_not {c : dChange} {ts : List (Bool × Int)} {i : Nat} : ∀ {p : List dStep} {E F : Nat → Int}, (∀ s ∈ p, s.1.toNat ≠ i) → bge c ts E F p i = E i
  | [], _, _, _ => rfl
  | s :: p, E, F, h => by
    rw [bge, bge_not fun x hx => h x (List.mem_cons_of_mem _ hx)]
    unfold upd
    rw [if_neg (Ne.symm (h s (by simp)))]
/-- A task ends as many bars later as it takes. -/
theorem bge_at {c : dChange} {ts : List (Bool × Int)} : ∀ {p : List dStep} {E F : Nat → Int} {i : Nat} {s : dStep} {b : Int}, (∀ s ∈ p, 0 ≤ s.1) → (p.map (·.1)).Nodup → p[i]? = some s → (bgo c ts E F p)[i]? = some b → bge c ts E F p s.1.toNat = b + barsB c (tsk ts s.1)
  | [], _, _, _, _, _, _, _, h, _ => by simp at h
  | x :: p, E, F, 0, s, b, h0, hn, h1, h2 => by
    simp only [List.getElem?_cons_zero, Option.some.injEq] at h1
    subst h1
    simp only [bgo, List.getElem?_cons_zero, Option.some.injEq] at h2
    subst h2
    simp only [List.map_cons, List.nodup_cons, List.mem_map] at hn
    rw [bge, bge_not]
    · unfold upd; rw [if_pos rfl]; rfl
    · intro y hy e
      have a := h0 y (List.mem_cons_of_mem _ hy)
      have b := h0 x (by simp)
      exact hn.1 ⟨y, hy, by omega⟩
  | x :: p, E, F, i + 1, s, b, h0, hn, h1, h2 => by
    simp only [List.getElem?_cons_succ] at h1
    simp only [bgo, List.getElem?_cons_succ] at h2
    simp only [List.map_cons, List.nodup_cons] at hn
    rw [bge]
    exact bge_at (fun y hy => h0 y (List.mem_cons_of_mem _ hy)) hn.2 h1 h2

theorem lasts_eq {k : Nat} {c : dChange} {mv : List Bool} {w : Bool × Int} (hw : w ∈ tsC c mv) : law_lasts k c (w.2, w.1) = some (barsB c w) := by
  obtain ⟨i, hi, ei⟩ := tsC_rng w hw
  unfold law_lasts barsB
  simp only
  rw [geti_thg (by omega) (by omega)]
  simp only [bs]
  split <;> simp

theorem tsk_swap {c : dChange} {ts : List (Bool × Int)} {s : dStep} (h : StepOk c ts s) : geti (ts.map fun x => (x.2, x.1)) s.1 = some ((tsk ts s.1).2, (tsk ts s.1).1) := by
  have hl : s.1.toNat < ts.length := by have := h.1; have := h.2.1; omega
  rw [geti_at h.1 (by rw [List.length_map]; exact hl), List.getElem_map, tsk, List.getElem?_eq_getElem hl]; rfl

/-- **The first that is late.** -/
theorem late_law {k : Nat} (hk : 50 ≤ k) (hd : law_dressed k = some true) (a0 : List Int) : law_ChangeLate k a0 = some true := by
  unfold law_ChangeLate
  rw [show kit_NewLots k a0 = some (a0, 0, 1) from rfl, bs]
  obtain ⟨⟨c, l⟩, e3, hlo, _, n, mv, q, hc, hb, hq⟩ := lots_ok hk (l := (a0, 0, 1)) (m := 0) newLots_ok (by decide)
  simp only at hc hb hq hlo
  have ht := hq.t4
  obtain ⟨⟨p, l5⟩, e5, hP, _⟩ := planOf_ok hk hc hq.fix ht (l := l) (m := 300) (hlo.mono (by omega)) (by omega)
  simp only at hP
  have hpl := hP.len
  rw [e3, bs]
  simp only
  rw [show ((l.1, l.2.1, l.2.2) : dLots) = l from rfl, e5]
  simp only [bs]
  rw [Begins_eq hk hq hb (by omega), Late_eq hk hq hb (by omega)]
  simp only [bs]
  by_cases h0 : cpS c (tsC c mv) p = 0
  · have hcp := cpGo_ok (cpS_ok h0).2
    have hpn := hcp.2
    have hps := fun s hs => (hcp.1 s hs).1
    simp only [h0, if_true, not_true_eq_false, if_false, tasksOf_eq hk hc hq.fix, bs, hd]
    have hat : ∀ (i : Nat) (hi : i < p.length), ∃ b, (bgo c (tsC c mv) E0 (F0 c) p)[i]? = some b ∧ bge c (tsC c mv) E0 (F0 c) p p[i].1.toNat = b + barsB c (tsk (tsC c mv) p[i].1) := fun i hi => by
      have hil : i < (bgo c (tsC c mv) E0 (F0 c) p).length := by rw [bgo_len]; exact hi
      exact ⟨_, List.getElem?_eq_getElem hil, bge_at (fun s hs => (hps s hs).1) hpn (List.getElem?_eq_getElem hi) (List.getElem?_eq_getElem hil)⟩
    unfold lateS
    have hbl : (bgo c (tsC c mv) E0 (F0 c) p).length = p.length := bgo_len
    generalize bgo c (tsC c mv) E0 (F0 c) p = B at *
    generalize bge c (tsC c mv) E0 (F0 c) p = E at *
    -- what a round does
    have step : ∀ (r7 : Int × Int × Int) (m j : Nat) (hj : j < p.length), law_ChangeLate_l1 k (c, l) (p, l5) (B, 0) r7 ((tsC c mv).map fun x => (x.2, x.1)) (m + 1) (j : Int) =
        if lateI c (tsC c mv) E (fun _ => false) p[j] = true then some (.error (if r7.1 = (j : Int) then (if r7.2.1 = (thg c (tsk (tsC c mv) p[j].1).2).2.2.2.2 then true else false) else false))
        else law_ChangeLate_l1 k (c, l) (p, l5) (B, 0) r7 ((tsC c mv).map fun x => (x.2, x.1)) m ((j : Int) + 1) := fun r7 m j hj => by
      have hlt : (j : Int) < (p.length : Int) := by omega
      have hle : ¬ ¬ ((B.length : Int) = (p.length : Int)) := by rw [hbl]; simp
      have hS := hps p[j] (List.getElem_mem hj)
      obtain ⟨i, hi, ei⟩ := tsC_rng _ (tsk_mem hS)
      obtain ⟨bj, hB1, hB2⟩ := hat j hj
      have hck : ck ((j : Int) + 1) = some ((j : Int) + 1) := ck_ok (by omega) (by omega)
      have hbr := barsB_rng hc (tsk_mem hS)
      rw [law_ChangeLate_l1]
      simp only [hlt, if_true, hle, if_false, geti_W hj, bs, tsk_swap hS]
      rw [geti_thg (by omega) (by omega)]
      simp only [bs]
      rw [lasts_eq (tsk_mem hS), geti_q (by omega) (by simpa using hB1)]
      simp only [bs]
      have hdue : 0 ≤ (thg c (tsk (tsC c mv) p[j].1).2).2.2.2.2 ∧ (thg c (tsk (tsC c mv) p[j].1).2).2.2.2.2 ≤ 30 := by
        rw [ei, thg_some (List.getElem?_eq_getElem hi)]
        exact (hc.good i _ (List.getElem?_eq_getElem hi)).due
      rw [ck_ok (by omega) (by omega)]
      simp only [bs, lateI, hB2]
      generalize (tsk (tsC c mv) p[j].1).1 = b1
      generalize (thg c (tsk (tsC c mv) p[j].1).2).2.2.2.2 = due
      generalize barsB c (tsk (tsC c mv) p[j].1) = br
      cases b1
      · simp [hck]
      · by_cases d1 : 0 < due
        · by_cases d2 : due - br < bj
          · have d3 : due < bj + br := by omega
            simp only [d1, d2, d3, if_true, decide_true, bs, Bool.and_self, Bool.not_false, hd]
            by_cases d4 : r7.1 = (j : Int) <;> by_cases d5 : r7.2.1 = due <;> simp [d4, d5]
          · have d3 : ¬ due < bj + br := by omega
            simp [d1, d2, d3, hck]
        · simp [d1, hck]
    cases hf : p.findIdx? (lateI c (tsC c mv) E fun _ => false) with
    | none =>
      simp only
      rw [List.findIdx?_eq_none_iff] at hf
      have := for_all (f := law_ChangeLate_l1 k (c, l) (p, l5) (B, 0) (-1, 0, 0) ((tsC c mv).map fun x => (x.2, x.1))) 0 p.length (fun m j _ hj => by
        rw [step _ m j hj, hf _ (List.getElem_mem hj), if_neg (by simp)]) (fun m j _ hj => by rw [law_ChangeLate_l1]; rw [if_neg (by simp only; omega)]) k (by omega)
      rw [show law_ChangeLate_l1 k (c, l) (p, l5) (B, 0) (-1, 0, 0) ((tsC c mv).map fun x => (x.2, x.1)) k 0 = _ from this, bE_k]
      simp
    | some i =>
      simp only
      rw [List.findIdx?_eq_some_iff_getElem] at hf
      obtain ⟨hi, h1, h2⟩ := hf
      have := for_find (f := law_ChangeLate_l1 k (c, l) (p, l5) (B, 0) ((i : Int), (thg c (tsk (tsC c mv) (p[i]?.getD (0, 0)).1).2).2.2.2.2, 0) ((tsC c mv).map fun x => (x.2, x.1))) (e := true) p.length i hi
        (fun m j hj => by rw [step _ m j (by omega), if_neg (h2 j hj)])
        (fun m => by rw [step _ m i hi, if_pos h1]; simp [List.getElem?_eq_getElem hi]) k (by omega)
      rw [this, bE_e]
  · simp only [h0, if_false]
    have he := plan_err hP
    simp only [not_true_eq_false, if_false, not_false_eq_true, if_true]
    rcases he with h | h | h | h
    · exact absurd h h0
    · simp [h, hd]
    · simp [h, hd]
    · simp [h, hd]
end Go.Proofs.Ytfhdclhbdmhnmaa
