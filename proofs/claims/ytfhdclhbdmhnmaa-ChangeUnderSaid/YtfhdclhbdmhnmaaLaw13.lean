/- Plain law, part 13: when the steps of a plan begin. -/
import Derived.Test.YtfhdclhbdmhnmaaLaw12
namespace Go.Proofs.Ytfhdclhbdmhnmaa
open K Go Go.Proofs

def upd (f : Nat → Int) (i : Nat) (v : Int) : Nat → Int := fun j => if j = i then v else f j
/-- The task of a step. -/
def tsk (ts : List (Bool × Int)) (t : Int) : Bool × Int := ts[t.toNat]?.getD (false, 0)
/-- When a step begins: E the ends of the tasks, F when the dressers are free. -/
def bgAt (c : dChange) (ts : List (Bool × Int)) (E F : Nat → Int) (s : dStep) : Int := (befL c ts s.1.toNat).foldl (fun m a => imax m (E a)) (F s.2.toNat)
def bgEnd (c : dChange) (ts : List (Bool × Int)) (E F : Nat → Int) (s : dStep) : Int := bgAt c ts E F s + barsB c (tsk ts s.1)
def bgo (c : dChange) (ts : List (Bool × Int)) : (Nat → Int) → (Nat → Int) → List dStep → List Int
  | _, _, [] => []
  | E, F, s :: p => bgAt c ts E F s :: bgo c ts (upd E s.1.toNat (bgEnd c ts E F s)) (upd F s.2.toNat (bgEnd c ts E F s)) p
/-- The ends of all tasks, in the end. -/
def bge (c : dChange) (ts : List (Bool × Int)) : (Nat → Int) → (Nat → Int) → List dStep → Nat → Int
  | E, _, [] => E
  | E, F, s :: p => bge c ts (upd E s.1.toNat (bgEnd c ts E F s)) (upd F s.2.toNat (bgEnd c ts E F s)) p
def F0 (c : dChange) : Nat → Int := fun d => (drs c (d : Int)).2.2
def E0 : Nat → Int := fun _ => 0
/-- A list of the values of a function. -/
def Vals (l : List Int) (f : Nat → Int) (n : Nat) : Prop := l.length = n ∧ ∀ i, i < n → l[i]? = some (f i)
def Bnd (f : Nat → Int) (b : Int) : Prop := ∀ i, 0 ≤ f i ∧ f i ≤ b

theorem Vals.set {l : List Int} {f : Nat → Int} {n i : Nat} {v : Int} (h : Vals l f n) : Vals (l.set i v) (upd f i v) n := by
  refine ⟨by rw [List.length_set]; exact h.1, fun j hj => ?_⟩
  rw [List.getElem?_set]
  unfold upd
  by_cases hij : i = j
  · subst hij; rw [if_pos rfl, if_pos rfl, if_pos (by rw [h.1]; exact hj)]
  · rw [if_neg hij, if_neg (Ne.symm hij)]; exact h.2 j hj
theorem Vals.get {l : List Int} {f : Nat → Int} {n : Nat} {i : Int} (h : Vals l f n) (h0 : 0 ≤ i) (hi : i < n) : geti l i = some (f i.toNat) := geti_q h0 (h.2 _ (by omega))
theorem Bnd.upd {f : Nat → Int} {b v : Int} {i : Nat} (h : Bnd f b) (hv : 0 ≤ v ∧ v ≤ b) : Bnd (upd f i v) b := fun j => by
  unfold Go.Proofs.Ytfhdclhbdmhnmaa.upd
  split
  · exact hv
  · exact h j
theorem Bnd.mono {f : Nat → Int} {b b' : Int} (h : Bnd f b) (hb : b ≤ b') : Bnd f b' := fun j => ⟨(h j).1, by have := (h j).2; omega⟩

theorem imax_le {a b x : Int} : imax a b ≤ x ↔ a ≤ x ∧ b ≤ x := by unfold imax; split <;> omega
theorem le_imax {a b x : Int} : x ≤ imax a b ↔ x ≤ a ∨ x ≤ b := by unfold imax; split <;> omega
theorem foldmax_le {α : Type} {E : α → Int} {x : Int} : ∀ {l : List α} {m : Int}, l.foldl (fun m a => imax m (E a)) m ≤ x ↔ m ≤ x ∧ ∀ a ∈ l, E a ≤ x
  | [], m => by simp
  | a :: l, m => by
    rw [List.foldl_cons, foldmax_le, imax_le]
    simp only [List.mem_cons, forall_eq_or_imp]
    exact and_assoc
theorem le_foldmax {α : Type} {E : α → Int} {l : List α} {m : Int} : m ≤ l.foldl (fun m a => imax m (E a)) m ∧ ∀ a ∈ l, E a ≤ l.foldl (fun m a => imax m (E a)) m := foldmax_le.1 (Int.le_refl _)

theorem bgAt_bnd {c : dChange} {ts : List (Bool × Int)} {E F : Nat → Int} {s : dStep} {b : Int} (hE : Bnd E b) (hF : Bnd F b) : 0 ≤ bgAt c ts E F s ∧ bgAt c ts E F s ≤ b := by
  unfold bgAt
  refine ⟨?_, foldmax_le.2 ⟨(hF _).2, fun a _ => (hE a).2⟩⟩
  have := (le_foldmax (E := E) (l := befL c ts s.1.toNat) (m := F s.2.toNat)).1
  have := (hF s.2.toNat).1
  omega

theorem F0_bnd {n : Int} {c : dChange} (hc : VC n c) : Bnd (F0 c) 9 := fun d => by
  unfold F0 drs
  simp only [Int.toNat_natCast]
  cases h : c.2.1[d]? with
  | none => simp
  | some x =>
    have := (hc.dressers x (List.mem_of_getElem? h)).start
    simpa using this

/-- Steps that can be taken. -/
def StepOk (c : dChange) (ts : List (Bool × Int)) (s : dStep) : Prop := 0 ≤ s.1 ∧ s.1 < ts.length ∧ 0 ≤ s.2 ∧ s.2 < c.2.1.length

theorem tsk_mem {c : dChange} {ts : List (Bool × Int)} {s : dStep} (h : StepOk c ts s) : tsk ts s.1 ∈ ts := by
  have hl : s.1.toNat < ts.length := by have := h.1; have := h.2.1; omega
  rw [tsk, List.getElem?_eq_getElem hl]
  exact List.getElem_mem hl
theorem geti_tsk {c : dChange} {ts : List (Bool × Int)} {s : dStep} (h : StepOk c ts s) : geti ts s.1 = some (tsk ts s.1) := by
  have hl : s.1.toNat < ts.length := by have := h.1; have := h.2.1; omega
  rw [geti_at h.1 hl, tsk, List.getElem?_eq_getElem hl]; rfl

theorem begins3_eq {k : Nat} (hk : 50 ≤ k) {y14 : (List Int) × (List Int) × (List Int) × Int} {E : Nat → Int} {l : List Nat} {m : Int} (hE : Vals y14.2.1 E 4) (hl : ∀ a ∈ l, a < 4) (hn : l.length ≤ 8) :
    chg_quick_begins_l3 k y14 (l.map fun (a : Nat) => (a : Int)) k (m, 0) = some (l.foldl (fun m a => imax m (E a)) m) := by
  have key := for_fold (f := chg_quick_begins_l3 k y14 (l.map fun (a : Nat) => (a : Int))) l (fun s j => (s, j)) (fun s _ a => imax s (E a)) (fun _ _ => True) (fun s => some s)
    (fun n s j h _ => ⟨by
      have hm : j < (l.map fun (a : Nat) => (a : Int)).length := by simpa using h
      have ha := hl l[j] (List.getElem_mem h)
      have hlt : (j : Int) < ((l.map fun (a : Nat) => (a : Int)).length : Int) := by omega
      simp only [chg_quick_begins_l3, hlt, if_true, geti_W hm, bs, List.getElem_map]
      rw [chk_ok (by omega), bs, hE.get (by omega) (by omega), bs, ck_ok (by omega) (by omega), bs]
      simp, trivial⟩)
    (fun n s _ => by simp [chg_quick_begins_l3]) (n := k) (s0 := m) (by omega) trivial
  rw [key.1]
  have : ∀ (l : List Nat) (j : Nat) (m : Int), foldI (fun (s : Int) _ a => imax s (E a)) j l m = l.foldl (fun m a => imax m (E a)) m := by
    intro l
    induction l with
    | nil => intro j m; rfl
    | cons a l ih => intro j m; simp only [foldI, List.foldl_cons]; exact ih _ _
  rw [this]

theorem begins1_eq {k : Nat} (hk : 50 ≤ k) {q : dQuick} (h3 : q.1.2.1.length ≤ 3) : W (chg_quick_begins_l1 k q k ([0, 0, 0], 0)) fun r => r.length = 3 ∧ ∀ i, i < q.1.2.1.length → r[i]? = some (F0 q.1 i) := by
  refine W.loop (f := chg_quick_begins_l1 k q) (fun m y => ∃ j : Nat, y.2 = (j : Int) ∧ j ≤ q.1.2.1.length ∧ m = q.1.2.1.length - j ∧ y.1.length = 3 ∧ ∀ i, i < j → y.1[i]? = some (F0 q.1 i)) ?_ q.1.2.1.length k ([0, 0, 0], 0) (by omega) ⟨0, rfl, by omega, by omega, rfl, fun i hi => by omega⟩
  rintro fuel m ⟨l, y⟩ ⟨j, hj, hle, hm, hl, hv⟩ ih
  simp only at hj hl hv
  subst hj
  unfold chg_quick_begins_l1
  dsimp only
  refine W.ite (fun hlt => ?_) (fun hge => W.ret ⟨hl, fun i hi => hv i (by omega)⟩)
  have hlt' : j < q.1.2.1.length := by omega
  rw [geti_W hlt', bs, chk_ok (by omega), bs, ck_ok (by omega) (by omega), bs]
  refine ih (m - 1) (_, (j : Int) + 1) (by omega) ⟨j + 1, by show (j : Int) + 1 = ((j + 1 : Nat) : Int); omega, by omega, by omega, by simpa using hl, fun i hi => ?_⟩
  simp only [Int.toNat_natCast, List.getElem?_set]
  by_cases hij : j = i
  · subst hij
    rw [if_pos rfl, if_pos (by omega)]
    simp [F0, drs, List.getElem?_eq_getElem hlt']
  · rw [if_neg hij]; exact hv i (by omega)

theorem befL_lt {c : dChange} {ts : List (Bool × Int)} {b : Nat} : ∀ a ∈ befL c ts b, a < ts.length := fun a ha => by
  unfold befL at ha
  simpa using (List.mem_filter.1 ha).1
theorem befL_len {c : dChange} {ts : List (Bool × Int)} {b : Nat} : (befL c ts b).length ≤ ts.length := by
  unfold befL
  exact Nat.le_trans (List.length_filter_le _ _) (by simp)

theorem upd_F {D : Nat} {r : List Int} {F : Nat → Int} (hl : r.length = 3) (hv : ∀ i, i < D → r[i]? = some (F i)) {d : Nat} {v : Int} (hd : d < 3) : (r.set d v).length = 3 ∧ ∀ i, i < D → (r.set d v)[i]? = some (upd F d v i) := by
  refine ⟨by rw [List.length_set]; exact hl, fun i hi => ?_⟩
  rw [List.getElem?_set]
  unfold upd
  by_cases hij : d = i
  · subst hij; rw [if_pos rfl, if_pos rfl, if_pos (by omega)]
  · rw [if_neg hij, if_neg (Ne.symm hij)]; exact hv i hi

theorem begins2_eq {k : Nat} (hk : 50 ≤ k) {n : Int} {c : dChange} {mv : List Bool} {q : dQuick} (h : QV n c mv q) {p : List dStep} (hp : p.length ≤ 30) (hs : ∀ s ∈ p, StepOk c (tsC c mv) s) {l4 : List Int}
    (hl4 : l4.length = 3 ∧ ∀ i, i < c.2.1.length → l4[i]? = some (F0 c i)) : W (chg_quick_begins_l2 k q p k ([], [0, 0, 0, 0], l4, 0)) fun r => r.1 = bgo c (tsC c mv) E0 (F0 c) p ∧ Vals r.2 (bge c (tsC c mv) E0 (F0 c) p) 4 := by
  have ht := h.t4
  have hdl := h.vc.dl
  refine W.loop (f := chg_quick_begins_l2 k q p) (fun m y => ∃ (j : Nat) (E F : Nat → Int), y.2.2.2 = (j : Int) ∧ j ≤ p.length ∧ m = p.length - j ∧ y.1.length = j ∧ Vals y.2.1 E 4 ∧ (y.2.2.1.length = 3 ∧ ∀ i, i < c.2.1.length → y.2.2.1[i]? = some (F i)) ∧
      Bnd E (9 + 4 * j) ∧ Bnd F (9 + 4 * j) ∧ bgo c (tsC c mv) E0 (F0 c) p = y.1 ++ bgo c (tsC c mv) E F (p.drop j) ∧ bge c (tsC c mv) E0 (F0 c) p = bge c (tsC c mv) E F (p.drop j)) ?_ p.length k _ (by omega)
    ⟨0, E0, F0 c, rfl, by omega, by omega, rfl, ⟨rfl, fun i hi => by
      match i, hi with
      | 0, _ => rfl
      | 1, _ => rfl
      | 2, _ => rfl
      | 3, _ => rfl⟩, hl4, fun i => by simp [E0], by simpa using F0_bnd h.vc, by simp, by simp⟩
  rintro fuel m ⟨out, el, fl, y⟩ ⟨j, E, F, hj, hle, hm, ho, hE, hF, bE, bF, e1, e2⟩ ih
  simp only at hj ho hE hF e1 e2
  subst hj
  unfold chg_quick_begins_l2
  dsimp only
  refine W.ite (fun hlt => ?_) (fun hge => W.ret (by
    have : j = p.length := by omega
    subst this
    rw [List.drop_length] at e1 e2
    rw [e1, e2]
    exact ⟨by simp [bgo], hE⟩))
  have hlt' : j < p.length := by omega
  have hdr : p.drop j = p[j] :: p.drop (j + 1) := List.drop_eq_getElem_cons hlt'
  have hS := hs p[j] (List.getElem_mem hlt')
  rw [hdr] at e1 e2
  rw [geti_W hlt', bs]
  generalize p[j] = s at *
  obtain ⟨h1, h2, h3, h4⟩ := hS
  have hS : StepOk c (tsC c mv) s := ⟨h1, h2, h3, h4⟩
  have hb := barsB_rng h.vc (tsk_mem hS)
  have hat := bgAt_bnd (c := c) (ts := tsC c mv) (s := s) bE bF
  obtain ⟨mk, em, hmk, hmb, hbl⟩ := h.mask (b := s.1.toNat) (by omega)
  have hF' : geti fl s.2 = some (F s.2.toNat) := geti_q h3 (hF.2 _ (by omega))
  have hcq : (((q.1.1, q.1.2.1, q.1.2.2.1, q.1.2.2.2), tsC c mv, q.2.2) : dQuick) = q := by rw [← h.tasks]
  rw [chk_ok (by omega), bs, hF', bs, chk_ok (by omega), bs, geti_q h1 em, bs, set_list_ok hk hmk, bs, hbl]
  rw [begins3_eq hk (y14 := (out, el, fl, (j : Int))) hE (fun a ha => by have := befL_lt a ha; omega) (by have := befL_len (c := c) (ts := tsC c mv) (b := s.1.toNat); omega), bs, h.tasks, geti_tsk hS, bs, hcq, bars_eq h (tsk_mem hS), bs]
  have hen : bgAt c (tsC c mv) E F s + barsB c (tsk (tsC c mv) s.1) = bgEnd c (tsC c mv) E F s := rfl
  show W ((((ck (bgAt c (tsC c mv) E F s + barsB c (tsk (tsC c mv) s.1))).bind _ : Option _).bind _)) _
  rw [ck_ok (by omega) (by omega), bs, chk_ok (okLen_of (by simp only [List.length_cons, List.length_nil]; omega)), bs, chk_ok (by omega), bs, bs, bs, ck_ok (by omega) (by omega), bs, hen]
  have bV : 0 ≤ bgEnd c (tsC c mv) E F s ∧ bgEnd c (tsC c mv) E F s ≤ 9 + 4 * (j + 1 : Nat) := by unfold bgEnd; omega
  refine ih (m - 1) (_, _, _, (j : Int) + 1) (by omega) ⟨j + 1, upd E s.1.toNat (bgEnd c (tsC c mv) E F s), upd F s.2.toNat (bgEnd c (tsC c mv) E F s), by show (j : Int) + 1 = ((j + 1 : Nat) : Int); omega, by omega, by omega, by simp [ho],
    hE.set, upd_F hF.1 hF.2 (by omega), (bE.mono (by omega)).upd bV, (bF.mono (by omega)).upd bV, ?_, e2⟩
  simp only
  rw [e1, bgo, List.append_assoc]
  rfl

theorem begins_eq {k : Nat} (hk : 50 ≤ k) {n : Int} {c : dChange} {mv : List Bool} {q : dQuick} (h : QV n c mv q) {p : List dStep} (hp : p.length ≤ 30) (hs : ∀ s ∈ p, StepOk c (tsC c mv) s) :
    ∃ el, chg_quick_begins k q p = some (bgo c (tsC c mv) E0 (F0 c) p, el) ∧ Vals el (bge c (tsC c mv) E0 (F0 c) p) 4 := by
  obtain ⟨l4, e1, h1⟩ := begins1_eq hk (q := q) (by rw [h.eq]; exact h.vc.dl.2)
  rw [h.eq] at h1
  obtain ⟨⟨a, b⟩, e2, h2, h3⟩ := begins2_eq hk h hp hs h1
  simp only at h2 h3
  subst h2
  refine ⟨b, ?_, h3⟩
  unfold chg_quick_begins
  rw [e1, bs, e2, bs]

/-- A plan without an error. -/
theorem cpGo_ok {c : dChange} {ts : List (Bool × Int)} : ∀ {p : List dStep} {done : List Int}, cpGo c ts done p = 0 → (∀ s ∈ p, StepOk c ts s ∧ canB c s.2 (tsk ts s.1) = true ∧ s.1 ∉ done) ∧ (p.map (·.1)).Nodup
  | [], _, _ => by simp
  | s :: p, done, h => by
    rw [cpGo] at h
    by_cases h0 : stepErr c ts done s = 0
    · rw [if_neg (by simp [h0])] at h
      obtain ⟨h1, h2⟩ := cpGo_ok h
      unfold stepErr at h0
      by_cases a1 : 0 ≤ s.1 ∧ s.1 < ts.length
      · rw [if_neg (by simpa using a1)] at h0
        by_cases a2 : s.1 ∈ done
        · rw [if_pos a2] at h0; cases h0
        · rw [if_neg a2] at h0
          by_cases a3 : 0 ≤ s.2 ∧ s.2 < c.2.1.length
          · rw [if_neg (by simpa using a3)] at h0
            by_cases a4 : canB c s.2 (ts[s.1.toNat]?.getD (false, 0)) = false
            · rw [if_pos a4] at h0; cases h0
            · refine ⟨fun x hx => ?_, ?_⟩
              · rcases List.mem_cons.1 hx with rfl | hx
                · exact ⟨⟨a1.1, a1.2, a3.1, a3.2⟩, by simpa [tsk] using a4, a2⟩
                · obtain ⟨b1, b2, b3⟩ := h1 x hx
                  exact ⟨b1, b2, fun hd => b3 (List.mem_append_left _ hd)⟩
              · simp only [List.map_cons, List.nodup_cons, List.mem_map]
                refine ⟨?_, h2⟩
                rintro ⟨x, hx, e⟩
                exact (h1 x hx).2.2 (by rw [e]; simp)
          · rw [if_pos (by simpa using a3)] at h0; cases h0
      · rw [if_pos (by simpa using a1)] at h0; cases h0
    · rw [if_pos h0] at h
      exact absurd h h0

theorem cpS_ok {c : dChange} {ts : List (Bool × Int)} {p : List dStep} (h : cpS c ts p = 0) : p.length = ts.length ∧ cpGo c ts [] p = 0 := by
  unfold cpS at h
  by_cases h1 : p.length < ts.length
  · rw [if_pos h1] at h; cases h
  · rw [if_neg h1] at h
    by_cases h2 : ts.length < p.length
    · rw [if_pos h2] at h; cases h
    · rw [if_neg h2] at h
      exact ⟨by omega, h⟩

theorem Begins_eq {k : Nat} (hk : 50 ≤ k) {n : Int} {c : dChange} {mv : List Bool} {q : dQuick} (h : QV n c mv q) (hb : chg_begin k c = some (some q, 0)) {p : List dStep} (hp : p.length ≤ 30) :
    chg_Begins k c p = some (if cpS c (tsC c mv) p = 0 then (bgo c (tsC c mv) E0 (F0 c) p, 0) else ([], cpS c (tsC c mv) p)) := by
  unfold chg_Begins
  rw [asked_eq hk h hb (by omega), bs, co_some]
  by_cases h0 : cpS c (tsC c mv) p = 0
  · have hs : ∀ s ∈ p, StepOk c (tsC c mv) s := fun s hs => ((cpGo_ok (cpS_ok h0).2).1 s hs).1
    obtain ⟨el, e1, _⟩ := begins_eq hk h hp hs
    rw [if_neg (by simpa using h0), if_pos h0]
    have hcq : (((q.1.1, q.1.2.1, q.1.2.2.1, q.1.2.2.2), q.2.1, q.2.2) : dQuick) = q := rfl
    rw [hcq, e1, bs]
  · rw [if_pos (by simpa using h0), if_neg h0]

/-- The first step that is late: its number, and the Due. -/
def lateI (c : dChange) (ts : List (Bool × Int)) (E : Nat → Int) (but : Int → Bool) (s : dStep) : Bool :=
  (tsk ts s.1).1 && decide (0 < (thg c (tsk ts s.1).2).2.2.2.2) && decide ((thg c (tsk ts s.1).2).2.2.2.2 < E s.1.toNat) && !but (tsk ts s.1).2
def lateS (c : dChange) (ts : List (Bool × Int)) (E : Nat → Int) (but : Int → Bool) (p : List dStep) : Int × Int := match p.findIdx? (lateI c ts E but) with
  | some i => ((i : Int), (thg c (tsk ts (p[i]?.getD (0, 0)).1).2).2.2.2.2)
  | none => (-1, 0)

theorem late_eq {k : Nat} (hk : 50 ≤ k) {n : Int} {c : dChange} {mv : List Bool} {q : dQuick} (h : QV n c mv q) {p : List dStep} (hp : p.length ≤ 30) (hs : ∀ s ∈ p, StepOk c (tsC c mv) s) {but : Int} (hbut : Mask but) :
    chg_quick_late k q p but = some (lateS c (tsC c mv) (bge c (tsC c mv) E0 (F0 c) p) (fun x => decide (Has but x.toNat)) p) := by
  have ht := h.t4
  obtain ⟨w1, w2, w3, _⟩ := h.vc.wl
  obtain ⟨el, e1, hE⟩ := begins_eq hk h hp hs
  unfold chg_quick_late
  have hcq : (((q.1.1, q.1.2.1, q.1.2.2.1, q.1.2.2.2), q.2.1, q.2.2) : dQuick) = q := rfl
  rw [hcq, e1, bs]
  generalize bge c (tsC c mv) E0 (F0 c) p = E at *
  have key := for_foldE (f := chg_quick_late_l1 k q p but (bgo c (tsC c mv) E0 (F0 c) p, el)) p (fun (_ : Unit) j => j) (fun _ j s => if lateI c (tsC c mv) E (fun x => decide (Has but x.toNat)) s = true then Except.error ((j : Int), (thg c (tsk (tsC c mv) s.1).2).2.2.2.2) else .ok ()) (fun _ _ => True) (fun r => some r)
    (fun m s j hj _ => by
      have hlt : (j : Int) < (p.length : Int) := by omega
      have hS := hs p[j] (List.getElem_mem hj)
      simp only [chg_quick_late_l1, hlt, if_true, geti_W hj, bs]
      generalize p[j] = st at *
      obtain ⟨i, hi, ei⟩ := tsC_rng _ (tsk_mem hS)
      have h1 := hS.1
      have h2 := hS.2.1
      have hck : ck ((j : Int) + 1) = some ((j : Int) + 1) := ck_ok (by omega) (by omega)
      rw [h.tasks, geti_tsk hS]
      simp only [bs, work_thing]
      rw [h.eq, geti_thg (by omega) (by omega), bs]
      simp only [hE.get h1 (show st.1 < ((4 : Nat) : Int) by omega), bs]
      rw [chk_ok (by omega)]
      simp only [bs]
      have hhas : chg_set_has k but (tsk (tsC c mv) st.1).2 = some (decide (Has but (tsk (tsC c mv) st.1).2.toNat)) := by
        rw [ei, has_ok hbut (by omega)]; rfl
      rw [hhas]
      simp only [bs]
      generalize he : lateI c (tsC c mv) E (fun x => decide (Has but x.toNat)) st = lt
      unfold lateI at he
      simp only [] at he
      generalize (tsk (tsC c mv) st.1).1 = b1 at he ⊢
      generalize (thg c (tsk (tsC c mv) st.1).2).2.2.2.2 = due at he ⊢
      generalize decide (Has but (tsk (tsC c mv) st.1).2.toNat) = b2 at he ⊢
      subst he
      cases b1
      · simp [hck]
      · by_cases d1 : 0 < due
        · by_cases d2 : due < E st.1.toNat
          · cases b2 <;> simp [d1, d2, hck]
          · simp [d1, d2, hck]
        · simp [d1, hck])
    (fun m s _ => by simp [chg_quick_late_l1]) (n := k) (s0 := ()) (by omega) trivial
  rw [show chg_quick_late_l1 k q p but (bgo c (tsC c mv) E0 (F0 c) p, el) k 0 = _ from key]
  have hf : ∀ (f : dStep → Bool) (g : dStep → Int) (l : List dStep) (j : Nat), foldE (fun (_ : Unit) (j : Nat) s => if f s = true then Except.error ((j : Int), g s) else .ok ()) j l () = match l.findIdx? f with | some i => .error (((i + j : Nat) : Int), g (l[i]?.getD (0, 0))) | none => .ok () := by
    intro f g l
    induction l with
    | nil => intro j; simp [foldE]
    | cons x l ih =>
      intro j
      rw [foldE, List.findIdx?_cons]
      by_cases hx : f x = true
      · simp [hx]
      · simp only [hx, if_false, Bool.false_eq_true]
        rw [ih (j + 1)]
        cases l.findIdx? f with
        | none => rfl
        | some i => simp only [Option.map_some, List.getElem?_cons_succ]; congr 3; omega
  rw [hf]
  unfold lateS
  cases p.findIdx? _ with
  | none => simp only [bE_k]
  | some i => simp only [bE_e, Nat.add_zero]

theorem Late_eq {k : Nat} (hk : 50 ≤ k) {n : Int} {c : dChange} {mv : List Bool} {q : dQuick} (h : QV n c mv q) (hb : chg_begin k c = some (some q, 0)) {p : List dStep} (hp : p.length ≤ 30) :
    chg_Late k c p = some (if cpS c (tsC c mv) p = 0 then ((lateS c (tsC c mv) (bge c (tsC c mv) E0 (F0 c) p) (fun _ => false) p).1, (lateS c (tsC c mv) (bge c (tsC c mv) E0 (F0 c) p) (fun _ => false) p).2, 0) else (0, 0, cpS c (tsC c mv) p)) := by
  unfold chg_Late
  rw [asked_eq hk h hb (by omega), bs, co_some]
  by_cases h0 : cpS c (tsC c mv) p = 0
  · have hs : ∀ s ∈ p, StepOk c (tsC c mv) s := fun s hs => ((cpGo_ok (cpS_ok h0).2).1 s hs).1
    rw [if_neg (by simpa using h0), if_pos h0]
    have hcq : (((q.1.1, q.1.2.1, q.1.2.2.1, q.1.2.2.2), q.2.1, q.2.2) : dQuick) = q := rfl
    rw [hcq, late_eq hk h hp hs ⟨by decide, by decide⟩, bs]
    have : (fun x : Int => decide (Has 0 x.toNat)) = fun _ => false := funext fun x => by simp [Has]
    rw [this]
  · rw [if_pos (by simpa using h0), if_neg h0]
end Go.Proofs.Ytfhdclhbdmhnmaa
