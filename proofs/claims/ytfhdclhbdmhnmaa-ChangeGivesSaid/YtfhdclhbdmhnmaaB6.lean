/- Plain law, part 13: when the steps of a plan begin. -/
import Derived.Test.YtfhdclhbdmhnmaaB5
namespace Go.Proofs.Ytfhdclhbdmhnmaa
open K Go Go.Proofs

def upd (f : Nat → Int) (i : Nat) (v : Int) : Nat → Int := fun j => if j = i then v else f j
/-- The task of a step. -/
def tsk (ts : List (Bool × Int)) (t : Int) : Bool × Int := ts[t.toNat]?.getD (false, 0)
/-- When a step begins: E the ends of the tasks, F when the dressers are free. -/
def bgAt (c : dChange) (ts : List (Bool × Int)) (E F : Nat → Int) (s : dStep) : Int := (befL c ts s.1.toNat).foldl (fun m a => imax m (E a)) (F s.2.toNat)
def bgEnd (c : dChange) (ts : List (Bool × Int)) (E F : Nat → Int) (s : dStep) : Int := bgAt c ts E F s + barsB c (tsk ts s.1)
def bgo (c : dChange) (ts : List (Bool × Int)) : (Nat → Int) → (Nat → Int) → List dStep → List Int
 | _, _, [] => []
 | E, F, s :: p => bgAt c ts E F s :: bgo c ts (upd E s.1.toNat (bgEnd c ts E F s)) (upd F s.2.toNat (bgEnd c ts E F s)) p
/-- The ends of all tasks, in the end. -/
def bge (c : dChange) (ts : List (Bool × Int)) : (Nat → Int) → (Nat → Int) → List dStep → Nat → Int
 | E, _, [] => E
 | E, F, s :: p => bge c ts (upd E s.1.toNat (bgEnd c ts E F s)) (upd F s.2.toNat (bgEnd c ts E F s)) p
def F0 (c : dChange) : Nat → Int := fun d => (drs c (d : Int)).2.2
def E0 : Nat → Int := fun _ => 0
/-- A list of the values of a function. -/
def Vals (l : List Int) (f : Nat → Int) (n : Nat) : Prop := l.length = n ∧ ∀ i, i < n → l[i]? = some (f i)
def Bnd (f : Nat → Int) (b : Int) : Prop := ∀ i, 0 ≤ f i ∧ f i ≤ b

theorem Vals.set {l : List Int} {f : Nat → Int} {n i : Nat} {v : Int} (h : Vals l f n) : Vals (l.set i v) (upd f i v) n := by
 refine ⟨by rw [List.length_set]; exact h.1, fun j hj => ?_⟩;rw [List.getElem?_set];unfold upd;by_cases hij : i = j
 ·subst hij; rw [if_pos rfl, if_pos rfl, if_pos (by rw [h.1]; exact hj)]
 ·rw [if_neg hij, if_neg (Ne.symm hij)]; exact h.2 j hj
theorem Vals.get {l : List Int} {f : Nat → Int} {n : Nat} {i : Int} (h : Vals l f n) (h0 : 0 ≤ i) (hi : i < n) : geti l i = some (f i.toNat) := geti_q h0 (h.2 _ (by omega))
theorem Bnd.upd {f : Nat → Int} {b v : Int} {i : Nat} (h : Bnd f b) (hv : 0 ≤ v ∧ v ≤ b) : Bnd (upd f i v) b := fun j => by
 unfold Go.Proofs.Ytfhdclhbdmhnmaa.upd
 split
 ·
  exact hv
 ·
  exact h j
theorem Bnd.mono {f : Nat → Int} {b b' : Int} (h : Bnd f b) (hb : b ≤ b') : Bnd f b' := fun j => ⟨(h j).1, by have := (h j).2; omega⟩

theorem imax_le {a b x : Int} : imax a b ≤ x ↔ a ≤ x ∧ b ≤ x := by unfold imax; split <;> omega
theorem foldmax_le {α : Type} {E : α → Int} {x : Int} : ∀ {l : List α} {m : Int}, l.foldl (fun m a => imax m (E a)) m ≤ x ↔ m ≤ x ∧ ∀ a ∈ l, E a ≤ x
 | [], m => by simp
 | a :: l, m => by
  rw [List.foldl_cons, foldmax_le, imax_le]
  simp only [List.mem_cons, forall_eq_or_imp]
  exact and_assoc
theorem le_foldmax {α : Type} {E : α → Int} {l : List α} {m : Int} : m ≤ l.foldl (fun m a => imax m (E a)) m ∧ ∀ a ∈ l, E a ≤ l.foldl (fun m a => imax m (E a)) m := foldmax_le.1 (Int.le_refl _)

theorem bgAt_bnd {c : dChange} {ts : List (Bool × Int)} {E F : Nat → Int} {s : dStep} {b : Int} (hE : Bnd E b) (hF : Bnd F b) : 0 ≤ bgAt c ts E F s ∧ bgAt c ts E F s ≤ b := by
 unfold bgAt;refine ⟨?_, foldmax_le.2 ⟨(hF _).2, fun a _ => (hE a).2⟩⟩;have := (le_foldmax (E := E) (l := befL c ts s.1.toNat) (m := F s.2.toNat)).1;have := (hF s.2.toNat).1;omega

theorem F0_bnd {n : Int} {c : dChange} (hc : VC n c) : Bnd (F0 c) 9 := fun d => by
 unfold F0 drs
 simp only [Int.toNat_natCast]
 cases h : c.2.1[d]? with
 | none => simp
 | some x =>
  have := (hc.dressers x (List.mem_of_getElem? h)).start
  simpa using this

/-- Steps that can be taken. -/
def StepOk (c : dChange) (ts : List (Bool × Int)) (s : dStep) : Prop := 0 ≤ s.1 ∧ s.1 < ts.length ∧ 0 ≤ s.2 ∧ s.2 < c.2.1.length

theorem tsk_mem {c : dChange} {ts : List (Bool × Int)} {s : dStep} (h : StepOk c ts s) : tsk ts s.1 ∈ ts := by
 have hl : s.1.toNat < ts.length := by have := h.1; have := h.2.1; omega
 rw [tsk, List.getElem?_eq_getElem hl];exact List.getElem_mem hl
theorem geti_tsk {c : dChange} {ts : List (Bool × Int)} {s : dStep} (h : StepOk c ts s) : geti ts s.1 = some (tsk ts s.1) := by
 have hl : s.1.toNat < ts.length := by have := h.1; have := h.2.1; omega
 rw [geti_at h.1 hl, tsk, List.getElem?_eq_getElem hl]; rfl

theorem begins3_eq {k : Nat} (hk : 50 ≤ k) {y14 : (List Int) × (List Int) × (List Int) × Int} {E : Nat → Int} {l : List Nat} {m : Int} (hE : Vals y14.2.1 E 4) (hl : ∀ a ∈ l, a < 4) (hn : l.length ≤ 8) :
 chg_quick_begins_l3 k y14 (l.map fun (a : Nat) => (a : Int)) k (m, 0) = some (l.foldl (fun m a => imax m (E a)) m) := by
 have key := for_fold (f := chg_quick_begins_l3 k y14 (l.map fun (a : Nat) => (a : Int))) l (fun s j => (s, j)) (fun s _ a => imax s (E a)) (fun _ _ => True) (fun s => some s)
  (fun n s j h _ => ⟨by
   have hm : j < (l.map fun (a : Nat) => (a : Int)).length := by simpa using h
   have ha := hl l[j] (List.getElem_mem h);have hlt : (j : Int) < ((l.map fun (a : Nat) => (a : Int)).length : Int) := by omega
   simp only [chg_quick_begins_l3, hlt, if_true, geti_W hm, bs, List.getElem_map];rw [chk_ok (by omega), bs, hE.get (by omega) (by omega), bs, ck_ok (by omega) (by omega), bs];simp, trivial⟩)
  (fun n s _ => by simp [chg_quick_begins_l3]) (n := k) (s0 := m) (by omega) trivial
 rw [key.1]
 have : ∀ (l : List Nat) (j : Nat) (m : Int), foldI (fun (s : Int) _ a => imax s (E a)) j l m = l.foldl (fun m a => imax m (E a)) m := by
  intro l
  induction l with
  | nil => intro j m; rfl
  | cons a l ih => intro j m; simp only [foldI, List.foldl_cons]; exact ih _ _
 rw [this]

theorem begins1_eq {k : Nat} (hk : 50 ≤ k) {q : dQuick} (h3 : q.1.2.1.length ≤ 3) : W (chg_quick_begins_l1 k q k ([0, 0, 0], 0)) fun r => r.length = 3 ∧ ∀ i, i < q.1.2.1.length → r[i]? = some (F0 q.1 i) := by
 refine W.loop (f := chg_quick_begins_l1 k q) (fun m y => ∃ j : Nat, y.2 = (j : Int) ∧ j ≤ q.1.2.1.length ∧ m = q.1.2.1.length - j ∧ y.1.length = 3 ∧ ∀ i, i < j → y.1[i]? = some (F0 q.1 i)) ?_ q.1.2.1.length k ([0, 0, 0], 0) (by omega) ⟨0, rfl, by omega, by omega, rfl, fun i hi => by omega⟩;rintro fuel m ⟨l, y⟩ ⟨j, hj, hle, hm, hl, hv⟩ ih;simp only at hj hl hv;subst hj;unfold chg_quick_begins_l1;dsimp only;refine W.ite (fun hlt => ?_) (fun hge => W.ret ⟨hl, fun i hi => hv i (by omega)⟩);have hlt' : j < q.1.2.1.length := by omega
 rw [geti_W hlt', bs, chk_ok (by omega), bs, ck_ok (by omega) (by omega), bs];refine ih (m - 1) (_, (j : Int) + 1) (by omega) ⟨j + 1, by show (j : Int) + 1 = ((j + 1 : Nat) : Int); omega, by omega, by omega, by simpa using hl, fun i hi => ?_⟩;simp only [Int.toNat_natCast, List.getElem?_set];by_cases hij : j = i
 ·subst hij;rw [if_pos rfl, if_pos (by omega)];simp [F0, drs, List.getElem?_eq_getElem hlt']
 ·rw [if_neg hij]; exact hv i (by omega)

theorem befL_lt {c : dChange} {ts : List (Bool × Int)} {b : Nat} : ∀ a ∈ befL c ts b, a < ts.length := fun a ha => by
 unfold befL at ha
 simpa using (List.mem_filter.1 ha).1
theorem befL_len {c : dChange} {ts : List (Bool × Int)} {b : Nat} : (befL c ts b).length ≤ ts.length := by
 unfold befL;exact Nat.le_trans (List.length_filter_le _ _) (by simp)

theorem upd_F {D : Nat} {r : List Int} {F : Nat → Int} (hl : r.length = 3) (hv : ∀ i, i < D → r[i]? = some (F i)) {d : Nat} {v : Int} (hd : d < 3) : (r.set d v).length = 3 ∧ ∀ i, i < D → (r.set d v)[i]? = some (upd F d v i) := by
 refine ⟨by rw [List.length_set]; exact hl, fun i hi => ?_⟩;rw [List.getElem?_set];unfold upd;by_cases hij : d = i
 ·subst hij; rw [if_pos rfl, if_pos rfl, if_pos (by omega)]
 ·rw [if_neg hij, if_neg (Ne.symm hij)]; exact hv i hi

theorem begins2_eq {k : Nat} (hk : 50 ≤ k) {n : Int} {c : dChange} {mv : List Bool} {q : dQuick} (h : QV n c mv q) {p : List dStep} (hp : p.length ≤ 30) (hs : ∀ s ∈ p, StepOk c (tsC c mv) s) {l4 : List Int}
 (hl4 : l4.length = 3 ∧ ∀ i, i < c.2.1.length → l4[i]? = some (F0 c i)) : W (chg_quick_begins_l2 k q p k ([], [0, 0, 0, 0], l4, 0)) fun r => r.1 = bgo c (tsC c mv) E0 (F0 c) p ∧ Vals r.2 (bge c (tsC c mv) E0 (F0 c) p) 4 := by
 have ht := h.t4;have hdl := h.vc.dl
 refine W.loop (f := chg_quick_begins_l2 k q p) (fun m y => ∃ (j : Nat) (E F : Nat → Int), y.2.2.2 = (j : Int) ∧ j ≤ p.length ∧ m = p.length - j ∧ y.1.length = j ∧ Vals y.2.1 E 4 ∧ (y.2.2.1.length = 3 ∧ ∀ i, i < c.2.1.length → y.2.2.1[i]? = some (F i)) ∧
  Bnd E (9 + 4 * j) ∧ Bnd F (9 + 4 * j) ∧ bgo c (tsC c mv) E0 (F0 c) p = y.1 ++ bgo c (tsC c mv) E F (p.drop j) ∧ bge c (tsC c mv) E0 (F0 c) p = bge c (tsC c mv) E F (p.drop j)) ?_ p.length k _ (by omega)
  ⟨0, E0, F0 c, rfl, by omega, by omega, rfl, ⟨rfl, fun i hi => by
   match i, hi with
   | 0, _ => rfl
   | 1, _ => rfl
   | 2, _ => rfl
   | 3, _ => rfl⟩, hl4, fun i => by simp [E0], by simpa using F0_bnd h.vc, by simp, by simp⟩
 rintro fuel m ⟨out, el, fl, y⟩ ⟨j, E, F, hj, hle, hm, ho, hE, hF, bE, bF, e1, e2⟩ ih;simp only at hj ho hE hF e1 e2;subst hj;unfold chg_quick_begins_l2;dsimp only
 refine W.ite (fun hlt => ?_) (fun hge => W.ret (by
  have : j = p.length := by omega
  subst this;rw [List.drop_length] at e1 e2;rw [e1, e2];exact ⟨by simp [bgo], hE⟩))
 have hlt' : j < p.length := by omega
 have hdr : p.drop j = p[j] :: p.drop (j + 1) := List.drop_eq_getElem_cons hlt';have hS := hs p[j] (List.getElem_mem hlt');rw [hdr] at e1 e2;rw [geti_W hlt', bs];generalize p[j] = s at *;obtain ⟨h1, h2, h3, h4⟩ := hS;have hS : StepOk c (tsC c mv) s := ⟨h1, h2, h3, h4⟩;have hb := barsB_rng h.vc (tsk_mem hS);have hat := bgAt_bnd (c := c) (ts := tsC c mv) (s := s) bE bF;obtain ⟨mk, em, hmk, hmb, hbl⟩ := h.mask (b := s.1.toNat) (by omega);have hF' : geti fl s.2 = some (F s.2.toNat) := geti_q h3 (hF.2 _ (by omega));have hcq : (((q.1.1, q.1.2.1, q.1.2.2.1, q.1.2.2.2), tsC c mv, q.2.2) : dQuick) = q := by rw [← h.tasks]
 rw [chk_ok (by omega), bs, hF', bs, chk_ok (by omega), bs, geti_q h1 em, bs, set_list_ok hk hmk, bs, hbl];rw [begins3_eq hk (y14 := (out, el, fl, (j : Int))) hE (fun a ha => by have := befL_lt a ha; omega) (by have := befL_len (c := c) (ts := tsC c mv) (b := s.1.toNat); omega), bs, h.tasks, geti_tsk hS, bs, hcq, bars_eq h (tsk_mem hS), bs];have hen : bgAt c (tsC c mv) E F s + barsB c (tsk (tsC c mv) s.1) = bgEnd c (tsC c mv) E F s := rfl;show W ((((ck (bgAt c (tsC c mv) E F s + barsB c (tsk (tsC c mv) s.1))).bind _ : Option _).bind _)) _;rw [ck_ok (by omega) (by omega), bs, chk_ok (okLen_of (by simp only [List.length_cons, List.length_nil]; omega)), bs, chk_ok (by omega), bs, bs, bs, ck_ok (by omega) (by omega), bs, hen];have bV : 0 ≤ bgEnd c (tsC c mv) E F s ∧ bgEnd c (tsC c mv) E F s ≤ 9 + 4 * (j + 1 : Nat) := by unfold bgEnd; omega
 refine ih (m - 1) (_, _, _, (j : Int) + 1) (by omega) ⟨j + 1, upd E s.1.toNat (bgEnd c (tsC c mv) E F s), upd F s.2.toNat (bgEnd c (tsC c mv) E F s), by show (j : Int) + 1 = ((j + 1 : Nat) : Int); omega, by omega, by omega, by simp [ho],
  hE.set, upd_F hF.1 hF.2 (by omega), (bE.mono (by omega)).upd bV, (bF.mono (by omega)).upd bV, ?_, e2⟩
 simp only;rw [e1, bgo, List.append_assoc];rfl

theorem begins_eq {k : Nat} (hk : 50 ≤ k) {n : Int} {c : dChange} {mv : List Bool} {q : dQuick} (h : QV n c mv q) {p : List dStep} (hp : p.length ≤ 30) (hs : ∀ s ∈ p, StepOk c (tsC c mv) s) :
 ∃ el, chg_quick_begins k q p = some (bgo c (tsC c mv) E0 (F0 c) p, el) ∧ Vals el (bge c (tsC c mv) E0 (F0 c) p) 4 := by
 obtain ⟨l4, e1, h1⟩ := begins1_eq hk (q := q) (by rw [h.eq]; exact h.vc.dl.2);rw [h.eq] at h1;obtain ⟨⟨a, b⟩, e2, h2, h3⟩ := begins2_eq hk h hp hs h1;simp only at h2 h3;subst h2;refine ⟨b, ?_, h3⟩;unfold chg_quick_begins;rw [e1, bs, e2, bs]

/-- A plan without an error. -/
theorem cpGo_ok {c : dChange} {ts : List (Bool × Int)} : ∀ {p : List dStep} {done : List Int}, cpGo c ts done p = 0 → (∀ s ∈ p, StepOk c ts s ∧ canB c s.2 (tsk ts s.1) = true ∧ s.1 ∉ done) ∧ (p.map (·.1)).Nodup
 | [], _, _ => by simp
 | s :: p, done, h => by
  rw [cpGo] at h
  by_cases h0 : stepErr c ts done s = 0
  ·
   rw [if_neg (by simp [h0])] at h
   obtain ⟨h1, h2⟩ := cpGo_ok h
   unfold stepErr at h0
   by_cases a1 : 0 ≤ s.1 ∧ s.1 < ts.length
   ·
    rw [if_neg (by simpa using a1)] at h0
    by_cases a2 : s.1 ∈ done
    ·
     rw [if_pos a2] at h0; cases h0
    ·
     rw [if_neg a2] at h0
     by_cases a3 : 0 ≤ s.2 ∧ s.2 < c.2.1.length
     ·
      rw [if_neg (by simpa using a3)] at h0
      by_cases a4 : canB c s.2 (ts[s.1.toNat]?.getD (false, 0)) = false
      ·
       rw [if_pos a4] at h0; cases h0
      ·
       refine ⟨fun x hx => ?_, ?_⟩
       ·
        rcases List.mem_cons.1 hx with rfl | hx
        ·
         exact ⟨⟨a1.1, a1.2, a3.1, a3.2⟩, by simpa [tsk] using a4, a2⟩
        ·
         obtain ⟨b1, b2, b3⟩ := h1 x hx
         exact ⟨b1, b2, fun hd => b3 (List.mem_append_left _ hd)⟩
       ·
        simp only [List.map_cons, List.nodup_cons, List.mem_map]
        refine ⟨?_, h2⟩
        rintro ⟨x, hx, e⟩
        exact (h1 x hx).2.2 (by rw [e]; simp)
     ·
      rw [if_pos (by simpa using a3)] at h0; cases h0
   ·
    rw [if_pos (by simpa using a1)] at h0; cases h0
  ·
   rw [if_pos h0] at h
   exact absurd h h0

theorem cpS_ok {c : dChange} {ts : List (Bool × Int)} {p : List dStep} (h : cpS c ts p = 0) : p.length = ts.length ∧ cpGo c ts [] p = 0 := by
 unfold cpS at h;by_cases h1 : p.length < ts.length
 ·rw [if_pos h1] at h; cases h
 ·rw [if_neg h1] at h;by_cases h2 : ts.length < p.length
  ·rw [if_pos h2] at h; cases h
  ·rw [if_neg h2] at h;exact ⟨by omega, h⟩

/-- The first step that is late: its number, and the Due. -/
def lateI (c : dChange) (ts : List (Bool × Int)) (E : Nat → Int) (but : Int → Bool) (s : dStep) : Bool :=
 (tsk ts s.1).1 && decide (0 < (thg c (tsk ts s.1).2).2.2.2.2) && decide ((thg c (tsk ts s.1).2).2.2.2.2 < E s.1.toNat) && !but (tsk ts s.1).2
def lateS (c : dChange) (ts : List (Bool × Int)) (E : Nat → Int) (but : Int → Bool) (p : List dStep) : Int × Int := match p.findIdx? (lateI c ts E but) with
 | some i => ((i : Int), (thg c (tsk ts (p[i]?.getD (0, 0)).1).2).2.2.2.2)
 | none => (-1, 0)

theorem late_eq {k : Nat} (hk : 50 ≤ k) {n : Int} {c : dChange} {mv : List Bool} {q : dQuick} (h : QV n c mv q) {p : List dStep} (hp : p.length ≤ 30) (hs : ∀ s ∈ p, StepOk c (tsC c mv) s) {but : Int} (hbut : Mask but) :
 chg_quick_late k q p but = some (lateS c (tsC c mv) (bge c (tsC c mv) E0 (F0 c) p) (fun x => decide (Has but x.toNat)) p) := by
 have ht := h.t4;obtain ⟨w1, w2, w3, _⟩ := h.vc.wl;obtain ⟨el, e1, hE⟩ := begins_eq hk h hp hs;unfold chg_quick_late;have hcq : (((q.1.1, q.1.2.1, q.1.2.2.1, q.1.2.2.2), q.2.1, q.2.2) : dQuick) = q := rfl;rw [hcq, e1, bs];generalize bge c (tsC c mv) E0 (F0 c) p = E at *
 have key := for_foldE (f := chg_quick_late_l1 k q p but (bgo c (tsC c mv) E0 (F0 c) p, el)) p (fun (_ : Unit) j => j) (fun _ j s => if lateI c (tsC c mv) E (fun x => decide (Has but x.toNat)) s = true then Except.error ((j : Int), (thg c (tsk (tsC c mv) s.1).2).2.2.2.2) else .ok ()) (fun _ _ => True) (fun r => some r)
  (fun m s j hj _ => by
   have hlt : (j : Int) < (p.length : Int) := by omega
   have hS := hs p[j] (List.getElem_mem hj);simp only [chg_quick_late_l1, hlt, if_true, geti_W hj, bs];generalize p[j] = st at *;obtain ⟨i, hi, ei⟩ := tsC_rng _ (tsk_mem hS);have h1 := hS.1;have h2 := hS.2.1;have hck : ck ((j : Int) + 1) = some ((j : Int) + 1) := ck_ok (by omega) (by omega);rw [h.tasks, geti_tsk hS];simp only [bs, work_thing];rw [h.eq, geti_thg (by omega) (by omega), bs];simp only [hE.get h1 (show st.1 < ((4 : Nat) : Int) by omega), bs];rw [chk_ok (by omega)];simp only [bs]
   have hhas : chg_set_has k but (tsk (tsC c mv) st.1).2 = some (decide (Has but (tsk (tsC c mv) st.1).2.toNat)) := by
    rw [ei, has_ok hbut (by omega)]; rfl
   rw [hhas];simp only [bs];generalize he : lateI c (tsC c mv) E (fun x => decide (Has but x.toNat)) st = lt;unfold lateI at he;simp only [] at he;generalize (tsk (tsC c mv) st.1).1 = b1 at he ⊢;generalize (thg c (tsk (tsC c mv) st.1).2).2.2.2.2 = due at he ⊢;generalize decide (Has but (tsk (tsC c mv) st.1).2.toNat) = b2 at he ⊢;subst he;cases b1
   ·simp [hck]
   ·by_cases d1 : 0 < due
    ·by_cases d2 : due < E st.1.toNat
     ·cases b2 <;> simp [d1, d2, hck]
     ·simp [d1, d2, hck]
    ·simp [d1, hck])
  (fun m s _ => by simp [chg_quick_late_l1]) (n := k) (s0 := ()) (by omega) trivial
 rw [show chg_quick_late_l1 k q p but (bgo c (tsC c mv) E0 (F0 c) p, el) k 0 = _ from key]
 have hf : ∀ (f : dStep → Bool) (g : dStep → Int) (l : List dStep) (j : Nat), foldE (fun (_ : Unit) (j : Nat) s => if f s = true then Except.error ((j : Int), g s) else .ok ()) j l () = match l.findIdx? f with | some i => .error (((i + j : Nat) : Int), g (l[i]?.getD (0, 0))) | none => .ok () := by
  intro f g l
  induction l with
  | nil => intro j; simp [foldE]
  | cons x l ih =>
   intro j;rw [foldE, List.findIdx?_cons];by_cases hx : f x = true
   ·simp [hx]
   ·simp only [hx, if_false, Bool.false_eq_true];rw [ih (j + 1)];cases l.findIdx? f with
    | none => rfl
    | some i => simp only [Option.map_some, List.getElem?_cons_succ]; congr 3; omega
 rw [hf];unfold lateS;cases p.findIdx? _ with
 | none => simp only [bE_k]
 | some i => simp only [bE_e, Nat.add_zero]

end Go.Proofs.Ytfhdclhbdmhnmaa

/- Plain law, part 14: all plans, in order; the plan with the fewest bars. -/
namespace Go.Proofs.Ytfhdclhbdmhnmaa
open K Go Go.Proofs

/-- Can a task be begun, where these are done? -/
def mayB (c : dChange) (ts : List (Bool × Int)) (done : List Int) (t : Nat) : Bool := decide ((t : Int) ∉ done) && (befL c ts t).all fun a => decide ((a : Int) ∈ done)
/-- Who can do a task, from some dresser on. -/
def whoL (c : dChange) (ts : List (Bool × Int)) (t d : Nat) : List dStep := ((List.range' d (c.2.1.length - d)).filter fun (d : Nat) => canB c (d : Int) (tsk ts (t : Int))).map fun (d : Nat) => ((t : Int), (d : Int))
/-- The steps that can be next, from some task on. -/
def extL (c : dChange) (ts : List (Bool × Int)) (done : List Int) (t : Nat) : List dStep := (List.range' t (ts.length - t)).flatMap fun t => if mayB c ts done t = true then whoL c ts t 0 else []
/-- All plans that go on from some steps. -/
def gen (c : dChange) (ts : List (Bool × Int)) : Nat → List Int → List dStep → List (List dStep)
 | 0, _, p => [p]
 | r + 1, done, p => (extL c ts done 0).flatMap fun s => gen c ts r (done ++ [s.1]) (p ++ [s])

section
variable {σ : Type}
/-- Handing over one after the other, as long as more are wanted. -/
def runY (Y : σ → List dStep → Option (σ × Bool)) : σ → List (List dStep) → Option (σ × Bool)
 | s, [] => some (s, true)
 | s, p :: l => (Y s p).bind fun r => if r.2 = true then runY Y r.1 l else some r
theorem runY_append {Y : σ → List dStep → Option (σ × Bool)} : ∀ {l m : List (List dStep)} {s : σ}, runY Y s (l ++ m) = (runY Y s l).bind fun r => if r.2 = true then runY Y r.1 m else some r
 | [], m, s => by simp [runY]
 | p :: l, m, s => by
  simp only [List.cons_append, runY]
  cases hY : Y s p with
  | none => simp
  | some r =>
   simp only [Option.bind_some]
   by_cases hr : r.2 = true
   ·
    rw [if_pos hr, if_pos hr]; exact runY_append
   ·
    rw [if_neg hr, if_neg hr]; simp [hr]

def resY (p : List dStep) (r : σ × Bool) : Except (Bool × List dStep × σ) (List dStep × σ) := if r.2 = true then .ok (p, r.1) else .error (false, p, r.1)

theorem range'_cons {a n : Nat} (h : a < n) : List.range' a (n - a) = a :: List.range' (a + 1) (n - (a + 1)) := by
 have : n - a = (n - (a + 1)) + 1 := by omega
 rw [this, List.range'_succ]

theorem plans2_eq {k : Nat} (hk : 50 ≤ k) {n : Int} {c : dChange} {mv : List Bool} {q : dQuick} (h : QV n c mv q) {Y : σ → List dStep → Option (σ × Bool)} {self : Int → (List dStep) → σ → Option (Bool × (List dStep) × σ)}
 {mask : Int} {done : List Int} {p : List dStep} {r t : Nat} {y6 : (List dStep) × Int × σ} (hp : p.length ≤ 8) (ht : t < (tsC c mv).length) (hy6 : y6.2.1 = (t : Int))
 (hself : ∀ (m' : Int) (d : Nat) (s : σ), (∃ r24, chg_of k [(t : Int)] = some r24 ∧ m' = ior .u8 mask r24) → d < c.2.1.length → self m' (p ++ [((t : Int), (d : Int))]) s = (runY Y s (gen c (tsC c mv) r (done ++ [(t : Int)]) (p ++ [((t : Int), (d : Int))]))).bind fun r => some (r.2, p ++ [((t : Int), (d : Int))], r.1)) :
 ∀ (m d fuel : Nat) (s : σ), c.2.1.length - d = m → d ≤ c.2.1.length → m < fuel → chg_quick_plans_1_1_l2 k mask q self y6 (tsk (tsC c mv) (t : Int)) fuel (p, (d : Int), s) =
  (runY Y s ((whoL c (tsC c mv) t d).flatMap fun s => gen c (tsC c mv) r (done ++ [s.1]) (p ++ [s]))).bind fun r => some (resY p r) := by
 have hdl := h.vc.dl;have ht4 := h.t4;intro m
 induction m with
 | zero =>
  intro d fuel s h1 h2 h3;obtain ⟨fuel, rfl⟩ : ∃ f, fuel = f + 1 := ⟨fuel - 1, by omega⟩;have : d = c.2.1.length := by omega
  subst this;rw [chg_quick_plans_1_1_l2, if_neg (by rw [h.eq]; simp)];simp [whoL, runY, resY]
 | succ m ih =>
  intro d fuel s h1 h2 h3;obtain ⟨fuel, rfl⟩ : ∃ f, fuel = f + 1 := ⟨fuel - 1, by omega⟩;have hd : d < c.2.1.length := by omega
  have hS : StepOk c (tsC c mv) ((t : Int), (d : Int)) := ⟨by simp, by simp only; omega, by simp, by simp only; omega⟩;have hcq : (((q.1.1, q.1.2.1, q.1.2.2.1, q.1.2.2.2), q.2.1, q.2.2) : dQuick) = q := rfl;have hck : ck ((d : Int) + 1) = some ((d : Int) + 1) := ck_ok (by omega) (by omega);have ih' := fun s => ih (d + 1) fuel s (by omega) (by omega) (by omega);have ed : ((d + 1 : Nat) : Int) = (d : Int) + 1 := by omega
  rw [ed] at ih';rw [chg_quick_plans_1_1_l2];dsimp only;rw [if_pos (by rw [h.eq]; omega), hcq, can_eq hk h ⟨by omega, by omega⟩ (tsk_mem hS), bs]
  have hw : whoL c (tsC c mv) t d = (if canB c (d : Int) (tsk (tsC c mv) (t : Int)) = true then [((t : Int), (d : Int))] else []) ++ whoL c (tsC c mv) t (d + 1) := by
   unfold whoL;rw [range'_cons hd, List.filter_cons];split <;> simp
  rw [hw];by_cases hc : canB c (d : Int) (tsk (tsC c mv) (t : Int)) = true
  ·rw [if_neg (by simp [hc]), if_pos hc];simp only [hy6];obtain ⟨r24, e24, m24, d24⟩ := of_set_ok (k := k) hk (l := [(t : Int)]) (by simp) (fun x hx => by simp only [List.mem_singleton] at hx; subst hx; omega);rw [chk_ok (okLen_of (by simp only [List.length_cons, List.length_nil]; omega)), bs, e24, bs, hself _ d s ⟨r24, e24, rfl⟩ hd];simp only [List.cons_append, List.nil_append, List.flatMap_cons];rw [runY_append];cases hR : runY Y s (gen c (tsC c mv) r (done ++ [(t : Int)]) (p ++ [((t : Int), (d : Int))])) with
   | none => simp [K.bE]
   | some x =>
    obtain ⟨s', b⟩ := x;simp only [bs];have hl : ((p ++ [((t : Int), (d : Int))]).length : Int) - 1 = (p.length : Int) := by simp
    rw [hl, ck_ok (by omega) (by omega), bs, chk_ok ⟨by omega, by simp; omega⟩, bs];have htk : List.take (Int.toNat (p.length : Int)) (p ++ [((t : Int), (d : Int))]) = p := by simp
    rw [htk];cases b with
    | false => simp only [Bool.false_eq_true, not_false_eq_true, if_true, if_false, bE_e, bs, resY]
    | true =>
     simp only [not_true_eq_false, if_false, if_true, bE_k, hck, bs];exact ih' s'
  ·rw [if_pos (by simpa using hc), if_neg hc];simp only [bE_k, hck, bs, List.nil_append];exact ih' s

theorem plans1_eq {k : Nat} (hk : 50 ≤ k) {n : Int} {c : dChange} {mv : List Bool} {q : dQuick} (h : QV n c mv q) {Y : σ → List dStep → Option (σ × Bool)} {self : Int → (List dStep) → σ → Option (Bool × (List dStep) × σ)}
 {mask : Int} {done : List Int} {p : List dStep} {r : Nat} (hp : p.length ≤ 8) (hM : Mask mask) (hH : ∀ a : Nat, Has mask a ↔ (a : Int) ∈ done)
 (hself : ∀ (m' : Int) (t d : Nat) (s : σ), (∃ r24, chg_of k [(t : Int)] = some r24 ∧ m' = ior .u8 mask r24) → t < (tsC c mv).length → d < c.2.1.length → self m' (p ++ [((t : Int), (d : Int))]) s = (runY Y s (gen c (tsC c mv) r (done ++ [(t : Int)]) (p ++ [((t : Int), (d : Int))]))).bind fun r => some (r.2, p ++ [((t : Int), (d : Int))], r.1)) :
 ∀ (m t fuel : Nat) (s : σ), (tsC c mv).length - t = m → t ≤ (tsC c mv).length → m < fuel → chg_quick_plans_1_1_l1 k mask q self fuel (p, (t : Int), s) =
  (runY Y s ((extL c (tsC c mv) done t).flatMap fun s => gen c (tsC c mv) r (done ++ [s.1]) (p ++ [s]))).bind fun r => some (resY p r) := by
 have hdl := h.vc.dl;have ht4 := h.t4;intro m
 induction m with
 | zero =>
  intro t fuel s h1 h2 h3;obtain ⟨fuel, rfl⟩ : ∃ f, fuel = f + 1 := ⟨fuel - 1, by omega⟩;have : t = (tsC c mv).length := by omega
  subst this;rw [chg_quick_plans_1_1_l1, if_neg (by rw [h.tasks]; simp)];simp [extL, runY, resY]
 | succ m ih =>
  intro t fuel s h1 h2 h3;obtain ⟨fuel, rfl⟩ : ∃ f, fuel = f + 1 := ⟨fuel - 1, by omega⟩;have ht : t < (tsC c mv).length := by omega
  have hck : ck ((t : Int) + 1) = some ((t : Int) + 1) := ck_ok (by omega) (by omega);have ih' := fun s => ih (t + 1) fuel s (by omega) (by omega) (by omega);have ed : ((t + 1 : Nat) : Int) = (t : Int) + 1 := by omega
  rw [ed] at ih';rw [chg_quick_plans_1_1_l1];dsimp only;have hgt : (tsC c mv)[t] = tsk (tsC c mv) (t : Int) := by simp [tsk, List.getElem?_eq_getElem ht]
  rw [h.tasks, if_pos (by omega), geti_W ht, bs, has_ok hM (by omega), bs, hgt];obtain ⟨mk, em, hmk, hmb, _⟩ := h.mask (b := t) (by omega);rw [chk_ok (by omega), bs, geti_q (by omega) (by simpa using em), bs]
  have hcond : (if decide (Has mask t) = true then (some (true, s)) else (some (!decide ((iandn .u8 mk mask) = (0 : Int)), s))) = some (!mayB c (tsC c mv) done t, s) := by
   unfold mayB;by_cases h1 : (t : Int) ∈ done
   ·rw [decide_eq_true ((hH t).2 h1)]; simp [h1]
   ·rw [decide_eq_false (fun h => h1 ((hH t).1 h))]
    have e : decide ((iandn .u8 mk mask) = (0 : Int)) = (befL c (tsC c mv) t).all fun a => decide ((a : Int) ∈ done) := by
     rw [Bool.eq_iff_iff, decide_eq_true_eq, iandn_ok hmk hM, List.all_eq_true];constructor
     ·intro hh a ha; exact decide_eq_true ((hH a).1 (hh a ((hmb a).2 (mem_befL.1 ha))))
     ·intro hh a ha; exact (hH a).2 (of_decide_eq_true (hh a (mem_befL.2 ((hmb a).1 ha))))
    rw [e];simp [h1]
  rw [hcond, bs]
  have hw : extL c (tsC c mv) done t = (if mayB c (tsC c mv) done t = true then whoL c (tsC c mv) t 0 else []) ++ extL c (tsC c mv) done (t + 1) := by
   unfold extL;rw [range'_cons ht, List.flatMap_cons]
  rw [hw, List.flatMap_append, runY_append];by_cases hc : mayB c (tsC c mv) done t = true
  ·have := plans2_eq hk h (Y := Y) (self := self) (mask := mask) (done := done) (p := p) (r := r) (t := t) (y6 := (p, (t : Int), s)) hp ht rfl (fun m' d s hm hd => hself m' t d s hm ht hd) c.2.1.length 0 k s (by omega) (by omega) (by omega);simp only [hc, Bool.not_true, Bool.false_eq_true, if_false, if_true];rw [show ((0 : Nat) : Int) = 0 from rfl] at this;rw [this];cases hR : runY Y s ((whoL c (tsC c mv) t 0).flatMap fun s => gen c (tsC c mv) r (done ++ [s.1]) (p ++ [s])) with
   | none => simp [K.bE]
   | some x =>
    obtain ⟨s', b⟩ := x;cases b with
    | false => simp only [bs, resY, Bool.false_eq_true, if_false, bE_e]
    | true =>
     simp only [bs, resY, if_true, bE_k, hck];exact ih' s'
  ·simp only [hc];have hc' : mayB c (tsC c mv) done t = false := by simpa using hc
   simp only [Bool.not_false, if_true, bE_k, hck, bs];exact ih' s

theorem plans_eq {k : Nat} (hk : 50 ≤ k) {n : Int} {c : dChange} {mv : List Bool} {q : dQuick} (h : QV n c mv q) {Y : σ → List dStep → Option (σ × Bool)} : ∀ (r fuel : Nat) {mask : Int} {done : List Int} {p : List dStep} {s : σ}, p.length + r = (tsC c mv).length → r < fuel → Mask mask → (∀ a : Nat, Has mask a ↔ (a : Int) ∈ done) →
 chg_quick_plans_1_1 k Y q fuel mask p s = (runY Y s (gen c (tsC c mv) r done p)).bind fun r => some (r.2, p, r.1) := by
 have ht4 := h.t4;intro r
 induction r with
 | zero =>
  intro fuel mask done p s h1 h2 hM hH;obtain ⟨fuel, rfl⟩ : ∃ f, fuel = f + 1 := ⟨fuel - 1, by omega⟩;rw [chg_quick_plans_1_1, if_pos (by rw [h.tasks]; omega)];unfold slc_Clone_Step;rw [chk_ok (okLen_of (by omega)), bs, bs];simp only [gen, runY];cases Y s p with
  | none => simp
  | some x =>
   obtain ⟨x1, x2⟩ := x;cases x2 <;> simp
 | succ r ih =>
  intro fuel mask done p s h1 h2 hM hH;obtain ⟨fuel, rfl⟩ : ∃ f, fuel = f + 1 := ⟨fuel - 1, by omega⟩;rw [chg_quick_plans_1_1, if_neg (by rw [h.tasks]; omega)]
  have := plans1_eq hk h (Y := Y) (self := chg_quick_plans_1_1 k Y q fuel) (mask := mask) (done := done) (p := p) (r := r) (by omega) hM hH (fun m' t d s hm ht hd => by
   obtain ⟨r24, e24, rfl⟩ := hm;obtain ⟨r24', e24', m24, d24⟩ := of_set_ok (k := k) hk (l := [(t : Int)]) (by simp) (fun x hx => by simp only [List.mem_singleton] at hx; subst hx; omega);have : r24' = r24 := Option.some.inj (e24'.symm.trans e24);subst this;obtain ⟨m5, d5⟩ := ior_ok hM m24;exact ih fuel (by simp; omega) (by omega) m5 (fun a => by rw [d5, hH, d24, List.mem_append])) (tsC c mv).length 0 k s (by omega) (by omega) (by omega)
  rw [show ((0 : Nat) : Int) = 0 from rfl] at this;rw [this];simp only [gen];cases hR : runY Y s ((extL c (tsC c mv) done 0).flatMap fun s => gen c (tsC c mv) r (done ++ [s.1]) (p ++ [s])) with
  | none => simp [K.bE]
  | some x =>
   obtain ⟨s', b⟩ := x;cases b with
   | false => simp only [bs, resY, Bool.false_eq_true, if_false, bE_e]
   | true => simp only [bs, resY, if_true, bE_k]
end

/-- All plans. -/
def plansS (c : dChange) (ts : List (Bool × Int)) : List (List dStep) := gen c ts ts.length [] []

theorem mem_whoL {c : dChange} {ts : List (Bool × Int)} {t : Nat} {s : dStep} : s ∈ whoL c ts t 0 ↔ s.1 = (t : Int) ∧ 0 ≤ s.2 ∧ s.2 < c.2.1.length ∧ canB c s.2 (tsk ts s.1) = true := by
 unfold whoL;simp only [List.mem_map, List.mem_filter, List.mem_range'_1];constructor
 ·rintro ⟨d, ⟨h1, h2⟩, rfl⟩;exact ⟨rfl, by simp, by simp only; omega, h2⟩
 ·rintro ⟨h1, h2, h3, h4⟩;obtain ⟨a, b⟩ := s;simp only at h1 h2 h3 h4;subst h1;have e : ((b.toNat : Nat) : Int) = b := by omega
  exact ⟨b.toNat, ⟨by omega, by rw [e]; exact h4⟩, by rw [e]⟩
theorem mayB_iff {c : dChange} {ts : List (Bool × Int)} {done : List Int} {t : Nat} : mayB c ts done t = true ↔ (t : Int) ∉ done ∧ ∀ a ∈ befL c ts t, (a : Int) ∈ done := by
 unfold mayB;simp only [Bool.and_eq_true, decide_eq_true_eq, List.all_eq_true]
/-- The steps that can be next are those without an error. -/
theorem mem_extL {c : dChange} {ts : List (Bool × Int)} {done : List Int} {s : dStep} : s ∈ extL c ts done 0 ↔ stepErr c ts done s = 0 := by
 unfold extL stepErr;simp only [List.mem_flatMap, List.mem_range'_1];constructor
 ·rintro ⟨t, h1, h2⟩;by_cases hm : mayB c ts done t = true
  ·rw [if_pos hm] at h2;obtain ⟨e1, e2, e3, e4⟩ := mem_whoL.1 h2;obtain ⟨m1, m2⟩ := mayB_iff.1 hm;rw [if_neg (by omega), if_neg (by rw [e1]; exact m1), if_neg (by omega), if_neg (by show ¬ canB c s.2 (tsk ts s.1) = false; rw [e4]; decide), if_neg (by rw [e1]; simpa using m2)]
  ·rw [if_neg hm] at h2; cases h2
 ·intro h;by_cases a1 : 0 ≤ s.1 ∧ s.1 < ts.length
  ·rw [if_neg (by simpa using a1)] at h;by_cases a2 : s.1 ∈ done
   ·rw [if_pos a2] at h; cases h
   ·rw [if_neg a2] at h;by_cases a3 : 0 ≤ s.2 ∧ s.2 < c.2.1.length
    ·rw [if_neg (by simpa using a3)] at h;by_cases a4 : canB c s.2 (ts[s.1.toNat]?.getD (false, 0)) = false
     ·rw [if_pos a4] at h; cases h
     ·rw [if_neg a4] at h;by_cases a5 : ∀ a ∈ befL c ts s.1.toNat, (a : Int) ∈ done
      ·have e1 : ((s.1.toNat : Nat) : Int) = s.1 := by omega
       refine ⟨s.1.toNat, by omega, ?_⟩;rw [if_pos (mayB_iff.2 ⟨by rw [e1]; exact a2, a5⟩)];exact mem_whoL.2 ⟨e1.symm, a3.1, a3.2, by simpa [tsk] using a4⟩
      ·rw [if_pos a5] at h; cases h
    ·rw [if_pos (by simpa using a3)] at h; cases h
  ·rw [if_pos (by simpa using a1)] at h; cases h

theorem mem_gen {c : dChange} {ts : List (Bool × Int)} : ∀ {r : Nat} {done : List Int} {p x : List dStep}, x ∈ gen c ts r done p ↔ ∃ y, x = p ++ y ∧ y.length = r ∧ cpGo c ts done y = 0
 | 0, done, p, x => by
  simp only [gen, List.mem_singleton]
  constructor
  ·
   intro h; exact ⟨[], by simp [h], rfl, rfl⟩
  ·
   rintro ⟨y, rfl, h, _⟩
   rw [List.length_eq_zero_iff.1 h, List.append_nil]
 | r + 1, done, p, x => by
  simp only [gen, List.mem_flatMap]
  constructor
  ·
   rintro ⟨s, hs, hx⟩
   obtain ⟨y, rfl, h1, h2⟩ := mem_gen.1 hx
   refine ⟨s :: y, by simp, by simp [h1], ?_⟩
   rw [cpGo, if_neg (by simp [mem_extL.1 hs]), h2]
  ·
   rintro ⟨y, rfl, h1, h2⟩
   cases y with
   | nil => simp at h1
   | cons s y =>
    rw [cpGo] at h2
    by_cases h0 : stepErr c ts done s = 0
    ·
     rw [if_neg (by simp [h0])] at h2
     exact ⟨s, mem_extL.2 h0, mem_gen.2 ⟨y, by simp, by simpa using h1, h2⟩⟩
    ·
     rw [if_pos h0] at h2; exact absurd h2 h0
/-- **All plans are the lists of steps without an error.** -/
theorem mem_plansS {c : dChange} {ts : List (Bool × Int)} {p : List dStep} : p ∈ plansS c ts ↔ cpS c ts p = 0 := by
 unfold plansS;rw [mem_gen];constructor
 ·rintro ⟨y, rfl, h1, h2⟩;unfold cpS;rw [if_neg (by omega), if_neg (by omega), h2]
 ·intro h;obtain ⟨h1, h2⟩ := cpS_ok h;exact ⟨p, rfl, h1, h2⟩

end Go.Proofs.Ytfhdclhbdmhnmaa

/- Plain law: the bars of a plan. -/
namespace Go.Proofs.Ytfhdclhbdmhnmaa
open K Go Go.Proofs

end Go.Proofs.Ytfhdclhbdmhnmaa

/- Plain law, part 15: the order of plans; the bars; the first plan that keeps all. -/
namespace Go.Proofs.Ytfhdclhbdmhnmaa
open K Go Go.Proofs

/-- Does a plan keep all but some? -/
def keepsB (c : dChange) (ts : List (Bool × Int)) (but : Int → Bool) (p : List dStep) : Bool := decide ((lateS c ts (bge c ts E0 (F0 c) p) but p).1 < 0)

theorem kept_eq {k : Nat} (hk : 50 ≤ k) {n : Int} {c : dChange} {mv : List Bool} {q : dQuick} (h : QV n c mv q) {but : Int} (hbut : Mask but) :
 chg_quick_kept k q but = some (match (plansS c (tsC c mv)).find? (keepsB c (tsC c mv) fun x => decide (Has but x.toNat)) with | some p => (p, true) | none => ([], false)) := by
 have ht := h.t4;have hcq : (((q.1.1, q.1.2.1, q.1.2.2.1, q.1.2.2.2), q.2.1, q.2.2) : dQuick) = q := rfl;unfold chg_quick_kept chg_quick_plans_1;simp only [hcq];rw [plans_eq hk h (tsC c mv).length k (done := []) (by simp) (by omega) ⟨by decide, by decide⟩ (fun a => by simp [Has])]
 have key : ∀ l : List (List dStep), (∀ p ∈ l, cpS c (tsC c mv) p = 0) → runY (stopY (fun (y6 : Bool × (List dStep)) (p8 : (List dStep)) =>
  (chg_quick_late k q p8 but).bind fun r10 =>
  if r10.1 < (0 : Int) then (some ((true, p8), false)) else (some ((y6.1, y6.2), true)))) ((false, []), false) l =
  some (match l.find? (keepsB c (tsC c mv) fun x => decide (Has but x.toNat)) with | some p => (((true, p), true), false) | none => (((false, []), false), true)) := by
  intro l
  induction l with
  | nil => intro _; rfl
  | cons p l ih =>
   intro hp;have hcp := hp p (by simp);obtain ⟨h1, h2⟩ := cpS_ok hcp;have hs : ∀ s ∈ p, StepOk c (tsC c mv) s := fun s hs => ((cpGo_ok h2).1 s hs).1;have hl := late_eq hk h (p := p) (by omega) hs hbut;rw [runY, stopY];simp only [hl, bs];rw [List.find?_cons];unfold keepsB at ih ⊢;by_cases hlt : (lateS c (tsC c mv) (bge c (tsC c mv) E0 (F0 c) p) (fun x => decide (Has but x.toNat)) p).1 < 0
   ·simp only [hlt, if_true, bs, Bool.not_false, Bool.false_eq_true, if_false, decide_true]
   ·simp only [hlt, if_false, bs, Bool.not_true, if_true, decide_false];exact ih fun x hx => hp x (by simp [hx])
 have := key (plansS c (tsC c mv)) (fun p hp => mem_plansS.1 hp);unfold plansS at this ⊢;rw [this];cases (gen c (tsC c mv) (tsC c mv).length [] []).find? _ with
 | none => simp only [bs, Bool.false_eq_true, if_false]
 | some p => simp only [bs, if_true]

theorem Kept_eq {k : Nat} (hk : 50 ≤ k) {n : Int} {c : dChange} {mv : List Bool} {q : dQuick} (h : QV n c mv q) (hb : chg_begin k c = some (some q, 0)) :
 chg_Kept k c = some (match (plansS c (tsC c mv)).find? (keepsB c (tsC c mv) fun _ => false) with | some p => (p, 0) | none => ([], 11)) := by
 have hcq : (((q.1.1, q.1.2.1, q.1.2.2.1, q.1.2.2.2), q.2.1, q.2.2) : dQuick) = q := rfl;unfold chg_Kept;rw [hb, bs, co_some, if_neg (by simp), hcq, kept_eq hk h ⟨by decide, by decide⟩, bs];have : (fun x : Int => decide (Has 0 x.toNat)) = fun _ => false := funext fun x => by simp [Has]
 rw [this];cases (plansS c (tsC c mv)).find? (keepsB c (tsC c mv) fun _ => false) <;> simp

/-! The order of plans. -/
end Go.Proofs.Ytfhdclhbdmhnmaa

/- Plain law: the first step that is late, by its number. -/
namespace Go.Proofs.Ytfhdclhbdmhnmaa
open K Go Go.Proofs

abbrev noB : Int → Bool := fun _ => false

theorem lateS_i {c : dChange} {ts : List (Bool × Int)} {E : Nat → Int} {but : Int → Bool} {p : List dStep} : (lateS c ts E but p).1 = match p.findIdx? (lateI c ts E but) with | some i => (i : Int) | none => -1 := by
 unfold lateS;cases p.findIdx? _ <;> rfl

end Go.Proofs.Ytfhdclhbdmhnmaa

/- Plain law, part 17: the error of any change: lists, things, dressers. -/
namespace Go.Proofs.Ytfhdclhbdmhnmaa
open K Go Go.Proofs

/-- Is a number not above the one before? -/
def prB (pr : Option Int) (x : Int) : Bool := match pr with
 | some p => decide (x ≤ p)
 | none => false
/-- The error of a list of numbers of things, behind a number. -/
def lstE (n but : Int) : Option Int → List Int → Int
 | _, [] => 0
 | pr, x :: l => if ¬ (0 ≤ x ∧ x ≤ n - 1) ∨ x = but then 3 else if prB pr x = true then 5 else lstE n but (some x) l
/-- Good lists are those without an error. -/
theorem lstE_zero {n but : Int} : ∀ {l : List Int} {pr : Option Int}, lstE n but pr l = 0 ↔ (∀ x ∈ l, 0 ≤ x ∧ x < n ∧ x ≠ but) ∧ l.Pairwise (· < ·) ∧ ∀ p, pr = some p → ∀ x ∈ l, p < x
 | [], pr => by simp [lstE]
 | x :: l, pr => by
  rw [lstE]
  by_cases h1 : ¬ (0 ≤ x ∧ x ≤ n - 1) ∨ x = but
  ·
   rw [if_pos h1]
   refine ⟨fun h => (by cases h), fun h => ?_⟩
   have := h.1 x (by simp)
   omega
  ·
   rw [if_neg h1]
   have hx : 0 ≤ x ∧ x < n ∧ x ≠ but := by omega
   by_cases h2 : prB pr x = true
   ·
    rw [if_pos h2]
    refine ⟨fun h => (by cases h), fun h => ?_⟩
    cases pr with
    | none => cases h2
    | some p =>
     have := h.2.2 p rfl x (by simp)
     have h2 := of_decide_eq_true h2
     omega
   ·
    rw [if_neg h2, lstE_zero]
    have hp : ∀ p, pr = some p → p < x := fun p e => by
     subst e
     have h2 : ¬ decide (x ≤ p) = true := h2
     rw [decide_eq_true_eq] at h2
     omega
    constructor
    ·
     rintro ⟨a, b, d⟩
     refine ⟨fun y hy => ?_, List.pairwise_cons.2 ⟨fun y hy => d x rfl y hy, b⟩, fun p e y hy => ?_⟩
     ·
      rcases List.mem_cons.1 hy with rfl | hy
      ·
       exact hx
      ·
       exact a y hy
     ·
      have hpx := hp p e
      rcases List.mem_cons.1 hy with rfl | hy
      ·
       exact hpx
      ·
       have := d x rfl y hy; omega
    ·
     rintro ⟨a, b, d⟩
     obtain ⟨b1, b2⟩ := List.pairwise_cons.1 b
     exact ⟨fun y hy => a y (List.mem_cons_of_mem _ hy), b2, fun p e y hy => by cases e; exact b1 y hy⟩

theorem outside_eq' {k : Nat} {x a b : Int} : chg_outside k x a b = some (decide (¬ (a ≤ x ∧ x ≤ b))) := by
 unfold chg_outside;by_cases h : x < a
 ·rw [if_pos h, bs, decide_eq_true (by omega)]
 ·rw [if_neg h, bs];congr 1;rw [decide_eq_decide];omega

/-- The element before. -/
def prv (l : List Int) (j : Nat) : Option Int := if j = 0 then none else l[j - 1]?

theorem checkList_eq {k : Nat} (hk : 50 ≤ k) {l : List Int} {n but : Int} (hl : l.length ≤ 20) (hn : 0 ≤ n ∧ n ≤ 1000) : chg_checkList k l n but = some (lstE n but none l) := by
 have key : W (chg_checkList_l1 k l n but k 0) fun r => r = match lstE n but none l with | 0 => .ok () | e => .error e := by
  refine W.loop (f := chg_checkList_l1 k l n but) (fun q y => ∃ j : Nat, y = (j : Int) ∧ j ≤ l.length ∧ q = l.length - j ∧ lstE n but none l = lstE n but (prv l j) (l.drop j)) ?_ l.length k 0 (by omega) ⟨0, rfl, by omega, by omega, by simp [prv]⟩;rintro fuel q y ⟨j, hj, hle, hq, hE⟩ ih;subst hj;unfold chg_checkList_l1
  refine W.ite (fun hlt => ?_) (fun hge => W.ret (by
   have : j = l.length := by omega
   subst this;rw [hE, List.drop_length]; rfl))
  have hlt' : j < l.length := by omega
  have hdr : l.drop j = l[j] :: l.drop (j + 1) := List.drop_eq_getElem_cons hlt';rw [hdr, lstE] at hE;rw [geti_W hlt', bs, ck_ok (by omega) (by omega), bs, outside_eq', bs]
  have hb : (if decide (¬ (0 ≤ l[j] ∧ l[j] ≤ n - 1)) = true then some true else some (decide (l[j] = but))) = some (decide (¬ (0 ≤ l[j] ∧ l[j] ≤ n - 1) ∨ l[j] = but)) := by
   by_cases h : 0 ≤ l[j] ∧ l[j] ≤ n - 1 <;> simp [h]
  rw [hb, bs];by_cases h1 : ¬ (0 ≤ l[j] ∧ l[j] ≤ n - 1) ∨ l[j] = but
  ·rw [if_pos h1] at hE;rw [decide_eq_true h1, if_pos rfl, hE];exact W.ret rfl
  ·rw [if_neg h1] at hE;rw [decide_eq_false h1, if_neg (by decide)]
   have hp : (if (0 : Int) < (j : Int) then ((ck ((j : Int) - 1)).bind fun x12 => (geti l x12).bind fun x13 => some (decide (l[j] ≤ x13))) else some false) = some (prB (prv l j) l[j]) := by
    unfold prv prB;by_cases hj0 : j = 0
    ·subst hj0; simp
    ·have e : (j : Int) - 1 = ((j - 1 : Nat) : Int) := by omega
     rw [if_pos (by omega), ck_ok (by omega) (by omega), bs, e, geti_W (by omega), bs, if_neg hj0, List.getElem?_eq_getElem (by omega)]
   rw [hp, bs];by_cases h2 : prB (prv l j) l[j] = true
   ·rw [if_pos h2] at hE;rw [if_pos h2, hE];exact W.ret rfl
   ·rw [if_neg h2] at hE;rw [if_neg h2, ck_ok (by omega) (by omega), bs];exact ih (q - 1) ((j : Int) + 1) (by omega) ⟨j + 1, rfl, by omega, by omega, by rw [hE]; simp [prv, List.getElem?_eq_getElem hlt']⟩
 obtain ⟨r, e, rfl⟩ := key;unfold chg_checkList;rw [e];split
 ·rename_i h; rw [bE_k, h]
 ·rw [bE_e]

/-- The error of a thing, and of all things. -/
def thE (n : Int) (i : Nat) (t : dThing) : Int :=
 if ¬ lstE n (i : Int) none t.1 = 0 then lstE n (i : Int) none t.1 else if ¬ (1 ≤ t.2.1 ∧ t.2.1 ≤ 4) ∨ ¬ (1 ≤ t.2.2.1 ∧ t.2.2.1 ≤ 4) then 1 else if ¬ (0 ≤ t.2.2.2.1 ∧ t.2.2.2.1 ≤ 2) then 8 else if ¬ (0 ≤ t.2.2.2.2 ∧ t.2.2.2.2 ≤ 30) then 1 else 0
def drE (n : Int) (_ : Nat) (d : dDresser) : Int :=
 if ¬ lstE n (-1) none d.1 = 0 then lstE n (-1) none d.1 else if ¬ (0 ≤ d.2.1 ∧ d.2.1 ≤ 2) then 8 else if ¬ (0 ≤ d.2.2 ∧ d.2.2 ≤ 9) then 1 else 0
/-- The first error. -/
def fstE {α : Type} (f : Nat → α → Int) : Nat → List α → Int
 | _, [] => 0
 | j, x :: l => if ¬ f j x = 0 then f j x else fstE f (j + 1) l
theorem fstE_zero {α : Type} {f : Nat → α → Int} : ∀ {l : List α} {j : Nat}, fstE f j l = 0 ↔ ∀ i x, l[i]? = some x → f (j + i) x = 0
 | [], j => by simp [fstE]
 | x :: l, j => by
  rw [fstE]
  by_cases h : f j x = 0
  ·
   rw [if_neg (by simp [h]), fstE_zero]
   constructor
   ·
    intro h' i y hy
    cases i with
    | zero => simp at hy; subst hy; exact h
    | succ i => have := h' i y (by simpa using hy); rw [show j + (i + 1) = j + 1 + i by omega]; exact this
   ·
    intro h' i y hy
    have := h' (i + 1) y (by simpa using hy)
    rw [show j + 1 + i = j + (i + 1) by omega]; exact this
  ·
   rw [if_pos h]
   exact ⟨fun h' => absurd h' h, fun h' => absurd (h' 0 x rfl) h⟩

theorem fstE_loop {α : Type} {f : Nat → Int → Option (Except Int Unit)} {l : List α} {g : Nat → α → Int} (step : ∀ n (j : Nat) (h : j < l.length), f (n + 1) (j : Int) = if ¬ g j l[j] = 0 then some (.error (g j l[j])) else f n ((j : Int) + 1)) (stop : ∀ n, f (n + 1) (l.length : Int) = some (.ok ())) {n : Nat} (hn : l.length < n) :
 f n 0 = some (if fstE g 0 l = 0 then .ok () else .error (fstE g 0 l)) := by
 have key := for_foldE (f := f) l (fun (_ : Unit) j => j) (fun _ j x => if ¬ g j x = 0 then Except.error (g j x) else .ok ()) (fun _ _ => True) (fun r => some r)
  (fun n s j h _ => by
   rw [step n j h];by_cases hg : g j l[j] = 0
   ·simp [hg]
   ·simp [hg]) (fun n s _ => stop n) (n := n) (s0 := ()) hn trivial
 have : ∀ (l : List α) (j : Nat), foldE (fun (_ : Unit) j x => if ¬ g j x = 0 then Except.error (g j x) else .ok ()) j l () = if fstE g j l = 0 then .ok () else .error (fstE g j l) := by
  intro l
  induction l with
  | nil => intro j; simp [foldE, fstE]
  | cons x l ih =>
   intro j;rw [foldE, fstE];by_cases hg : g j x = 0
   ·rw [if_neg (by simp [hg])];simp only;rw [ih];simp [hg]
   ·rw [if_pos hg];simp [hg]
 rw [this] at key;exact key

/-- Lists that are not long. -/
structure Short (c : dChange) : Prop where
 things : c.1.length ≤ 20
 dressers : c.2.1.length ≤ 20
 wears : c.2.2.1.length ≤ 20
 wants : c.2.2.2.length ≤ 20
 over : ∀ t ∈ c.1, t.1.length ≤ 20
 can : ∀ d ∈ c.2.1, d.1.length ≤ 20

theorem chgTh_eq {k : Nat} (hk : 50 ≤ k) {c : dChange} (hs : Short c) : chg_checkThings_l1 k c k 0 = some (if fstE (thE (c.1.length : Int)) 0 c.1 = 0 then .ok () else .error (fstE (thE (c.1.length : Int)) 0 c.1)) := by
 have h1 := hs.things;refine fstE_loop (fun n j h => ?_) (fun n => by simp [chg_checkThings_l1]) (by omega);have h2 := hs.over _ (List.getElem_mem h);have hck : ck ((j : Int) + 1) = some ((j : Int) + 1) := ck_ok (by omega) (by omega);rw [chg_checkThings_l1, if_pos (by omega), geti_W h, bs, checkList_eq hk h2 (by omega)];simp only [bs, outside_eq', hck];unfold thE;generalize c.1[j] = t;by_cases a1 : lstE (c.1.length : Int) (j : Int) none t.1 = 0
 ·by_cases a2 : 1 ≤ t.2.1 ∧ t.2.1 ≤ 4 <;> by_cases a3 : 1 ≤ t.2.2.1 ∧ t.2.2.1 ≤ 4 <;> by_cases a4 : 0 ≤ t.2.2.2.1 ∧ t.2.2.2.1 ≤ 2 <;> by_cases a5 : 0 ≤ t.2.2.2.2 ∧ t.2.2.2.2 ≤ 30 <;> simp [a1, a2, a3, a4, a5]
 ·simp [a1]
theorem chgDr_eq {k : Nat} (hk : 50 ≤ k) {c : dChange} (hs : Short c) : chg_Check_l1 k c k 0 = some (if fstE (drE (c.1.length : Int)) 0 c.2.1 = 0 then .ok () else .error (fstE (drE (c.1.length : Int)) 0 c.2.1)) := by
 have h1 := hs.dressers;have h3 := hs.things;refine fstE_loop (fun n j h => ?_) (fun n => by simp [chg_Check_l1]) (by omega);have h2 := hs.can _ (List.getElem_mem h);have hck : ck ((j : Int) + 1) = some ((j : Int) + 1) := ck_ok (by omega) (by omega);rw [chg_Check_l1, if_pos (by omega), geti_W h, bs, checkList_eq hk h2 (by omega)];simp only [bs, outside_eq', hck];unfold drE;generalize c.2.1[j] = t;by_cases a1 : lstE (c.1.length : Int) (-1) none t.1 = 0
 ·by_cases a4 : 0 ≤ t.2.1 ∧ t.2.1 ≤ 2 <;> by_cases a5 : 0 ≤ t.2.2 ∧ t.2.2 ≤ 9 <;> simp [a1, a4, a5]
 ·simp [a1]
end Go.Proofs.Ytfhdclhbdmhnmaa

/- Plain law, part 18: no thing lies over itself; the error of any change. -/
namespace Go.Proofs.Ytfhdclhbdmhnmaa
open K Go Go.Proofs

/-- One thing lies directly over the other one. -/
def Stp (c : dChange) (i j : Nat) : Prop := ∃ t, c.1[i]? = some t ∧ (j : Int) ∈ t.1
inductive Rch (c : dChange) : Nat → Nat → Prop where
 | one {i j : Nat} : Stp c i j → Rch c i j
 | cons {i k j : Nat} : Stp c i k → Rch c k j → Rch c i j
theorem Rch.lt {c : dChange} {i j : Nat} (h : Rch c i j) : i < c.1.length := by
 cases h with
 | one h => obtain ⟨t, h, _⟩ := h; exact (List.getElem?_eq_some_iff.1 h).1
 | cons h _ => obtain ⟨t, h, _⟩ := h; exact (List.getElem?_eq_some_iff.1 h).1
theorem Rch.snoc {c : dChange} {i k j : Nat} (h : Rch c i k) (h' : Stp c k j) : Rch c i j := by
 induction h with
 | one h => exact .cons h (.one h')
 | cons h _ ih => exact .cons h (ih h')

/-- What is known of the lists of things over things. -/
structure OverV (c : dChange) : Prop where
 n : 1 ≤ c.1.length ∧ c.1.length ≤ 4
 rng : ∀ t ∈ c.1, (∀ x ∈ t.1, 0 ≤ x ∧ x < (c.1.length : Int)) ∧ t.1.length ≤ 20

/-- What lies over things, so far. -/
structure Abo (c : dChange) (ab : List Int) : Prop where
 len : ab.length = 4
 mask : ∀ (i : Nat) s, ab[i]? = some s → Mask s
 sound : ∀ (i : Nat) s x, ab[i]? = some s → Has s x → Rch c i x

abbrev InA (ab : List Int) (i x : Nat) : Prop := ∃ s, ab[i]? = some s ∧ Has s x

theorem ab4_ok {k : Nat} (hk : 50 ≤ k) {c : dChange} (hV : OverV c) {i : Nat} {t : dThing} {ab0 abx : List Int} (hi : c.1[i]? = some t) (hA : Abo c ab0) :
 W (chg_checkThings_l4 k (abx, (i : Int)) t k (ab0, 0)) fun r => Abo c r ∧ (∀ a x, InA ab0 a x → InA r a x) ∧ ∀ o : Nat, (o : Int) ∈ t.1 → InA r i o ∧ ∀ x, InA ab0 o x → InA r i x := by
 obtain ⟨hrng, hl20⟩ := hV.rng t (List.mem_of_getElem? hi);have hn := hV.n;have hil : i < c.1.length := (List.getElem?_eq_some_iff.1 hi).1
 refine W.loop (f := chg_checkThings_l4 k (abx, (i : Int)) t) (fun q y => ∃ j : Nat, y.2 = (j : Int) ∧ j ≤ t.1.length ∧ q = t.1.length - j ∧ Abo c y.1 ∧ (∀ a x, InA ab0 a x → InA y.1 a x) ∧ ∀ o : Nat, (o : Int) ∈ t.1.take j → InA y.1 i o ∧ ∀ x, InA ab0 o x → InA y.1 i x) ?_ t.1.length k (ab0, 0) (by omega)
  ⟨0, rfl, by omega, by omega, hA, fun _ _ h => h, fun o h => by simp at h⟩
 rintro fuel q ⟨b, y⟩ ⟨j, hj, hle, hq, hB, hmono, hdone⟩ ih;simp only at hj hB hmono hdone;subst hj;unfold chg_checkThings_l4;dsimp only
 refine W.ite (fun hlt => ?_) (fun hge => W.ret (by
  have : j = t.1.length := by omega
  subst this;rw [List.take_length] at hdone;exact ⟨hB, hmono, hdone⟩))
 have hlt' : j < t.1.length := by omega
 have hx := hrng t.1[j] (List.getElem_mem hlt');obtain ⟨o, ho⟩ : ∃ o : Nat, t.1[j] = (o : Int) := ⟨t.1[j].toNat, by omega⟩;have hib : i < b.length := by rw [hB.len]; omega
 have hob : o < b.length := by rw [hB.len]; omega
 have hst : Stp c i o := ⟨t, hi, by rw [← ho]; exact List.getElem_mem hlt'⟩;have mi := hB.mask i _ (List.getElem?_eq_getElem hib);have mo := hB.mask o _ (List.getElem?_eq_getElem hob);obtain ⟨s, es, m3, d3⟩ := of_set_ok (k := k) hk (l := [(o : Int)]) (by simp) (fun x h => by simp only [List.mem_singleton] at h; subst h; omega);obtain ⟨m4, d4⟩ := ior_ok mo m3;obtain ⟨m5, d5⟩ := ior_ok mi m4;rw [geti_W hlt', bs, ho, chk_ok (by omega), bs, geti_W hib, bs, chk_ok (by omega), bs, geti_W hob, bs, es, bs, bs, ck_ok (by omega) (by omega), bs, Int.toNat_natCast]
 have hnew : ∀ x, Has (ior .u8 b[i] (ior .u8 b[o] s)) x ↔ Has b[i] x ∨ Has b[o] x ∨ x = o := fun x => by
  rw [d5, d4, d3];simp only [List.mem_singleton];constructor
  ·rintro (h | h | h)
   ·exact .inl h
   ·exact .inr (.inl h)
   ·exact .inr (.inr (by omega))
  ·rintro (h | h | h)
   ·exact .inl h
   ·exact .inr (.inl h)
   ·exact .inr (.inr (by omega))
 have hin : ∀ a x, InA (b.set i (ior .u8 b[i] (ior .u8 b[o] s))) a x ↔ InA b a x ∨ (a = i ∧ (Has b[o] x ∨ x = o)) := fun a x => by
  unfold InA;rw [List.getElem?_set];by_cases hai : i = a
  ·subst hai;rw [if_pos rfl, if_pos hib];constructor
   ·rintro ⟨s', e, h⟩;cases e;rcases (hnew x).1 h with h | h
    ·exact .inl ⟨_, List.getElem?_eq_getElem hib, h⟩
    ·exact .inr ⟨rfl, h⟩
   ·rintro (⟨s', e, h⟩ | ⟨_, h⟩)
    ·rw [List.getElem?_eq_getElem hib] at e;cases e;exact ⟨_, rfl, (hnew x).2 (.inl h)⟩
    ·exact ⟨_, rfl, (hnew x).2 (.inr h)⟩
  ·rw [if_neg hai];exact ⟨.inl, fun h => h.elim id fun h => absurd h.1.symm hai⟩
 refine ih (q - 1) (_, (j : Int) + 1) (by omega) ⟨j + 1, rfl, by omega, by omega, ⟨by simpa using hB.len, fun a s' h => ?_, fun a s' x h hx' => ?_⟩, fun a x h => (hin a x).2 (.inl (hmono a x h)), fun o' ho' => ?_⟩
 ·rw [List.getElem?_set] at h;by_cases hai : i = a
  ·rw [if_pos hai, if_pos hib] at h; cases h; exact m5
  ·rw [if_neg hai] at h; exact hB.mask a s' h
 ·rcases (hin a x).1 ⟨s', h, hx'⟩ with ⟨s2, h2, h3⟩ | ⟨rfl, h2 | h2⟩
  ·exact hB.sound a s2 x h2 h3
  ·exact .cons hst (hB.sound o _ x (List.getElem?_eq_getElem hob) h2)
  ·subst h2; exact .one hst
 ·rw [List.take_add_one, List.getElem?_eq_getElem hlt', Option.toList_some, List.mem_append, List.mem_singleton, ho] at ho';rcases ho' with ho' | ho'
  ·obtain ⟨h1, h2⟩ := hdone o' ho';exact ⟨(hin i o').2 (.inl h1), fun x h => (hin i x).2 (.inl (h2 x h))⟩
  ·have : o' = o := by omega
   subst this;refine ⟨(hin i o').2 (.inr ⟨rfl, .inr rfl⟩), fun x h => ?_⟩;obtain ⟨s', e, h⟩ := hmono o' x h;rw [List.getElem?_eq_getElem hob] at e;cases e;exact (hin i x).2 (.inr ⟨rfl, .inl h⟩)

theorem ab3_ok {k : Nat} (hk : 50 ≤ k) {c : dChange} (hV : OverV c) {ab0 : List Int} (hA : Abo c ab0) :
 W (chg_checkThings_l3 k c k (ab0, 0)) fun r => Abo c r ∧ (∀ a x, InA ab0 a x → InA r a x) ∧ ∀ i o, Stp c i o → InA r i o ∧ ∀ x, InA ab0 o x → InA r i x := by
 have hn := hV.n
 refine W.loop (f := chg_checkThings_l3 k c) (fun q y => ∃ j : Nat, y.2 = (j : Int) ∧ j ≤ c.1.length ∧ q = c.1.length - j ∧ Abo c y.1 ∧ (∀ a x, InA ab0 a x → InA y.1 a x) ∧ ∀ i o, i < j → Stp c i o → InA y.1 i o ∧ ∀ x, InA ab0 o x → InA y.1 i x) ?_ c.1.length k (ab0, 0) (by omega)
  ⟨0, rfl, by omega, by omega, hA, fun _ _ h => h, fun i o h => by omega⟩
 rintro fuel q ⟨b, y⟩ ⟨j, hj, hle, hq, hB, hmono, hdone⟩ ih;simp only at hj hB hmono hdone;subst hj;unfold chg_checkThings_l3;dsimp only;refine W.ite (fun hlt => ?_) (fun hge => W.ret ⟨hB, hmono, fun i o h => hdone i o (by obtain ⟨t, h, _⟩ := h; have := (List.getElem?_eq_some_iff.1 h).1; omega) h⟩);have hlt' : j < c.1.length := by omega
 obtain ⟨r, er, hR, hrm, hrd⟩ := ab4_ok hk hV (abx := b) (List.getElem?_eq_getElem hlt') hB;rw [geti_W hlt', bs, er, bs, ck_ok (by omega) (by omega), bs];refine ih (q - 1) (r, (j : Int) + 1) (by omega) ⟨j + 1, rfl, by omega, by omega, hR, fun a x h => hrm a x (hmono a x h), fun i o hi h => ?_⟩;by_cases hij : i = j
 ·subst hij;obtain ⟨t, ht, ho⟩ := h;rw [List.getElem?_eq_getElem hlt'] at ht;cases ht;obtain ⟨h1, h2⟩ := hrd o ho;exact ⟨h1, fun x hx => h2 x (hmono o x hx)⟩
 ·obtain ⟨h1, h2⟩ := hdone i o (by omega) h;exact ⟨hrm i o h1, fun x hx => hrm i x (h2 x hx)⟩

/-- How many of the first n things have x over them. -/
def cntA (ab : List Int) (x n : Nat) : Nat := (List.range n).countP fun i => match ab[i]? with | some s => decide (Has s x) | none => false
theorem cntA_lt {ab ab' : List Int} {x : Nat} (h : ∀ i, InA ab i x → InA ab' i x) : ∀ {n : Nat}, cntA ab x n ≤ cntA ab' x n ∧ ((∃ i, i < n ∧ InA ab' i x ∧ ¬ InA ab i x) → cntA ab x n < cntA ab' x n)
 | 0 => ⟨by simp [cntA], fun ⟨i, hi, _⟩ => by omega⟩
 | n + 1 => by
  obtain ⟨h1, h2⟩ := cntA_lt h (n := n)
  have e : ∀ ab : List Int, cntA ab x (n + 1) = cntA ab x n + (if (match ab[n]? with | some s => decide (Has s x) | none => false) = true then 1 else 0) := fun ab => by
   unfold cntA
   rw [List.range_succ, List.countP_append, List.countP_singleton]
  have hin : ∀ ab : List Int, (match ab[n]? with | some s => decide (Has s x) | none => false) = true ↔ InA ab n x := fun ab => by
   unfold InA
   cases ab[n]? with
   | none => simp
   | some s => simp
  have hm := h n
  rw [e, e]
  by_cases a : InA ab n x
  ·
   rw [if_pos ((hin ab).2 a), if_pos ((hin ab').2 (hm a))]
   refine ⟨by omega, fun ⟨i, hi, b, d⟩ => ?_⟩
   by_cases hin' : i = n
   ·
    subst hin'; exact absurd a d
   ·
    have := h2 ⟨i, by omega, b, d⟩; omega
  ·
   rw [if_neg (fun h => a ((hin ab).1 h))]
   by_cases a' : InA ab' n x
   ·
    rw [if_pos ((hin ab').2 a')]
    exact ⟨by omega, fun _ => by omega⟩
   ·
    rw [if_neg (fun h => a' ((hin ab').1 h))]
    refine ⟨by omega, fun ⟨i, hi, b, d⟩ => ?_⟩
    by_cases hin' : i = n
    ·
     subst hin'; exact absurd b a'
    ·
     have := h2 ⟨i, by omega, b, d⟩; omega
theorem cntA_full {ab : List Int} {x : Nat} : ∀ {n : Nat}, cntA ab x n ≤ n ∧ (n ≤ cntA ab x n → ∀ i, i < n → InA ab i x)
 | 0 => ⟨by simp [cntA], fun _ i hi => by omega⟩
 | n + 1 => by
  obtain ⟨h1, h2⟩ := cntA_full (ab := ab) (x := x) (n := n)
  have e : cntA ab x (n + 1) = cntA ab x n + (if (match ab[n]? with | some s => decide (Has s x) | none => false) = true then 1 else 0) := by
   unfold cntA;rw [List.range_succ, List.countP_append, List.countP_singleton]
  have hin : (match ab[n]? with | some s => decide (Has s x) | none => false) = true ↔ InA ab n x := by
   unfold InA;cases ab[n]? with
   | none => simp
   | some s => simp
  rw [e];by_cases a : InA ab n x
  ·rw [if_pos (hin.2 a)];refine ⟨by omega, fun h i hi => ?_⟩;by_cases hi' : i = n
   ·subst hi'; exact a
   ·exact h2 (by omega) i (by omega)
  ·rw [if_neg (fun h => a (hin.1 h))];exact ⟨by omega, fun h => by omega⟩

/-- What lies over things, in the end. -/
theorem ab2_ok {k : Nat} (hk : 50 ≤ k) {c : dChange} (hV : OverV c) : W (chg_checkThings_l2 k c k ([0, 0, 0, 0], 0)) fun r => Abo c r ∧ ∀ i x, Rch c i x → InA r i x := by
 have hn := hV.n
 have h0 : Abo c [0, 0, 0, 0] := ⟨rfl, fun i s h => by
  have := List.mem_of_getElem? h;simp only [List.mem_cons, List.not_mem_nil, or_false, or_self] at this;subst this;exact ⟨by decide, by decide⟩, fun i s x h hx => by
  have := List.mem_of_getElem? h;simp only [List.mem_cons, List.not_mem_nil, or_false, or_self] at this;subst this;simp [Has] at hx⟩
 refine W.loop (f := chg_checkThings_l2 k c) (fun q y => ∃ j : Nat, y.2 = (j : Int) ∧ j ≤ c.1.length ∧ q = c.1.length - j ∧ Abo c y.1 ∧ ∀ x, (∀ i, Rch c i x → InA y.1 i x) ∨ j ≤ cntA y.1 x c.1.length) ?_ c.1.length k _ (by omega)
  ⟨0, rfl, by omega, by omega, h0, fun x => .inr (by omega)⟩
 rintro fuel q ⟨b, y⟩ ⟨j, hj, hle, hq, hB, hor⟩ ih;simp only at hj hB hor;subst hj;unfold chg_checkThings_l2;dsimp only;refine W.ite (fun hlt => ?_) (fun hge => W.ret ⟨hB, fun i x h => ?_⟩)
 ·obtain ⟨r, er, hR, hrm, hrd⟩ := ab3_ok hk hV hB;rw [er, bs, ck_ok (by omega) (by omega), bs];refine ih (q - 1) (r, (j : Int) + 1) (by omega) ⟨j + 1, rfl, by omega, by omega, hR, fun x => ?_⟩;simp only;rcases hor x with h | h
  ·exact .inl fun i hi => hrm i x (h i hi)
  ·by_cases hnew : ∃ i, i < c.1.length ∧ InA r i x ∧ ¬ InA b i x
   ·have := (cntA_lt (n := c.1.length) (fun i => hrm i x)).2 hnew;exact .inr (by omega)
   ·have hsame : ∀ i, i < c.1.length → InA r i x → InA b i x := fun i hi h => by
     false_or_by_contra;rename_i hb;exact hnew ⟨i, hi, h, hb⟩
    refine .inl fun i hi => ?_
    have key : ∀ {i z : Nat}, Rch c i z → z = x → InA r i x := fun {i z} hr => by
     induction hr with
     | one hst => intro e; rw [← e]; exact (hrd _ _ hst).1
     | cons hst h' ih' => intro e; exact (hrd _ _ hst).2 x (hsame _ (Rch.lt h') (ih' e))
    exact key hi rfl
 ·have hjn : j = c.1.length := by omega
  subst hjn;rcases hor x with h' | h'
  ·exact h' i h
  ·exact cntA_full.2 h' i h.lt

theorem ab5_ok {k : Nat} (hk : 50 ≤ k) {c : dChange} (hV : OverV c) {ab : List Int} (hA : Abo c ab) (hc : ∀ i x, Rch c i x → InA ab i x) {b : Bool} (hb : b = true ↔ ∃ i, Rch c i i) : chg_checkThings_l5 k c ab k 0 = some (if b = true then .error 9 else .ok ()) := by
 have hn := hV.n
 have step : ∀ m (j : Nat), j < c.1.length → (Rch c j j → chg_checkThings_l5 k c ab (m + 1) (j : Int) = some (.error 9)) ∧ (¬ Rch c j j → chg_checkThings_l5 k c ab (m + 1) (j : Int) = chg_checkThings_l5 k c ab m ((j : Int) + 1)) := fun m j hj => by
  have hjb : j < ab.length := by rw [hA.len]; omega
  have hg := List.getElem?_eq_getElem hjb;have hm := hA.mask j _ hg
  have hiff : Has ab[j] j ↔ Rch c j j := ⟨fun h => hA.sound j _ j hg h, fun h => by
   obtain ⟨s, e, h⟩ := hc j j h;rw [hg] at e; cases e; exact h⟩
  rw [chg_checkThings_l5, if_pos (by omega), chk_ok (by omega), bs, geti_W hjb, bs, has_ok hm (by omega), bs];constructor
  ·intro h; rw [decide_eq_true (hiff.2 h), if_pos rfl]
  ·intro h; rw [decide_eq_false (fun h' => h (hiff.1 h')), if_neg (by decide), ck_ok (by omega) (by omega), bs]
 cases b with
 | true =>
  obtain ⟨i, hi⟩ := hb.1 rfl
  obtain ⟨m, hm, hmin⟩ : ∃ m, Rch c m m ∧ ∀ j, j < m → ¬ Rch c j j := by
   have : ∀ i, Rch c i i → ∃ m, Rch c m m ∧ ∀ j, j < m → ¬ Rch c j j := by
    intro i
    induction i using Nat.strongRecOn with
    | _ i ih =>
     intro hi;by_cases h : ∃ j, j < i ∧ Rch c j j
     ·obtain ⟨j, h1, h2⟩ := h; exact ih j h1 h2
     ·exact ⟨i, hi, fun j h1 h2 => h ⟨j, h1, h2⟩⟩
   exact this i hi
  rw [if_pos rfl];exact for_find c.1.length m hm.lt (fun n j hj => (step n j (by have := hm.lt; omega)).2 (hmin j hj)) (fun n => (step n m hm.lt).1 hm) k (by omega)
 | false =>
  rw [if_neg (by decide)];exact for_all 0 c.1.length (fun n j _ hj => (step n j hj).2 fun h => by have := hb.2 ⟨j, h⟩; cases this) (fun n j _ hj => by rw [chg_checkThings_l5, if_neg (by omega)]) k (by omega)

/-! The reference's way. -/
/-- How many there may be. -/
def szE (n m : Nat) : Int := if n = 0 then 7 else if m < n then 6 else 0
/-- **The error of a change.** -/
def chkS (c : dChange) (ring : Bool) : Int :=
 if ¬ szE c.1.length 4 = 0 then szE c.1.length 4 else if ¬ fstE (thE (c.1.length : Int)) 0 c.1 = 0 then fstE (thE (c.1.length : Int)) 0 c.1 else if ring = true then 9
 else if ¬ szE c.2.1.length 3 = 0 then szE c.2.1.length 3 else if ¬ fstE (drE (c.1.length : Int)) 0 c.2.1 = 0 then fstE (drE (c.1.length : Int)) 0 c.2.1
 else if ¬ lstE (c.1.length : Int) (-1) none c.2.2.1 = 0 then lstE (c.1.length : Int) (-1) none c.2.2.1 else lstE (c.1.length : Int) (-1) none c.2.2.2

theorem sized_eq {k n m : Nat} : chg_sized k (n : Int) (m : Int) = some (szE n m) := by
 unfold chg_sized szE;by_cases h : n = 0
 ·subst h; simp
 ·rw [if_neg (by omega), if_neg h];by_cases h2 : m < n
  ·rw [if_pos (by omega), if_pos h2]
  ·rw [if_neg (by omega), if_neg h2]
theorem szE_zero {n m : Nat} : szE n m = 0 ↔ 1 ≤ n ∧ n ≤ m := by
 unfold szE;split
 ·simp; omega
 ·split
  ·simp; omega
  ·simp; omega

theorem overV_of {c : dChange} (hs : Short c) (h1 : szE c.1.length 4 = 0) (h2 : fstE (thE (c.1.length : Int)) 0 c.1 = 0) : OverV c := by
 refine ⟨szE_zero.1 h1, fun t ht => ⟨fun x hx => ?_, hs.over t ht⟩⟩;obtain ⟨i, hi⟩ := List.mem_iff_getElem?.1 ht;have := fstE_zero.1 h2 i t hi;unfold thE at this;by_cases a1 : lstE (c.1.length : Int) ((0 + i : Nat) : Int) none t.1 = 0
 ·have := (lstE_zero.1 a1).1 x hx;exact ⟨this.1, this.2.1⟩
 ·rw [if_pos a1] at this;exact absurd this a1

theorem chgCheck_eq {k : Nat} (hk : 50 ≤ k) {c : dChange} (hs : Short c) {b : Bool} (hb : b = true ↔ ∃ i, Rch c i i) : chg_Check k c = some (chkS c b) := by
 have h1 := hs.things;unfold chg_Check chg_checkThings chkS;rw [show (4 : Int) = ((4 : Nat) : Int) from rfl, show (3 : Int) = ((3 : Nat) : Int) from rfl];simp only [sized_eq, bs, chgTh_eq hk hs, chgDr_eq hk hs, checkList_eq hk hs.wears (n := (c.1.length : Int)) (but := -1) (by omega), checkList_eq hk hs.wants (n := (c.1.length : Int)) (but := -1) (by omega)];by_cases z1 : szE c.1.length 4 = 0
 ·by_cases z2 : fstE (thE (c.1.length : Int)) 0 c.1 = 0
  ·have hV := overV_of hs z1 z2;obtain ⟨ab, eab, hA, hc⟩ := ab2_ok hk hV;simp only [z1, z2, not_true_eq_false, if_false, if_true, bE_k, eab, bs, ab5_ok hk hV hA hc hb];cases b with
   | true => simp [bE_e]
   | false =>
    simp only [Bool.false_eq_true, if_false, bE_k, bs, not_true_eq_false];by_cases z3 : szE c.2.1.length 3 = 0
    ·by_cases z4 : fstE (drE (c.1.length : Int)) 0 c.2.1 = 0
     ·simp only [z3, z4, not_true_eq_false, if_false, if_true, bE_k];by_cases z5 : lstE (c.1.length : Int) (-1) none c.2.2.1 = 0 <;> simp [z5]
     ·simp only [z3, z4, not_true_eq_false, not_false_eq_true, if_false, if_true, bE_e]
    ·simp [z3]
  ·simp only [z1, z2, not_true_eq_false, not_false_eq_true, if_false, if_true, bE_e, bs]
 ·simp [z1, bs]
/-- A change without an error is valid. -/
theorem vc_of_chk {c : dChange} (hs : Short c) {b : Bool} (hb : b = true ↔ ∃ i, Rch c i i) (h : chkS c b = 0) : VC (c.1.length : Int) c := by
 have hchk : ∀ k, 50 ≤ k → chg_Check k c = some 0 := fun k hk => by rw [chgCheck_eq hk hs hb, h]
 unfold chkS at h;by_cases z1 : szE c.1.length 4 = 0
 ·rw [if_neg (by simp [z1])] at h;by_cases z2 : fstE (thE (c.1.length : Int)) 0 c.1 = 0
  ·rw [if_neg (by simp [z2])] at h;cases b with
   | true => rw [if_pos rfl] at h; cases h
   | false =>
    rw [if_neg (by decide)] at h;by_cases z3 : szE c.2.1.length 3 = 0
    ·rw [if_neg (by simp [z3])] at h;by_cases z4 : fstE (drE (c.1.length : Int)) 0 c.2.1 = 0
     ·rw [if_neg (by simp [z4])] at h;by_cases z5 : lstE (c.1.length : Int) (-1) none c.2.2.1 = 0
      ·rw [if_neg (by simp [z5])] at h;have hz1 := szE_zero.1 z1
       have asc : ∀ {l : List Int} {but : Int}, lstE (c.1.length : Int) but none l = 0 → Asc l (c.1.length : Int) := fun h => by
        obtain ⟨a, b, _⟩ := lstE_zero.1 h;exact ⟨b, fun x hx => ⟨(a x hx).1, (a x hx).2.1⟩⟩
       refine ⟨by omega, rfl, fun j t ht => ?_, asc z5, asc h, fun x hx => ?_, szE_zero.1 z3, hchk⟩
       ·have := fstE_zero.1 z2 j t ht;unfold thE at this;rw [Nat.zero_add] at this;by_cases a1 : lstE (c.1.length : Int) (j : Int) none t.1 = 0
        ·rw [if_neg (by simp [a1])] at this;by_cases a2 : ¬ (1 ≤ t.2.1 ∧ t.2.1 ≤ 4) ∨ ¬ (1 ≤ t.2.2.1 ∧ t.2.2.1 ≤ 4)
         ·rw [if_pos a2] at this; cases this
         ·rw [if_neg a2] at this;by_cases a3 : ¬ (0 ≤ t.2.2.2.1 ∧ t.2.2.2.1 ≤ 2)
          ·rw [if_pos a3] at this; cases this
          ·rw [if_neg a3] at this;by_cases a4 : ¬ (0 ≤ t.2.2.2.2 ∧ t.2.2.2.2 ≤ 30)
           ·rw [if_pos a4] at this; cases this
           ·exact ⟨asc a1, fun hj => ((lstE_zero.1 a1).1 _ hj).2.2 rfl, by omega, by omega, by omega, by omega⟩
        ·rw [if_pos a1] at this; exact absurd this a1
       ·obtain ⟨j, hj⟩ := List.mem_iff_getElem?.1 hx;have := fstE_zero.1 z4 j x hj;unfold drE at this;by_cases a1 : lstE (c.1.length : Int) (-1) none x.1 = 0
        ·rw [if_neg (by simp [a1])] at this;by_cases a3 : ¬ (0 ≤ x.2.1 ∧ x.2.1 ≤ 2)
         ·rw [if_pos a3] at this; cases this
         ·rw [if_neg a3] at this;by_cases a4 : ¬ (0 ≤ x.2.2 ∧ x.2.2 ≤ 9)
          ·rw [if_pos a4] at this; cases this
          ·exact ⟨asc a1, by omega, by omega⟩
        ·rw [if_pos a1] at this; exact absurd this a1
      ·rw [if_pos z5] at h; exact absurd h z5
     ·rw [if_pos z4] at h; exact absurd h z4
    ·rw [if_pos z3] at h; exact absurd h z3
  ·rw [if_pos z2] at h; exact absurd h z2
 ·rw [if_pos z1] at h; exact absurd h z1
end Go.Proofs.Ytfhdclhbdmhnmaa

/- Plain law: the reference's tasks, and its pairs of what comes first. -/
namespace Go.Proofs.Ytfhdclhbdmhnmaa
open K Go Go.Proofs

/-- What a round of the reference leaves. -/
structure RPass (c : dChange) (mv0 mv : List Bool) : Prop where
 len : mv.length = c.1.length
 mono : ∀ i, In mv0 i → In mv i
 sound : ∀ C, Shut c C → (∀ i, In mv0 i → C i) → ∀ i, In mv i → C i

end Go.Proofs.Ytfhdclhbdmhnmaa

/- Plain law: copies. -/
namespace Go.Proofs.Ytfhdclhbdmhnmaa
open K Go Go.Proofs

theorem copyInts_ok {k : Nat} {l : List Int} (h : l.length ≤ 1000) : kit_CopyInts k l = some l := by
 unfold kit_CopyInts;rw [chkP, if_pos (okLen_of (by simpa using h))];rfl

theorem copyChange_ok {k : Nat} (hk : 50 ≤ k) {c : dChange} (h1 : c.1.length ≤ 20) (h2 : c.2.1.length ≤ 20) (h3 : ∀ t ∈ c.1, t.1.length ≤ 20) (h4 : ∀ d ∈ c.2.1, d.1.length ≤ 20) (h5 : c.2.2.1.length ≤ 20) (h6 : c.2.2.2.length ≤ 20) : kit_CopyChange k c = some c := by
 have k1 : W (kit_CopyChange_l1 k c k ([], 0)) fun r => r = c.1 := by
  refine W.loop (f := kit_CopyChange_l1 k c) (fun m y => ∃ j : Nat, y.2 = (j : Int) ∧ j ≤ c.1.length ∧ m = c.1.length - j ∧ y.1 = c.1.take j) ?_ c.1.length k _ (by omega) ⟨0, rfl, by omega, by omega, by simp⟩;rintro fuel m ⟨o, y⟩ ⟨j, hj, hle, hq, ho⟩ ih;simp only at hj ho;subst hj ho;unfold kit_CopyChange_l1;dsimp only
  refine W.ite (fun hlt => ?_) (fun hge => W.ret (by have : j = c.1.length := by omega
                                                     subst this; rw [List.take_length]))
  have hlt' : j < c.1.length := by omega
  refine W.bindE (geti_W hlt') (W.bindE (copyInts_ok (by have := h3 _ (List.getElem_mem hlt'); omega)) (W.chk (okLen_of (by simp only [List.length_take, List.length_cons, List.length_nil]; omega)) (W.ck (by omega) (by omega) (ih (m - 1) (_, (j : Int) + 1) (by omega) ⟨j + 1, ?_, by omega, by omega, ?_⟩))))
  ·show (j : Int) + 1 = ((j + 1 : Nat) : Int);omega
  ·show c.1.take j ++ [_] = _;rw [List.take_add_one, List.getElem?_eq_getElem hlt'];rfl
 have k2 : W (kit_CopyChange_l2 k c k ([], 0)) fun r => r = c.2.1 := by
  refine W.loop (f := kit_CopyChange_l2 k c) (fun m y => ∃ j : Nat, y.2 = (j : Int) ∧ j ≤ c.2.1.length ∧ m = c.2.1.length - j ∧ y.1 = c.2.1.take j) ?_ c.2.1.length k _ (by omega) ⟨0, rfl, by omega, by omega, by simp⟩;rintro fuel m ⟨o, y⟩ ⟨j, hj, hle, hq, ho⟩ ih;simp only at hj ho;subst hj ho;unfold kit_CopyChange_l2;dsimp only
  refine W.ite (fun hlt => ?_) (fun hge => W.ret (by have : j = c.2.1.length := by omega
                                                     subst this; rw [List.take_length]))
  have hlt' : j < c.2.1.length := by omega
  refine W.bindE (geti_W hlt') (W.bindE (copyInts_ok (by have := h4 _ (List.getElem_mem hlt'); omega)) (W.chk (okLen_of (by simp only [List.length_take, List.length_cons, List.length_nil]; omega)) (W.ck (by omega) (by omega) (ih (m - 1) (_, (j : Int) + 1) (by omega) ⟨j + 1, ?_, by omega, by omega, ?_⟩))))
  ·show (j : Int) + 1 = ((j + 1 : Nat) : Int);omega
  ·show c.2.1.take j ++ [_] = _;rw [List.take_add_one, List.getElem?_eq_getElem hlt'];rfl
 obtain ⟨x1, e1, rfl⟩ := k1;obtain ⟨x2, e2, rfl⟩ := k2;unfold kit_CopyChange;rw [copyInts_ok (by omega), copyInts_ok (by omega), e1, e2];rfl

end Go.Proofs.Ytfhdclhbdmhnmaa

/- Plain law: copies, as they are made where the order is open. -/
namespace Go.Proofs.Ytfhdclhbdmhnmaa
open K Go Go.Proofs

end Go.Proofs.Ytfhdclhbdmhnmaa

/- Plain law: the changes of a law that compares with the reference. -/
namespace Go.Proofs.Ytfhdclhbdmhnmaa
open K Go Go.Proofs

/-- A loop that only looks, from the start. -/
theorem for_all0 {ε : Type} {f : Nat → Int → Option (Except ε Unit)} {N k : Nat} (hk : N < k) (step : ∀ n (j : Nat), j < N → f (n + 1) (j : Int) = f n ((j : Int) + 1)) (stop : ∀ n, f (n + 1) (N : Int) = some (.ok ())) : f k 0 = some (.ok ()) := by
 have key : ∀ (m j n : Nat), N - j = m → j ≤ N → m < n → f n (j : Int) = some (.ok ()) := by
  intro m
  induction m with
  | zero =>
   intro j n h1 h2 h3;obtain ⟨n, rfl⟩ : ∃ n', n = n' + 1 := ⟨n - 1, by omega⟩;have : j = N := by omega
   subst this;exact stop n
  | succ m ih =>
   intro j n h1 h2 h3;obtain ⟨n, rfl⟩ : ∃ n', n = n' + 1 := ⟨n - 1, by omega⟩;rw [step n j (by omega)];exact ih (j + 1) n (by omega) (by omega) (by omega)
 exact key N 0 k rfl (Nat.zero_le _) hk

theorem copy_short {k : Nat} (hk : 50 ≤ k) {c : dChange} (hs : Short c) : kit_CopyChange k c = some c := copyChange_ok hk hs.things hs.dressers hs.over hs.can hs.wears hs.wants
theorem short_of_vc {n : Int} {c : dChange} (hc : VC n c) : Short c := by
 obtain ⟨w1, w2, w3, w4, w5⟩ := hc.wl;have := hc.dl;exact ⟨by omega, by omega, by omega, by omega, fun t h => by have := w4 t h; omega, fun d h => by have := w5 d h; omega⟩

theorem bool_of (p : Prop) : ∃ b : Bool, b = true ↔ p := by
 by_cases h : p
 ·exact ⟨true, by simp [h]⟩
 ·exact ⟨false, by simp [h]⟩

end Go.Proofs.Ytfhdclhbdmhnmaa

/- Plain law: a change with some Dues given up. -/
namespace Go.Proofs.Ytfhdclhbdmhnmaa
open K Go Go.Proofs

/-- Without the Dues of some things. -/
def giveT (b : Bool) (t : dThing) : dThing := if b = true then (t.1, t.2.1, t.2.2.1, t.2.2.2.1, 0) else t
def wO (c : dChange) (B : Nat → Bool) : dChange := (c.1.mapIdx fun i t => giveT (B i) t, c.2)

section
variable {c : dChange} {B : Nat → Bool}
theorem giveT_1 {b : Bool} {t : dThing} : (giveT b t).1 = t.1 := by unfold giveT; split <;> rfl
theorem giveT_2 {b : Bool} {t : dThing} : (giveT b t).2.1 = t.2.1 := by unfold giveT; split <;> rfl
theorem giveT_3 {b : Bool} {t : dThing} : (giveT b t).2.2.1 = t.2.2.1 := by unfold giveT; split <;> rfl
theorem giveT_4 {b : Bool} {t : dThing} : (giveT b t).2.2.2.1 = t.2.2.2.1 := by unfold giveT; split <;> rfl
theorem giveT_5 {b : Bool} {t : dThing} : (giveT b t).2.2.2.2 = if b = true then 0 else t.2.2.2.2 := by unfold giveT; split <;> rfl
theorem wO_get {i : Nat} : (wO c B).1[i]? = (c.1[i]?).map (giveT (B i)) := by
 unfold wO;rw [List.getElem?_mapIdx]
theorem wO_len : (wO c B).1.length = c.1.length := by unfold wO; exact List.length_mapIdx
theorem wO_2 : (wO c B).2 = c.2 := rfl

theorem wO_thg {x : Int} : thg (wO c B) x = giveT (B x.toNat) (thg c x) := by
 unfold thg;rw [wO_get];cases c.1[x.toNat]? with
 | none => unfold giveT; split <;> rfl
 | some t => rfl

theorem wO_stp {i j : Nat} : Stp (wO c B) i j ↔ Stp c i j := by
 unfold Stp;rw [wO_get];constructor
 ·rintro ⟨t, h, hj⟩;cases e : c.1[i]? with
  | none => rw [e] at h; cases h
  | some t' =>
   rw [e] at h;cases h;rw [giveT_1] at hj;exact ⟨t', rfl, hj⟩
 ·rintro ⟨t, h, hj⟩;rw [h];exact ⟨_, rfl, by rw [giveT_1]; exact hj⟩
theorem wO_rch {i j : Nat} : Rch (wO c B) i j ↔ Rch c i j := by
 constructor
 ·intro h
  induction h with
  | one h => exact .one (wO_stp.1 h)
  | cons h _ ih => exact .cons (wO_stp.1 h) ih
 ·intro h
  induction h with
  | one h => exact .one (wO_stp.2 h)
  | cons h _ ih => exact .cons (wO_stp.2 h) ih

theorem wO_short (hs : Short c) : Short (wO c B) :=
 ⟨by rw [wO_len]; exact hs.things, hs.dressers, hs.wears, hs.wants, fun t ht => by
  obtain ⟨i, hi⟩ := List.mem_iff_getElem?.1 ht
  rw [wO_get] at hi
  cases e : c.1[i]? with
  | none => rw [e] at hi; cases hi
  | some t' =>
   rw [e] at hi
   cases hi
   rw [giveT_1]
   exact hs.over t' (List.mem_of_getElem? e), hs.can⟩

theorem giveT_E {n : Int} {i : Nat} {b : Bool} {t : dThing} (h : thE n i t = 0) : thE n i (giveT b t) = 0 := by
 unfold thE at h ⊢;rw [giveT_1, giveT_2, giveT_3, giveT_4, giveT_5];by_cases a1 : ¬ lstE n (i : Int) none t.1 = 0
 ·rw [if_pos a1] at h; exact absurd h a1
 ·rw [if_neg a1] at h ⊢;by_cases a2 : ¬ (1 ≤ t.2.1 ∧ t.2.1 ≤ 4) ∨ ¬ (1 ≤ t.2.2.1 ∧ t.2.2.1 ≤ 4)
  ·rw [if_pos a2] at h; cases h
  ·rw [if_neg a2] at h ⊢;by_cases a3 : ¬ (0 ≤ t.2.2.2.1 ∧ t.2.2.2.1 ≤ 2)
   ·rw [if_pos a3] at h; cases h
   ·rw [if_neg a3] at h ⊢;by_cases a4 : ¬ (0 ≤ t.2.2.2.2 ∧ t.2.2.2.2 ≤ 30)
    ·rw [if_pos a4] at h; cases h
    ·cases b with
     | true => simp
     | false => rw [if_neg]; simpa using a4

theorem wO_chk {b : Bool} (h : chkS c b = 0) : chkS (wO c B) b = 0 := by
 have key : fstE (thE (c.1.length : Int)) 0 c.1 = 0 → fstE (thE (c.1.length : Int)) 0 (wO c B).1 = 0 := fun h => by
  rw [fstE_zero] at h ⊢;intro i x hx;rw [wO_get] at hx;cases e : c.1[i]? with
  | none => rw [e] at hx; cases hx
  | some t' =>
   rw [e] at hx;cases hx;exact giveT_E (h i t' e)
 unfold chkS at h ⊢;rw [wO_len, wO_2];by_cases z1 : szE c.1.length 4 = 0
 ·rw [if_neg (by simp [z1])] at h ⊢;by_cases z2 : fstE (thE (c.1.length : Int)) 0 c.1 = 0
  ·rw [if_neg (by simp [z2])] at h;rw [if_neg (by simp [key z2])];exact h
  ·rw [if_pos z2] at h; exact absurd h z2
 ·rw [if_pos z1] at h; exact absurd h z1

/-- **A valid change without some Dues is valid.** -/
theorem wO_vc {n : Int} (hs : Short c) (hc : VC n c) : VC n (wO c B) := by
 obtain ⟨b, hb⟩ := bool_of (∃ i, Rch c i i)
 have h0 : chkS c b = 0 := by
  have e := hc.chk 50 (by decide);rw [chgCheck_eq (by decide) hs hb] at e;exact Option.some.inj e
 have hl : n = (c.1.length : Int) := by have := hc.len; omega
 have := vc_of_chk (c := wO c B) (wO_short hs) (b := b) (by rw [hb]; exact exists_congr fun i => wO_rch.symm) (wO_chk h0);rw [wO_len, ← hl] at this;exact this

theorem wO_forced {M : Nat → Prop} {i : Nat} : Forced (wO c B) M i ↔ Forced c M i := by
 unfold Forced;rw [wO_2];refine or_congr Iff.rfl (and_congr Iff.rfl (and_congr Iff.rfl ⟨?_, ?_⟩))
 ·rintro ⟨k, t, h, hM, hi⟩;rw [wO_get] at h;cases e : c.1[k]? with
  | none => rw [e] at h; cases h
  | some t' =>
   rw [e] at h;cases h;rw [giveT_1] at hi;exact ⟨k, t', e, hM, hi⟩
 ·rintro ⟨k, t, h, hM, hi⟩;exact ⟨k, giveT (B k) t, by rw [wO_get, h]; rfl, hM, by rw [giveT_1]; exact hi⟩
theorem wO_fix {mv : List Bool} (h : Fix c mv) : Fix (wO c B) mv := by
 have hS : ∀ C, Shut (wO c B) C ↔ Shut c C := fun C => by
  unfold Shut;rw [wO_len];exact forall_congr' fun i => forall_congr' fun _ => by rw [wO_forced]
 exact ⟨by rw [wO_len]; exact h.len, fun C hC => h.sound C ((hS C).1 hC), (hS _).2 h.shut⟩

theorem wO_ts {mv : List Bool} : tsC (wO c B) mv = tsC c mv := by unfold tsC; rw [wO_len]; rfl
theorem wO_canB {d : Int} {w : Bool × Int} : canB (wO c B) d w = canB c d w := by unfold canB; rw [wO_thg, giveT_4]; rfl
theorem wO_barsB {w : Bool × Int} : barsB (wO c B) w = barsB c w := by unfold barsB; rw [wO_thg, giveT_2, giveT_3]
theorem wO_befL {ts : List (Bool × Int)} {b : Nat} : befL (wO c B) ts b = befL c ts b := by
 unfold befL bef befB;simp only [wO_thg, giveT_1]
theorem wO_extL {ts : List (Bool × Int)} {done : List Int} {t : Nat} : extL (wO c B) ts done t = extL c ts done t := by
 unfold extL whoL mayB;simp only [wO_canB, wO_befL];rfl
theorem wO_gen {ts : List (Bool × Int)} : ∀ {r : Nat} {done : List Int} {p : List dStep}, gen (wO c B) ts r done p = gen c ts r done p
 | 0, _, _ => rfl
 | r + 1, done, p => by
  rw [gen, gen, wO_extL]
  congr 1
  funext s
  exact wO_gen
theorem wO_plans {ts : List (Bool × Int)} : plansS (wO c B) ts = plansS c ts := wO_gen
theorem wO_bge {ts : List (Bool × Int)} : ∀ {p : List dStep} {E F : Nat → Int}, bge (wO c B) ts E F p = bge c ts E F p
 | [], _, _ => rfl
 | s :: p, E, F => by
  rw [bge, bge]
  have : bgEnd (wO c B) ts E F s = bgEnd c ts E F s := by unfold bgEnd bgAt; rw [wO_barsB, wO_befL]
  rw [this]
  exact wO_bge
theorem wO_late {ts : List (Bool × Int)} {E : Nat → Int} {s : dStep} : lateI (wO c B) ts E noB s = lateI c ts E (fun x => B x.toNat) s := by
 unfold lateI;rw [wO_thg, giveT_5];simp only;generalize B (tsk ts s.1).2.toNat = b;cases b <;> simp
/-- **What it keeps.** -/
theorem wO_keeps {ts : List (Bool × Int)} {p : List dStep} : keepsB (wO c B) ts noB p = keepsB c ts (fun x => B x.toNat) p := by
 unfold keepsB;rw [lateS_i, lateS_i, wO_bge];have : lateI (wO c B) ts (bge c ts E0 (F0 (wO c B)) p) noB = lateI c ts (bge c ts E0 (F0 c) p) (fun x => B x.toNat) := funext fun s => wO_late;rw [this]
end
end Go.Proofs.Ytfhdclhbdmhnmaa

/- Plain law: all lists of things, by how many and in order; the Dues that the program gives up. -/
namespace Go.Proofs.Ytfhdclhbdmhnmaa
open K Go Go.Proofs

/-- All lists of m things from lo on, in order. -/
def subL (n : Nat) : Nat → Nat → List (List Int)
 | 0, _ => [[]]
 | m + 1, lo => (List.range' lo (n - lo)).flatMap fun (i : Nat) => (subL n m (i + 1)).map fun l => (i : Int) :: l
theorem subL_mem {n : Nat} : ∀ {m lo : Nat} {l : List Int}, l ∈ subL n m lo → l.length = m ∧ ∀ x ∈ l, 0 ≤ x ∧ x < (n : Int)
 | 0, lo, l, h => by
  simp only [subL, List.mem_singleton] at h
  subst h
  simp
 | m + 1, lo, l, h => by
  rw [subL, List.mem_flatMap] at h
  obtain ⟨i, hi, h⟩ := h
  rw [List.mem_map] at h
  obtain ⟨l', h', rfl⟩ := h
  obtain ⟨h1, h2⟩ := subL_mem h'
  rw [List.mem_range'_1] at hi
  refine ⟨by rw [List.length_cons, h1], fun x hx => ?_⟩
  rcases List.mem_cons.1 hx with rfl | hx
  ·
   omega
  ·
   exact h2 x hx
/-- All lists of things, the short ones first. -/
def allL (n m : Nat) : List (List Int) := (List.range' m (n + 1 - m)).flatMap fun m => subL n m 0
theorem allL_mem {n m : Nat} {l : List Int} (h : l ∈ allL n m) : l.length ≤ n ∧ ∀ x ∈ l, 0 ≤ x ∧ x < (n : Int) := by
 unfold allL at h;rw [List.mem_flatMap] at h;obtain ⟨i, hi, h⟩ := h;obtain ⟨h1, h2⟩ := subL_mem h;rw [List.mem_range'_1] at hi;exact ⟨by omega, h2⟩

/-- Handing over one after the other, as long as more are wanted. -/
def runL {σ α : Type} (Y : σ → α → Option (σ × Bool)) : σ → List α → Option (σ × Bool)
 | s, [] => some (s, true)
 | s, p :: l => (Y s p).bind fun r => if r.2 = true then runL Y r.1 l else some r
theorem runL_append {σ α : Type} {Y : σ → α → Option (σ × Bool)} : ∀ {l m : List α} {s : σ}, runL Y s (l ++ m) = (runL Y s l).bind fun r => if r.2 = true then runL Y r.1 m else some r
 | [], m, s => by simp [runL]
 | p :: l, m, s => by
  simp only [List.cons_append, runL]
  cases hY : Y s p with
  | none => simp
  | some r =>
   simp only [Option.bind_some]
   by_cases hr : r.2 = true
   ·
    rw [if_pos hr, if_pos hr]; exact runL_append
   ·
    rw [if_neg hr, if_neg hr]; simp [hr]

def resL {σ : Type} (p : List Int) (r : σ × Bool) : Except (Bool × List Int × σ) (List Int × σ) := if r.2 = true then .ok (p, r.1) else .error (false, p, r.1)

section
variable {k : Nat} {σ : Type} {Y : σ → List Int → Option (σ × Bool)}

theorem sub1_eq {n m' : Nat} (hn : n ≤ 4) {a1 : Int} (ha1 : a1 = (m' : Int) + 1) (hm' : m' ≤ 4) {p : List Int} (hp : p.length ≤ 8) {self : Int → Int → List Int → σ → Option (Bool × List Int × σ)}
 (hself : ∀ (i : Nat) (s : σ), i < n → self ((i : Int) + 1) (m' : Int) (p ++ [(i : Int)]) s = (runL Y s ((subL n m' (i + 1)).map fun l => (p ++ [(i : Int)]) ++ l)).bind fun r => some (r.2, p ++ [(i : Int)], r.1)) :
 ∀ (d i fuel : Nat) (s : σ), n - i = d → i ≤ n → d < fuel → chg_subsets_1_1_l1 k a1 (n : Int) self fuel (p, (i : Int), s) =
  (runL Y s (((List.range' i (n - i)).flatMap fun (i : Nat) => (subL n m' (i + 1)).map fun l => (i : Int) :: l).map fun l => p ++ l)).bind fun r => some (resL p r) := by
 intro d
 induction d with
 | zero =>
  intro i fuel s h1 h2 h3;obtain ⟨fuel, rfl⟩ : ∃ f, fuel = f + 1 := ⟨fuel - 1, by omega⟩;have : i = n := by omega
  subst this;rw [chg_subsets_1_1_l1, if_neg (by simp)];simp [runL, resL]
 | succ d ih =>
  intro i fuel s h1 h2 h3;obtain ⟨fuel, rfl⟩ : ∃ f, fuel = f + 1 := ⟨fuel - 1, by omega⟩;have hi : i < n := by omega
  have hck : ck ((i : Int) + 1) = some ((i : Int) + 1) := ck_ok (by omega) (by omega);have ih' := fun s => ih (i + 1) fuel s (by omega) (by omega) (by omega);have ed : ((i + 1 : Nat) : Int) = (i : Int) + 1 := by omega
  rw [ed] at ih';rw [chg_subsets_1_1_l1];dsimp only;rw [if_pos (by omega), chk_ok (okLen_of (by simp only [List.length_cons, List.length_nil]; omega)), bs, hck, bs, ck_ok (by omega) (by omega), bs, show a1 - 1 = (m' : Int) by omega, hself i s hi];rw [range'_cons hi, List.flatMap_cons, List.map_append, List.map_map, runL_append];have e1 : ((fun l => p ++ l) ∘ fun (l : List Int) => (i : Int) :: l) = fun l => (p ++ [(i : Int)]) ++ l := by funext l; simp
  rw [e1];cases hR : runL Y s ((subL n m' (i + 1)).map fun l => (p ++ [(i : Int)]) ++ l) with
  | none => simp
  | some x =>
   obtain ⟨s', b⟩ := x;simp only [bs];have hl : ((p ++ [(i : Int)]).length : Int) - 1 = (p.length : Int) := by simp
   rw [hl, ck_ok (by omega) (by omega), bs, chk_ok ⟨by omega, by simp; omega⟩, bs];have htk : List.take (Int.toNat (p.length : Int)) (p ++ [(i : Int)]) = p := by simp
   rw [htk];cases b with
   | false => simp only [Bool.false_eq_true, not_false_eq_true, if_true, if_false, bs, resL]
   | true =>
    simp only [not_true_eq_false, if_false, if_true];exact ih' s'

theorem sub_eq (hk : 50 ≤ k) {n : Nat} (hn : n ≤ 4) : ∀ (m M : Nat) {lo : Nat} {p : List Int} {s : σ}, m ≤ 4 → p.length + m ≤ 8 → lo ≤ n → m < M →
 chg_subsets_1_1 k Y (n : Int) M (lo : Int) (m : Int) p s = (runL Y s ((subL n m lo).map fun l => p ++ l)).bind fun r => some (r.2, p, r.1) := by
 intro m
 induction m with
 | zero =>
  intro M lo p s _ hp _ hM;obtain ⟨M, rfl⟩ : ∃ m', M = m' + 1 := ⟨M - 1, by omega⟩;rw [chg_subsets_1_1, if_pos (by simp)];unfold slc_Clone_int;rw [chk_ok (okLen_of (by omega)), bs, bs];simp only [subL, List.map_cons, List.map_nil, List.append_nil, runL];cases Y s p with
  | none => rfl
  | some r =>
   simp only [bs];obtain ⟨s', b⟩ := r;cases b <;> simp
 | succ m ih =>
  intro M lo p s hm hp hlo hM;obtain ⟨M, rfl⟩ : ∃ m', M = m' + 1 := ⟨M - 1, by omega⟩;rw [chg_subsets_1_1, if_neg (by omega)]
  have e := sub1_eq (Y := Y) (k := k) hn (a1 := ((m + 1 : Nat) : Int)) (m' := m) (by omega) (by omega) (p := p) (by omega) (self := chg_subsets_1_1 k Y (n : Int) M)
   (fun i s hi => by
    have := ih M (lo := i + 1) (p := p ++ [(i : Int)]) (s := s) (by omega) (by rw [List.length_append]; simp only [List.length_cons, List.length_nil]; omega) (by omega) (by omega);rw [show ((i + 1 : Nat) : Int) = (i : Int) + 1 by omega] at this;exact this) (n - lo) lo k s rfl hlo (by omega)
  rw [e, subL];cases runL Y s _ with
  | none => simp [K.bE]
  | some r =>
   obtain ⟨s', b⟩ := r;simp only [bs];cases b with
   | true => simp only [resL, if_true, bE_k]
   | false => simp only [resL, Bool.false_eq_true, if_false, bE_e]

theorem subs_l1 (hk : 50 ≤ k) {n : Nat} (hn : n ≤ 4) : ∀ (d m fuel : Nat) (s : σ), n + 1 - m = d → m ≤ n + 1 → d < fuel → chg_subsets_1_l1 k (n : Int) Y ((n : Int) + 1) fuel ([], (m : Int), s) = (runL Y s (allL n m)).bind fun r => some r.1 := by
 intro d
 induction d with
 | zero =>
  intro m fuel s h1 h2 h3;obtain ⟨fuel, rfl⟩ : ∃ f, fuel = f + 1 := ⟨fuel - 1, by omega⟩;have : m = n + 1 := by omega
  subst this;rw [chg_subsets_1_l1, if_neg (by simp)];simp [allL, runL]
 | succ d ih =>
  intro m fuel s h1 h2 h3;obtain ⟨fuel, rfl⟩ : ∃ f, fuel = f + 1 := ⟨fuel - 1, by omega⟩;have hm : m < n + 1 := by omega
  have hck : ck ((m : Int) + 1) = some ((m : Int) + 1) := ck_ok (by omega) (by omega);have ih' := fun s => ih (m + 1) fuel s (by omega) (by omega) (by omega);have ed : ((m + 1 : Nat) : Int) = (m : Int) + 1 := by omega
  rw [ed] at ih';have e := sub_eq (Y := Y) hk hn m k (lo := 0) (p := []) (s := s) (by omega) (by simp; omega) (by omega) (by omega);rw [chg_subsets_1_l1];dsimp only;rw [if_pos (by omega), show (0 : Int) = ((0 : Nat) : Int) from rfl, e]
  have hall : allL n m = subL n m 0 ++ allL n (m + 1) := by
   unfold allL;rw [range'_cons hm, List.flatMap_cons]
  rw [hall, runL_append];simp only [List.nil_append, List.map_id'];cases runL Y s (subL n m 0) with
  | none => simp
  | some r =>
   obtain ⟨s', b⟩ := r;simp only [bs];cases b with
   | true =>
    simp only [not_true_eq_false, if_false, if_true, hck, bs];exact ih' s'
   | false => simp

/-- **All lists are handed over.** -/
theorem subsets_eq (hk : 50 ≤ k) {n : Nat} (hn : n ≤ 4) {s : σ} : chg_subsets_1 k Y (n : Int) s = (runL Y s (allL n 0)).bind fun r => some r.1 := by
 unfold chg_subsets_1;rw [ck_ok (by omega) (by omega), bs];exact subs_l1 hk hn (n + 1) 0 k s (by omega) (by omega) (by omega)
end

/-- A change without the Dues of a list of things. -/
abbrev wL (c : dChange) (l : List Int) : dChange := wO c fun i => decide ((i : Int) ∈ l)

section
variable {k : Nat} {n : Int} {c : dChange} {mv : List Bool}

/-- Does a plan keep all but these? -/
def keptL (c : dChange) (ts : List (Bool × Int)) (l : List Int) : Bool := ((plansS c ts).find? (keepsB c ts fun x => decide (((x.toNat : Nat) : Int) ∈ l))).isSome

theorem ckeptL (hk : 50 ≤ k) {q : dQuick} (h : QV n c mv q) {l : List Int} (hl : l.length ≤ 20) (hr : ∀ x ∈ l, 0 ≤ x ∧ x < 8) : W ((chg_of k l).bind fun r14 => chg_quick_kept k q r14) fun r => r.2 = keptL c (tsC c mv) l := by
 obtain ⟨m, e, hm, hh⟩ := of_set_ok hk hl hr;rw [e, bs];refine ⟨_, kept_eq hk h hm, ?_⟩;unfold keptL;have : (fun x : Int => decide (Has m x.toNat)) = fun x => decide (((x.toNat : Nat) : Int) ∈ l) := funext fun x => decide_eq_decide.2 (hh _);rw [this];cases (plansS c (tsC c mv)).find? _ <;> rfl

/-- **The program's answer.** -/
theorem cGives_eq (hk : 50 ≤ k) {q : dQuick} (h : QV n c mv q) (hb : chg_begin k c = some (some q, 0)) :
 chg_Gives k c = some (match (allL c.1.length 0).find? (keptL c (tsC c mv)) with | some l => (l, 0) | none => ([], 11)) := by
 have hc := h.vc;have h4 : c.1.length ≤ 4 := by have := hc.n4; have := hc.len; omega
 have hcq : (((q.1.1, q.1.2.1, q.1.2.2.1, q.1.2.2.2), q.2.1, q.2.2) : dQuick) = q := rfl;unfold chg_Gives;rw [hb, bs, co_some, if_neg (by simp)];simp only [hcq];rw [h.eq, subsets_eq hk h4]
 have key : ∀ L : List (List Int), (∀ l ∈ L, l.length ≤ c.1.length ∧ ∀ x ∈ l, 0 ≤ x ∧ x < (c.1.length : Int)) → runL (stopY (fun (y10 : List Int) (p12 : List Int) =>
  (chg_of k p12).bind fun r14 =>
  (chg_quick_kept k q r14).bind fun r15 =>
  if r15.2 = true then (some (p12, false)) else (some (y10, true)))) ([], false) L =
  some (match L.find? (keptL c (tsC c mv)) with | some l => ((l, true), false) | none => (([], false), true)) := by
  intro L
  induction L with
  | nil => intro _; rfl
  | cons l L ih =>
   intro hL;obtain ⟨g1, g2⟩ := hL l (by simp);obtain ⟨r, e, hr⟩ := ckeptL hk h (l := l) (by omega) (fun x hx => by have := g2 x hx; omega);obtain ⟨m, em, _⟩ := of_set_ok hk (l := l) (by omega) (fun x hx => by have := g2 x hx; omega);rw [em, bs] at e;rw [runL, stopY];simp only [em, e, bs, hr];rw [List.find?_cons];cases keptL c (tsC c mv) l with
   | true => simp only [if_true, bs, Bool.not_false, Bool.false_eq_true, if_false]
   | false =>
    simp only [Bool.false_eq_true, if_false, bs, Bool.not_true, if_true];exact ih fun x hx => hL x (by simp [hx])
 rw [key _ (fun l hl => allL_mem hl)];cases (allL c.1.length 0).find? (keptL c (tsC c mv)) with
 | some l => simp only [bs, if_true]
 | none => simp only [bs, Bool.false_eq_true, if_false]
end
end Go.Proofs.Ytfhdclhbdmhnmaa

/- Plain law: ChangeGives. -/
namespace Go.Proofs.Ytfhdclhbdmhnmaa
open K Go Go.Proofs

theorem picks100 : ∀ n : Nat, n ≤ 4 → ∀ m : Nat, m ≤ n → kit_Picks 100 100 (n : Int) (m : Int) = some (subL n m 0) := by decide +kernel

theorem subL_small : ∀ n : Nat, n ≤ 4 → ∀ m : Nat, m ≤ n → (subL n m 0).length ≤ 6 := by decide

theorem freed_eq {k : Nat} (hk : 50 ≤ k) {c : dChange} (hs : Short c) {l : List Int} (hl : l.length ≤ 20) (hr : ∀ x ∈ l, 0 ≤ x ∧ x < (c.1.length : Int)) : law_freed k c l = some (wL c l) := by
 unfold law_freed;rw [copy_short hk hs, bs]
 have key : W (law_freed_l1 k l k (c.1, 0)) fun r => ∀ i : Nat, r[i]? = (c.1[i]?).map (giveT (decide ((i : Int) ∈ l))) := by
  refine W.loop (f := law_freed_l1 k l) (fun m y => ∃ j : Nat, y.2 = (j : Int) ∧ j ≤ l.length ∧ m = l.length - j ∧ ∀ i : Nat, y.1[i]? = (c.1[i]?).map (giveT (decide ((i : Int) ∈ l.take j)))) ?_ l.length k (c.1, 0) (by omega)
   ⟨0, rfl, by omega, by omega, fun i => by cases c.1[i]? <;> simp [giveT]⟩
  rintro fuel m ⟨x, y⟩ ⟨j, hj, hle, hm, hx⟩ ih;simp only at hj hx;subst hj;unfold law_freed_l1;dsimp only
  refine W.ite (fun hlt => ?_) (fun hge => W.ret (by
   have : j = l.length := by omega
   rw [this, List.take_length] at hx;exact hx))
  have hlt' : j < l.length := by omega
  have hrj := hr _ (List.getElem_mem hlt');have hcl : (l[j]).toNat < c.1.length := by omega
  have hxj : x[(l[j]).toNat]? = some (giveT (decide (((l[j]).toNat : Int) ∈ l.take j)) c.1[(l[j]).toNat]) := by rw [hx, List.getElem?_eq_getElem hcl]; rfl
  have hxl := (List.getElem?_eq_some_iff.1 hxj).1;rw [geti_W hlt', bs, geti_q hrj.1 hxj, bs, ck_ok (by omega) (by omega), bs];refine ih (m - 1) (_, (j : Int) + 1) (by omega) ⟨j + 1, rfl, by omega, by omega, fun i => ?_⟩;simp only;rw [List.getElem?_set, giveT_1, giveT_2, giveT_3, giveT_4];by_cases e : (l[j]).toNat = i
  ·subst e
   rw [if_pos rfl, if_pos hxl, List.getElem?_eq_getElem hcl, decide_eq_true (p := (((l[j]).toNat : Nat) : Int) ∈ l.take (j + 1)) (by
    rw [List.take_add_one, List.getElem?_eq_getElem hlt', List.mem_append];exact .inr (by simp; omega))]
   rfl
  ·rw [if_neg e, hx]
   have : ((i : Int) ∈ l.take (j + 1)) ↔ ((i : Int) ∈ l.take j) := by
    rw [List.take_add_one, List.getElem?_eq_getElem hlt', List.mem_append];simp only [Option.toList_some, List.mem_singleton];exact ⟨fun h => h.resolve_right fun h => e (by omega), .inl⟩
   rw [decide_eq_decide.2 this]
 obtain ⟨r, e, h⟩ := key;rw [e, bs]
 have : r = (wL c l).1 := by
  apply List.ext_getElem?;intro i;rw [h, wO_get]
 rw [this];rfl

section
variable {k : Nat} {n : Int} {c : dChange} {mv : List Bool}
theorem kept_wL (hk : 50 ≤ k) (hs : Short c) (hc : VC n c) (hF : Fix c mv) (ht : (tsC c mv).length ≤ 4) {l : List Int} : W (chg_Kept k (wL c l)) fun r => (keptL c (tsC c mv) l = true → r.2 = 0) ∧ (keptL c (tsC c mv) l = false → r.2 = 11) := by
 have hc' : VC n (wL c l) := wO_vc hs hc;have hF' : Fix (wL c l) mv := wO_fix hF;have ht' : (tsC (wL c l) mv).length ≤ 4 := by rw [wO_ts]; exact ht
 obtain ⟨q, hb, hq⟩ := (begin_ok hk hc' hF').2 ht';have e := Kept_eq hk hq hb;rw [wO_ts, wO_plans] at e;have : keepsB (wL c l) (tsC c mv) noB = keepsB c (tsC c mv) fun x => decide (((x.toNat : Nat) : Int) ∈ l) := funext fun p => wO_keeps;rw [show keepsB (wL c l) (tsC c mv) (fun _ => false) = keepsB (wL c l) (tsC c mv) noB from rfl, this] at e;refine ⟨_, e, ?_⟩;unfold keptL;cases (plansS c (tsC c mv)).find? _ with
 | none => exact ⟨fun h => (nomatch h), fun _ => rfl⟩
 | some p => exact ⟨fun _ => rfl, fun h => (nomatch h)⟩
end

/-- **The law.** -/
theorem gives_law (hdr : law_dressed 100 = some true) (a0 : List Int) : law_ChangeGives 100 a0 = some true := by
 have hk : 50 ≤ 100 := by decide
 unfold law_ChangeGives;obtain ⟨⟨c, l⟩, e3, hlo, _, n, mv, q, hc, hb, hq⟩ := lots_ok hk (l := (a0, 0, 1)) (m := 0) newLots_ok (by decide);dsimp only at hc hb hq;have hs := short_of_vc hc;have h4 : c.1.length ≤ 4 := by have := hc.n4; have := hc.len; omega
 have hF := hq.fix;have ht := hq.t4;rw [show kit_NewLots 100 a0 = some (a0, 0, 1) from rfl, bs, show kit_ChangeOf 100 (a0, 0, 1) = some (c, l) from e3, bs];simp only;rw [cGives_eq hk hq hb, bs];generalize hT : tsC c mv = ts at *
 have l2 : ∀ (r5 : (List Int) × Int) (m : Nat), m ≤ c.1.length → (∀ x, (subL c.1.length m 0).find? (keptL c ts) = some x → r5 = (x, 0)) → law_ChangeGives_l2 100 (c, l) r5 (subL c.1.length m 0) 100 0 = some (if ((subL c.1.length m 0).find? (keptL c ts)).isSome = true then .error true else .ok ()) := fun r5 m hm h5 => by
  have hsl := subL_small c.1.length h4 m hm;have hmem : ∀ x ∈ subL c.1.length m 0, x.length = m ∧ ∀ y ∈ x, 0 ≤ y ∧ y < (c.1.length : Int) := fun x hx => subL_mem hx;generalize subL c.1.length m 0 = L at *
  have hno : ∀ f (j : Nat) (hj : j < L.length), keptL c ts L[j] = false → law_ChangeGives_l2 100 (c, l) r5 L (f + 1) (j : Int) = law_ChangeGives_l2 100 (c, l) r5 L f ((j : Int) + 1) := fun f j hj hkj => by
   have hmj := hmem _ (List.getElem_mem hj);have hlt : (j : Int) < (L.length : Int) := by omega
   have hck : ck ((j : Int) + 1) = some ((j : Int) + 1) := ck_ok (by omega) (by omega);obtain ⟨r, e, _, hr⟩ := kept_wL hk hs hc hF (by rw [hT]; exact ht) (l := L[j]);rw [hT] at hr;have hr := hr hkj;rw [law_ChangeGives_l2, if_pos hlt, geti_W hj, bs, freed_eq hk hs (by omega) hmj.2, bs, e, bs, if_neg (by rw [hr]; decide), if_neg (by rw [hr]; decide), hck, bs]
  have hstop : ∀ f, law_ChangeGives_l2 100 (c, l) r5 L (f + 1) (L.length : Int) = some (.ok ()) := fun f => by simp [law_ChangeGives_l2]
  cases hf : L.find? (keptL c ts) with
  | none =>
   have hn := List.find?_eq_none.1 hf;simp only [Option.isSome_none, Bool.false_eq_true, if_false];exact for_all0 (f := law_ChangeGives_l2 100 (c, l) r5 L) (N := L.length) (k := 100) (by omega) (fun f j hj => hno f j hj (by have := hn _ (List.getElem_mem hj); simpa using this)) hstop
  | some p =>
   obtain ⟨h1, i, hi, h2, h3⟩ := List.find?_eq_some_iff_getElem.1 hf;have e5 := h5 p hf;subst e5;simp only [Option.isSome_some, if_true];refine for_find (f := law_ChangeGives_l2 100 (c, l) (p, 0) L) (e := true) L.length i hi (fun f j hj => hno f j (by omega) (by simpa using h3 j hj)) (fun f => ?_) 100 (by omega);have hmi := hmem _ (List.getElem_mem hi);have hlt : (i : Int) < (L.length : Int) := by omega
   obtain ⟨r, e, hr, _⟩ := kept_wL hk hs hc hF (by rw [hT]; exact ht) (l := L[i]);rw [hT] at hr;have hr := hr (by rw [h2]; exact h1);rw [law_ChangeGives_l2, if_pos hlt, geti_W hi, bs, freed_eq hk hs (by omega) hmi.2, bs, e, bs, if_pos hr];simp only [if_true, bs];rw [h2, sameInts_self (by rw [← h2]; omega) (by rw [← h2]; omega), bs, if_pos rfl, hdr, bs, bs]
 have l1 : ∀ (r5 : (List Int) × Int) (d m fuel : Nat), (∀ x, (allL c.1.length m).find? (keptL c ts) = some x → r5 = (x, 0)) → c.1.length + 1 - m = d → m ≤ c.1.length + 1 → d < fuel → law_ChangeGives_l1 100 (c, l) r5 fuel (m : Int) = some (if ((allL c.1.length m).find? (keptL c ts)).isSome = true then .error true else .ok ()) := by
  intro r5 d
  induction d with
  | zero =>
   intro m fuel h5 h1 h2 h3;obtain ⟨fuel, rfl⟩ : ∃ f, fuel = f + 1 := ⟨fuel - 1, by omega⟩;have : m = c.1.length + 1 := by omega
   subst this;rw [law_ChangeGives_l1, if_neg (by simp only; omega)];simp [allL]
  | succ d ih =>
   intro m fuel h5 h1 h2 h3;obtain ⟨fuel, rfl⟩ : ∃ f, fuel = f + 1 := ⟨fuel - 1, by omega⟩;have hm : m < c.1.length + 1 := by omega
   have hall : allL c.1.length m = subL c.1.length m 0 ++ allL c.1.length (m + 1) := by
    unfold allL;rw [range'_cons hm, List.flatMap_cons]
   rw [hall, List.find?_append] at h5;have e2 := l2 r5 m (by omega) (fun x hx => h5 x (by rw [hx]; rfl));rw [law_ChangeGives_l1, if_pos (by simp only; omega), picks100 c.1.length h4 m (by omega), bs, e2, hall, List.find?_append];cases hf : (subL c.1.length m 0).find? (keptL c ts) with
   | some p => simp only [Option.isSome_some, if_true, bE_e, Option.some_or]
   | none =>
    rw [hf] at h5;simp only [Option.none_or] at h5;have ih' := ih (m + 1) fuel h5 (by omega) (by omega) (by omega);rw [show ((m + 1 : Nat) : Int) = (m : Int) + 1 by omega] at ih';simp only [Option.isSome_none, Bool.false_eq_true, if_false, bE_k, Option.none_or];rw [ck_ok (by omega) (by omega), bs];exact ih'
 cases hfd : (allL c.1.length 0).find? (keptL c ts) with
 | some p =>
  have key := l1 (p, 0) (c.1.length + 1) 0 100 (fun x hx => by rw [hfd] at hx; cases hx; rfl) (by omega) (by omega) (by omega);rw [hfd] at key;simp only;rw [show law_ChangeGives_l1 100 (c, l) (p, 0) 100 0 = _ from key];simp only [Option.isSome_some, if_true, bE_e]
 | none =>
  have key := l1 ([], 11) (c.1.length + 1) 0 100 (fun x hx => by rw [hfd] at hx; cases hx) (by omega) (by omega) (by omega);rw [hfd] at key;simp only;rw [show law_ChangeGives_l1 100 (c, l) ([], 11) 100 0 = _ from key];simp only [Option.isSome_none, Bool.false_eq_true, if_false, bE_k];simp only [if_true, List.length_nil, Int.natCast_zero, hdr, bs]
end Go.Proofs.Ytfhdclhbdmhnmaa
