/- Plain law, part 3: the tasks of a change, as the law's kit counts them: what moves, and the list. -/
import Derived.Test.YtopgphikdglphaaB7
namespace Go.Proofs.Ytopgphikdglphaa
open K Go Go.Proofs

theorem geti_W {α : Type} {l : List α} {i : Nat} (h : i < l.length) : geti l (i : Int) = some l[i] := by
 rw [geti, if_pos (by omega)];exact List.getElem?_eq_getElem h

/-- A set that holds all that has to move. -/
def Shut (c : dChange) (C : Nat → Prop) : Prop := ∀ i, i < c.1.length → Forced c C i → C i

abbrev cntT (mv : List Bool) : Nat := mv.count true

theorem count_set {mv : List Bool} {i : Nat} (h : mv[i]? = some false) : cntT (mv.set i true) = cntT mv + 1 := by
 induction mv generalizing i with
 | nil => cases h
 | cons b mv ih =>
  cases i with
  | zero =>
   simp only [List.getElem?_cons_zero, Option.some.injEq] at h;subst h;simp [cntT]
  | succ i =>
   simp only [List.getElem?_cons_succ] at h;have := ih h;simp only [cntT, List.set_cons_succ, List.count_cons] at this ⊢;omega

theorem in_set {mv : List Bool} {i j : Nat} (hi : i < mv.length) : In (mv.set i true) j ↔ j = i ∨ In mv j := by
 unfold In;rw [List.getElem?_set];by_cases h : i = j
 ·subst h;simp [hi]
 ·simp [h, Ne.symm h]

/-- What a pass leaves. -/
structure Pass (c : dChange) (mv0 mv : List Bool) (again : Bool) (j : Nat) : Prop where
 len : mv.length = c.1.length
 mono : ∀ i, In mv0 i → In mv i
 sound : ∀ C, Shut c C → (∀ i, In mv0 i → C i) → ∀ i, In mv i → C i
 same : again = false → mv = mv0 ∧ ∀ i, i < j → Forced c (In mv0) i → In mv0 i
 more : again = true → cntT mv0 < cntT mv
 le : cntT mv0 ≤ cntT mv

theorem Forced.mono {c : dChange} {M N : Nat → Prop} (h : ∀ i, M i → N i) {i : Nat} (hf : Forced c M i) : Forced c N i := by
 rcases hf with hf | ⟨a, b, q, t, h1, h2, h3⟩
 ·exact .inl hf
 ·exact .inr ⟨a, b, q, t, h1, h q h2, h3⟩


theorem pass_ok {k : Nat} (hk : 50 ≤ k) {c : dChange} (hs : Small c) {mv0 : List Bool} (hmv : mv0.length = c.1.length) : W (kit_TasksOf_l2 k c k (mv0, false, 0)) fun r => Pass c mv0 r.1 r.2 c.1.length := by
 have h8 := hs.things
 refine W.loop (f := kit_TasksOf_l2 k c) (fun m y => ∃ j : Nat, y.2.2 = (j : Int) ∧ j ≤ c.1.length ∧ m = c.1.length - j ∧ Pass c mv0 y.1 y.2.1 j) ?_ c.1.length k (mv0, false, 0) (by omega)
  ⟨0, rfl, by omega, by omega, hmv, fun _ h => h, fun C hC h => h, fun _ => ⟨rfl, fun i hi => by omega⟩, fun h => (by cases h), Nat.le_refl _⟩
 rintro fuel m ⟨mv, again, y⟩ ⟨j, hj, hle, hm, hP⟩ ih;simp only at hj hP;subst hj;unfold kit_TasksOf_l2;refine W.ite (fun hlt => ?_) (fun hge => W.ret ?_)
 ·obtain ⟨r1, e1, i1⟩ := at_ok (k := k) (l := c.2.2.1) (x := (j : Int)) (by have := hs.wears; omega) (by have := hs.wears; omega);obtain ⟨r2, e2, i2⟩ := at_ok (k := k) (l := c.2.2.2) (x := (j : Int)) (by have := hs.wants; omega) (by have := hs.wants; omega);obtain ⟨d, e3, i3⟩ := due_ok hk (c := c) (mv := mv) (again := again) (i := j) hs hP.len (d0 := !decide ((decide (0 ≤ r1)) = (decide (0 ≤ r2))));have hlt' : j < c.1.length := by simp only at hlt; omega
  have hfd : d = true ↔ Forced c (In mv) j := by
   rw [i3];unfold Forced
   have : ((!decide ((decide (0 ≤ r1)) = (decide (0 ≤ r2)))) = true) ↔ (((j : Int) ∈ c.2.2.1 ∧ ¬ (j : Int) ∈ c.2.2.2) ∨ (¬ (j : Int) ∈ c.2.2.1 ∧ (j : Int) ∈ c.2.2.2)) := by
    rw [← i1, ← i2];by_cases a : 0 ≤ r1 <;> by_cases b : 0 ≤ r2 <;> simp [a, b]
   rw [this]
  have hlm : j < mv.length := by rw [hP.len]; exact hlt'
  simp only [e1, e2, Option.bind_some];rw [e3];simp only [Option.bind_some, geti_W hlm]
  have next : ∀ mv' again', Pass c mv0 mv' again' (j + 1) → W ((some (mv', again') : Option (List Bool × Bool)).bind fun x12 => (K.ck ((j : Int) + 1)).bind fun x34 => kit_TasksOf_l2 k c fuel (x12.1, x12.2, x34)) fun r => Pass c mv0 r.1 r.2 c.1.length := fun mv' again' h => by
   refine W.sb (W.ck (by omega) (by omega) (ih (m - 1) (mv', again', (j : Int) + 1) (by omega) ⟨j + 1, ?_, by omega, by omega, h⟩));show (j : Int) + 1 = ((j + 1 : Nat) : Int);omega
  by_cases hd : d = true
  ·have hF := hfd.1 hd;rw [if_pos hd];simp only [Option.bind_some];by_cases hb : mv[j] = true
   ·have hnb : ¬ ((!mv[j]) = true) := by rw [hb]; decide
    rw [if_neg hnb];have hIn : In mv j := by rw [In, List.getElem?_eq_getElem hlm, hb]
    refine next mv again ⟨hP.len, hP.mono, hP.sound, fun ha => ⟨(hP.same ha).1, fun i hi hf => ?_⟩, hP.more, hP.le⟩;obtain ⟨h1, h2⟩ := hP.same ha;subst h1;by_cases hij : i < j
    ·exact h2 i hij hf
    ·have : i = j := by omega
     subst this;exact hIn
   ·have hbf : mv[j] = false := by simpa using hb
    have hnb : (!mv[j]) = true := by rw [hbf]; rfl
    rw [if_pos hnb];have hget : mv[j]? = some false := by rw [List.getElem?_eq_getElem hlm, hbf]
    have hcs := count_set hget;refine next (mv.set j true) true ⟨by rw [List.length_set]; exact hP.len, fun i hi => (in_set hlm).2 (.inr (hP.mono i hi)), fun C hC h0 i hi => ?_, fun h => (by cases h), fun _ => ?_, ?_⟩
    ·rcases (in_set hlm).1 hi with rfl | hi
     ·exact hC _ hlt' (hF.mono (hP.sound C hC h0))
     ·exact hP.sound C hC h0 i hi
    ·have := hP.le; omega
    ·have := hP.le; omega
  ·rw [if_neg hd];simp only [Option.bind_some];rw [if_neg (by decide)];refine next mv again ⟨hP.len, hP.mono, hP.sound, fun ha => ⟨(hP.same ha).1, fun i hi hf => ?_⟩, hP.more, hP.le⟩;obtain ⟨h1, h2⟩ := hP.same ha;subst h1;by_cases hij : i < j
   ·exact h2 i hij hf
   ·have : i = j := by omega
    subst this;exact absurd (hfd.2 hf) hd
 ·have : j = c.1.length := by simp only at hge; omega
  subst this;exact hP

/-- What moves in the end. -/
structure Fix (c : dChange) (mv : List Bool) : Prop where
 len : mv.length = c.1.length
 sound : ∀ C, Shut c C → ∀ i, In mv i → C i
 shut : Shut c (In mv)

theorem fix_ok {k : Nat} (hk : 50 ≤ k) {c : dChange} (hs : Small c) : W (kit_TasksOf_l1 k c k (List.replicate c.1.length false, true)) (Fix c) := by
 have h8 := hs.things;have hcl : ∀ mv : List Bool, mv.length = c.1.length → cntT mv ≤ c.1.length := fun mv h => by rw [← h]; exact List.count_le_length
 refine W.loop (f := kit_TasksOf_l1 k c) (fun m y => m = (if y.2 = true then c.1.length - cntT y.1 + 1 else 0) ∧ y.1.length = c.1.length ∧ (∀ C, Shut c C → ∀ i, In y.1 i → C i) ∧ (y.2 = false → Shut c (In y.1))) ?_ (c.1.length + 1) k _ (by omega)
  ⟨by simp [cntT, List.count_replicate], by simp, fun C _ i h => (by
   exfalso;have h : (List.replicate c.1.length false)[i]? = some true := h;rw [List.getElem?_replicate] at h;split at h <;> cases h), fun h => (by cases h)⟩
 rintro fuel m ⟨mv, again⟩ ⟨hm, hl, hsd, hsh⟩ ih;simp only at hm hl hsd hsh;unfold kit_TasksOf_l1;refine W.ite (fun ha => ?_) (fun ha => W.ret ⟨hl, hsd, hsh (by simpa using ha)⟩);simp only at ha;rw [if_pos ha] at hm;refine W.bind (pass_ok hk hs hl) fun r hP => ih _ (r.1, r.2) ?_ ⟨rfl, hP.len, fun C hC => hP.sound C hC (hsd C hC), fun hr => ?_⟩
 ·have h1 := hcl _ hl;have h2 := hcl _ hP.len;have h3 := hP.le;show (if r.2 = true then c.1.length - cntT r.1 + 1 else 0) < m;simp only at h3;split
  ·rename_i hr;have := hP.more hr;simp only at this;omega
  ·omega
 ·obtain ⟨e, h⟩ := hP.same hr;rw [e];exact h

/-- The tasks of one kind. -/
def sel (mv : List Bool) (ws : List Int) (b : Bool) (j : Nat) : List dTask := ((List.range j).filter fun (i : Nat) => mv[i]?.getD false && decide ((i : Int) ∈ ws)).map fun (i : Nat) => ((i : Int), b)

theorem sel_succ {mv : List Bool} {ws : List Int} {b : Bool} {j : Nat} : sel mv ws b (j + 1) = sel mv ws b j ++ (if In mv j ∧ (j : Int) ∈ ws then [((j : Int), b)] else []) := by
 unfold sel;rw [List.range_succ, List.filter_append, List.map_append];congr 1;by_cases h : In mv j ∧ (j : Int) ∈ ws
 ·rw [if_pos h];have h1 : mv[j]? = some true := h.1;simp [h1, h.2]
 ·rw [if_neg h];rw [List.filter_cons];split
  ·rename_i hh;exfalso;simp only [Bool.and_eq_true, decide_eq_true_eq] at hh;refine h ⟨?_, hh.2⟩;cases hg : mv[j]? with
   | none => rw [hg] at hh; simp at hh
   | some b => rw [hg] at hh; simp at hh; show mv[j]? = _; rw [hg, hh.1]
  ·rfl

theorem sel_len {mv : List Bool} {ws : List Int} {b : Bool} {j : Nat} : (sel mv ws b j).length ≤ j := by
 unfold sel;rw [List.length_map];exact Nat.le_trans (List.length_filter_le _ _) (by simp)

theorem okLen_of {n : Nat} (h : n ≤ 1000) : okLen n := by unfold okLen; omega


/-- One kind round. -/
theorem kind_ok {k : Nat} (hk : 50 ≤ k) {c : dChange} (hs : Small c) {mv : List Bool} (hl : mv.length = c.1.length) {out : List dTask} (ho : out.length ≤ 20) {on : Int} (hon : on = 0 ∨ on = 1) :
 W (kit_TasksOf_l5 k c mv (out, on) k (out, 0)) fun r => r = out ++ sel mv (if on = 0 then c.2.2.1 else c.2.2.2) (decide (on = 1)) mv.length := by
 have h8 := hs.things
 refine W.loop (f := kit_TasksOf_l5 k c mv (out, on)) (fun m y => ∃ j : Nat, y.2 = (j : Int) ∧ j ≤ mv.length ∧ m = mv.length - j ∧ y.1 = out ++ sel mv (if on = 0 then c.2.2.1 else c.2.2.2) (decide (on = 1)) j) ?_ mv.length k (out, 0) (by omega)
  ⟨0, rfl, by omega, by omega, by simp [sel]⟩
 rintro fuel m ⟨o, y⟩ ⟨j, hj, hle, hm, ho'⟩ ih
 simp only at hj ho'
 subst hj ho'
 unfold kit_TasksOf_l5
 refine W.ite (fun hlt => ?_) (fun hge => W.ret ?_)
 ·
  have hlt' : j < mv.length := by simp only at hlt; omega
  obtain ⟨r1, e1, i1⟩ := at_ok (k := k) (l := c.2.2.1) (x := (j : Int)) (by have := hs.wears; omega) (by have := hs.wears; omega);obtain ⟨r2, e2, i2⟩ := at_ok (k := k) (l := c.2.2.2) (x := (j : Int)) (by have := hs.wants; omega) (by have := hs.wants; omega);have hsl := sel_len (mv := mv) (ws := if on = 0 then c.2.2.1 else c.2.2.2) (b := decide (on = 1)) (j := j)
  have next : ∀ bb : Bool, (bb = true ↔ In mv j ∧ (j : Int) ∈ (if on = 0 then c.2.2.1 else c.2.2.2)) →
   W (((some bb : Option Bool).bind fun x45 => if x45 = true then ((chkP (okLen (List.length (out ++ sel mv (if on = 0 then c.2.2.1 else c.2.2.2) (decide (on = 1)) j) + List.length [((j : Int), decide (on = (1 : Int)))]))).bind fun _ =>
    some ((out ++ sel mv (if on = 0 then c.2.2.1 else c.2.2.2) (decide (on = 1)) j) ++ [((j : Int), decide (on = (1 : Int)))])) else (some (out ++ sel mv (if on = 0 then c.2.2.1 else c.2.2.2) (decide (on = 1)) j))).bind fun x43 =>
    (K.ck ((j : Int) + 1)).bind fun x53 => kit_TasksOf_l5 k c mv (out, on) fuel (x43, x53)) fun r => r = out ++ sel mv (if on = 0 then c.2.2.1 else c.2.2.2) (decide (on = 1)) mv.length := by
   intro bb hbb
   refine W.sb (W.iteB (fun hb => ?_) (fun hb => ?_))
   ·
    have hc : okLen (List.length (out ++ sel mv (if on = 0 then c.2.2.1 else c.2.2.2) (decide (on = 1)) j) + List.length [((j : Int), decide (on = (1 : Int)))]) := okLen_of (by rw [List.length_append]; simp only [List.length_cons, List.length_nil]; omega);refine W.chkB hc (W.sb (W.ck (by omega) (by omega) (ih (m - 1) (_, (j : Int) + 1) (by omega) ⟨j + 1, ?_, by omega, by omega, ?_⟩)))
    ·show (j : Int) + 1 = ((j + 1 : Nat) : Int);omega
    ·show (out ++ _) ++ _ = _;rw [sel_succ, if_pos (hbb.1 hb), List.append_assoc]
   ·
    refine W.sb (W.ck (by omega) (by omega) (ih (m - 1) (_, (j : Int) + 1) (by omega) ⟨j + 1, ?_, by omega, by omega, ?_⟩))
    ·show (j : Int) + 1 = ((j + 1 : Nat) : Int);omega
    ·show out ++ _ = _;rw [sel_succ, if_neg (fun h => hb (hbb.2 h)), List.append_nil]
  simp only [geti_W hlt', e1, e2, Option.bind_some];have hIn : In mv j ↔ mv[j] = true := by unfold In; rw [List.getElem?_eq_getElem hlt']; simp
  by_cases hb : mv[j] = true
  ·rw [if_pos hb];rcases hon with rfl | rfl
   ·simp only [if_true];by_cases h1 : 0 ≤ r1
    ·rw [if_pos h1];exact next true ⟨fun _ => ⟨hIn.2 hb, i1.1 h1⟩, fun _ => rfl⟩
    ·rw [if_neg h1];exact next false ⟨fun h => (by cases h), fun h => absurd (i1.2 h.2) h1⟩
   ·rw [if_neg (by decide), if_pos rfl];exact next (decide (0 ≤ r2)) ⟨fun h => ⟨hIn.2 hb, i2.1 (of_decide_eq_true h)⟩, fun h => decide_eq_true (i2.2 h.2)⟩
  ·rw [if_neg hb];exact next false ⟨fun h => (by cases h), fun h => absurd (hIn.1 h.1) hb⟩
 ·
  have : j = mv.length := by simp only at hge; omega
  subst this;rfl

/-- **The tasks of a change.** -/
theorem tasksOf_ok {k : Nat} (hk : 50 ≤ k) {c : dChange} (hs : Small c) : W (kit_TasksOf k c) fun r => ∃ mv, Fix c mv ∧ r = sel mv c.2.2.1 false c.1.length ++ sel mv c.2.2.2 true c.1.length := by
 have h8 := hs.things;unfold kit_TasksOf;refine W.chk ⟨by omega, okLen_of (by omega)⟩ ?_;have e : Int.toNat (c.1.length : Int) = c.1.length := by omega
 rw [e];refine W.bind (fix_ok hk hs) fun mv hF => ?_;have hsl := sel_len (mv := mv) (ws := c.2.2.1) (b := false) (j := mv.length);have hlen := hF.len;have hw := sel_len (mv := mv) (ws := c.2.2.1) (b := false) (j := mv.length);obtain ⟨o1, f1, g1⟩ := kind_ok hk hs hF.len (out := []) (by simp) (on := 0) (.inl rfl);have g1' : o1 = sel mv c.2.2.1 false mv.length := by rw [g1]; simp
 have hl1 : o1.length ≤ 20 := by rw [g1']; omega
 obtain ⟨o2, f2, g2⟩ := kind_ok hk hs hF.len hl1 (on := 1) (.inr rfl);have g2' : o2 = o1 ++ sel mv c.2.2.2 true mv.length := by rw [g2]; simp
 have run : kit_TasksOf_l4 k c mv k ([], 0) = some o2 := by
  obtain ⟨k', rfl⟩ : ∃ k', k = k' + 3 := ⟨k - 3, by omega⟩;have e0 : K.ck ((0 : Int) + 1) = some 1 := rfl;have e1 : K.ck ((1 : Int) + 1) = some 2 := rfl
  have s1 : kit_TasksOf_l4 (k' + 3) c mv (k' + 3) ([], 0) = kit_TasksOf_l4 (k' + 3) c mv (k' + 2) (o1, 1) := by
   rw [kit_TasksOf_l4];simp only [f1, Option.bind_some, e0];rfl
  have s2 : kit_TasksOf_l4 (k' + 3) c mv (k' + 2) (o1, 1) = kit_TasksOf_l4 (k' + 3) c mv (k' + 1) (o2, 2) := by
   rw [kit_TasksOf_l4];simp only [f2, Option.bind_some, e1];rfl
  have s3 : kit_TasksOf_l4 (k' + 3) c mv (k' + 1) (o2, 2) = some o2 := by
   rw [kit_TasksOf_l4];simp
  rw [s1, s2, s3]
 rw [run];refine W.ret ⟨mv, hF, ?_⟩;rw [g2', g1', ← hF.len]
end Go.Proofs.Ytopgphikdglphaa

/- Plain law, part 4: the change that is made of the lots. -/
namespace Go.Proofs.Ytopgphikdglphaa
open K Go Go.Proofs

/-- An ascending list of numbers below n. -/
def Asc (l : List Int) (n : Int) : Prop := l.Pairwise (· < ·) ∧ ∀ x ∈ l, 0 ≤ x ∧ x < n

theorem Asc.nil {n : Int} : Asc [] n := ⟨List.Pairwise.nil, fun x h => by simp at h⟩
theorem Asc.mono {l : List Int} {n m : Int} (h : Asc l n) (hm : n ≤ m) : Asc l m := ⟨h.1, fun x hx => ⟨(h.2 x hx).1, by have := (h.2 x hx).2; omega⟩⟩
theorem Asc.snoc {l : List Int} {i : Int} (h : Asc l i) (h0 : 0 ≤ i) : Asc (l ++ [i]) (i + 1) := by
 refine ⟨List.pairwise_append.2 ⟨h.1, List.pairwise_singleton _ _, fun a ha b hb => ?_⟩, fun x hx => ?_⟩
 ·simp only [List.mem_singleton] at hb;subst hb;exact (h.2 a ha).2
 ·rcases List.mem_append.1 hx with hx | hx
  ·have := h.2 x hx;omega
  ·simp only [List.mem_singleton] at hx;subst hx;omega
theorem Asc.take {l : List Int} {n : Int} (h : Asc l n) (j : Nat) : Asc (l.take j) n := ⟨h.1.sublist (List.take_sublist _ _), fun x hx => h.2 x (List.mem_of_mem_take hx)⟩
theorem asc_len : ∀ (l : List Int) (a n : Int), l.Pairwise (· < ·) → (∀ x ∈ l, a ≤ x ∧ x < n) → a ≤ n → (l.length : Int) ≤ n - a
 | [], a, n, _, _, h => by simp; omega
 | x :: l, a, n, hp, hx, h => by
  obtain ⟨h1, h2⟩ := List.pairwise_cons.1 hp
  have h3 := hx x (List.mem_cons_self ..)
  have := asc_len l (x + 1) n h2 (fun y hy => ⟨by have := h1 y hy; omega, (hx y (List.mem_cons_of_mem _ hy)).2⟩) (by omega)
  simp only [List.length_cons]
  omega
theorem Asc.len {l : List Int} {n : Int} (h : Asc l n) (h0 : 0 ≤ n) : (l.length : Int) ≤ n := by
 have := asc_len l 0 n h.1 h.2 h0;omega

theorem Lo.mono {l : dLots} {m m' : Int} (h : Lo l m) (hm : m ≤ m') : Lo l m' := ⟨h.1, by have := h.2; omega⟩

/-- What lies over a thing: all of it further up, or all of it further down. -/
def OverOk (up : Bool) (i n : Int) (l : List Int) : Prop := Asc l n ∧ ∀ x ∈ l, decide (i < x) = up ∧ x ≠ i

structure GoodT (up : Bool) (n : Int) (i : Nat) (t : dThing) : Prop where
 over : OverOk up (i : Int) n t.1
 off : 1 ≤ t.2.1 ∧ t.2.1 ≤ 4
 put : 1 ≤ t.2.2.1 ∧ t.2.2.1 ≤ 4
 side : 0 ≤ t.2.2.2.1 ∧ t.2.2.2.1 ≤ 2
 due : 0 ≤ t.2.2.2.2 ∧ t.2.2.2.2 ≤ 12

structure GoodD (n : Int) (d : dDresser) : Prop where
 can : Asc d.1 n
 side : 0 ≤ d.2.1 ∧ d.2.1 ≤ 2
 start : 0 ≤ d.2.2 ∧ d.2.2 ≤ 9

theorem over_ok {k : Nat} (hk : 50 ≤ k) {r3 : Int × dLots} {r4 : Bool × dLots} {y7 : (List Int) × Int × Int × (List dThing) × (List Int) × (List Int) × Int} {l : dLots} {m : Int} (hn : 1 ≤ r3.1 ∧ r3.1 ≤ 4) (hl : Lo l m) (hm : 0 ≤ m ∧ m ≤ 100000) :
 W (kit_ChangeOf_l2 k r3 r4 y7 k (l.1, l.2.1, l.2.2, [], 0)) fun r => Lo (r.1, r.2.1, r.2.2.1) (m + 4) ∧ OverOk r4.1 y7.2.2.2.2.2.2 r3.1 r.2.2.2 := by
 refine W.loop (f := kit_ChangeOf_l2 k r3 r4 y7) (fun q y => 0 ≤ y.2.2.2.2 ∧ y.2.2.2.2 ≤ r3.1 ∧ q = (r3.1 - y.2.2.2.2).toNat ∧ Lo (y.1, y.2.1, y.2.2.1) (m + y.2.2.2.2) ∧ OverOk r4.1 y7.2.2.2.2.2.2 y.2.2.2.2 y.2.2.2.1) ?_ r3.1.toNat k _ (by omega)
  ⟨Int.le_refl 0, by show 0 ≤ r3.1; omega, by show r3.1.toNat = (r3.1 - 0).toNat; omega, hl.mono (by show m ≤ m + 0; omega), Asc.nil, fun x h => by simp at h⟩
 rintro fuel q ⟨nums, d, s, over, j⟩ ⟨h0, h1, hq, hlo, hov⟩ ih
 simp only at h0 h1 hq hlo hov
 unfold kit_ChangeOf_l2
 refine W.ite (fun hlt => ?_) (fun hge => W.ret ?_)
 ·
  simp only at hlt
  have next : ∀ (nums' : List Int) (d' s' : Int) (bb : Bool), Lo (nums', d', s') (m + (j + 1)) → (bb = true → decide (y7.2.2.2.2.2.2 < j) = r4.1 ∧ j ≠ y7.2.2.2.2.2.2) →
   W (((some (nums', d', s', bb) : Option ((List Int) × Int × Int × Bool)).bind fun x26 => if x26.2.2.2 = true then ((chkP (okLen (List.length over + List.length [j]))).bind fun _ =>
    some (x26.1, x26.2.1, x26.2.2.1, over ++ [j])) else (some (x26.1, x26.2.1, x26.2.2.1, over))).bind fun x24 =>
    (K.ck (j + (1 : Int))).bind fun x32 => kit_ChangeOf_l2 k r3 r4 y7 fuel (x24.1, x24.2.1, x24.2.2.1, x24.2.2.2, x32)) fun r => Lo (r.1, r.2.1, r.2.2.1) (m + 4) ∧ OverOk r4.1 y7.2.2.2.2.2.2 r3.1 r.2.2.2 := by
   intro nums' d' s' bb hlo' hbb
   have hlen := hov.1.len h0
   refine W.sb (W.iteB (fun hb => ?_) (fun hb => ?_))
   ·
    simp only at hb;refine W.chkB (okLen_of (by simp only [List.length_cons, List.length_nil]; omega)) (W.sb (W.ck (by omega) (by omega) (ih (q - 1) (nums', d', s', over ++ [j], j + 1) (by omega) ⟨?_, ?_, ?_, hlo', hov.1.snoc h0, fun x hx => ?_⟩)))
    ·show 0 ≤ j + 1; omega
    ·show j + 1 ≤ r3.1; omega
    ·show q - 1 = (r3.1 - (j + 1)).toNat; omega
    ·rcases List.mem_append.1 hx with hx | hx
     ·exact hov.2 x hx
     ·simp only [List.mem_singleton] at hx;subst hx;exact hbb hb
   ·
    refine W.sb (W.ck (by omega) (by omega) (ih (q - 1) (nums', d', s', over, j + 1) (by omega) ⟨?_, ?_, ?_, hlo', hov.1.mono (by show j ≤ j + 1; omega), hov.2⟩))
    ·show 0 ≤ j + 1; omega
    ·show j + 1 ≤ r3.1; omega
    ·show q - 1 = (r3.1 - (j + 1)).toNat; omega
  by_cases hu : decide (y7.2.2.2.2.2.2 < j) = r4.1
  ·rw [if_pos hu];by_cases hj : j = y7.2.2.2.2.2.2
   ·rw [if_neg (fun h => h hj)];exact next nums d s false (hlo.mono (by omega)) (fun h => by cases h)
   ·rw [if_pos hj];obtain ⟨r, e, hr⟩ := rare_ok (k := k) (a := 3) hlo (by omega) (by decide) (by decide);rw [e];exact next r.2.1 r.2.2.1 r.2.2.2 r.1 (hr.mono (by omega)) (fun _ => ⟨hu, hj⟩)
  ·rw [if_neg hu];exact next nums d s false (hlo.mono (by omega)) (fun h => by cases h)
 ·
  have : j = r3.1 := by simp only at hge; omega
  subst this;exact ⟨hlo.mono (by omega), hov⟩

/-- What the things are, with what is worn and wanted of the first i. -/
structure Made (up : Bool) (n : Int) (i : Int) (things : List dThing) (wears wants : List Int) : Prop where
 len : (things.length : Int) = i
 good : ∀ (j : Nat) t, things[j]? = some t → GoodT up n j t
 wears : Asc wears i
 wants : Asc wants i

theorem things_ok {k : Nat} (hk : 50 ≤ k) {r3 : Int × dLots} {r4 : Bool × dLots} {l : dLots} {m : Int} (hn : 1 ≤ r3.1 ∧ r3.1 ≤ 4) (hl : Lo l m) (hm : 0 ≤ m ∧ m ≤ 10000) :
 W (kit_ChangeOf_l1 k r3 r4 k (l.1, l.2.1, l.2.2, [], [], [], 0)) fun r => Lo (r.1, r.2.1, r.2.2.1) (m + 120) ∧ Made r4.1 r3.1 r3.1 r.2.2.2.1 r.2.2.2.2.1 r.2.2.2.2.2 := by
 refine W.loop (f := kit_ChangeOf_l1 k r3 r4) (fun q y => 0 ≤ y.2.2.2.2.2.2 ∧ y.2.2.2.2.2.2 ≤ r3.1 ∧ q = (r3.1 - y.2.2.2.2.2.2).toNat ∧ Lo (y.1, y.2.1, y.2.2.1) (m + 30 * y.2.2.2.2.2.2) ∧ Made r4.1 r3.1 y.2.2.2.2.2.2 y.2.2.2.1 y.2.2.2.2.1 y.2.2.2.2.2.1) ?_ r3.1.toNat k _ (by omega)
  ⟨Int.le_refl 0, by show 0 ≤ r3.1; omega, by show r3.1.toNat = (r3.1 - 0).toNat; omega, hl.mono (by show m ≤ m + 30 * 0; omega), rfl, fun j t h => by simp at h, Asc.nil, Asc.nil⟩
 rintro fuel q ⟨nums, d, s, things, wears, wants, i⟩ ⟨h0, h1, hq, hlo, hM⟩ ih
 simp only at h0 h1 hq hlo hM
 unfold kit_ChangeOf_l1
 refine W.ite (fun hlt => ?_) (fun hge => W.ret ?_)
 ·
  simp only at hlt;obtain ⟨r11, e11, a11, b11, c11⟩ := in_ok (k := k) (a := 1) (b := 4) hlo (by omega) (by decide) (by decide) (by decide);refine W.bindEB e11 ?_;obtain ⟨r12, e12, a12, c12⟩ := of_ok (k := k) (some_ := [1, 1, 2, r11.1]) c11 (by omega) (by simp) (by simp);refine W.bindEB e12 ?_;obtain ⟨r13, e13, a13, b13, c13⟩ := in_ok (k := k) (a := 1) (b := 4) c12 (by omega) (by decide) (by decide) (by decide);refine W.bindEB e13 ?_;obtain ⟨r14, e14, a14, c14⟩ := of_ok (k := k) (some_ := [1, 2, 2, r13.1]) c13 (by omega) (by simp) (by simp);refine W.bindEB e14 ?_;obtain ⟨r15, e15, a15, c15⟩ := of_ok (k := k) (some_ := [0, 0, 1, 2]) c14 (by omega) (by simp) (by simp);refine W.bindEB e15 ?_;obtain ⟨r16, e16, a16, b16, c16⟩ := in_ok (k := k) (a := 1) (b := 6) c15 (by omega) (by decide) (by decide) (by decide);refine W.bindEB e16 ?_;obtain ⟨r17, e17, a17, b17, c17⟩ := in_ok (k := k) (a := 3) (b := 12) c16 (by omega) (by decide) (by decide) (by decide);refine W.bindEB e17 ?_;obtain ⟨r18, e18, a18, c18⟩ := of_ok (k := k) (some_ := [0, 0, r16.1, r17.1]) c17 (by omega) (by simp) (by simp);refine W.bindEB e18 ?_;obtain ⟨x20, e20, c20, o20⟩ := over_ok hk (r3 := r3) (r4 := r4) (y7 := (nums, d, s, things, wears, wants, i)) hn c18 (by omega);refine W.bindEB e20 ?_;have hi4 : i < 4 := by omega
  have hlen := hM.len;have hw := hM.wears.len h0;have hv := hM.wants.len h0;refine W.chkB (okLen_of (by simp only [List.length_cons, List.length_nil]; omega)) ?_;obtain ⟨r36, e36, a36, b36, c36⟩ := upto_ok (k := k) (n := 5) c20 (by omega) (by decide);refine W.bindEB e36 ?_;have hlo' : Lo r36.2 (m + 30 * (i + 1)) := c36.mono (by omega)
  have hnew : GoodT r4.1 r3.1 things.length (x20.2.2.2, r12.1, r14.1, r15.1, r18.1) := by
   have hin : ((things.length : Nat) : Int) = i := hlen;refine ⟨by rw [hin]; exact o20, ?_, ?_, ?_, ?_⟩
   ·show 1 ≤ r12.1 ∧ r12.1 ≤ 4;simp only [List.mem_cons, List.not_mem_nil, or_false] at a12;omega
   ·show 1 ≤ r14.1 ∧ r14.1 ≤ 4;simp only [List.mem_cons, List.not_mem_nil, or_false] at a14;omega
   ·show 0 ≤ r15.1 ∧ r15.1 ≤ 2;simp only [List.mem_cons, List.not_mem_nil, or_false] at a15;omega
   ·show 0 ≤ r18.1 ∧ r18.1 ≤ 12;simp only [List.mem_cons, List.not_mem_nil, or_false] at a18;omega
  have hgood : ∀ (j : Nat) t, (things ++ [(x20.2.2.2, r12.1, r14.1, r15.1, r18.1)])[j]? = some t → GoodT r4.1 r3.1 j t := by
   intro j t hj;by_cases hjl : j < things.length
   ·rw [List.getElem?_append_left hjl] at hj;exact hM.good j t hj
   ·rw [List.getElem?_append_right (by omega)] at hj
    have hj0 : j - things.length = 0 := by
     rcases Nat.eq_zero_or_pos (j - things.length) with h | h
     ·exact h
     ·rw [List.getElem?_eq_none (by simp only [List.length_cons, List.length_nil]; omega)] at hj; cases hj
    rw [hj0] at hj;have : j = things.length := by omega
    subst this;cases hj;exact hnew
  have next : ∀ (wears' wants' : List Int), Asc wears' (i + 1) → Asc wants' (i + 1) →
   W ((some (r36.2.1, r36.2.2.1, r36.2.2.2, things ++ [(x20.2.2.2, r12.1, r14.1, r15.1, r18.1)], wears', wants') : Option ((List Int) × Int × Int × (List dThing) × (List Int) × (List Int))).bind fun x9 => (K.ck (i + (1 : Int))).bind fun x51 =>
    kit_ChangeOf_l1 k r3 r4 fuel (x9.1, x9.2.1, x9.2.2.1, x9.2.2.2.1, x9.2.2.2.2.1, x9.2.2.2.2.2, x51)) fun r => Lo (r.1, r.2.1, r.2.2.1) (m + 120) ∧ Made r4.1 r3.1 r3.1 r.2.2.2.1 r.2.2.2.2.1 r.2.2.2.2.2 := by
   intro wears' wants' h1' h2'
   refine W.sb (W.ck (by omega) (by omega) (ih (q - 1) (r36.2.1, r36.2.2.1, r36.2.2.2, things ++ [(x20.2.2.2, r12.1, r14.1, r15.1, r18.1)], wears', wants', i + 1) (by omega) ⟨?_, ?_, ?_, hlo', ?_, hgood, h1', h2'⟩))
   ·
    show 0 ≤ i + 1; omega
   ·
    show i + 1 ≤ r3.1; omega
   ·
    show q - 1 = (r3.1 - (i + 1)).toNat; omega
   ·
    show (((things ++ [_]).length : Nat) : Int) = i + 1;rw [List.length_append];simp only [List.length_cons, List.length_nil];omega
  have w1 := hM.wears.mono (show i ≤ i + 1 by omega);have v1 := hM.wants.mono (show i ≤ i + 1 by omega);have w2 := hM.wears.snoc h0;have v2 := hM.wants.snoc h0;have cw : okLen (List.length wears + List.length [i]) := okLen_of (by simp only [List.length_cons, List.length_nil]; omega);have cv : okLen (List.length wants + List.length [i]) := okLen_of (by simp only [List.length_cons, List.length_nil]; omega);refine W.iteB (fun _ => next wears wants w1 v1) (fun _ => ?_)
  have tail : ∀ bb : Bool, W (((some bb : Option Bool).bind fun x37 => if x37 = true then ((chkP (okLen (List.length wears + List.length [i]))).bind fun _ =>
   some (r36.2.1, r36.2.2.1, r36.2.2.2, things ++ [(x20.2.2.2, r12.1, r14.1, r15.1, r18.1)], wears ++ [i], wants)) else (if r36.1 = (3 : Int) then ((chkP (okLen (List.length wants + List.length [i]))).bind fun _ =>
   some (r36.2.1, r36.2.2.1, r36.2.2.2, things ++ [(x20.2.2.2, r12.1, r14.1, r15.1, r18.1)], wears, wants ++ [i])) else ((chkP (okLen (List.length wears + List.length [i]))).bind fun _ =>
   (chkP (okLen (List.length wants + List.length [i]))).bind fun _ =>
   some (r36.2.1, r36.2.2.1, r36.2.2.2, things ++ [(x20.2.2.2, r12.1, r14.1, r15.1, r18.1)], wears ++ [i], wants ++ [i])))).bind fun x9 => (K.ck (i + (1 : Int))).bind fun x51 =>
    kit_ChangeOf_l1 k r3 r4 fuel (x9.1, x9.2.1, x9.2.2.1, x9.2.2.2.1, x9.2.2.2.2.1, x9.2.2.2.2.2, x51)) fun r => Lo (r.1, r.2.1, r.2.2.1) (m + 120) ∧ Made r4.1 r3.1 r3.1 r.2.2.2.1 r.2.2.2.2.1 r.2.2.2.2.2 := fun bb =>
   W.sbB (W.iteB (fun _ => W.chkB cw (next _ _ w2 v1)) (fun _ => W.iteB (fun _ => W.chkB cv (next _ _ w1 v2)) (fun _ => W.chkB cw (W.chkB cv (next _ _ w2 v2)))))
  exact W.iteBB (fun _ => tail _) (fun _ => tail _)
 ·
  have : i = r3.1 := by simp only at hge; omega
  subst this;exact ⟨hlo.mono (by omega), hM⟩
end Go.Proofs.Ytopgphikdglphaa

/- Plain law, part 5: the change that is made of the lots: its dressers, and as a whole. -/
namespace Go.Proofs.Ytopgphikdglphaa
open K Go Go.Proofs

theorem can_ok {k : Nat} (hk : 50 ≤ k) {r3 : Int × dLots} {l : dLots} {m : Int} (hn : 1 ≤ r3.1 ∧ r3.1 ≤ 4) (hl : Lo l m) (hm : 0 ≤ m ∧ m ≤ 100000) :
 W (kit_ChangeOf_l4 k r3 k (l.1, l.2.1, l.2.2, [], 0)) fun r => Lo (r.1, r.2.1, r.2.2.1) (m + 4) ∧ Asc r.2.2.2 r3.1 := by
 refine W.loop (f := kit_ChangeOf_l4 k r3) (fun q y => 0 ≤ y.2.2.2.2 ∧ y.2.2.2.2 ≤ r3.1 ∧ q = (r3.1 - y.2.2.2.2).toNat ∧ Lo (y.1, y.2.1, y.2.2.1) (m + y.2.2.2.2) ∧ Asc y.2.2.2.1 y.2.2.2.2) ?_ r3.1.toNat k _ (by omega)
  ⟨Int.le_refl 0, by show 0 ≤ r3.1; omega, by show r3.1.toNat = (r3.1 - 0).toNat; omega, hl.mono (by show m ≤ m + 0; omega), Asc.nil⟩
 rintro fuel q ⟨nums, d, s, can, j⟩ ⟨h0, h1, hq, hlo, hc⟩ ih
 simp only at h0 h1 hq hlo hc
 unfold kit_ChangeOf_l4
 dsimp only
 refine W.ite (fun hlt => ?_) (fun hge => W.ret ?_)
 ·
  try simp only at hlt
  have hlen := hc.len h0;obtain ⟨r, e, hr⟩ := rare_ok (k := k) (a := 4) hlo (by omega) (by decide) (by decide);refine W.bindEB e (W.iteB (fun _ => ?_) (fun _ => ?_))
  ·refine W.chkB (okLen_of (by simp only [List.length_cons, List.length_nil]; omega)) (W.sb (W.ck (by omega) (by omega) (ih (q - 1) (r.2.1, r.2.2.1, r.2.2.2, can ++ [j], j + 1) (by omega) ⟨?_, ?_, ?_, hr.mono (by show m + j + 1 ≤ m + (j + 1); omega), hc.snoc h0⟩)))
   ·show 0 ≤ j + 1; omega
   ·show j + 1 ≤ r3.1; omega
   ·show q - 1 = (r3.1 - (j + 1)).toNat; omega
  ·refine W.sb (W.ck (by omega) (by omega) (ih (q - 1) (r.2.1, r.2.2.1, r.2.2.2, can, j + 1) (by omega) ⟨?_, ?_, ?_, hr.mono (by show m + j + 1 ≤ m + (j + 1); omega), hc.mono (by show j ≤ j + 1; omega)⟩))
   ·show 0 ≤ j + 1; omega
   ·show j + 1 ≤ r3.1; omega
   ·show q - 1 = (r3.1 - (j + 1)).toNat; omega
 ·
  have : j = r3.1 := by (try simp only at hge); omega
  subst this;exact ⟨hlo.mono (by omega), hc⟩

theorem dressers_ok {k : Nat} (hk : 50 ≤ k) {r3 : Int × dLots} {l : dLots} {m D : Int} (hn : 1 ≤ r3.1 ∧ r3.1 ≤ 4) (hD : 1 ≤ D ∧ D ≤ 3) (hl : Lo l m) (hm : 0 ≤ m ∧ m ≤ 10000) :
 W (kit_ChangeOf_l3 k r3 k (l.1, l.2.1, l.2.2, [], D)) fun r => Lo (r.1, r.2.1, r.2.2.1) (m + 90) ∧ (r.2.2.2.length : Int) = D ∧ ∀ x ∈ r.2.2.2, GoodD r3.1 x := by
 refine W.loop (f := kit_ChangeOf_l3 k r3) (fun q y => 0 ≤ y.2.2.2.2 ∧ y.2.2.2.2 ≤ D ∧ q = y.2.2.2.2.toNat ∧ Lo (y.1, y.2.1, y.2.2.1) (m + 30 * (D - y.2.2.2.2)) ∧ (y.2.2.2.1.length : Int) = D - y.2.2.2.2 ∧ ∀ x ∈ y.2.2.2.1, GoodD r3.1 x) ?_ D.toNat k _ (by omega)
  ⟨by show 0 ≤ D; omega, Int.le_refl D, rfl, hl.mono (by show m ≤ m + 30 * (D - D); omega), by show ((0 : Nat) : Int) = D - D; omega, fun x h => by simp at h⟩
 rintro fuel q ⟨nums, d, s, ds, i⟩ ⟨h0, h1, hq, hlo, hlen, hg⟩ ih
 simp only at h0 h1 hq hlo hlen hg
 unfold kit_ChangeOf_l3
 dsimp only
 refine W.ite (fun hlt => ?_) (fun hge => W.ret ?_)
 ·
  try simp only at hlt
  obtain ⟨r59, e59, a59, c59⟩ := of_ok (k := k) (some_ := [0, 0, 1, 2]) hlo (by omega) (by simp) (by simp);refine W.bindEB e59 ?_;obtain ⟨r60, e60, a60, b60, c60⟩ := upto_ok (k := k) (n := 4) c59 (by omega) (by decide);refine W.bindEB e60 ?_;obtain ⟨r61, e61, a61, c61⟩ := of_ok (k := k) (some_ := [0, 0, 1, r60.1]) c60 (by omega) (by simp) (by simp);refine W.bindEB e61 ?_;obtain ⟨x63, e63, c63, o63⟩ := can_ok hk (r3 := r3) hn c61 (by omega);refine W.bindEB e63 ?_;have h60 := b60 (by decide);refine W.chkB (okLen_of (by simp only [List.length_cons, List.length_nil]; omega)) (W.sb (W.ck (by omega) (by omega) (ih (q - 1) (x63.1, x63.2.1, x63.2.2.1, ds ++ [(x63.2.2.2, r59.1, r61.1)], i - 1) (by omega) ⟨?_, ?_, ?_, c63.mono (by show m + 30 * (D - i) + 1 + 1 + 1 + 4 ≤ m + 30 * (D - (i - 1)); omega), ?_, fun x hx => ?_⟩)))
  ·show 0 ≤ i - 1; omega
  ·show i - 1 ≤ D; omega
  ·show q - 1 = (i - 1).toNat; omega
  ·show (((ds ++ [_]).length : Nat) : Int) = D - (i - 1);rw [List.length_append];simp only [List.length_cons, List.length_nil];omega
  ·rcases List.mem_append.1 hx with hx | hx
   ·exact hg x hx
   ·simp only [List.mem_singleton] at hx;subst hx;refine ⟨o63, ?_, ?_⟩
    ·show 0 ≤ r59.1 ∧ r59.1 ≤ 2;simp only [List.mem_cons, List.not_mem_nil, or_false] at a59;omega
    ·show 0 ≤ r61.1 ∧ r61.1 ≤ 9;simp only [List.mem_cons, List.not_mem_nil, or_false] at a61;omega
 ·
  have : i = 0 := by (try simp only at hge); omega
  subst this;exact ⟨hlo.mono (by omega), by show (ds.length : Int) = D; omega, hg⟩

/-- **A good change.** -/
structure GoodC (k : Nat) (c : dChange) : Prop where
 ex : ∃ (up : Bool) (n : Int), 1 ≤ n ∧ n ≤ 4 ∧ (c.1.length : Int) = n ∧ (∀ (j : Nat) t, c.1[j]? = some t → GoodT up n j t) ∧ Asc c.2.2.1 n ∧ Asc c.2.2.2 n ∧ ∀ x ∈ c.2.1, GoodD n x
 dressers : 1 ≤ c.2.1.length ∧ c.2.1.length ≤ 3
 tasks : ∀ r, kit_TasksOf k c = some r → r.length ≤ 4

theorem small_of {up : Bool} {n : Int} {c : dChange} (h0 : 1 ≤ n) (h4 : n ≤ 4) (hl : (c.1.length : Int) = n) (hg : ∀ (j : Nat) t, c.1[j]? = some t → GoodT up n j t) (hw : Asc c.2.2.1 n) (hv : Asc c.2.2.2 n) : Small c := by
 have a := hw.len (by omega);have b := hv.len (by omega);refine ⟨by omega, fun t ht => ?_, by omega, by omega⟩;obtain ⟨j, hj⟩ := List.mem_iff_getElem?.1 ht;have := (hg j t hj).over.1.len (by omega);omega

theorem sel_nil {mv : List Bool} {b : Bool} {j : Nat} : sel mv [] b j = [] := by
 unfold sel;rw [List.map_eq_nil_iff, List.filter_eq_nil_iff];intro i _;simp

theorem shrink_ok {k : Nat} (hk : 50 ≤ k) {up : Bool} {n : Int} {things : List dThing} {ds : List dDresser} {wears wants : List Int} {l : dLots} {m : Int} (h0 : 1 ≤ n) (h4 : n ≤ 4) (hl : (things.length : Int) = n)
 (hg : ∀ (j : Nat) t, things[j]? = some t → GoodT up n j t) (hw : Asc wears n) (hv : Asc wants n) (hlo : Lo l m) (hm : 0 ≤ m ∧ m ≤ 10000) :
 W (kit_ChangeOf_l5 k k (l.1, l.2.1, l.2.2, things, ds, wears, wants)) fun r => r.1 = things ∧ r.2.1 = ds ∧ Asc r.2.2.1 n ∧ Asc r.2.2.2.1 n ∧ Lo (r.2.2.2.2.1, r.2.2.2.2.2.1, r.2.2.2.2.2.2) (m + 8) ∧ ∀ x, kit_TasksOf k (r.1, r.2.1, r.2.2.1, r.2.2.2.1) = some x → x.length ≤ 4 := by
 have a := hw.len (by omega)
 have b := hv.len (by omega)
 refine W.loop (f := kit_ChangeOf_l5 k) (fun q y => y.2.2.2.1 = things ∧ y.2.2.2.2.1 = ds ∧ Asc y.2.2.2.2.2.1 n ∧ Asc y.2.2.2.2.2.2 n ∧ q = y.2.2.2.2.2.1.length + y.2.2.2.2.2.2.length ∧ ∃ e : Int, Lo (y.1, y.2.1, y.2.2.1) (m + e) ∧ 0 ≤ e ∧ e + q ≤ 8) ?_ (wears.length + wants.length) k _ (by omega)
  ⟨rfl, rfl, hw, hv, rfl, 0, hlo.mono (by omega), by omega, by omega⟩
 rintro fuel q ⟨nums, d, s, th, ds', ws, vs⟩ ⟨e1, e2, hw', hv', hq, e, hlo', he0, he⟩ ih
 simp only at e1 e2 hw' hv' hq hlo'
 subst e1 e2
 unfold kit_ChangeOf_l5
 dsimp only
 have hs : Small (th, ds', ws, vs) := small_of (up := up) h0 h4 hl hg hw' hv'
 obtain ⟨r82, e82, mv, hF, h82⟩ := tasksOf_ok hk hs
 refine W.bindE e82 (W.ite (fun hlt => ?_) (fun hge => W.ret ⟨rfl, rfl, hw', hv', hlo'.mono (by omega), fun x hx => ?_⟩))
 ·
  have hwl := hw'.len (by omega);have hvl := hv'.len (by omega)
  have cut : ∀ (nums' : List Int) (d' s' : Int), Lo (nums', d', s') (m + (e + 1)) → 0 < q → W (if (0 : Int) < (ws.length : Int) then ((K.ck ((ws.length : Int) - (1 : Int))).bind fun x88 =>
   (chkP (0 ≤ x88 ∧ x88 ≤ (ws.length : Int))).bind fun _ =>
   kit_ChangeOf_l5 k fuel (nums', d', s', th, ds', List.take (Int.toNat x88) ws, vs)) else (kit_ChangeOf_l5 k fuel (nums', d', s', th, ds', ws, []))) fun r => r.1 = th ∧ r.2.1 = ds' ∧ Asc r.2.2.1 n ∧ Asc r.2.2.2.1 n ∧ Lo (r.2.2.2.2.1, r.2.2.2.2.2.1, r.2.2.2.2.2.2) (m + 8) ∧ ∀ x, kit_TasksOf k (r.1, r.2.1, r.2.2.1, r.2.2.2.1) = some x → x.length ≤ 4 := by
   intro nums' d' s' hlo2 hpos
   refine W.ite (fun hw0 => W.ck (by omega) (by omega) (W.chk (by omega) (ih (q - 1) (nums', d', s', th, ds', List.take (Int.toNat ((ws.length : Int) - 1)) ws, vs) (by omega) ⟨rfl, rfl, hw'.take _, hv', ?_, e + 1, hlo2, by omega, by omega⟩))) (fun hw0 => ?_)
   ·show q - 1 = (List.take _ ws).length + vs.length;rw [List.length_take];omega
   ·exact ih 0 (nums', d', s', th, ds', ws, []) hpos ⟨rfl, rfl, hw', Asc.nil, by show 0 = ws.length + 0; omega, e + 1, hlo2, by omega, by omega⟩
  have hpos : 0 < q := by
   rcases Nat.eq_zero_or_pos q with h | h
   ·exfalso;have hw0 : ws = [] := List.eq_nil_of_length_eq_zero (by omega);have hv0 : vs = [] := List.eq_nil_of_length_eq_zero (by omega);subst hw0 hv0;rw [h82] at hlt;have x1 : sel mv ([] : List Int) false th.length = [] := sel_nil;have x2 : sel mv ([] : List Int) true th.length = [] := sel_nil;simp only [x1, x2] at hlt;simp at hlt
   ·exact h
  have pick : ∀ (nums' : List Int) (d' s' : Int) (bb : Bool), Lo (nums', d', s') (m + (e + 1)) → (bb = true → 0 < vs.length) →
   W ((some (nums', d', s', bb) : Option ((List Int) × Int × Int × Bool)).bind fun x83 => if x83.2.2.2 = true then ((K.ck ((vs.length : Int) - (1 : Int))).bind fun x86 =>
   (chkP (0 ≤ x86 ∧ x86 ≤ (vs.length : Int))).bind fun _ =>
   kit_ChangeOf_l5 k fuel (x83.1, x83.2.1, x83.2.2.1, th, ds', ws, List.take (Int.toNat x86) vs)) else (if (0 : Int) < (ws.length : Int) then ((K.ck ((ws.length : Int) - (1 : Int))).bind fun x88 =>
   (chkP (0 ≤ x88 ∧ x88 ≤ (ws.length : Int))).bind fun _ =>
   kit_ChangeOf_l5 k fuel (x83.1, x83.2.1, x83.2.2.1, th, ds', List.take (Int.toNat x88) ws, vs)) else (kit_ChangeOf_l5 k fuel (x83.1, x83.2.1, x83.2.2.1, th, ds', ws, []))))
    fun r => r.1 = th ∧ r.2.1 = ds' ∧ Asc r.2.2.1 n ∧ Asc r.2.2.2.1 n ∧ Lo (r.2.2.2.2.1, r.2.2.2.2.2.1, r.2.2.2.2.2.2) (m + 8) ∧ ∀ x, kit_TasksOf k (r.1, r.2.1, r.2.2.1, r.2.2.2.1) = some x → x.length ≤ 4 := by
   intro nums' d' s' bb hlo2 hbb
   refine W.sb (W.ite (fun hb => ?_) (fun _ => cut nums' d' s' hlo2 hpos))
   have hv0 := hbb hb
   refine W.ck (by omega) (by omega) (W.chk (by omega) (ih (q - 1) (nums', d', s', th, ds', ws, List.take (Int.toNat ((vs.length : Int) - 1)) vs) (by omega) ⟨rfl, rfl, hw', hv'.take _, ?_, e + 1, hlo2, by omega, by omega⟩))
   show q - 1 = ws.length + (List.take _ vs).length
   rw [List.length_take]
   omega
  refine W.iteB (fun hv0 => ?_) (fun hv0 => pick nums d s false (hlo'.mono (by omega)) (fun h => by cases h));obtain ⟨r, er, hr⟩ := rare_ok (k := k) (a := 2) hlo' (by omega) (by decide) (by decide);refine W.bindEB er (pick r.2.1 r.2.2.1 r.2.2.2 r.1 (hr.mono (by omega)) (fun _ => by (try simp only at hv0); omega))
 ·
  have : x = r82 := Option.some.inj (hx.symm.trans e82);subst this;(try simp only at hge);omega

/-- **The change that is made of the lots is good.** -/
theorem change_ok {k : Nat} (hk : 50 ≤ k) {l : dLots} {m : Int} (hl : Lo l m) (hm : 0 ≤ m ∧ m ≤ 1000) : W (kit_ChangeOf k l) fun r => GoodC k r.1 ∧ Lo r.2 (m + 300) := by
 unfold kit_ChangeOf;obtain ⟨r3, e3, a3, b3, c3⟩ := in_ok (k := k) (a := 1) (b := 4) hl (by omega) (by decide) (by decide) (by decide);refine W.bindE e3 ?_;obtain ⟨r4, e4, c4⟩ := rare_ok (k := k) (a := 2) c3 (by omega) (by decide) (by decide);refine W.bindE e4 ?_;obtain ⟨x5, e5, c5, hM⟩ := things_ok hk (r3 := r3) (r4 := r4) ⟨a3, b3⟩ c4 (by omega);refine W.bindE e5 ?_;obtain ⟨r54, e54, a54, b54, c54⟩ := in_ok (k := k) (a := 1) (b := 3) c5 (by omega) (by decide) (by decide) (by decide);refine W.bindEB e54 ?_;obtain ⟨x52, e52, c52, l52, g52⟩ := dressers_ok hk (r3 := r3) (D := r54.1) ⟨a3, b3⟩ ⟨a54, b54⟩ c54 (by omega);refine W.bindE e52 ?_;obtain ⟨x78, e78, f1, f2, hw, hv, c78, ht⟩ := shrink_ok hk (up := r4.1) (n := r3.1) (things := x5.2.2.2.1) (ds := x52.2.2.2) a3 b3 hM.len hM.good hM.wears hM.wants c52 (by omega);refine W.bindE e78 (W.ret ⟨⟨⟨r4.1, r3.1, a3, b3, ?_, ?_, hw, hv, ?_⟩, ?_, ht⟩, c78.mono (by omega)⟩)
 ·show ((x78.1.length : Nat) : Int) = r3.1;rw [f1]; exact hM.len
 ·show ∀ (j : Nat) t, x78.1[j]? = some t → GoodT r4.1 r3.1 j t;rw [f1]; exact hM.good
 ·show ∀ x ∈ x78.2.1, GoodD r3.1 x;rw [f2]; exact g52
 ·show 1 ≤ x78.2.1.length ∧ x78.2.1.length ≤ 3;rw [f2]; omega
end Go.Proofs.Ytopgphikdglphaa

/- Plain law, part 6: sets of small numbers as bits; ascending lists are let by. -/
namespace Go.Proofs.Ytopgphikdglphaa
open K Go Go.Proofs

/-- A set of numbers below eight. -/
def Mask (s : Int) : Prop := 0 ≤ s ∧ s < 256
/-- This number is in it. -/
def Has (s : Int) (i : Nat) : Prop := s.toNat.testBit i = true
instance (s : Int) (i : Nat) : Decidable (Has s i) := by unfold Has; infer_instance

theorem wrap_u8 {x : Nat} (h : x < 256) : IntKind.u8.wrap (x : Int) = x := by
 have e : IntKind.u8.wrap (x : Int) = (x : Int) % 256 := by simp [IntKind.wrap, IntKind.signed, IntKind.bits]
 rw [e];omega

theorem mask_nat {s : Int} (h : Mask s) : ∃ n : Nat, n < 256 ∧ s = n := ⟨s.toNat, by have := h.1; have := h.2; omega, by have := h.1; omega⟩
theorem ofInt8 {n : Nat} (h : n < 256) : (BitVec.ofInt IntKind.u8.bits (n : Int)).toNat = n := by
 show (BitVec.ofInt 8 (n : Int)).toNat = n;rw [BitVec.ofInt_natCast, BitVec.toNat_ofNat];exact Nat.mod_eq_of_lt h
theorem lt_or8 {n m : Nat} (hn : n < 256) (hm : m < 256) : n ||| m < 256 := Nat.or_lt_two_pow (n := 8) hn hm
theorem lt_and8 {n m : Nat} (hn : n < 256) : n &&& m < 256 := Nat.lt_of_le_of_lt Nat.and_le_left hn
theorem lt_xor8 {n m : Nat} (hn : n < 256) (hm : m < 256) : n ^^^ m < 256 := Nat.xor_lt_two_pow (n := 8) hn hm

theorem ior_ok {a b : Int} (ha : Mask a) (hb : Mask b) : Mask (ior .u8 a b) ∧ ∀ i, Has (ior .u8 a b) i ↔ Has a i ∨ Has b i := by
 obtain ⟨n, hn, rfl⟩ := mask_nat ha;obtain ⟨m, hm, rfl⟩ := mask_nat hb
 have e : ior .u8 (n : Int) (m : Int) = ((n ||| m : Nat) : Int) := by
  unfold ior;rw [BitVec.toNat_or, ofInt8 hn, ofInt8 hm];exact wrap_u8 (lt_or8 hn hm)
 rw [e];refine ⟨⟨by omega, by have := lt_or8 hn hm; omega⟩, fun i => ?_⟩;simp [Has, Nat.testBit_or]
theorem iand_ok {a b : Int} (ha : Mask a) (hb : Mask b) : Mask (iand .u8 a b) ∧ ∀ i, Has (iand .u8 a b) i ↔ Has a i ∧ Has b i := by
 obtain ⟨n, hn, rfl⟩ := mask_nat ha;obtain ⟨m, hm, rfl⟩ := mask_nat hb
 have e : iand .u8 (n : Int) (m : Int) = ((n &&& m : Nat) : Int) := by
  unfold iand;rw [BitVec.toNat_and, ofInt8 hn, ofInt8 hm];exact wrap_u8 (lt_and8 hn)
 rw [e];refine ⟨⟨by omega, by have := lt_and8 (m := m) hn; omega⟩, fun i => ?_⟩;simp [Has, Nat.testBit_and]
theorem ixor_ok {a b : Int} (ha : Mask a) (hb : Mask b) : Mask (ixor .u8 a b) ∧ ∀ i, Has (ixor .u8 a b) i ↔ ((Has a i ∧ ¬ Has b i) ∨ (¬ Has a i ∧ Has b i)) := by
 obtain ⟨n, hn, rfl⟩ := mask_nat ha;obtain ⟨m, hm, rfl⟩ := mask_nat hb
 have e : ixor .u8 (n : Int) (m : Int) = ((n ^^^ m : Nat) : Int) := by
  unfold ixor;rw [BitVec.toNat_xor, ofInt8 hn, ofInt8 hm];exact wrap_u8 (lt_xor8 hn hm)
 rw [e];refine ⟨⟨by omega, by have := lt_xor8 hn hm; omega⟩, fun i => ?_⟩;simp only [Has, Int.toNat_natCast, Nat.testBit_xor];cases n.testBit i <;> cases m.testBit i <;> simp

theorem one_ok {x : Int} (h0 : 0 ≤ x) (h8 : x < 8) : Mask (ishl .u8 1 x) ∧ ∀ i : Nat, Has (ishl .u8 1 x) i ↔ (i : Int) = x := by
 obtain ⟨n, rfl⟩ := Int.eq_ofNat_of_zero_le h0;have hn : n < 8 := by omega
 have e : ishl .u8 1 (n : Int) = ((2 ^ n : Nat) : Int) := by
  unfold ishl
  have h1 : min (Int.toNat (n : Int)) IntKind.u8.bits = n := by
   show min n 8 = n;omega
  rw [h1, Int.one_mul];have h2 : 2 ^ n < 256 := Nat.pow_lt_pow_right (by decide) hn;have h3 : ((2 : Int) ^ n) = ((2 ^ n : Nat) : Int) := by simp
  rw [h3];exact wrap_u8 h2
 rw [e];have h9 : 2 ^ n < 256 := Nat.pow_lt_pow_right (by decide) hn;refine ⟨⟨Int.natCast_nonneg _, Int.ofNat_lt.2 h9⟩, fun i => ?_⟩;simp only [Has, Int.toNat_natCast, Nat.testBit_two_pow, decide_eq_true_eq];omega

theorem has_ok {k : Nat} {s : Int} (hs : Mask s) {i : Nat} (hi : i < 8) : chg_set_has k s (i : Int) = some (decide (Has s i)) := by
 obtain ⟨n, hn, rfl⟩ := mask_nat hs;unfold chg_set_has;rw [chkP, if_pos (by omega)];show some _ = some _;congr 1
 have e1 : ishr .u8 (n : Int) (i : Int) = ((n >>> i : Nat) : Int) := by
  unfold ishr
  have h1 : min (Int.toNat (i : Int)) IntKind.u8.bits = i := by
   show min i 8 = i;omega
  have h3 : ((2 : Int) ^ i) = ((2 ^ i : Nat) : Int) := by simp
  rw [h1, h3, Int.fdiv_eq_ediv_of_nonneg _ (Int.natCast_nonneg _), Nat.shiftRight_eq_div_pow];rfl
 have hlt : n >>> i < 256 := Nat.lt_of_le_of_lt (by rw [Nat.shiftRight_eq_div_pow]; exact Nat.div_le_self _ _) hn
 have e2 : iand .u8 ((n >>> i : Nat) : Int) 1 = (((n >>> i) &&& 1 : Nat) : Int) := by
  unfold iand;have h1 : (BitVec.ofInt IntKind.u8.bits 1).toNat = 1 := rfl;rw [BitVec.toNat_and, ofInt8 hlt, h1];exact wrap_u8 (lt_and8 hlt)
 rw [e1, e2]
 have e3 : (((n >>> i) &&& 1 : Nat) : Int) = 1 ↔ Has (n : Int) i := by
  rw [Has, Int.toNat_natCast, Nat.testBit];have h5 : (n >>> i) &&& 1 = 1 &&& (n >>> i) := Nat.and_comm _ _;rw [h5];have h4 : 1 &&& (n >>> i) < 2 := Nat.lt_of_le_of_lt Nat.and_le_left (by decide);simp only [bne_iff_ne, ne_eq];omega
 exact decide_eq_decide.2 e3

/-- A list as a set. -/
theorem of_set_ok {k : Nat} (hk : 50 ≤ k) {l : List Int} (hl : l.length ≤ 20) (hb : ∀ x ∈ l, 0 ≤ x ∧ x < 8) : W (chg_of k l) fun s => Mask s ∧ ∀ i : Nat, Has s i ↔ (i : Int) ∈ l := by
 unfold chg_of;refine W.bind (R := fun s => Mask s ∧ ∀ i : Nat, Has s i ↔ (i : Int) ∈ l) ?_ fun s h => W.ret h
 refine W.loop (f := chg_of_l1 k l) (fun q y => ∃ j : Nat, y.2 = (j : Int) ∧ j ≤ l.length ∧ q = l.length - j ∧ Mask y.1 ∧ ∀ i : Nat, Has y.1 i ↔ (i : Int) ∈ l.take j) ?_ l.length k (0, 0) (by omega)
  ⟨0, rfl, by omega, by omega, ⟨by decide, by decide⟩, fun i => by simp [Has]⟩
 rintro fuel q ⟨s, y⟩ ⟨j, hj, hle, hq, hm, hh⟩ ih;simp only at hj hm hh;subst hj;unfold chg_of_l1;dsimp only;refine W.ite (fun hlt => ?_) (fun hge => W.ret ?_)
 ·have hlt' : j < l.length := by omega
  have hx := hb l[j] (List.getElem_mem hlt');obtain ⟨o1, o2⟩ := one_ok hx.1 hx.2;obtain ⟨p1, p2⟩ := ior_ok hm o1;refine W.bindE (geti_W hlt') (W.chk hx.1 (W.ck (by omega) (by omega) (ih (q - 1) (_, (j : Int) + 1) (by omega) ⟨j + 1, ?_, by omega, by omega, p1, fun i => ?_⟩)))
  ·show (j : Int) + 1 = ((j + 1 : Nat) : Int);omega
  ·show Has (ior .u8 s (ishl .u8 1 l[j])) i ↔ _;rw [p2, hh, o2, List.take_add_one, List.getElem?_eq_getElem hlt'];simp only [Option.toList_some, List.mem_append, List.mem_singleton]
 ·have : j = l.length := by omega
  subst this;rw [List.take_length] at hh;exact ⟨hm, hh⟩

theorem outside_in {k : Nat} {x a b : Int} (h : a ≤ x ∧ x ≤ b) : chg_outside k x a b = some false := by
 unfold chg_outside;rw [if_neg (by omega)];show some (decide (b < x)) = some false;rw [decide_eq_false (by omega)]

theorem checkList_ok {k : Nat} (hk : 50 ≤ k) {l : List Int} {n but : Int} (hn : 1 ≤ n ∧ n ≤ 8) (h : Asc l n) (hb : ∀ x ∈ l, x ≠ but) : chg_checkList k l n but = some 0 := by
 have hlen := h.len (by omega)
 have key : W (chg_checkList_l1 k l n but k 0) fun r => r = .ok () := by
  refine W.loop (f := chg_checkList_l1 k l n but) (fun q y => ∃ j : Nat, y = (j : Int) ∧ j ≤ l.length ∧ q = l.length - j) ?_ l.length k 0 (by omega) ⟨0, rfl, by omega, by omega⟩;rintro fuel q y ⟨j, hj, hle, hq⟩ ih;subst hj;unfold chg_checkList_l1;refine W.ite (fun hlt => ?_) (fun hge => W.ret rfl);have hlt' : j < l.length := by omega
  have hx := h.2 l[j] (List.getElem_mem hlt');have hne := hb l[j] (List.getElem_mem hlt');refine W.bindE (geti_W hlt') ?_
  have e1 : ((K.ck (n - (1 : Int))).bind fun x8 => (chg_outside k l[j] (0 : Int) x8).bind fun r9 => if r9 = true then (some true) else (some (decide (l[j] = but)))) = some false := by
   rw [K.ck, if_pos (by omega)];show ((chg_outside k l[j] (0 : Int) (n - 1)).bind fun r9 => _) = _;rw [outside_in (by omega)];show some (decide (l[j] = but)) = some false;rw [decide_eq_false hne]
  refine W.bindE e1 ?_;rw [if_neg (by decide)]
  have e2 : (if (0 : Int) < (j : Int) then ((K.ck ((j : Int) - (1 : Int))).bind fun x12 => (geti l x12).bind fun x13 => some (decide (l[j] ≤ x13))) else (some false)) = some false := by
   split
   ·rename_i hj0;have hp : (j : Int) - 1 = ((j - 1 : Nat) : Int) := by omega
    have hl1 : j - 1 < l.length := by omega
    rw [K.ck, if_pos (by omega)];show ((geti l ((j : Int) - 1)).bind fun x13 => _) = _;rw [hp, geti_W hl1];show some (decide (l[j] ≤ l[j - 1])) = some false;have := List.pairwise_iff_getElem.1 h.1 (j - 1) j hl1 hlt' (by omega);rw [decide_eq_false (by omega)]
   ·rfl
  refine W.bindE e2 ?_;rw [if_neg (by decide)];exact W.ck (by omega) (by omega) (ih (q - 1) ((j : Int) + 1) (by omega) ⟨j + 1, by omega, by omega, by omega⟩)
 obtain ⟨r, e, rfl⟩ := key;unfold chg_checkList;rw [e];rfl
end Go.Proofs.Ytopgphikdglphaa

/- Plain law, part 7: a good change passes all checks. -/
namespace Go.Proofs.Ytopgphikdglphaa
open K Go Go.Proofs

/-- Further up, or further down. -/
def Dir (up : Bool) (i x : Nat) : Prop := if up = true then i < x else x < i
theorem Dir.trans {up : Bool} {a b c : Nat} (h : Dir up a b) (h' : Dir up b c) : Dir up a c := by
 unfold Dir at *;split at h <;> rename_i hu
 ·rw [if_pos hu] at h' ⊢; omega
 ·rw [if_neg hu] at h' ⊢; omega
theorem Dir.irrefl {up : Bool} {a : Nat} (h : Dir up a a) : False := by
 unfold Dir at h;split at h <;> omega
theorem dir_of {up : Bool} {i : Nat} {x : Int} (h0 : 0 ≤ x) (h : decide ((i : Int) < x) = up ∧ x ≠ (i : Int)) : Dir up i x.toNat := by
 unfold Dir;cases up with
 | true => rw [if_pos rfl]; have := of_decide_eq_true h.1; omega
 | false => rw [if_neg (by decide)]; have := of_decide_eq_false h.1; have := h.2; omega

def Abv (up : Bool) (ab : List Int) : Prop := ab.length = 4 ∧ ∀ (i : Nat) s, ab[i]? = some s → Mask s ∧ ∀ x, Has s x → Dir up i x

theorem above1_ok {k : Nat} (hk : 50 ≤ k) {up : Bool} {n : Int} {i : Nat} {ab0 ab : List Int} {t : dThing} (hn : 1 ≤ n ∧ n ≤ 4) (hi : (i : Int) < n) (hab : Abv up ab) (ho : OverOk up (i : Int) n t.1) :
 W (chg_checkThings_l4 k (ab0, (i : Int)) t k (ab, 0)) (Abv up) := by
 have hlen := ho.1.len (by omega)
 refine W.loop (f := chg_checkThings_l4 k (ab0, (i : Int)) t) (fun q y => ∃ j : Nat, y.2 = (j : Int) ∧ j ≤ t.1.length ∧ q = t.1.length - j ∧ Abv up y.1) ?_ t.1.length k (ab, 0) (by omega) ⟨0, rfl, by omega, by omega, hab⟩
 rintro fuel q ⟨b, y⟩ ⟨j, hj, hle, hq, hA⟩ ih
 simp only at hj hA
 subst hj
 unfold chg_checkThings_l4
 dsimp only
 refine W.ite (fun hlt => ?_) (fun hge => W.ret hA)
 have hlt' : j < t.1.length := by omega
 have hx := ho.1.2 t.1[j] (List.getElem_mem hlt')
 have hd := ho.2 t.1[j] (List.getElem_mem hlt')
 have hdir := dir_of hx.1 hd
 have hib : i < b.length := by rw [hA.1]; omega
 have hxb : t.1[j].toNat < b.length := by rw [hA.1]; omega
 have hxn : t.1[j] = ((t.1[j].toNat : Nat) : Int) := by omega
 have g1 : geti b (i : Int) = some b[i] := geti_W hib
 have g2 : geti b t.1[j] = some (b[t.1[j].toNat]'hxb) := by
  rw [geti, if_pos hx.1];exact List.getElem?_eq_getElem hxb
 obtain ⟨m1, d1⟩ := hA.2 i _ (List.getElem?_eq_getElem hib)
 obtain ⟨m2, d2⟩ := hA.2 t.1[j].toNat _ (List.getElem?_eq_getElem hxb)
 obtain ⟨s, es, m3, d3⟩ := of_set_ok (k := k) hk (l := [t.1[j]]) (by simp) (fun x h => by simp only [List.mem_singleton] at h; subst h; omega)
 obtain ⟨m4, d4⟩ := ior_ok m2 m3
 obtain ⟨m5, d5⟩ := ior_ok m1 m4
 refine W.bindE (geti_W hlt') (W.chk (by omega) (W.bindE g1 (W.chk (by omega) (W.bindE g2 (W.bindE es (W.chk (by omega) (W.ck (by omega) (by omega) (ih (q - 1) (_, (j : Int) + 1) (by omega) ⟨j + 1, ?_, by omega, by omega, ?_, fun i' s' h => ?_⟩))))))))
 ·
  show (j : Int) + 1 = ((j + 1 : Nat) : Int);omega
 ·
  show (List.set b _ _).length = 4;rw [List.length_set]; exact hA.1
 ·
  have e : Int.toNat (i : Int) = i := by omega
  have h : (List.set b (Int.toNat (i : Int)) (ior .u8 b[i] (ior .u8 (b[t.1[j].toNat]'hxb) s)))[i']? = some s' := h;rw [e, List.getElem?_set] at h;by_cases hii : i = i'
  ·subst hii;rw [if_pos rfl, if_pos hib] at h;cases h;refine ⟨m5, fun x hx' => ?_⟩;rcases (d5 x).1 hx' with h | h
   ·exact d1 x h
   ·rcases (d4 x).1 h with h | h
    ·exact hdir.trans (d2 x h)
    ·have := (d3 x).1 h;simp only [List.mem_singleton] at this;have : x = t.1[j].toNat := by omega
     subst this;exact hdir
  ·rw [if_neg hii] at h;exact hA.2 i' s' h

theorem above2_ok {k : Nat} (hk : 50 ≤ k) {up : Bool} {n : Int} {c : dChange} {ab : List Int} (hn : 1 ≤ n ∧ n ≤ 4) (hl : (c.1.length : Int) = n) (hg : ∀ (j : Nat) t, c.1[j]? = some t → GoodT up n j t) (hab : Abv up ab) :
 W (chg_checkThings_l3 k c k (ab, 0)) (Abv up) := by
 refine W.loop (f := chg_checkThings_l3 k c) (fun q y => ∃ j : Nat, y.2 = (j : Int) ∧ j ≤ c.1.length ∧ q = c.1.length - j ∧ Abv up y.1) ?_ c.1.length k (ab, 0) (by omega) ⟨0, rfl, by omega, by omega, hab⟩
 rintro fuel q ⟨b, y⟩ ⟨j, hj, hle, hq, hA⟩ ih
 simp only at hj hA
 subst hj
 unfold chg_checkThings_l3
 dsimp only
 refine W.ite (fun hlt => ?_) (fun hge => W.ret hA)
 have hlt' : j < c.1.length := by omega
 refine W.bindEB (geti_W hlt') (W.bind (above1_ok hk (ab0 := b) hn (by omega) hA (hg j _ (List.getElem?_eq_getElem hlt')).over) fun b' hb' => W.ck (by omega) (by omega) (ih (q - 1) (b', (j : Int) + 1) (by omega) ⟨j + 1, ?_, by omega, by omega, hb'⟩))
 show (j : Int) + 1 = ((j + 1 : Nat) : Int)
 omega

theorem above3_ok {k : Nat} (hk : 50 ≤ k) {up : Bool} {n : Int} {c : dChange} {ab : List Int} (hn : 1 ≤ n ∧ n ≤ 4) (hl : (c.1.length : Int) = n) (hg : ∀ (j : Nat) t, c.1[j]? = some t → GoodT up n j t) (hab : Abv up ab) :
 W (chg_checkThings_l2 k c k (ab, 0)) (Abv up) := by
 refine W.loop (f := chg_checkThings_l2 k c) (fun q y => ∃ j : Nat, y.2 = (j : Int) ∧ j ≤ c.1.length ∧ q = c.1.length - j ∧ Abv up y.1) ?_ c.1.length k (ab, 0) (by omega) ⟨0, rfl, by omega, by omega, hab⟩
 rintro fuel q ⟨b, y⟩ ⟨j, hj, hle, hq, hA⟩ ih
 simp only at hj hA
 subst hj
 unfold chg_checkThings_l2
 dsimp only
 refine W.ite (fun hlt => ?_) (fun hge => W.ret hA)
 have hlt' : j < c.1.length := by omega
 refine W.bind (above2_ok hk hn hl hg hA) fun b' hb' => W.ck (by omega) (by omega) (ih (q - 1) (b', (j : Int) + 1) (by omega) ⟨j + 1, ?_, by omega, by omega, hb'⟩)
 show (j : Int) + 1 = ((j + 1 : Nat) : Int)
 omega

theorem checkThings_ok {k : Nat} (hk : 50 ≤ k) {up : Bool} {n : Int} {c : dChange} (hn : 1 ≤ n ∧ n ≤ 4) (hl : (c.1.length : Int) = n) (hg : ∀ (j : Nat) t, c.1[j]? = some t → GoodT up n j t) : chg_checkThings k c = some 0 := by
 have h1 : W (chg_checkThings_l1 k c k 0) fun r => r = .ok () := by
  refine W.loop (f := chg_checkThings_l1 k c) (fun q y => ∃ j : Nat, y = (j : Int) ∧ j ≤ c.1.length ∧ q = c.1.length - j) ?_ c.1.length k 0 (by omega) ⟨0, rfl, by omega, by omega⟩;rintro fuel q y ⟨j, hj, hle, hq⟩ ih;subst hj;unfold chg_checkThings_l1;refine W.ite (fun hlt => ?_) (fun hge => W.ret rfl);have hlt' : j < c.1.length := by omega
  have hG := hg j _ (List.getElem?_eq_getElem hlt');refine W.bindE (geti_W hlt') ?_
  have e1 : chg_checkList k c.1[j].1 (c.1.length : Int) (j : Int) = some 0 := by
   rw [hl];exact checkList_ok hk (by omega) hG.over.1 fun x hx => (hG.over.2 x hx).2
  refine W.bindE e1 ?_;rw [if_neg (by decide)]
  have e2 : ((chg_outside k c.1[j].2.1 (1 : Int) (4 : Int)).bind fun r12 => if r12 = true then (some true) else ((chg_outside k c.1[j].2.2.1 (1 : Int) (4 : Int)).bind fun r13 => some r13)) = some false := by
   rw [outside_in hG.off];show (if false = true then (some true) else ((chg_outside k c.1[j].2.2.1 (1 : Int) (4 : Int)).bind fun r13 => some r13)) = some false;rw [if_neg (by decide), outside_in hG.put];rfl
  refine W.bindE e2 ?_;rw [if_neg (by decide)];refine W.bindE (outside_in hG.side) ?_;rw [if_neg (by decide)];refine W.bindE (outside_in (by have := hG.due; omega)) ?_;rw [if_neg (by decide)];exact W.ck (by omega) (by omega) (ih (q - 1) ((j : Int) + 1) (by omega) ⟨j + 1, by omega, by omega, by omega⟩)
 have h0 : Abv up [(0 : Int), 0, 0, 0] := by
  refine ⟨rfl, fun i s h => ?_⟩
  have hs : s = 0 := by
   have := List.mem_of_getElem? h;simp only [List.mem_cons, List.not_mem_nil, or_false, or_self] at this;exact this
  subst hs;refine ⟨⟨by decide, by decide⟩, fun x hx => ?_⟩;simp [Has] at hx
 obtain ⟨ab, e18, hab⟩ := above3_ok hk hn hl hg h0
 have h5 : W (chg_checkThings_l5 k c ab k 0) fun r => r = .ok () := by
  refine W.loop (f := chg_checkThings_l5 k c ab) (fun q y => ∃ j : Nat, y = (j : Int) ∧ j ≤ c.1.length ∧ q = c.1.length - j) ?_ c.1.length k 0 (by omega) ⟨0, rfl, by omega, by omega⟩;rintro fuel q y ⟨j, hj, hle, hq⟩ ih;subst hj;unfold chg_checkThings_l5;refine W.ite (fun hlt => ?_) (fun hge => W.ret rfl);have hjb : j < ab.length := by rw [hab.1]; omega
  obtain ⟨m1, d1⟩ := hab.2 j _ (List.getElem?_eq_getElem hjb);refine W.chk (by omega) (W.bindE (geti_W hjb) (W.bindE (has_ok m1 (by omega)) ?_));rw [if_neg (fun h => (d1 j (of_decide_eq_true h)).irrefl)];exact W.ck (by omega) (by omega) (ih (q - 1) ((j : Int) + 1) (by omega) ⟨j + 1, by omega, by omega, by omega⟩)
 obtain ⟨x1, e1, rfl⟩ := h1;obtain ⟨x5, e5, rfl⟩ := h5;unfold chg_checkThings
 have es : chg_sized k (c.1.length : Int) 4 = some 0 := by
  unfold chg_sized;rw [if_neg (by omega), if_neg (by omega)]
 rw [es];show (if ¬ ((0 : Int) = 0) then (some 0) else (bE (α := Unit) (chg_checkThings_l1 k c k (0 : Int)) (some) fun _ => _)) = some (0 : Int);rw [if_neg (by decide), e1];show ((chg_checkThings_l2 k c k ([(0 : Int), (0 : Int), (0 : Int), (0 : Int)], (0 : Int))).bind fun x18 => bE (α := Unit) (chg_checkThings_l5 k c x18 k (0 : Int)) (some) fun _ => some (0 : Int)) = some (0 : Int);rw [e18];show (bE (α := Unit) (chg_checkThings_l5 k c ab k (0 : Int)) (some) fun _ => some (0 : Int)) = some (0 : Int);rw [e5];rfl

/-- **A good change is let by.** -/
theorem check_ok {k : Nat} (hk : 50 ≤ k) {up : Bool} {n : Int} {c : dChange} (hn : 1 ≤ n ∧ n ≤ 4) (hl : (c.1.length : Int) = n) (hg : ∀ (j : Nat) t, c.1[j]? = some t → GoodT up n j t)
 (hw : Asc c.2.2.1 n) (hv : Asc c.2.2.2 n) (hd : ∀ x ∈ c.2.1, GoodD n x) (hdl : 1 ≤ c.2.1.length ∧ c.2.1.length ≤ 3) : chg_Check k c = some 0 := by
 have neg : ∀ (l : List Int), Asc l n → ∀ x ∈ l, x ≠ (-1 : Int) := fun l h x hx => by have := (h.2 x hx).1; omega
 have h1 : W (chg_Check_l1 k c k 0) fun r => r = .ok () := by
  refine W.loop (f := chg_Check_l1 k c) (fun q y => ∃ j : Nat, y = (j : Int) ∧ j ≤ c.2.1.length ∧ q = c.2.1.length - j) ?_ c.2.1.length k 0 (by omega) ⟨0, rfl, by omega, by omega⟩;rintro fuel q y ⟨j, hj, hle, hq⟩ ih;subst hj;unfold chg_Check_l1;refine W.ite (fun hlt => ?_) (fun hge => W.ret rfl);have hlt' : j < c.2.1.length := by omega
  have hG := hd _ (List.getElem_mem hlt');refine W.bindE (geti_W hlt') ?_
  have e1 : chg_checkList k c.2.1[j].1 (c.1.length : Int) (-1) = some 0 := by
   rw [hl];exact checkList_ok hk (by omega) hG.can (neg _ hG.can)
  refine W.bindE e1 ?_;rw [if_neg (by decide)];refine W.bindE (outside_in hG.side) ?_;rw [if_neg (by decide)];refine W.bindE (outside_in (by have := hG.start; omega)) ?_;rw [if_neg (by decide)];exact W.ck (by omega) (by omega) (ih (q - 1) ((j : Int) + 1) (by omega) ⟨j + 1, by omega, by omega, by omega⟩)
 obtain ⟨x1, e1, rfl⟩ := h1
 have es : chg_sized k (c.2.1.length : Int) 3 = some 0 := by
  unfold chg_sized;rw [if_neg (by omega), if_neg (by omega)]
 have ew : chg_checkList k c.2.2.1 (c.1.length : Int) (-1) = some 0 := by rw [hl]; exact checkList_ok hk (by omega) hw (neg _ hw)
 have ev : chg_checkList k c.2.2.2 (c.1.length : Int) (-1) = some 0 := by rw [hl]; exact checkList_ok hk (by omega) hv (neg _ hv)
 unfold chg_Check
 rw [checkThings_ok hk hn hl hg]
 simp only [Option.bind_some, es, e1, ew, ev]
 rfl
end Go.Proofs.Ytopgphikdglphaa

/- Plain law, part 8: what the program takes to be changed is what has to move. -/
namespace Go.Proofs.Ytopgphikdglphaa
open K Go Go.Proofs

/-- How many of the first n are in a set. -/
def cntS (s : Int) (n : Nat) : Nat := (List.range n).countP fun i => decide (Has s i)
theorem cntS_le {s : Int} {n : Nat} : cntS s n ≤ n := by
 have := List.countP_le_length (p := fun i => decide (Has s i)) (l := List.range n);simpa [cntS] using this
theorem cntS_mono {s s' : Int} {n : Nat} (h : ∀ i, Has s i → Has s' i) : cntS s n ≤ cntS s' n := by
 unfold cntS;exact List.countP_mono_left fun i _ hi => decide_eq_true (h i (of_decide_eq_true hi))
theorem cntS_lt {s s' : Int} : ∀ {n : Nat}, (∀ i, Has s i → Has s' i) → (∃ i, i < n ∧ Has s' i ∧ ¬ Has s i) → cntS s n < cntS s' n
 | 0, _, ⟨i, hi, _⟩ => by omega
 | n + 1, h, ⟨i, hi, h1, h2⟩ => by
  have e : ∀ s : Int, cntS s (n + 1) = cntS s n + (if Has s n then 1 else 0) := fun s => by
   unfold cntS
   rw [List.range_succ, List.countP_append]
   by_cases hs : Has s n <;> simp [hs]
  rw [e, e]
  by_cases hin : i = n
  ·
   subst hin
   rw [if_pos h1, if_neg h2]
   have := cntS_mono (n := i) h
   omega
  ·
   have := cntS_lt (n := n) h ⟨i, by omega, h1, h2⟩
   by_cases hs : Has s n
   ·
    rw [if_pos hs, if_pos (h n hs)]; omega
   ·
    rw [if_neg hs]; omega

/-- The set holds what hangs on what it holds. -/
def Follows (c : dChange) (s s' : Int) (j : Nat) : Prop := ∀ (q : Nat) (t : dThing) (i : Nat), q < j → c.1[q]? = some t → Has s q → (i : Int) ∈ t.1 → (i : Int) ∈ c.2.2.1 → (i : Int) ∈ c.2.2.2 → Has s' i

structure Round (c : dChange) (s s' : Int) (j : Nat) : Prop where
 mask : Mask s'
 mono : ∀ i, Has s i → Has s' i
 sound : ∀ C, Shut c C → (∀ i, Has s i → C i) → ∀ i, Has s' i → C i
 follows : Follows c s s' j

/-- What is known of a thing of a valid change. -/
structure VT (n : Int) (i : Nat) (t : dThing) : Prop where
 over : Asc t.1 n
 irr : ¬ (i : Int) ∈ t.1
 off : 1 ≤ t.2.1 ∧ t.2.1 ≤ 4
 put : 1 ≤ t.2.2.1 ∧ t.2.2.1 ≤ 4
 side : 0 ≤ t.2.2.2.1 ∧ t.2.2.2.1 ≤ 2
 due : 0 ≤ t.2.2.2.2 ∧ t.2.2.2.2 ≤ 30

/-- **What is known of a valid change.** -/
structure VC (n : Int) (c : dChange) : Prop where
 n4 : 1 ≤ n ∧ n ≤ 4
 len : (c.1.length : Int) = n
 good : ∀ (j : Nat) t, c.1[j]? = some t → VT n j t
 wears : Asc c.2.2.1 n
 wants : Asc c.2.2.2 n
 dressers : ∀ x ∈ c.2.1, GoodD n x
 dl : 1 ≤ c.2.1.length ∧ c.2.1.length ≤ 3
 chk : ∀ k, 50 ≤ k → chg_Check k c = some 0

/-- A good change is valid, with whatever dressers. -/
theorem vc_of_good {up : Bool} {n : Int} {c : dChange} (hn : 1 ≤ n ∧ n ≤ 4) (hl : (c.1.length : Int) = n) (hg : ∀ (j : Nat) t, c.1[j]? = some t → GoodT up n j t)
 (hw : Asc c.2.2.1 n) (hv : Asc c.2.2.2 n) (hd : ∀ x ∈ c.2.1, GoodD n x) (hdl : 1 ≤ c.2.1.length ∧ c.2.1.length ≤ 3) : VC n c :=
 ⟨hn, hl, fun j t h => ⟨(hg j t h).over.1, fun hj => ((hg j t h).over.2 _ hj).2 rfl, (hg j t h).off, (hg j t h).put, (hg j t h).side, by have := (hg j t h).due; omega⟩, hw, hv, hd, hdl, fun _ hk => check_ok hk hn hl hg hw hv hd hdl⟩

theorem round_ok {k : Nat} (hk : 50 ≤ k) {n : Int} {c : dChange} (hc : VC n c) {r2 r3 s : Int} (h2 : Mask r2 ∧ ∀ i : Nat, Has r2 i ↔ (i : Int) ∈ c.2.2.1) (h3 : Mask r3 ∧ ∀ i : Nat, Has r3 i ↔ (i : Int) ∈ c.2.2.2) (hs : Mask s) :
 W (chg_changed_l2 k c r2 r3 k (s, 0)) fun s' => Round c s s' c.1.length := by
 have hn := hc.n4
 have hl := hc.len
 refine W.loop (f := chg_changed_l2 k c r2 r3) (fun q y => ∃ j : Nat, y.2 = (j : Int) ∧ j ≤ c.1.length ∧ q = c.1.length - j ∧ Round c s y.1 j) ?_ c.1.length k (s, 0) (by omega)
  ⟨0, rfl, by omega, by omega, hs, fun _ h => h, fun C hC h => h, fun q t i hq => by omega⟩
 rintro fuel q ⟨b, y⟩ ⟨j, hj, hle, hq, hR⟩ ih
 simp only at hj hR
 subst hj
 unfold chg_changed_l2
 dsimp only
 refine W.ite (fun hlt => ?_) (fun hge => W.ret (by have : j = c.1.length := by omega
                                                    subst this; exact hR))
 have hlt' : j < c.1.length := by omega
 have hget : c.1[j]? = some c.1[j] := List.getElem?_eq_getElem hlt'
 have hG := hc.good j _ hget
 refine W.bindEB (geti_W hlt') (W.bindEB (has_ok hR.mask (by omega)) (W.iteB (fun hh => ?_) (fun hh => ?_)))
 ·
  have hHas := of_decide_eq_true hh;have hol := hG.over.len (by omega);obtain ⟨r17, e17, m17, d17⟩ := of_set_ok (k := k) hk (l := c.1[j].1) (by omega) (fun x hx => by have := hG.over.2 x hx; omega);obtain ⟨m1, d1⟩ := iand_ok m17 h2.1;obtain ⟨m2, d2⟩ := iand_ok m1 h3.1;obtain ⟨m3, d3⟩ := ior_ok hR.mask m2
  have hnew : ∀ i, Has (ior .u8 b (iand .u8 (iand .u8 r17 r2) r3)) i ↔ Has b i ∨ ((i : Int) ∈ c.1[j].1 ∧ (i : Int) ∈ c.2.2.1 ∧ (i : Int) ∈ c.2.2.2) := fun i => by
   rw [d3, d2, d1, d17, h2.2, h3.2];constructor
   ·rintro (h | ⟨⟨a, b⟩, d⟩)
    ·exact .inl h
    ·exact .inr ⟨a, b, d⟩
   ·rintro (h | ⟨a, b, d⟩)
    ·exact .inl h
    ·exact .inr ⟨⟨a, b⟩, d⟩
  refine W.bindEB e17 (W.sb (W.ck (by omega) (by omega) (ih (q - 1) (_, (j : Int) + 1) (by omega) ⟨j + 1, ?_, by omega, by omega, m3, fun i hi => (hnew i).2 (.inl (hR.mono i hi)), fun C hC h0 i hi => ?_, fun q' t i hq' ht hs' ho hw hv => ?_⟩)))
  ·show (j : Int) + 1 = ((j + 1 : Nat) : Int);omega
  ·rcases (hnew i).1 hi with h | ⟨a, b', d⟩
   ·exact hR.sound C hC h0 i h
   ·have hin : i < c.1.length := by have := (hc.wears.2 _ b').2; omega
    exact hC i hin (.inr ⟨b', d, j, c.1[j], hget, hR.sound C hC h0 j hHas, a⟩)
  ·refine (hnew i).2 ?_;by_cases hqj : q' < j
   ·exact .inl (hR.follows q' t i hqj ht hs' ho hw hv)
   ·have : q' = j := by omega
    subst this;have : t = c.1[q'] := Option.some.inj (ht.symm.trans hget);subst this;exact .inr ⟨ho, hw, hv⟩
 ·
  refine W.sb (W.ck (by omega) (by omega) (ih (q - 1) (b, (j : Int) + 1) (by omega) ⟨j + 1, ?_, by omega, by omega, hR.mask, hR.mono, hR.sound, fun q' t i hq' ht hs' ho hw hv => ?_⟩))
  ·show (j : Int) + 1 = ((j + 1 : Nat) : Int);omega
  ·by_cases hqj : q' < j
   ·exact hR.follows q' t i hqj ht hs' ho hw hv
   ·have : q' = j := by omega
    subst this;exact absurd (decide_eq_true (hR.mono q' hs')) hh

/-- What is changed. -/
structure Chg (c : dChange) (s : Int) : Prop where
 mask : Mask s
 sound : ∀ C, Shut c C → ∀ i, Has s i → C i
 shut : Shut c (Has s)

theorem changed_ok {k : Nat} (hk : 50 ≤ k) {n : Int} {c : dChange} (hc : VC n c) : W (chg_changed k c) (Chg c) := by
 have hn := hc.n4;have hl := hc.len;have hwl := hc.wears.len (by omega);have hvl := hc.wants.len (by omega);obtain ⟨r2, e2, h2⟩ := of_set_ok (k := k) hk (l := c.2.2.1) (by omega) (fun x hx => by have := hc.wears.2 x hx; omega);obtain ⟨r3, e3, h3⟩ := of_set_ok (k := k) hk (l := c.2.2.2) (by omega) (fun x hx => by have := hc.wants.2 x hx; omega);obtain ⟨m0, d0⟩ := ixor_ok h2.1 h3.1;have hx0 : ∀ i : Nat, Has (ixor .u8 r2 r3) i ↔ (((i : Int) ∈ c.2.2.1 ∧ ¬ (i : Int) ∈ c.2.2.2) ∨ (¬ (i : Int) ∈ c.2.2.1 ∧ (i : Int) ∈ c.2.2.2)) := fun i => by rw [d0, h2.2, h3.2]
 have small : ∀ i : Nat, (i : Int) ∈ c.2.2.1 ∨ (i : Int) ∈ c.2.2.2 → i < c.1.length := fun i h => by
  rcases h with h | h
  ·have := (hc.wears.2 _ h).2; omega
  ·have := (hc.wants.2 _ h).2; omega
 unfold chg_changed;refine W.bindE e2 (W.bindE e3 (W.bind (R := Chg c) ?_ fun s h => W.ret h))
 refine W.loop (f := chg_changed_l1 k c r2 r3) (fun q y => ∃ j : Nat, y.2 = (j : Int) ∧ j ≤ c.1.length ∧ q = c.1.length - j ∧ Mask y.1 ∧ (∀ i, Has (ixor .u8 r2 r3) i → Has y.1 i) ∧ (∀ C, Shut c C → ∀ i, Has y.1 i → C i) ∧
  (Follows c y.1 y.1 c.1.length ∨ j + 1 ≤ cntS y.1 c.1.length)) ?_ c.1.length k _ (by omega)
  ⟨0, rfl, by omega, by omega, m0, fun _ h => h, fun C hC i hi => ?_, ?_⟩
 ·rintro fuel q ⟨s, y⟩ ⟨j, hj, hle, hq, hm, hb, hsd, hor⟩ ih;simp only at hj hm hb hsd hor;subst hj;unfold chg_changed_l1;dsimp only;refine W.ite (fun hlt => ?_) (fun hge => W.ret ⟨hm, hsd, fun i hi hF => ?_⟩)
  ·refine W.bind (round_ok hk hc h2 h3 hm) fun s' hR => W.ck (by omega) (by omega) (ih (q - 1) (s', (j : Int) + 1) (by omega) ⟨j + 1, ?_, by omega, by omega, hR.mask, fun i hi => hR.mono i (hb i hi), fun C hC => hR.sound C hC (hsd C hC), ?_⟩)
   ·show (j : Int) + 1 = ((j + 1 : Nat) : Int);omega
   ·by_cases hsame : ∀ i, i < c.1.length → Has s' i → Has s i
    ·refine .inl fun q' t i hq' ht hs' ho hw hv => ?_;have h1 := hsame q' hq' hs';exact hR.follows q' t i hq' ht h1 ho hw hv
    ·have hex : ∃ i, i < c.1.length ∧ Has s' i ∧ ¬ Has s i := by
      false_or_by_contra;rename_i hno;refine hsame fun i hi hsi => ?_;false_or_by_contra;rename_i hns;exact hno ⟨i, hi, hsi, hns⟩
     have hlt2 := cntS_lt hR.mono hex;rcases hor with hcl | hcn
     ·exfalso;obtain ⟨i, hi, h1, h2'⟩ := hex;refine h2' ?_
      have hsh : Shut c (Has s) := fun i hi hF => by
       rcases hF with hF | ⟨a, b, q', t, ht, hq', ho⟩
       ·exact hb i ((hx0 i).2 hF)
       ·have hq'' : q' < c.1.length := by
         rcases Nat.lt_or_ge q' c.1.length with h | h
         ·exact h
         ·rw [List.getElem?_eq_none h] at ht; cases ht
        exact hcl q' t i hq'' ht hq' ho a b
      exact hR.sound (Has s) hsh (fun _ h => h) i h1
     ·exact .inr (by show j + 1 + 1 ≤ cntS s' c.1.length; omega)
  ·have hj' : j = c.1.length := by omega
   subst hj'
   have hcl : Follows c s s c.1.length := by
    rcases hor with h | h
    ·exact h
    ·have := cntS_le (s := s) (n := c.1.length); omega
   rcases hF with hF | ⟨a, b, q', t, ht, hq', ho⟩
   ·exact hb i ((hx0 i).2 hF)
   ·have hq'' : q' < c.1.length := by
     rcases Nat.lt_or_ge q' c.1.length with h | h
     ·exact h
     ·rw [List.getElem?_eq_none h] at ht; cases ht
    exact hcl q' t i hq'' ht hq' ho a b
 ·have h := (hx0 i).1 hi;exact hC i (small i (h.elim (fun h => .inl h.1) (fun h => .inr h.2))) (.inl h)
 ·by_cases he : ∃ i, Has (ixor .u8 r2 r3) i
  ·obtain ⟨i, hi⟩ := he;have hil := small i (((hx0 i).1 hi).elim (fun h => .inl h.1) (fun h => .inr h.2));refine .inr ?_;show 0 + 1 ≤ cntS (ixor .u8 r2 r3) c.1.length;have h0 : ∀ i, ¬ Has 0 i := fun i h => by simp [Has] at h
   have := cntS_lt (s := 0) (s' := ixor .u8 r2 r3) (n := c.1.length) (fun i h => absurd h (h0 i)) ⟨i, hil, hi, h0 i⟩;omega
  ·exact .inl fun q' t i hq' ht hs' _ _ _ => absurd ⟨q', hs'⟩ he

/-- Both ways of counting come to the same things. -/
theorem chg_fix {c : dChange} {s : Int} {mv : List Bool} (h : Chg c s) (hf : Fix c mv) (i : Nat) : Has s i ↔ In mv i :=
 ⟨fun hi => h.sound (In mv) hf.shut i hi, fun hi => hf.sound (Has s) h.shut i hi⟩
end Go.Proofs.Ytopgphikdglphaa

/- Plain law, the tools: computations in Option by rewriting; loops as folds. -/
namespace Go.Proofs.Ytopgphikdglphaa
open K Go Go.Proofs

section
variable {α β γ ε σ T : Type}
theorem bs {a : α} {f : α → Option β} : (some a).bind f = f a := by cases h : f a <;> simp [h]
theorem ck_ok {n : Int} (h1 : -9223372036854775808 ≤ n) (h2 : n ≤ 9223372036854775807) : K.ck n = some n := by rw [K.ck, if_pos ⟨h1, h2⟩]
theorem chk_ok {p : Prop} [Decidable p] (h : p) : chkP p = some () := by rw [chkP, if_pos h]
theorem geti_at {l : List α} {i : Int} (h0 : 0 ≤ i) (h : i.toNat < l.length) : geti l i = some l[i.toNat] := by rw [geti, if_pos h0]; exact List.getElem?_eq_getElem h
theorem geti_q {l : List α} {i : Int} {x : α} (h0 : 0 ≤ i) (h : l[i.toNat]? = some x) : geti l i = some x := by rw [geti, if_pos h0]; exact h
theorem bE_k {a : α} {g : ε → Option β} {f : α → Option β} : K.bE (some (.ok a)) g f = f a := by cases h : f a <;> simp [K.bE, h]
theorem bE_e {e : ε} {g : ε → Option β} {f : α → Option β} : K.bE (some (.error e)) g f = g e := by cases h : g e <;> simp [K.bE, h]
theorem co_some {q : α} {a : β} {b : α → β} : casesO (some q) a b = b q := by unfold casesO; exact Eq.refl _
/-- A loop over a list, as a fold. -/
def foldI (g : σ → Nat → α → σ) : Nat → List α → σ → σ
 | _, [], s => s
 | j, x :: l, s => foldI g (j + 1) l (g s j x)
theorem for_fold (l : List α) (mk : σ → Int → T) (g : σ → Nat → α → σ) (P : Nat → σ → Prop) {f : Nat → T → Option β} (fin : σ → Option β)
 (step : ∀ n s (j : Nat) (h : j < l.length), P j s → f (n + 1) (mk s j) = f n (mk (g s j l[j]) ((j : Int) + 1)) ∧ P (j + 1) (g s j l[j]))
 (stop : ∀ n s, P l.length s → f (n + 1) (mk s l.length) = fin s) {s0 : σ} {n : Nat} (hn : l.length < n) (h0 : P 0 s0) : f n (mk s0 0) = fin (foldI g 0 l s0) ∧ P l.length (foldI g 0 l s0) := by
 have key : ∀ (m : List α) (pre : List α) (n : Nat) (s : σ), l = pre ++ m → m.length < n → P pre.length s → f n (mk s pre.length) = fin (foldI g pre.length m s) ∧ P l.length (foldI g pre.length m s) := by
  intro m
  induction m with
  | nil =>
   intro pre n s e hn hp;obtain ⟨n, rfl⟩ : ∃ n', n = n' + 1 := ⟨n - 1, by omega⟩;have : l.length = pre.length := by rw [e]; simp
   rw [← this] at hp ⊢;exact ⟨stop n s hp, hp⟩
  | cons x m ih =>
   intro pre n s e hn hp;simp only [List.length_cons] at hn;obtain ⟨n, rfl⟩ : ∃ n', n = n' + 1 := ⟨n - 1, by omega⟩;have hl : pre.length < l.length := by rw [e]; simp
   have hx : l[pre.length] = x := by simp [e]
   obtain ⟨h1, h2⟩ := step n s pre.length hl hp;rw [hx] at h1 h2;have := ih (pre ++ [x]) n (g s pre.length x) (by rw [e]; simp) (by omega) (by rw [List.length_append]; exact h2);rw [List.length_append] at this;simp only [List.length_cons, List.length_nil, Nat.zero_add] at this;rw [h1];exact this
 have := key l [] n s0 rfl hn h0
 exact this

/-- The same, with a way out. -/
def foldE (g : σ → Nat → α → Except ε σ) : Nat → List α → σ → Except ε σ
 | _, [], s => .ok s
 | j, x :: l, s => match g s j x with
  | .error e => .error e
  | .ok s' => foldE g (j + 1) l s'

theorem for_foldE (l : List α) (mk : σ → Int → T) (g : σ → Nat → α → Except ε σ) (P : Nat → σ → Prop) {f : Nat → T → Option β} (fin : Except ε σ → Option β)
 (step : ∀ n s (j : Nat) (h : j < l.length), P j s → (∃ e, g s j l[j] = .error e ∧ f (n + 1) (mk s j) = fin (.error e)) ∨ (∃ s', g s j l[j] = .ok s' ∧ f (n + 1) (mk s j) = f n (mk s' ((j : Int) + 1)) ∧ P (j + 1) s'))
 (stop : ∀ n s, P l.length s → f (n + 1) (mk s l.length) = fin (.ok s)) {s0 : σ} {n : Nat} (hn : l.length < n) (h0 : P 0 s0) : f n (mk s0 0) = fin (foldE g 0 l s0) := by
 have key : ∀ (m : List α) (pre : List α) (n : Nat) (s : σ), l = pre ++ m → m.length < n → P pre.length s → f n (mk s pre.length) = fin (foldE g pre.length m s) := by
  intro m
  induction m with
  | nil =>
   intro pre n s e hn hp;obtain ⟨n, rfl⟩ : ∃ n', n = n' + 1 := ⟨n - 1, by omega⟩;have : l.length = pre.length := by rw [e]; simp
   rw [← this] at hp ⊢;exact stop n s hp
  | cons x m ih =>
   intro pre n s e hn hp;simp only [List.length_cons] at hn;obtain ⟨n, rfl⟩ : ∃ n', n = n' + 1 := ⟨n - 1, by omega⟩;have hl : pre.length < l.length := by rw [e]; simp
   have hx : l[pre.length] = x := by simp [e]
   rcases step n s pre.length hl hp with ⟨e', h1, h2⟩ | ⟨s', h1, h2, h3⟩
   ·rw [hx] at h1;rw [h2, foldE, h1]
   ·rw [hx] at h1;have := ih (pre ++ [x]) n s' (by rw [e]; simp) (by omega) (by rw [List.length_append]; exact h3);rw [List.length_append] at this;simp only [List.length_cons, List.length_nil, Nat.zero_add] at this;rw [h2, foldE, h1];exact this
 exact key l [] n s0 rfl hn h0
end

/-! Numbers of tasks. -/
def numS (ts : List (Bool × Int)) (t : Int) (b : Bool) : Int := match ts.findIdx? (fun x => decide (x = (b, t))) with
 | some i => (i : Int)
 | none => -1

theorem foldE_find {α : Type} (p : α → Bool) : ∀ (l : List α) (j : Nat), foldE (fun (_ : Unit) j x => if p x then Except.error (j : Int) else .ok ()) j l () = match l.findIdx? p with | some i => .error ((i + j : Nat) : Int) | none => .ok ()
 | [], j => by simp [foldE]
 | x :: l, j => by
  rw [foldE, List.findIdx?_cons]
  by_cases h : p x = true
  ·
   simp [h]
  ·
   simp only [h, if_false, Bool.false_eq_true]
   rw [foldE_find p l (j + 1)]
   cases l.findIdx? p with
   | none => rfl
   | some i => simp only [Option.map_some]; congr 2; omega

theorem number_eq {k : Nat} (hk : 50 ≤ k) {a0 : dChange × (List (Bool × Int)) × (List Int)} {t : Int} {b : Bool} (h8 : a0.2.1.length ≤ 8) : chg_quick_number k a0 t b = some (numS a0.2.1 t b) := by
 have key := for_foldE (f := chg_quick_number_l1 k a0 t b) a0.2.1 (fun (_ : Unit) j => j) (fun _ j x => if decide (x = (b, t)) then Except.error (j : Int) else .ok ()) (fun _ _ => True)
  (fun r => some r) (fun n s j h _ => ?_) (fun n s _ => by simp [chg_quick_number_l1]) (n := k) (s0 := ()) (by omega) trivial
 ·unfold chg_quick_number;rw [show chg_quick_number_l1 k a0 t b k 0 = _ from key, foldE_find];unfold numS;cases a0.2.1.findIdx? _ with
  | none => simp only [bE_k]
  | some i => simp only [bE_e, Nat.add_zero]
 ·simp only [chg_quick_number_l1, Int.ofNat_lt, h, if_true, geti_W h, bs];obtain ⟨xb, xt⟩ := a0.2.1[j];cases xb <;> cases b <;> simp (disch := omega) only [chg_on_thing, chg_off_thing, cond, bs, Bool.false_eq_true, not_true_eq_false, not_false_eq_true, if_true, if_false, bE_k, ck_ok, Prod.mk.injEq, false_and, true_and, decide_false, reduceCtorEq] <;> by_cases hx : xt = t <;> simp (disch := omega) [hx, bE_k, bE_e]
end Go.Proofs.Ytopgphikdglphaa

/- Plain law, part 9: a valid change at work: its tasks, and what has to be done before what. -/
namespace Go.Proofs.Ytopgphikdglphaa
open K Go Go.Proofs

abbrev dQuick := dChange × (List (Bool × Int)) × (List Int)

theorem numS_some {ts : List (Bool × Int)} {t : Int} {b : Bool} {i : Nat} (hn : ts.Nodup) : numS ts t b = (i : Int) ↔ ts[i]? = some (b, t) := by
 unfold numS;cases h : ts.findIdx? (fun x => decide (x = (b, t))) with
 | none =>
  refine ⟨fun h => by simp only at h; omega, fun h' => ?_⟩;exfalso;rw [List.findIdx?_eq_none_iff] at h;have := h _ (List.mem_of_getElem? h');simp at this
 | some j =>
  rw [List.findIdx?_eq_some_iff_getElem] at h;obtain ⟨hj, h1, _⟩ := h;have h1 := of_decide_eq_true h1;refine ⟨fun h => ?_, fun h' => ?_⟩
  ·have : j = i := by simp only at h; omega
   subst this;rw [List.getElem?_eq_getElem hj, h1]
  ·obtain ⟨hi, hi'⟩ := List.getElem?_eq_some_iff.1 h';have := (List.getElem_inj (h₀ := hj) (h₁ := hi) hn).1 (by rw [h1, hi']);simp only;omega

theorem numS_lt {ts : List (Bool × Int)} {t : Int} {b : Bool} : -1 ≤ numS ts t b ∧ numS ts t b < (ts.length : Int) := by
 unfold numS;cases h : ts.findIdx? (fun x => decide (x = (b, t))) with
 | none => simp only; omega
 | some j =>
  rw [List.findIdx?_eq_some_iff_getElem] at h;obtain ⟨hj, _, _⟩ := h;simp only; omega

/-- A quick change at work, with the pairs that were noted. -/
structure QI (c : dChange) (ts : List (Bool × Int)) (ps : List (Int × Int)) (q : dQuick) : Prop where
 c : q.1 = c
 tasks : q.2.1 = ts
 len : q.2.2.length = 8
 masks : ∀ (b : Nat) m, q.2.2[b]? = some m → Mask m ∧ ∀ a : Nat, Has m a ↔ ((a : Int), (b : Int)) ∈ ps

theorem note_ok {k : Nat} (hk : 50 ≤ k) {c : dChange} {ts : List (Bool × Int)} {ps : List (Int × Int)} {q : dQuick} {a b : Int} (h : QI c ts ps q) (ht : ts.length ≤ 8) (ha : a < ts.length) (hb : b < ts.length) :
 W (chg_quick_order_1 k a b q) (QI c ts (ps ++ [(a, b)])) := by
 unfold chg_quick_order_1
 by_cases hab : 0 ≤ a ∧ 0 ≤ b
 ·
  obtain ⟨ha0, hb0⟩ := hab;have hlt : b.toNat < q.2.2.length := by rw [h.len]; omega
  obtain ⟨hm, hmm⟩ := h.masks b.toNat _ (List.getElem?_eq_getElem hlt);obtain ⟨r5, e5, m5, d5⟩ := of_set_ok (k := k) hk (l := [a]) (by simp) (fun x hx => by simp only [List.mem_singleton] at hx; subst hx; omega);obtain ⟨m6, d6⟩ := ior_ok hm m5;simp only [ha0, hb0, if_true, bs, decide_true, geti_at hb0 hlt, e5];rw [chk_ok ⟨True.intro, by omega⟩];simp only [bs];refine W.ret ⟨h.c, h.tasks, by show (List.set q.2.2 _ _).length = 8; rw [List.length_set]; exact h.len, fun b' m' hm' => ?_⟩;simp only [List.getElem?_set] at hm';by_cases hbb : b.toNat = b'
  ·subst hbb;rw [if_pos rfl, if_pos hlt] at hm';cases hm';refine ⟨m6, fun a' => ?_⟩;rw [d6, hmm, d5];simp only [List.mem_append, List.mem_singleton, Prod.mk.injEq];have hbn : ((b.toNat : Nat) : Int) = b := by omega
   rw [hbn];simp
  ·rw [if_neg hbb] at hm';obtain ⟨h1, h2⟩ := h.masks b' m' hm';refine ⟨h1, fun a' => ?_⟩;rw [h2];simp only [List.mem_append, List.mem_singleton, Prod.mk.injEq];refine ⟨fun h => .inl h, fun h => h.elim id fun h => ?_⟩;omega
 ·
  have hf : (if (0 : Int) ≤ a then (some (decide ((0 : Int) ≤ b))) else (some false)) = some false := by
   by_cases ha0 : 0 ≤ a
   ·rw [if_pos ha0, decide_eq_false (fun h => hab ⟨ha0, h⟩)]
   ·rw [if_neg ha0]
  rw [hf];simp only [bs, Bool.false_eq_true, if_false];refine W.ret ⟨h.c, h.tasks, h.len, fun b' m' hm' => ?_⟩;obtain ⟨h1, h2⟩ := h.masks b' m' hm';refine ⟨h1, fun a' => ?_⟩;rw [h2];simp only [List.mem_append, List.mem_singleton, Prod.mk.injEq];refine ⟨fun h => .inl h, fun h => h.elim id fun h => ?_⟩;omega

/-- What is noted for a thing and one over it. -/
def pairs4 (ts : List (Bool × Int)) (y x : Int) : List (Int × Int) := [(numS ts x false, numS ts y false), (numS ts x false, numS ts y true), (numS ts y false, numS ts x true), (numS ts y true, numS ts x true)]
def pairsT (ts : List (Bool × Int)) (i : Nat) (t : dThing) : List (Int × Int) := (numS ts (i : Int) false, numS ts (i : Int) true) :: t.1.flatMap (pairs4 ts (i : Int))
def pairsC (ts : List (Bool × Int)) (c : dChange) (j : Nat) : List (Int × Int) := (List.range j).flatMap fun i => match c.1[i]? with | some t => pairsT ts i t | none => []

theorem order2_ok {k : Nat} (hk : 50 ≤ k) {c : dChange} {ts : List (Bool × Int)} {ps : List (Int × Int)} {q : dQuick} {y2 : (List dThing) × (List dDresser) × (List Int) × (List Int) × (List (Bool × Int)) × (List Int) × Int} {x6 : dThing} (h : QI c ts ps q) (ht : ts.length ≤ 8) (hx : x6.1.length ≤ 20) :
 W (chg_quick_order_l2 k y2 x6 k (q.1.1, q.1.2.1, q.1.2.2.1, q.1.2.2.2, q.2.1, q.2.2, 0)) fun r => QI c ts (ps ++ x6.1.flatMap (pairs4 ts y2.2.2.2.2.2.2)) ((r.1, r.2.1, r.2.2.1, r.2.2.2.1), r.2.2.2.2.1, r.2.2.2.2.2) := by
 refine W.loop (f := chg_quick_order_l2 k y2 x6) (fun m y => ∃ j : Nat, y.2.2.2.2.2.2 = (j : Int) ∧ j ≤ x6.1.length ∧ m = x6.1.length - j ∧ QI c ts (ps ++ (x6.1.take j).flatMap (pairs4 ts y2.2.2.2.2.2.2)) ((y.1, y.2.1, y.2.2.1, y.2.2.2.1), y.2.2.2.2.1, y.2.2.2.2.2.1)) ?_ x6.1.length k _ (by omega) ⟨0, rfl, by omega, by omega, by simpa using h⟩
 rintro fuel m ⟨y1, y3, y4, y5, y6, y7, y⟩ ⟨j, hj, hle, hq, hQ⟩ ih
 simp only at hj hQ
 subst hj
 unfold chg_quick_order_l2
 dsimp only
 refine W.ite (fun hlt => ?_) (fun hge => W.ret (by have : j = x6.1.length := by omega
                                                    subst this; rw [List.take_length] at hQ; exact hQ))
 have hlt' : j < x6.1.length := by omega
 have num : ∀ {ps' : List (Int × Int)} {q : dQuick} (x : Int) (b : Bool), QI c ts ps' q → chg_quick_number k q x b = some (numS ts x b) := fun x b hq => by
  rw [number_eq hk (by rw [hq.tasks]; exact ht), hq.tasks]
 have nl : ∀ x b, numS ts x b < (ts.length : Int) := fun x b => numS_lt.2
 rw [geti_W hlt', bs, num _ _ hQ, bs, num _ _ hQ, bs]
 refine W.bind (note_ok hk hQ ht (nl _ _) (nl _ _)) fun r16 h16 => ?_
 rw [num _ _ h16, bs, num _ _ h16, bs]
 refine W.bind (note_ok hk h16 ht (nl _ _) (nl _ _)) fun r19 h19 => ?_
 rw [num _ _ h19, bs, num _ _ h19, bs]
 refine W.bind (note_ok hk h19 ht (nl _ _) (nl _ _)) fun r22 h22 => ?_
 rw [num _ _ h22, bs, num _ _ h22, bs]
 refine W.bind (note_ok hk h22 ht (nl _ _) (nl _ _)) fun r25 h25 => ?_
 refine W.ck (by omega) (by omega) (ih (m - 1) (r25.1.1, r25.1.2.1, r25.1.2.2.1, r25.1.2.2.2, r25.2.1, r25.2.2, (j : Int) + 1) (by omega) ⟨j + 1, by show (j : Int) + 1 = ((j + 1 : Nat) : Int); omega, by omega, by omega, ?_⟩)
 rw [List.take_add_one, List.getElem?_eq_getElem hlt', List.flatMap_append, ← List.append_assoc]
 simp only [Option.toList_some, List.flatMap_cons, List.flatMap_nil, List.append_nil, pairs4]
 simp only [List.append_assoc, List.cons_append, List.nil_append] at h25 ⊢
 exact h25

theorem order_ok {k : Nat} (hk : 50 ≤ k) {c : dChange} {ts : List (Bool × Int)} {q : dQuick} (h : QI c ts [] q) (ht : ts.length ≤ 8) (hl : c.1.length ≤ 20) (hx : ∀ t ∈ c.1, t.1.length ≤ 20) : W (chg_quick_order k q) (QI c ts (pairsC ts c c.1.length)) := by
 obtain ⟨qc, qt, qb⟩ := q;obtain rfl : qc = c := h.c;unfold chg_quick_order;refine W.loop (f := chg_quick_order_l1 k (qc, qt, qb)) (fun m y => ∃ j : Nat, y.2.2.2.2.2.2 = (j : Int) ∧ j ≤ qc.1.length ∧ m = qc.1.length - j ∧ QI qc ts (pairsC ts qc j) ((y.1, y.2.1, y.2.2.1, y.2.2.2.1), y.2.2.2.2.1, y.2.2.2.2.2.1)) ?_ qc.1.length k _ (by omega) ⟨0, rfl, by omega, by omega, h⟩;rintro fuel m ⟨y1, y3, y4, y5, y6, y7, y⟩ ⟨j, hj, hle, hq, hQ⟩ ih;simp only at hj hQ;subst hj;unfold chg_quick_order_l1;dsimp only
 refine W.ite (fun hlt => ?_) (fun hge => W.ret (by have : j = qc.1.length := by omega
                                                    subst this; exact hQ))
 have hlt' : j < qc.1.length := by omega
 have num : ∀ {ps' : List (Int × Int)} {q : dQuick} (x : Int) (b : Bool), QI qc ts ps' q → chg_quick_number k q x b = some (numS ts x b) := fun x b hq => by
  rw [number_eq hk (by rw [hq.tasks]; exact ht), hq.tasks]
 have nl : ∀ x b, numS ts x b < (ts.length : Int) := fun x b => numS_lt.2;rw [geti_W hlt', bs, num _ _ hQ, bs, num _ _ hQ, bs];refine W.bind (R := fun r => QI qc ts (pairsC ts qc (j + 1)) ((r.1, r.2.1, r.2.2.1, r.2.2.2.1), r.2.2.2.2.1, r.2.2.2.2.2)) ?_ fun r hr => W.ck (by omega) (by omega) (ih (m - 1) (r.1, r.2.1, r.2.2.1, r.2.2.2.1, r.2.2.2.2.1, r.2.2.2.2.2, (j : Int) + 1) (by omega) ⟨j + 1, by show (j : Int) + 1 = ((j + 1 : Nat) : Int); omega, by omega, by omega, hr⟩);refine W.bind (note_ok hk hQ ht (nl _ _) (nl _ _)) fun r10 h10 => (order2_ok hk h10 ht (hx _ (List.getElem_mem hlt'))).mono fun r hr => ?_;unfold pairsC at hr ⊢;rw [List.range_succ, List.flatMap_append];simp only [List.flatMap_cons, List.flatMap_nil, List.append_nil, List.getElem?_eq_getElem hlt', pairsT, List.append_assoc, List.cons_append, List.nil_append] at hr ⊢;exact hr

/-- A task has to be done before another one. -/
def BefT (c : dChange) (x y : Bool × Int) : Prop :=
 (x.2 = y.2 ∧ x.1 = false ∧ y.1 = true) ∨ (∃ (i : Nat) (t : dThing), c.1[i]? = some t ∧ y.2 = (i : Int) ∧ x.2 ∈ t.1 ∧ x.1 = false) ∨ (∃ (i : Nat) (t : dThing), c.1[i]? = some t ∧ x.2 = (i : Int) ∧ y.2 ∈ t.1 ∧ y.1 = true)

theorem pairsC_iff {c : dChange} {ts : List (Bool × Int)} (hn : ts.Nodup) (hr : ∀ x ∈ ts, ∃ i : Nat, i < c.1.length ∧ x.2 = (i : Int)) {a b : Nat} :
 ((a : Int), (b : Int)) ∈ pairsC ts c c.1.length ↔ ∃ x y, ts[a]? = some x ∧ ts[b]? = some y ∧ BefT c x y := by
 unfold pairsC
 simp only [List.mem_flatMap, List.mem_range]
 constructor
 ·
  rintro ⟨i, hi, h⟩;rw [List.getElem?_eq_getElem hi] at h;simp only [pairsT, List.mem_cons, List.mem_flatMap, pairs4, Prod.mk.injEq, List.not_mem_nil, or_false] at h;have hg := List.getElem?_eq_getElem hi;rcases h with ⟨h1, h2⟩ | ⟨x, hx, ⟨h1, h2⟩ | ⟨h1, h2⟩ | ⟨h1, h2⟩ | ⟨h1, h2⟩⟩
  ·exact ⟨_, _, (numS_some hn).1 h1.symm, (numS_some hn).1 h2.symm, .inl ⟨rfl, rfl, rfl⟩⟩
  ·exact ⟨_, _, (numS_some hn).1 h1.symm, (numS_some hn).1 h2.symm, .inr (.inl ⟨i, _, hg, rfl, hx, rfl⟩)⟩
  ·exact ⟨_, _, (numS_some hn).1 h1.symm, (numS_some hn).1 h2.symm, .inr (.inl ⟨i, _, hg, rfl, hx, rfl⟩)⟩
  ·exact ⟨_, _, (numS_some hn).1 h1.symm, (numS_some hn).1 h2.symm, .inr (.inr ⟨i, _, hg, rfl, hx, rfl⟩)⟩
  ·exact ⟨_, _, (numS_some hn).1 h1.symm, (numS_some hn).1 h2.symm, .inr (.inr ⟨i, _, hg, rfl, hx, rfl⟩)⟩
 ·
  rintro ⟨⟨x1, x2⟩, ⟨y1, y2⟩, h1, h2, h⟩;have e1 := (numS_some hn).2 h1;have e2 := (numS_some hn).2 h2;simp only [BefT] at h;rcases h with ⟨rfl, rfl, rfl⟩ | ⟨i, t, hg, rfl, hx, rfl⟩ | ⟨i, t, hg, rfl, hx, rfl⟩
  ·obtain ⟨i, hi, rfl⟩ := hr _ (List.mem_of_getElem? h1);refine ⟨i, hi, ?_⟩;rw [List.getElem?_eq_getElem hi];simp only [pairsT, List.mem_cons, Prod.mk.injEq];exact .inl ⟨e1.symm, e2.symm⟩
  ·refine ⟨i, (List.getElem?_eq_some_iff.1 hg).1, ?_⟩;rw [hg];simp only [pairsT, List.mem_cons, List.mem_flatMap, pairs4, Prod.mk.injEq, List.not_mem_nil, or_false];refine .inr ⟨x2, hx, ?_⟩;cases y1 with
   | false => exact .inl ⟨e1.symm, e2.symm⟩
   | true => exact .inr (.inl ⟨e1.symm, e2.symm⟩)
  ·refine ⟨i, (List.getElem?_eq_some_iff.1 hg).1, ?_⟩;rw [hg];simp only [pairsT, List.mem_cons, List.mem_flatMap, pairs4, Prod.mk.injEq, List.not_mem_nil, or_false];refine .inr ⟨y2, hx, ?_⟩;cases x1 with
   | false => exact .inr (.inr (.inl ⟨e1.symm, e2.symm⟩))
   | true => exact .inr (.inr (.inr ⟨e1.symm, e2.symm⟩))

/-- The numbers of a set, ascending. -/
def bitsL (s : Int) (j : Nat) : List Int := ((List.range j).filter fun (i : Nat) => decide (Has s i)).map fun (i : Nat) => (i : Int)
theorem bitsL_succ {s : Int} {j : Nat} : bitsL s (j + 1) = bitsL s j ++ (if Has s j then [(j : Int)] else []) := by
 unfold bitsL;rw [List.range_succ, List.filter_append, List.map_append];congr 1;by_cases h : Has s j <;> simp [h]
theorem bitsL_len {s : Int} {j : Nat} : (bitsL s j).length ≤ j := by
 unfold bitsL;rw [List.length_map];exact Nat.le_trans (List.length_filter_le _ _) (by simp)

theorem set_list_ok {k : Nat} (hk : 50 ≤ k) {s : Int} (hs : Mask s) : chg_set_list k s = some (bitsL s 8) := by
 have key : W (chg_set_list_l1 k s k ([], 0)) fun r => r = bitsL s 8 := by
  refine W.loop (f := chg_set_list_l1 k s) (fun q y => ∃ j : Nat, y.2 = (j : Int) ∧ j ≤ 8 ∧ q = 8 - j ∧ y.1 = bitsL s j) ?_ 8 k _ (by omega) ⟨0, rfl, by omega, by omega, by simp [bitsL]⟩;rintro fuel q ⟨o, y⟩ ⟨j, hj, hle, hq, ho⟩ ih;simp only at hj ho;subst hj ho;unfold chg_set_list_l1;dsimp only
  refine W.ite (fun hlt => ?_) (fun hge => W.ret (by have : j = 8 := by omega
                                                     subst this; rfl))
  have hbl := bitsL_len (s := s) (j := j);refine W.bindEB (has_ok hs (by omega)) (W.iteB (fun hh => ?_) (fun hh => ?_))
  ·refine W.chkB (okLen_of (by simp only [List.length_cons, List.length_nil]; omega)) (W.sb (W.ck (by omega) (by omega) (ih (q - 1) (_, (j : Int) + 1) (by omega) ⟨j + 1, ?_, by omega, by omega, ?_⟩)))
   ·show (j : Int) + 1 = ((j + 1 : Nat) : Int);omega
   ·show bitsL s j ++ [(j : Int)] = _;rw [bitsL_succ, if_pos (of_decide_eq_true hh)]
  ·refine W.sb (W.ck (by omega) (by omega) (ih (q - 1) (_, (j : Int) + 1) (by omega) ⟨j + 1, ?_, by omega, by omega, ?_⟩))
   ·show (j : Int) + 1 = ((j + 1 : Nat) : Int);omega
   ·show bitsL s j = _;rw [bitsL_succ, if_neg (fun h => hh (decide_eq_true h)), List.append_nil]
 obtain ⟨r, e, rfl⟩ := key;unfold chg_set_list;rw [e];rfl

theorem put_ok {k : Nat} (hk : 50 ≤ k) {l : List Int} {o : List (Bool × Int)} (hl : l.length ≤ 8) (ho : o.length ≤ 100) : chg_begin_l1 k l k (o, 0) = some (o ++ l.map fun n => (false, n)) := by
 have key : W (chg_begin_l1 k l k (o, 0)) fun r => r = o ++ l.map fun n => (false, n) := by
  refine W.loop (f := chg_begin_l1 k l) (fun q y => ∃ j : Nat, y.2 = (j : Int) ∧ j ≤ l.length ∧ q = l.length - j ∧ y.1 = o ++ (l.take j).map fun n => (false, n)) ?_ l.length k _ (by omega) ⟨0, rfl, by omega, by omega, by simp⟩;rintro fuel q ⟨o', y⟩ ⟨j, hj, hle, hq, ho'⟩ ih;simp only at hj ho';subst hj ho';unfold chg_begin_l1;dsimp only
  refine W.ite (fun hlt => ?_) (fun hge => W.ret (by have : j = l.length := by omega
                                                     subst this; rw [List.take_length]))
  have hlt' : j < l.length := by omega
  refine W.bindE (geti_W hlt') (W.chk (okLen_of (by simp only [List.length_append, List.length_map, List.length_take, List.length_cons, List.length_nil]; omega)) (W.ck (by omega) (by omega) (ih (q - 1) (_, (j : Int) + 1) (by omega) ⟨j + 1, ?_, by omega, by omega, ?_⟩)))
  ·show (j : Int) + 1 = ((j + 1 : Nat) : Int);omega
  ·show (o ++ _) ++ _ = _;rw [List.take_add_one, List.getElem?_eq_getElem hlt', List.map_append, List.append_assoc];rfl
 obtain ⟨r, e, rfl⟩ := key;exact e
theorem put2_ok {k : Nat} (hk : 50 ≤ k) {l : List Int} {o : List (Bool × Int)} (hl : l.length ≤ 8) (ho : o.length ≤ 100) : chg_begin_l2 k l k (o, 0) = some (o ++ l.map fun n => (true, n)) := by
 have key : W (chg_begin_l2 k l k (o, 0)) fun r => r = o ++ l.map fun n => (true, n) := by
  refine W.loop (f := chg_begin_l2 k l) (fun q y => ∃ j : Nat, y.2 = (j : Int) ∧ j ≤ l.length ∧ q = l.length - j ∧ y.1 = o ++ (l.take j).map fun n => (true, n)) ?_ l.length k _ (by omega) ⟨0, rfl, by omega, by omega, by simp⟩;rintro fuel q ⟨o', y⟩ ⟨j, hj, hle, hq, ho'⟩ ih;simp only at hj ho';subst hj ho';unfold chg_begin_l2;dsimp only
  refine W.ite (fun hlt => ?_) (fun hge => W.ret (by have : j = l.length := by omega
                                                     subst this; rw [List.take_length]))
  have hlt' : j < l.length := by omega
  refine W.bindE (geti_W hlt') (W.chk (okLen_of (by simp only [List.length_append, List.length_map, List.length_take, List.length_cons, List.length_nil]; omega)) (W.ck (by omega) (by omega) (ih (q - 1) (_, (j : Int) + 1) (by omega) ⟨j + 1, ?_, by omega, by omega, ?_⟩)))
  ·show (j : Int) + 1 = ((j + 1 : Nat) : Int);omega
  ·show (o ++ _) ++ _ = _;rw [List.take_add_one, List.getElem?_eq_getElem hlt', List.map_append, List.append_assoc];rfl
 obtain ⟨r, e, rfl⟩ := key;exact e

end Go.Proofs.Ytopgphikdglphaa

/- Plain law, part 10: a valid change at work. -/
namespace Go.Proofs.Ytopgphikdglphaa
open K Go Go.Proofs

theorem filter_range {p : Nat → Bool} {n : Nat} (hp : ∀ i, p i = true → i < n) : ∀ m, n ≤ m → (List.range m).filter p = (List.range n).filter p := by
 intro m
 induction m with
 | zero => intro h; have : n = 0 := by omega
           subst this; rfl
 | succ m ih =>
  intro h;by_cases hn : n = m + 1
  ·subst hn; rfl
  ·rw [List.range_succ, List.filter_append, ih (by omega)]
   have : p m = false := by
    cases hm : p m with
    | false => rfl
    | true => have := hp m hm; omega
   simp [this]

set_option maxRecDepth 100000 in
theorem dressed100 : law_dressed 100 = some true := by decide +kernel


/-- The things that move, of a list. -/
def tsL (mv : List Bool) (ws : List Int) (n : Nat) : List Int := ((List.range n).filter fun (i : Nat) => mv[i]?.getD false && decide ((i : Int) ∈ ws)).map fun (i : Nat) => (i : Int)
/-- The tasks. -/
def tsC (c : dChange) (mv : List Bool) : List (Bool × Int) := ((tsL mv c.2.2.1 c.1.length).map fun x => (false, x)) ++ ((tsL mv c.2.2.2 c.1.length).map fun x => (true, x))

theorem sel_tsL {mv : List Bool} {ws : List Int} {b : Bool} {n : Nat} : sel mv ws b n = (tsL mv ws n).map fun x => (x, b) := by
 unfold sel tsL;rw [List.map_map];rfl
theorem tsC_sel {c : dChange} {mv : List Bool} : sel mv c.2.2.1 false c.1.length ++ sel mv c.2.2.2 true c.1.length = (tsC c mv).map fun x => (x.2, x.1) := by
 rw [sel_tsL, sel_tsL, tsC, List.map_append, List.map_map, List.map_map];rfl
theorem mem_tsL {mv : List Bool} {ws : List Int} {n : Nat} {x : Int} : x ∈ tsL mv ws n ↔ ∃ i : Nat, i < n ∧ x = (i : Int) ∧ In mv i ∧ x ∈ ws := by
 unfold tsL;simp only [List.mem_map, List.mem_filter, List.mem_range, Bool.and_eq_true, decide_eq_true_eq];constructor
 ·rintro ⟨i, ⟨h1, h2, h3⟩, rfl⟩;refine ⟨i, h1, rfl, ?_, h3⟩;cases hg : mv[i]? with
  | none => rw [hg] at h2; cases h2
  | some x => rw [hg] at h2; simp at h2; show mv[i]? = _; rw [hg, h2]
 ·rintro ⟨i, h1, rfl, h2, h3⟩;refine ⟨i, ⟨h1, ?_, h3⟩, rfl⟩;have h2 : mv[i]? = some true := h2;rw [h2]; rfl
theorem tsL_pw {mv : List Bool} {ws : List Int} {n : Nat} : (tsL mv ws n).Pairwise (· < ·) := by
 unfold tsL;rw [List.pairwise_map];exact ((List.pairwise_lt_range (n := n)).filter _).imp fun {a b} h => by omega
theorem mem_tsC {c : dChange} {mv : List Bool} {x : Bool × Int} : x ∈ tsC c mv ↔ ∃ i : Nat, i < c.1.length ∧ x.2 = (i : Int) ∧ In mv i ∧ x.2 ∈ (if x.1 = true then c.2.2.2 else c.2.2.1) := by
 unfold tsC;simp only [List.mem_append, List.mem_map, mem_tsL];obtain ⟨b, v⟩ := x;constructor
 ·rintro (⟨x, h, h'⟩ | ⟨x, h, h'⟩)
  ·cases h'; exact h
  ·cases h'; exact h
 ·intro h;cases b with
  | false => exact .inl ⟨v, h, rfl⟩
  | true => exact .inr ⟨v, h, rfl⟩
theorem tsC_nodup {c : dChange} {mv : List Bool} : (tsC c mv).Nodup := by
 unfold tsC
 have pw : ∀ {ws : List Int} (b : Bool), ((tsL mv ws c.1.length).map fun x => (b, x)).Nodup := fun {ws} b => by
  rw [List.Nodup, List.pairwise_map];refine (tsL_pw (mv := mv) (ws := ws) (n := c.1.length)).imp fun {a b'} h e => ?_;simp only [Prod.mk.injEq, true_and] at e;omega
 refine List.nodup_append.2 ⟨pw false, pw true, fun a ha b hb e => ?_⟩;subst e;simp only [List.mem_map] at ha hb;obtain ⟨x, _, rfl⟩ := ha;obtain ⟨y, _, h⟩ := hb;cases h

theorem fix_len {c : dChange} {mv : List Bool} (h : Fix c mv) {i : Nat} (hi : In mv i) : i < c.1.length := h.sound (fun i => i < c.1.length) (fun _ hi _ => hi) i hi
theorem fix_unique {c : dChange} {mv mv' : List Bool} (h : Fix c mv) (h' : Fix c mv') : mv = mv' := by
 apply List.ext_getElem? fun i => ?_;have hl := h.len;have hl' := h'.len
 have hb : ∀ m : List Bool, m.length = c.1.length → In m i ∨ m[i]? = some false ∨ (m[i]? = none ∧ ¬ i < c.1.length) := fun m hm => by
  cases hg : m[i]? with
  | none => exact .inr (.inr ⟨rfl, by have := List.getElem?_eq_none_iff.1 hg; omega⟩)
  | some b => cases b with
   | true => exact .inl hg
   | false => exact .inr (.inl rfl)
 have hx : In mv i ↔ In mv' i := ⟨fun hi => h.sound _ h'.shut i hi, fun hi => h'.sound _ h.shut i hi⟩;rcases hb _ hl with a | a | ⟨a, a'⟩
 ·have b : mv'[i]? = some true := hx.1 a;rw [b]; exact a
 ·rcases hb _ hl' with b | b | ⟨b, b'⟩
  ·have := hx.2 b;have a' : mv[i]? = some true := this;rw [a] at a'; cases a'
  ·rw [a, b]
  ·have := (List.getElem?_eq_some_iff.1 a).1; omega
 ·rcases hb _ hl' with b | b | ⟨b, b'⟩
  ·have := fix_len h' b; omega
  ·have := (List.getElem?_eq_some_iff.1 b).1; omega
  ·rw [a, b]

theorem VC.wl {n : Int} {c : dChange} (hc : VC n c) : c.2.2.1.length ≤ 4 ∧ c.2.2.2.length ≤ 4 ∧ c.1.length ≤ 4 ∧ (∀ t ∈ c.1, t.1.length ≤ 4) ∧ (∀ d ∈ c.2.1, d.1.length ≤ 4) := by
 have h1 := hc.n4;have h2 := hc.len;have h3 := hc.wears.len (by omega);have h4 := hc.wants.len (by omega);refine ⟨by omega, by omega, by omega, fun t ht => ?_, fun d hd => ?_⟩
 ·obtain ⟨j, hj⟩ := List.mem_iff_getElem?.1 ht;have := (hc.good j t hj).over.len (by omega);omega
 ·have := (hc.dressers d hd).can.len (by omega);omega
theorem VC.small {n : Int} {c : dChange} (hc : VC n c) : Small c := by
 obtain ⟨h1, h2, h3, h4, _⟩ := hc.wl;exact ⟨by omega, fun t ht => by have := h4 t ht; omega, by omega, by omega⟩
theorem VC.fix {n : Int} {c : dChange} (hc : VC n c) : ∃ mv, Fix c mv := by
 obtain ⟨mv, _, h⟩ := fix_ok (k := 100) (by decide) hc.small;exact ⟨mv, h⟩

theorem bits_tsL {c : dChange} {s a m : Int} {mv : List Bool} {ws : List Int} (hm : ∀ i, Has m i ↔ Has s i ∧ Has a i) (ha : ∀ i : Nat, Has a i ↔ (i : Int) ∈ ws) (hw : ∀ i : Nat, (i : Int) ∈ ws → i < c.1.length) (hc : c.1.length ≤ 8) (hf : ∀ i, Has s i ↔ In mv i) :
 bitsL m 8 = tsL mv ws c.1.length := by
 unfold bitsL tsL
 rw [filter_range (n := c.1.length) (fun i hi => hw i ((ha i).1 ((hm i).1 (of_decide_eq_true hi)).2)) 8 hc]
 congr 1
 apply List.filter_congr
 intro i _
 rw [Bool.eq_iff_iff]
 simp only [decide_eq_true_eq, Bool.and_eq_true]
 rw [hm, hf, ha]
 unfold In
 constructor
 ·
  rintro ⟨h1, h2⟩; exact ⟨by rw [h1]; rfl, h2⟩
 ·
  rintro ⟨h1, h2⟩;refine ⟨?_, h2⟩;cases hg : mv[i]? with
  | none => rw [hg] at h1; cases h1
  | some x => rw [hg] at h1; simp at h1; rw [h1]

/-- **A valid change at work.** -/
structure QV (n : Int) (c : dChange) (mv : List Bool) (q : dQuick) : Prop where
 vc : VC n c
 fix : Fix c mv
 eq : q.1 = c
 tasks : q.2.1 = tsC c mv
 t4 : (tsC c mv).length ≤ 4
 len : q.2.2.length = 8
 masks : ∀ (b : Nat) m, q.2.2[b]? = some m → Mask m ∧ ∀ a : Nat, Has m a ↔ ∃ x y, (tsC c mv)[a]? = some x ∧ (tsC c mv)[b]? = some y ∧ BefT c x y

theorem tsC_rng {c : dChange} {mv : List Bool} : ∀ x ∈ tsC c mv, ∃ i : Nat, i < c.1.length ∧ x.2 = (i : Int) := fun x hx => by
 obtain ⟨i, h1, h2, _⟩ := mem_tsC.1 hx
 exact ⟨i, h1, h2⟩

theorem begin_ok {k : Nat} (hk : 50 ≤ k) {n : Int} {c : dChange} {mv : List Bool} (hc : VC n c) (hF : Fix c mv) :
 (4 < (tsC c mv).length → chg_begin k c = some (none, 6)) ∧ ((tsC c mv).length ≤ 4 → ∃ q, chg_begin k c = some (some q, 0) ∧ QV n c mv q) := by
 have hn := hc.n4
 have hl := hc.len
 obtain ⟨w1, w2, w3, w4, _⟩ := hc.wl
 obtain ⟨a, ea, ha⟩ := of_set_ok (k := k) hk (l := c.2.2.1) (by omega) (fun x hx => by have := hc.wears.2 x hx; omega)
 obtain ⟨b, eb, hb⟩ := of_set_ok (k := k) hk (l := c.2.2.2) (by omega) (fun x hx => by have := hc.wants.2 x hx; omega)
 obtain ⟨s, es, hs⟩ := changed_ok hk hc
 obtain ⟨m1, d1⟩ := iand_ok hs.mask ha.1
 obtain ⟨m2, d2⟩ := iand_ok hs.mask hb.1
 have l1 := bitsL_len (s := iand .u8 s a) (j := 8)
 have l2 := bitsL_len (s := iand .u8 s b) (j := 8)
 have b1 := bits_tsL (c := c) d1 ha.2 (fun i h => by have := (hc.wears.2 _ h).2; omega) (by omega) (chg_fix hs hF)
 have b2 := bits_tsL (c := c) d2 hb.2 (fun i h => by have := (hc.wants.2 _ h).2; omega) (by omega) (chg_fix hs hF)
 have e : ([] ++ (bitsL (iand .u8 s a) 8).map fun n => (false, n)) ++ (bitsL (iand .u8 s b) 8).map (fun n => (true, n)) = tsC c mv := by rw [b1, b2, tsC, List.nil_append]
 have run : chg_begin k c = if (4 : Int) < ((tsC c mv).length : Int) then (some (none, (6 : Int))) else ((chg_quick_order k (c, tsC c mv, [(0 : Int), 0, 0, 0, 0, 0, 0, 0])).bind fun r28 =>
  some (some ((r28.1.1, r28.1.2.1, r28.1.2.2.1, r28.1.2.2.2), r28.2.1, r28.2.2), (0 : Int))) := by
  unfold chg_begin;rw [hc.chk k hk];simp only [bs, not_true_eq_false, if_false, es, ea, eb, set_list_ok hk m1, set_list_ok hk m2];rw [put_ok hk l1 (by simp)];simp only [bs];rw [put2_ok hk l2 (by simp; omega), bs, e]
 refine ⟨fun h => by rw [run, if_pos (by omega)], fun h => ?_⟩
 have hq : QI c (tsC c mv) [] (c, tsC c mv, [(0 : Int), 0, 0, 0, 0, 0, 0, 0]) := ⟨rfl, rfl, rfl, fun b m hm => by
  have := List.mem_of_getElem? hm;simp only [List.mem_cons, List.not_mem_nil, or_false, or_self] at this;subst this;exact ⟨⟨by decide, by decide⟩, fun a => by simp [Has]⟩⟩
 obtain ⟨r, er, hr⟩ := order_ok hk hq (by omega) (by omega) (fun t ht => by have := w4 t ht; omega)
 refine ⟨r, by rw [run, if_neg (by omega), er, bs], hc, hF, hr.c, hr.tasks, h, hr.len, fun b m hm => ?_⟩
 obtain ⟨h1, h2⟩ := hr.masks b m hm
 exact ⟨h1, fun a => by rw [h2, pairsC_iff tsC_nodup tsC_rng]⟩

theorem tasksOf_eq {k : Nat} (hk : 50 ≤ k) {n : Int} {c : dChange} {mv : List Bool} (hc : VC n c) (hF : Fix c mv) : kit_TasksOf k c = some ((tsC c mv).map fun x => (x.2, x.1)) := by
 obtain ⟨r, e, mv', hF', rfl⟩ := tasksOf_ok hk hc.small;rw [e, fix_unique hF' hF, tsC_sel]

/-- **The change that is made of the lots.** -/
theorem lots_ok {k : Nat} (hk : 50 ≤ k) {l : dLots} {m : Int} (hl : Lo l m) (hm : 0 ≤ m ∧ m ≤ 1000) : W (kit_ChangeOf k l) fun r => Lo r.2 (m + 300) ∧ GoodC k r.1 ∧ ∃ n mv q, VC n r.1 ∧ chg_begin k r.1 = some (some q, 0) ∧ QV n r.1 mv q := by
 refine (change_ok hk hl hm).mono fun r hr => ?_;obtain ⟨hg, hlo⟩ := hr;obtain ⟨⟨up, n, h1, h4, hl, hgo, hw, hv, hd⟩, hdl, htk⟩ := hg;have hc : VC n r.1 := vc_of_good ⟨h1, h4⟩ hl hgo hw hv hd hdl;obtain ⟨mv, hF⟩ := hc.fix;have := htk _ (tasksOf_eq hk hc hF);rw [List.length_map] at this;obtain ⟨q, hb, hq⟩ := (begin_ok hk hc hF).2 this;exact ⟨hlo, ⟨⟨up, n, h1, h4, hl, hgo, hw, hv, hd⟩, hdl, htk⟩, n, mv, q, hc, hb, hq⟩

theorem newLots_ok {l : List Int} : Lo (l, 0, 1) 0 := ⟨Int.le_refl 0, Int.le_refl 0⟩
end Go.Proofs.Ytopgphikdglphaa

/- Plain law, part 11: small tools for the laws' own loops; what the tasks of a change are. -/
namespace Go.Proofs.Ytopgphikdglphaa
open K Go Go.Proofs

section
variable {α β ε : Type}
end

end Go.Proofs.Ytopgphikdglphaa

/- Plain law, part 12: who can do what, what comes first, the error of a plan. -/
namespace Go.Proofs.Ytopgphikdglphaa
open K Go Go.Proofs

theorem iandn_ok {a b : Int} (ha : Mask a) (hb : Mask b) : (iandn .u8 a b = 0 ↔ ∀ i, Has a i → Has b i) := by
 obtain ⟨n, hn, rfl⟩ := mask_nat ha;obtain ⟨m, hm, rfl⟩ := mask_nat hb
 have h1 : ((BitVec.ofInt IntKind.u8.bits (n : Int)) &&& ~~~ (BitVec.ofInt IntKind.u8.bits (m : Int))).toNat = n &&& (255 - m) := by
  show ((BitVec.ofInt 8 (n : Int)) &&& ~~~ (BitVec.ofInt 8 (m : Int))).toNat = n &&& (255 - m);have e1 : (BitVec.ofInt 8 (n : Int)).toNat = n := ofInt8 hn;have e2 : (BitVec.ofInt 8 (m : Int)).toNat = m := ofInt8 hm;rw [BitVec.toNat_and, BitVec.toNat_not, e1, e2]
 have e : iandn .u8 (n : Int) (m : Int) = ((n &&& (255 - m) : Nat) : Int) := by
  unfold iandn;rw [h1];exact wrap_u8 (lt_and8 hn)
 rw [e];have h2 : ((n &&& (255 - m) : Nat) : Int) = 0 ↔ n &&& (255 - m) = 0 := by omega
 have h3 : ∀ i, i < 8 → (255 - m).testBit i = !m.testBit i := fun i hi => by
  have := Nat.testBit_two_pow_sub_succ (n := 8) (x := m) hm i;have e : 2 ^ 8 - (m + 1) = 255 - m := by omega
  rw [e] at this;simp [this, hi]
 rw [h2];constructor
 ·intro h i hi;have hi' : n.testBit i = true := by simpa [Has] using hi
  have h8 : i < 8 := by
   false_or_by_contra;have := Nat.testBit_lt_two_pow (x := n) (i := i) (Nat.lt_of_lt_of_le hn (Nat.pow_le_pow_right (by decide) (by omega) : 2 ^ 8 ≤ 2 ^ i));rw [this] at hi'; cases hi'
  have := congrArg (fun x => Nat.testBit x i) h;simp only [Nat.testBit_and, h3 i h8, hi', Nat.zero_testBit, Bool.true_and] at this;show (m : Int).toNat.testBit i = true;simpa using this
 ·intro h;apply Nat.eq_of_testBit_eq;intro i;simp only [Nat.testBit_and, Nat.zero_testBit];by_cases h8 : i < 8
  ·cases hb : n.testBit i with
   | false => rfl
   | true =>
    have := h i (by simpa [Has] using hb);have : m.testBit i = true := by simpa [Has] using this
    rw [h3 i h8, this]; rfl
  ·have := Nat.testBit_lt_two_pow (x := n) (i := i) (Nat.lt_of_lt_of_le hn (Nat.pow_le_pow_right (by decide) (by omega) : 2 ^ 8 ≤ 2 ^ i));rw [this]; rfl

/-- A thing of a change. -/
def thg (c : dChange) (x : Int) : dThing := c.1[x.toNat]?.getD ([], 0, 0, 0, 0)
def drs (c : dChange) (d : Int) : dDresser := c.2.1[d.toNat]?.getD ([], 0, 0)
/-- Can a dresser do a task? -/
def canB (c : dChange) (d : Int) (w : Bool × Int) : Bool := decide (w.2 ∈ (drs c d).1) && (decide ((thg c w.2).2.2.2.1 = 0) || decide ((drs c d).2.1 = 0) || decide ((drs c d).2.1 = (thg c w.2).2.2.2.1))
def barsB (c : dChange) (w : Bool × Int) : Int := if w.1 = true then (thg c w.2).2.2.1 else (thg c w.2).2.1
/-- Has a task to be done before another one? -/
def befB (c : dChange) (x y : Bool × Int) : Bool := (decide (x.2 = y.2) && !x.1 && y.1) || (decide (x.2 ∈ (thg c y.2).1) && !x.1) || (decide (y.2 ∈ (thg c x.2).1) && y.1)
def bef (c : dChange) (ts : List (Bool × Int)) (a b : Nat) : Bool := match ts[a]?, ts[b]? with
 | some x, some y => befB c x y
 | _, _ => false
def befL (c : dChange) (ts : List (Bool × Int)) (b : Nat) : List Nat := (List.range ts.length).filter fun a => bef c ts a b

theorem thg_some {c : dChange} {i : Nat} {t : dThing} (h : c.1[i]? = some t) : thg c (i : Int) = t := by simp [thg, h]
theorem geti_thg {c : dChange} {x : Int} (h0 : 0 ≤ x) (h : x.toNat < c.1.length) : geti c.1 x = some (thg c x) := by
 rw [geti_at h0 h, thg, List.getElem?_eq_getElem h]; rfl
theorem geti_drs {c : dChange} {d : Int} (h0 : 0 ≤ d) (h : d < c.2.1.length) : geti c.2.1 d = some (drs c d) := by
 have : d.toNat < c.2.1.length := by omega
 rw [geti_at h0 this, drs, List.getElem?_eq_getElem this]; rfl

theorem befT_iff {c : dChange} {x y : Bool × Int} (hx : ∃ i : Nat, i < c.1.length ∧ x.2 = (i : Int)) (hy : ∃ i : Nat, i < c.1.length ∧ y.2 = (i : Int)) : BefT c x y ↔ befB c x y = true := by
 obtain ⟨i, hi, ei⟩ := hx;obtain ⟨j, hj, ej⟩ := hy;obtain ⟨xb, xv⟩ := x;obtain ⟨yb, yv⟩ := y;simp only at ei ej;subst ei ej;have hgi := List.getElem?_eq_getElem hi;have hgj := List.getElem?_eq_getElem hj;simp only [BefT, befB, Bool.or_eq_true, Bool.and_eq_true, decide_eq_true_eq, Bool.not_eq_true', thg_some hgi, thg_some hgj];constructor
 ·rintro (⟨a, b, d⟩ | ⟨i', t, a, b, d, e⟩ | ⟨i', t, a, b, d, e⟩)
  ·exact .inl (.inl ⟨⟨a, b⟩, d⟩)
  ·have : j = i' := by omega
   subst this;rw [hgj] at a; cases a;exact .inl (.inr ⟨d, e⟩)
  ·have : i = i' := by omega
   subst this;rw [hgi] at a; cases a;exact .inr ⟨d, e⟩
 ·rintro ((⟨⟨a, b⟩, d⟩ | ⟨a, b⟩) | ⟨a, b⟩)
  ·exact .inl ⟨a, b, d⟩
  ·exact .inr (.inl ⟨j, _, hgj, rfl, a, b⟩)
  ·exact .inr (.inr ⟨i, _, hgi, rfl, a, b⟩)

theorem QV.mask {n : Int} {c : dChange} {mv : List Bool} {q : dQuick} (h : QV n c mv q) {b : Nat} (hb : b < 8) : ∃ m, q.2.2[b]? = some m ∧ Mask m ∧ (∀ a : Nat, Has m a ↔ bef c (tsC c mv) a b = true) ∧ bitsL m 8 = (befL c (tsC c mv) b).map fun (a : Nat) => (a : Int) := by
 have hl : b < q.2.2.length := by rw [h.len]; exact hb
 obtain ⟨h1, h2⟩ := h.masks b _ (List.getElem?_eq_getElem hl)
 have h3 : ∀ a : Nat, Has q.2.2[b] a ↔ bef c (tsC c mv) a b = true := fun a => by
  rw [h2];unfold bef;constructor
  ·rintro ⟨x, y, e1, e2, hb⟩;rw [e1, e2];exact (befT_iff (tsC_rng _ (List.mem_of_getElem? e1)) (tsC_rng _ (List.mem_of_getElem? e2))).1 hb
  ·intro hm;cases e1 : (tsC c mv)[a]? with
   | none => rw [e1] at hm; simp at hm
   | some x => cases e2 : (tsC c mv)[b]? with
    | none => rw [e1, e2] at hm; simp at hm
    | some y =>
     rw [e1, e2] at hm;exact ⟨x, y, rfl, rfl, (befT_iff (tsC_rng _ (List.mem_of_getElem? e1)) (tsC_rng _ (List.mem_of_getElem? e2))).2 hm⟩
 refine ⟨_, List.getElem?_eq_getElem hl, h1, h3, ?_⟩;unfold bitsL befL
 have hf : ∀ i, decide (Has q.2.2[b] i) = true → i < (tsC c mv).length := fun i hi => by
  have := (h3 i).1 (of_decide_eq_true hi);unfold bef at this;cases e1 : (tsC c mv)[i]? with
  | none => rw [e1] at this; simp at this
  | some x => exact (List.getElem?_eq_some_iff.1 e1).1
 rw [filter_range hf 8 (by have := h.t4; omega)];congr 1;apply List.filter_congr;intro i _;rw [Bool.eq_iff_iff, decide_eq_true_eq];exact h3 i

theorem contains_eq {k : Nat} {l : List Int} {x : Int} (h : l.length < k) (hk : l.length ≤ 1000000) : slc_Contains_int k l x = some (decide (x ∈ l)) := by
 have key := for_foldE (f := slc_Index_int_l1 k l x) l (fun (_ : Unit) j => j) (fun _ j y => if decide (x = y) then Except.error (j : Int) else .ok ()) (fun _ _ => True) (fun r => some r)
  (fun n s j h _ => by
   simp (disch := omega) only [slc_Index_int_l1, Int.ofNat_lt, h, if_true, geti_W h, bs, ck_ok];by_cases hx : x = l[j] <;> simp [hx]) (fun n s _ => by simp [slc_Index_int_l1]) (n := k) (s0 := ()) h trivial
 unfold slc_Contains_int slc_Index_int;rw [show slc_Index_int_l1 k l x k 0 = _ from key, foldE_find (fun y => decide (x = y))];cases hf : l.findIdx? (fun y => decide (x = y)) with
 | none =>
  simp only [bE_k, bs];rw [List.findIdx?_eq_none_iff] at hf;have : x ∉ l := fun hm => by have := hf x hm; simp at this
  simp [this]
 | some i =>
  simp only [bE_e, bs];rw [List.findIdx?_eq_some_iff_getElem] at hf;obtain ⟨hi, h1, _⟩ := hf;have h1 := of_decide_eq_true h1;have : x ∈ l := by rw [h1]; exact List.getElem_mem hi
  simp [this]

theorem work_thing {k : Nat} {w : Bool × Int} : cond w.1 (chg_on_thing k w.2) (chg_off_thing k w.2) = some w.2 := by
 obtain ⟨b, v⟩ := w;cases b <;> rfl

theorem can_eq {k : Nat} (hk : 50 ≤ k) {n : Int} {c : dChange} {mv : List Bool} {q : dQuick} (h : QV n c mv q) {d : Int} {w : Bool × Int} (hd : 0 ≤ d ∧ d < c.2.1.length) (hw : w ∈ tsC c mv) : chg_quick_can k q d w = some (canB c d w) := by
 obtain ⟨i, hi, ei⟩ := tsC_rng w hw;obtain ⟨_, _, _, _, w5⟩ := h.vc.wl
 have hl : (drs c d).1.length ≤ 4 := by
  have hdl : d.toNat < c.2.1.length := by omega
  rw [drs, List.getElem?_eq_getElem hdl];exact w5 _ (List.getElem_mem hdl)
 unfold chg_quick_can;rw [h.eq, geti_drs hd.1 hd.2, bs, work_thing, bs, geti_thg (by omega) (by omega), bs, bs, contains_eq (by omega) (by omega), bs];unfold canB;by_cases h1 : w.2 ∈ (drs c d).1
 ·by_cases h2 : (thg c w.2).2.2.2.1 = 0
  ·simp [h1, h2]
  ·by_cases h3 : (drs c d).2.1 = 0
   ·simp [h1, h3]
   ·simp [h1, h2, h3]
 ·simp [h1]

theorem bars_eq {k : Nat} {n : Int} {c : dChange} {mv : List Bool} {q : dQuick} (h : QV n c mv q) {w : Bool × Int} (hw : w ∈ tsC c mv) : chg_quick_bars k q w = some (barsB c w) := by
 obtain ⟨i, hi, ei⟩ := tsC_rng w hw;unfold chg_quick_bars barsB;rw [work_thing, bs, h.eq, geti_thg (by omega) (by omega), bs];by_cases hb : w.1 = true <;> simp [hb]

theorem barsB_rng {n : Int} {c : dChange} {mv : List Bool} (hc : VC n c) {w : Bool × Int} (hw : w ∈ tsC c mv) : 1 ≤ barsB c w ∧ barsB c w ≤ 4 := by
 obtain ⟨i, hi, ei⟩ := tsC_rng w hw;have hg := List.getElem?_eq_getElem hi;have hG := hc.good i _ hg;unfold barsB;rw [ei, thg_some hg];split
 ·exact hG.put
 ·exact hG.off

/-- The error of a step, where some tasks are done. -/
def stepErr (c : dChange) (ts : List (Bool × Int)) (done : List Int) (s : dStep) : Int :=
 if ¬ (0 ≤ s.1 ∧ s.1 < ts.length) then 3
 else if s.1 ∈ done then 4
 else if ¬ (0 ≤ s.2 ∧ s.2 < c.2.1.length) then 3
 else if canB c s.2 (ts[s.1.toNat]?.getD (false, 0)) = false then 8
 else if ¬ (∀ a ∈ befL c ts s.1.toNat, (a : Int) ∈ done) then 5
 else 0
def cpGo (c : dChange) (ts : List (Bool × Int)) : List Int → List dStep → Int
 | _, [] => 0
 | done, s :: p => if ¬ stepErr c ts done s = 0 then stepErr c ts done s else cpGo c ts (done ++ [s.1]) p
/-- The error of a plan. -/
def cpS (c : dChange) (ts : List (Bool × Int)) (p : List dStep) : Int := if p.length < ts.length then 7 else if ts.length < p.length then 6 else cpGo c ts [] p

theorem mem_befL {c : dChange} {ts : List (Bool × Int)} {a b : Nat} : a ∈ befL c ts b ↔ bef c ts a b = true := by
 unfold befL;simp only [List.mem_filter, List.mem_range];refine ⟨fun h => h.2, fun h => ⟨?_, h⟩⟩;unfold bef at h;cases e1 : ts[a]? with
 | none => rw [e1] at h; simp at h
 | some x => exact (List.getElem?_eq_some_iff.1 e1).1

end Go.Proofs.Ytopgphikdglphaa

/- Plain law, part 13: when the steps of a plan begin. -/
namespace Go.Proofs.Ytopgphikdglphaa
open K Go Go.Proofs

def upd (f : Nat → Int) (i : Nat) (v : Int) : Nat → Int := fun j => if j = i then v else f j
/-- The task of a step. -/
def tsk (ts : List (Bool × Int)) (t : Int) : Bool × Int := ts[t.toNat]?.getD (false, 0)
/-- When a step begins: E the ends of the tasks, F when the dressers are free. -/
def bgAt (c : dChange) (ts : List (Bool × Int)) (E F : Nat → Int) (s : dStep) : Int := (befL c ts s.1.toNat).foldl (fun m a => imax m (E a)) (F s.2.toNat)
def bgEnd (c : dChange) (ts : List (Bool × Int)) (E F : Nat → Int) (s : dStep) : Int := bgAt c ts E F s + barsB c (tsk ts s.1)
def bgo (c : dChange) (ts : List (Bool × Int)) : (Nat → Int) → (Nat → Int) → List dStep → List Int
 | _, _, [] => []
 | E, F, s :: p => bgAt c ts E F s :: bgo c ts (upd E s.1.toNat (bgEnd c ts E F s)) (upd F s.2.toNat (bgEnd c ts E F s)) p
/-- The ends of all tasks, in the end. -/
def bge (c : dChange) (ts : List (Bool × Int)) : (Nat → Int) → (Nat → Int) → List dStep → Nat → Int
 | E, _, [] => E
 | E, F, s :: p => bge c ts (upd E s.1.toNat (bgEnd c ts E F s)) (upd F s.2.toNat (bgEnd c ts E F s)) p
def F0 (c : dChange) : Nat → Int := fun d => (drs c (d : Int)).2.2
def E0 : Nat → Int := fun _ => 0
/-- A list of the values of a function. -/
def Vals (l : List Int) (f : Nat → Int) (n : Nat) : Prop := l.length = n ∧ ∀ i, i < n → l[i]? = some (f i)
def Bnd (f : Nat → Int) (b : Int) : Prop := ∀ i, 0 ≤ f i ∧ f i ≤ b

theorem Vals.set {l : List Int} {f : Nat → Int} {n i : Nat} {v : Int} (h : Vals l f n) : Vals (l.set i v) (upd f i v) n := by
 refine ⟨by rw [List.length_set]; exact h.1, fun j hj => ?_⟩;rw [List.getElem?_set];unfold upd;by_cases hij : i = j
 ·subst hij; rw [if_pos rfl, if_pos rfl, if_pos (by rw [h.1]; exact hj)]
 ·rw [if_neg hij, if_neg (Ne.symm hij)]; exact h.2 j hj
theorem Vals.get {l : List Int} {f : Nat → Int} {n : Nat} {i : Int} (h : Vals l f n) (h0 : 0 ≤ i) (hi : i < n) : geti l i = some (f i.toNat) := geti_q h0 (h.2 _ (by omega))
theorem Bnd.upd {f : Nat → Int} {b v : Int} {i : Nat} (h : Bnd f b) (hv : 0 ≤ v ∧ v ≤ b) : Bnd (upd f i v) b := fun j => by
 unfold Go.Proofs.Ytopgphikdglphaa.upd
 split
 ·
  exact hv
 ·
  exact h j
theorem Bnd.mono {f : Nat → Int} {b b' : Int} (h : Bnd f b) (hb : b ≤ b') : Bnd f b' := fun j => ⟨(h j).1, by have := (h j).2; omega⟩

theorem imax_le {a b x : Int} : imax a b ≤ x ↔ a ≤ x ∧ b ≤ x := by unfold imax; split <;> omega
theorem foldmax_le {α : Type} {E : α → Int} {x : Int} : ∀ {l : List α} {m : Int}, l.foldl (fun m a => imax m (E a)) m ≤ x ↔ m ≤ x ∧ ∀ a ∈ l, E a ≤ x
 | [], m => by simp
 | a :: l, m => by
  rw [List.foldl_cons, foldmax_le, imax_le]
  simp only [List.mem_cons, forall_eq_or_imp]
  exact and_assoc
theorem le_foldmax {α : Type} {E : α → Int} {l : List α} {m : Int} : m ≤ l.foldl (fun m a => imax m (E a)) m ∧ ∀ a ∈ l, E a ≤ l.foldl (fun m a => imax m (E a)) m := foldmax_le.1 (Int.le_refl _)

theorem bgAt_bnd {c : dChange} {ts : List (Bool × Int)} {E F : Nat → Int} {s : dStep} {b : Int} (hE : Bnd E b) (hF : Bnd F b) : 0 ≤ bgAt c ts E F s ∧ bgAt c ts E F s ≤ b := by
 unfold bgAt;refine ⟨?_, foldmax_le.2 ⟨(hF _).2, fun a _ => (hE a).2⟩⟩;have := (le_foldmax (E := E) (l := befL c ts s.1.toNat) (m := F s.2.toNat)).1;have := (hF s.2.toNat).1;omega

theorem F0_bnd {n : Int} {c : dChange} (hc : VC n c) : Bnd (F0 c) 9 := fun d => by
 unfold F0 drs
 simp only [Int.toNat_natCast]
 cases h : c.2.1[d]? with
 | none => simp
 | some x =>
  have := (hc.dressers x (List.mem_of_getElem? h)).start
  simpa using this

/-- Steps that can be taken. -/
def StepOk (c : dChange) (ts : List (Bool × Int)) (s : dStep) : Prop := 0 ≤ s.1 ∧ s.1 < ts.length ∧ 0 ≤ s.2 ∧ s.2 < c.2.1.length

theorem tsk_mem {c : dChange} {ts : List (Bool × Int)} {s : dStep} (h : StepOk c ts s) : tsk ts s.1 ∈ ts := by
 have hl : s.1.toNat < ts.length := by have := h.1; have := h.2.1; omega
 rw [tsk, List.getElem?_eq_getElem hl];exact List.getElem_mem hl
theorem geti_tsk {c : dChange} {ts : List (Bool × Int)} {s : dStep} (h : StepOk c ts s) : geti ts s.1 = some (tsk ts s.1) := by
 have hl : s.1.toNat < ts.length := by have := h.1; have := h.2.1; omega
 rw [geti_at h.1 hl, tsk, List.getElem?_eq_getElem hl]; rfl

theorem begins3_eq {k : Nat} (hk : 50 ≤ k) {y14 : (List Int) × (List Int) × (List Int) × Int} {E : Nat → Int} {l : List Nat} {m : Int} (hE : Vals y14.2.1 E 4) (hl : ∀ a ∈ l, a < 4) (hn : l.length ≤ 8) :
 chg_quick_begins_l3 k y14 (l.map fun (a : Nat) => (a : Int)) k (m, 0) = some (l.foldl (fun m a => imax m (E a)) m) := by
 have key := for_fold (f := chg_quick_begins_l3 k y14 (l.map fun (a : Nat) => (a : Int))) l (fun s j => (s, j)) (fun s _ a => imax s (E a)) (fun _ _ => True) (fun s => some s)
  (fun n s j h _ => ⟨by
   have hm : j < (l.map fun (a : Nat) => (a : Int)).length := by simpa using h
   have ha := hl l[j] (List.getElem_mem h);have hlt : (j : Int) < ((l.map fun (a : Nat) => (a : Int)).length : Int) := by omega
   simp only [chg_quick_begins_l3, hlt, if_true, geti_W hm, bs, List.getElem_map];rw [chk_ok (by omega), bs, hE.get (by omega) (by omega), bs, ck_ok (by omega) (by omega), bs];simp, trivial⟩)
  (fun n s _ => by simp [chg_quick_begins_l3]) (n := k) (s0 := m) (by omega) trivial
 rw [key.1]
 have : ∀ (l : List Nat) (j : Nat) (m : Int), foldI (fun (s : Int) _ a => imax s (E a)) j l m = l.foldl (fun m a => imax m (E a)) m := by
  intro l
  induction l with
  | nil => intro j m; rfl
  | cons a l ih => intro j m; simp only [foldI, List.foldl_cons]; exact ih _ _
 rw [this]

theorem begins1_eq {k : Nat} (hk : 50 ≤ k) {q : dQuick} (h3 : q.1.2.1.length ≤ 3) : W (chg_quick_begins_l1 k q k ([0, 0, 0], 0)) fun r => r.length = 3 ∧ ∀ i, i < q.1.2.1.length → r[i]? = some (F0 q.1 i) := by
 refine W.loop (f := chg_quick_begins_l1 k q) (fun m y => ∃ j : Nat, y.2 = (j : Int) ∧ j ≤ q.1.2.1.length ∧ m = q.1.2.1.length - j ∧ y.1.length = 3 ∧ ∀ i, i < j → y.1[i]? = some (F0 q.1 i)) ?_ q.1.2.1.length k ([0, 0, 0], 0) (by omega) ⟨0, rfl, by omega, by omega, rfl, fun i hi => by omega⟩;rintro fuel m ⟨l, y⟩ ⟨j, hj, hle, hm, hl, hv⟩ ih;simp only at hj hl hv;subst hj;unfold chg_quick_begins_l1;dsimp only;refine W.ite (fun hlt => ?_) (fun hge => W.ret ⟨hl, fun i hi => hv i (by omega)⟩);have hlt' : j < q.1.2.1.length := by omega
 rw [geti_W hlt', bs, chk_ok (by omega), bs, ck_ok (by omega) (by omega), bs];refine ih (m - 1) (_, (j : Int) + 1) (by omega) ⟨j + 1, by show (j : Int) + 1 = ((j + 1 : Nat) : Int); omega, by omega, by omega, by simpa using hl, fun i hi => ?_⟩;simp only [Int.toNat_natCast, List.getElem?_set];by_cases hij : j = i
 ·subst hij;rw [if_pos rfl, if_pos (by omega)];simp [F0, drs, List.getElem?_eq_getElem hlt']
 ·rw [if_neg hij]; exact hv i (by omega)

theorem befL_lt {c : dChange} {ts : List (Bool × Int)} {b : Nat} : ∀ a ∈ befL c ts b, a < ts.length := fun a ha => by
 unfold befL at ha
 simpa using (List.mem_filter.1 ha).1
theorem befL_len {c : dChange} {ts : List (Bool × Int)} {b : Nat} : (befL c ts b).length ≤ ts.length := by
 unfold befL;exact Nat.le_trans (List.length_filter_le _ _) (by simp)

theorem upd_F {D : Nat} {r : List Int} {F : Nat → Int} (hl : r.length = 3) (hv : ∀ i, i < D → r[i]? = some (F i)) {d : Nat} {v : Int} (hd : d < 3) : (r.set d v).length = 3 ∧ ∀ i, i < D → (r.set d v)[i]? = some (upd F d v i) := by
 refine ⟨by rw [List.length_set]; exact hl, fun i hi => ?_⟩;rw [List.getElem?_set];unfold upd;by_cases hij : d = i
 ·subst hij; rw [if_pos rfl, if_pos rfl, if_pos (by omega)]
 ·rw [if_neg hij, if_neg (Ne.symm hij)]; exact hv i hi

theorem begins2_eq {k : Nat} (hk : 50 ≤ k) {n : Int} {c : dChange} {mv : List Bool} {q : dQuick} (h : QV n c mv q) {p : List dStep} (hp : p.length ≤ 30) (hs : ∀ s ∈ p, StepOk c (tsC c mv) s) {l4 : List Int}
 (hl4 : l4.length = 3 ∧ ∀ i, i < c.2.1.length → l4[i]? = some (F0 c i)) : W (chg_quick_begins_l2 k q p k ([], [0, 0, 0, 0], l4, 0)) fun r => r.1 = bgo c (tsC c mv) E0 (F0 c) p ∧ Vals r.2 (bge c (tsC c mv) E0 (F0 c) p) 4 := by
 have ht := h.t4
 have hdl := h.vc.dl
 refine W.loop (f := chg_quick_begins_l2 k q p) (fun m y => ∃ (j : Nat) (E F : Nat → Int), y.2.2.2 = (j : Int) ∧ j ≤ p.length ∧ m = p.length - j ∧ y.1.length = j ∧ Vals y.2.1 E 4 ∧ (y.2.2.1.length = 3 ∧ ∀ i, i < c.2.1.length → y.2.2.1[i]? = some (F i)) ∧
  Bnd E (9 + 4 * j) ∧ Bnd F (9 + 4 * j) ∧ bgo c (tsC c mv) E0 (F0 c) p = y.1 ++ bgo c (tsC c mv) E F (p.drop j) ∧ bge c (tsC c mv) E0 (F0 c) p = bge c (tsC c mv) E F (p.drop j)) ?_ p.length k _ (by omega)
  ⟨0, E0, F0 c, rfl, by omega, by omega, rfl, ⟨rfl, fun i hi => by
   match i, hi with
   | 0, _ => rfl
   | 1, _ => rfl
   | 2, _ => rfl
   | 3, _ => rfl⟩, hl4, fun i => by simp [E0], by simpa using F0_bnd h.vc, by simp, by simp⟩
 rintro fuel m ⟨out, el, fl, y⟩ ⟨j, E, F, hj, hle, hm, ho, hE, hF, bE, bF, e1, e2⟩ ih
 simp only at hj ho hE hF e1 e2
 subst hj
 unfold chg_quick_begins_l2
 dsimp only
 refine W.ite (fun hlt => ?_) (fun hge => W.ret (by
  have : j = p.length := by omega
  subst this;rw [List.drop_length] at e1 e2;rw [e1, e2];exact ⟨by simp [bgo], hE⟩))
 have hlt' : j < p.length := by omega
 have hdr : p.drop j = p[j] :: p.drop (j + 1) := List.drop_eq_getElem_cons hlt'
 have hS := hs p[j] (List.getElem_mem hlt')
 rw [hdr] at e1 e2
 rw [geti_W hlt', bs]
 generalize p[j] = s at *
 obtain ⟨h1, h2, h3, h4⟩ := hS
 have hS : StepOk c (tsC c mv) s := ⟨h1, h2, h3, h4⟩
 have hb := barsB_rng h.vc (tsk_mem hS)
 have hat := bgAt_bnd (c := c) (ts := tsC c mv) (s := s) bE bF
 obtain ⟨mk, em, hmk, hmb, hbl⟩ := h.mask (b := s.1.toNat) (by omega)
 have hF' : geti fl s.2 = some (F s.2.toNat) := geti_q h3 (hF.2 _ (by omega))
 have hcq : (((q.1.1, q.1.2.1, q.1.2.2.1, q.1.2.2.2), tsC c mv, q.2.2) : dQuick) = q := by rw [← h.tasks]
 rw [chk_ok (by omega), bs, hF', bs, chk_ok (by omega), bs, geti_q h1 em, bs, set_list_ok hk hmk, bs, hbl]
 rw [begins3_eq hk (y14 := (out, el, fl, (j : Int))) hE (fun a ha => by have := befL_lt a ha; omega) (by have := befL_len (c := c) (ts := tsC c mv) (b := s.1.toNat); omega), bs, h.tasks, geti_tsk hS, bs, hcq, bars_eq h (tsk_mem hS), bs]
 have hen : bgAt c (tsC c mv) E F s + barsB c (tsk (tsC c mv) s.1) = bgEnd c (tsC c mv) E F s := rfl
 show W ((((ck (bgAt c (tsC c mv) E F s + barsB c (tsk (tsC c mv) s.1))).bind _ : Option _).bind _)) _
 rw [ck_ok (by omega) (by omega), bs, chk_ok (okLen_of (by simp only [List.length_cons, List.length_nil]; omega)), bs, chk_ok (by omega), bs, bs, bs, ck_ok (by omega) (by omega), bs, hen]
 have bV : 0 ≤ bgEnd c (tsC c mv) E F s ∧ bgEnd c (tsC c mv) E F s ≤ 9 + 4 * (j + 1 : Nat) := by unfold bgEnd; omega
 refine ih (m - 1) (_, _, _, (j : Int) + 1) (by omega) ⟨j + 1, upd E s.1.toNat (bgEnd c (tsC c mv) E F s), upd F s.2.toNat (bgEnd c (tsC c mv) E F s), by show (j : Int) + 1 = ((j + 1 : Nat) : Int); omega, by omega, by omega, by simp [ho],
  hE.set, upd_F hF.1 hF.2 (by omega), (bE.mono (by omega)).upd bV, (bF.mono (by omega)).upd bV, ?_, e2⟩
 simp only
 rw [e1, bgo, List.append_assoc]
 rfl

theorem begins_eq {k : Nat} (hk : 50 ≤ k) {n : Int} {c : dChange} {mv : List Bool} {q : dQuick} (h : QV n c mv q) {p : List dStep} (hp : p.length ≤ 30) (hs : ∀ s ∈ p, StepOk c (tsC c mv) s) :
 ∃ el, chg_quick_begins k q p = some (bgo c (tsC c mv) E0 (F0 c) p, el) ∧ Vals el (bge c (tsC c mv) E0 (F0 c) p) 4 := by
 obtain ⟨l4, e1, h1⟩ := begins1_eq hk (q := q) (by rw [h.eq]; exact h.vc.dl.2)
 rw [h.eq] at h1
 obtain ⟨⟨a, b⟩, e2, h2, h3⟩ := begins2_eq hk h hp hs h1
 simp only at h2 h3
 subst h2
 refine ⟨b, ?_, h3⟩
 unfold chg_quick_begins
 rw [e1, bs, e2, bs]

/-- A plan without an error. -/
theorem cpGo_ok {c : dChange} {ts : List (Bool × Int)} : ∀ {p : List dStep} {done : List Int}, cpGo c ts done p = 0 → (∀ s ∈ p, StepOk c ts s ∧ canB c s.2 (tsk ts s.1) = true ∧ s.1 ∉ done) ∧ (p.map (·.1)).Nodup
 | [], _, _ => by simp
 | s :: p, done, h => by
  rw [cpGo] at h
  by_cases h0 : stepErr c ts done s = 0
  ·
   rw [if_neg (by simp [h0])] at h
   obtain ⟨h1, h2⟩ := cpGo_ok h
   unfold stepErr at h0
   by_cases a1 : 0 ≤ s.1 ∧ s.1 < ts.length
   ·
    rw [if_neg (by simpa using a1)] at h0
    by_cases a2 : s.1 ∈ done
    ·
     rw [if_pos a2] at h0; cases h0
    ·
     rw [if_neg a2] at h0
     by_cases a3 : 0 ≤ s.2 ∧ s.2 < c.2.1.length
     ·
      rw [if_neg (by simpa using a3)] at h0
      by_cases a4 : canB c s.2 (ts[s.1.toNat]?.getD (false, 0)) = false
      ·
       rw [if_pos a4] at h0; cases h0
      ·
       refine ⟨fun x hx => ?_, ?_⟩
       ·
        rcases List.mem_cons.1 hx with rfl | hx
        ·
         exact ⟨⟨a1.1, a1.2, a3.1, a3.2⟩, by simpa [tsk] using a4, a2⟩
        ·
         obtain ⟨b1, b2, b3⟩ := h1 x hx
         exact ⟨b1, b2, fun hd => b3 (List.mem_append_left _ hd)⟩
       ·
        simp only [List.map_cons, List.nodup_cons, List.mem_map]
        refine ⟨?_, h2⟩
        rintro ⟨x, hx, e⟩
        exact (h1 x hx).2.2 (by rw [e]; simp)
     ·
      rw [if_pos (by simpa using a3)] at h0; cases h0
   ·
    rw [if_pos (by simpa using a1)] at h0; cases h0
  ·
   rw [if_pos h0] at h
   exact absurd h h0

theorem cpS_ok {c : dChange} {ts : List (Bool × Int)} {p : List dStep} (h : cpS c ts p = 0) : p.length = ts.length ∧ cpGo c ts [] p = 0 := by
 unfold cpS at h;by_cases h1 : p.length < ts.length
 ·rw [if_pos h1] at h; cases h
 ·rw [if_neg h1] at h;by_cases h2 : ts.length < p.length
  ·rw [if_pos h2] at h; cases h
  ·rw [if_neg h2] at h;exact ⟨by omega, h⟩

end Go.Proofs.Ytopgphikdglphaa
