/- Plain law, part 10: a valid change at work. -/
import Derived.Test.YtfhdclhbdmhnmaaLaw9
namespace Go.Proofs.Ytfhdclhbdmhnmaa
open K Go Go.Proofs

theorem filter_range {p : Nat → Bool} {n : Nat} (hp : ∀ i, p i = true → i < n) : ∀ m, n ≤ m → (List.range m).filter p = (List.range n).filter p := by
  intro m
  induction m with
  | zero => intro h; have : n = 0 := by omega
            subst this; rfl
  | succ m ih =>
    intro h
    by_cases hn : n = m + 1
    · subst hn; rfl
    · rw [List.range_succ, List.filter_append, ih (by omega)]
      have : p m = false := by
        cases hm : p m with
        | false => rfl
        | true => have := hp m hm; omega
      simp [this]

set_option maxRecDepth 100000 in
theorem dressed100 : law_dressed 100 = some true := by decide +kernel


/-- The things that move, of a list. -/
def tsL (mv : List Bool) (ws : List Int) (n : Nat) : List Int := ((List.range n).filter fun (i : Nat) => mv[i]?.getD false && decide ((i : Int) ∈ ws)).map fun (i : Nat) => (i : Int)
/-- The tasks. -/
def tsC (c : dChange) (mv : List Bool) : List (Bool × Int) := ((tsL mv c.2.2.1 c.1.length).map fun x => (false, x)) ++ ((tsL mv c.2.2.2 c.1.length).map fun x => (true, x))

theorem sel_tsL {mv : List Bool} {ws : List Int} {b : Bool} {n : Nat} : sel mv ws b n = (tsL mv ws n).map fun x => (x, b) := by
  unfold sel tsL
  rw [List.map_map]
  rfl
theorem tsC_sel {c : dChange} {mv : List Bool} : sel mv c.2.2.1 false c.1.length ++ sel mv c.2.2.2 true c.1.length = (tsC c mv).map fun x => (x.2, x.1) := by
  rw [sel_tsL, sel_tsL, tsC, List.map_append, List.map_map, List.map_map]
  rfl
theorem mem_tsL {mv : List Bool} {ws : List Int} {n : Nat} {x : Int} : x ∈ tsL mv ws n ↔ ∃ i : Nat, i < n ∧ x = (i : Int) ∧ In mv i ∧ x ∈ ws := by
  unfold tsL
  simp only [List.mem_map, List.mem_filter, List.mem_range, Bool.and_eq_true, decide_eq_true_eq]
  constructor
  · rintro ⟨i, ⟨h1, h2, h3⟩, rfl⟩
    refine ⟨i, h1, rfl, ?_, h3⟩
    cases hg : mv[i]? with
    | none => rw [hg] at h2; cases h2
    | some x => rw [hg] at h2; simp at h2; show mv[i]? = _; rw [hg, h2]
  · rintro ⟨i, h1, rfl, h2, h3⟩
    refine ⟨i, ⟨h1, ?_, h3⟩, rfl⟩
    have h2 : mv[i]? = some true := h2
    rw [h2]; rfl
theorem tsL_pw {mv : List Bool} {ws : List Int} {n : Nat} : (tsL mv ws n).Pairwise (· < ·) := by
  unfold tsL
  rw [List.pairwise_map]
  exact ((List.pairwise_lt_range (n := n)).filter _).imp fun {a b} h => by omega
theorem mem_tsC {c : dChange} {mv : List Bool} {x : Bool × Int} : x ∈ tsC c mv ↔ ∃ i : Nat, i < c.1.length ∧ x.2 = (i : Int) ∧ In mv i ∧ x.2 ∈ (if x.1 = true then c.2.2.2 else c.2.2.1) := by
  unfold tsC
  simp only [List.mem_append, List.mem_map, mem_tsL]
  obtain ⟨b, v⟩ := x
  constructor
  · rintro (⟨x, h, h'⟩ | ⟨x, h, h'⟩)
    · cases h'; exact h
    · cases h'; exact h
  · intro h
    cases b with
    | false => exact .inl ⟨v, h, rfl⟩
    | true => exact .inr ⟨v, h, rfl⟩
theorem tsC_nodup {c : dChange} {mv : List Bool} : (tsC c mv).Nodup := by
  unfold tsC
  have pw : ∀ {ws : List Int} (b : Bool), ((tsL mv ws c.1.length).map fun x => (b, x)).Nodup := fun {ws} b => by
    rw [List.Nodup, List.pairwise_map]
    refine (tsL_pw (mv := mv) (ws := ws) (n := c.1.length)).imp fun {a b'} h e => ?_
    simp only [Prod.mk.injEq, true_and] at e
    omega
  refine List.nodup_append.2 ⟨pw false, pw true, fun a ha b hb e => ?_⟩
  subst e
  simp only [List.mem_map] at ha hb
  obtain ⟨x, _, rfl⟩ := ha
  obtain ⟨y, _, h⟩ := hb
  cases h

theorem fix_len {c : dChange} {mv : List Bool} (h : Fix c mv) {i : Nat} (hi : In mv i) : i < c.1.length := h.sound (fun i => i < c.1.length) (fun _ hi _ => hi) i hi
theorem fix_unique {c : dChange} {mv mv' : List Bool} (h : Fix c mv) (h' : Fix c mv') : mv = mv' := by
  apply List.ext_getElem? fun i => ?_
  have hl := h.len
  have hl' := h'.len
  have hb : ∀ m : List Bool, m.length = c.1.length → In m i ∨ m[i]? = some false ∨ (m[i]? = none ∧ ¬ i < c.1.length) := fun m hm => by
    cases hg : m[i]? with
    | none => exact .inr (.inr ⟨rfl, by have := List.getElem?_eq_none_iff.1 hg; omega⟩)
    | some b => cases b with
      | true => exact .inl hg
      | false => exact .inr (.inl rfl)
  have hx : In mv i ↔ In mv' i := ⟨fun hi => h.sound _ h'.shut i hi, fun hi => h'.sound _ h.shut i hi⟩
  rcases hb _ hl with a | a | ⟨a, a'⟩
  · have b : mv'[i]? = some true := hx.1 a
    rw [b]; exact a
  · rcases hb _ hl' with b | b | ⟨b, b'⟩
    · have := hx.2 b
      have a' : mv[i]? = some true := this
      rw [a] at a'; cases a'
    · rw [a, b]
    · have := (List.getElem?_eq_some_iff.1 a).1; omega
  · rcases hb _ hl' with b | b | ⟨b, b'⟩
    · have := fix_len h' b; omega
    · have := (List.getElem?_eq_some_iff.1 b).1; omega
    · rw [a, b]

theorem VC.wl {n : Int} {c : dChange} (hc : VC n c) : c.2.2.1.length ≤ 4 ∧ c.2.2.2.length ≤ 4 ∧ c.1.length ≤ 4 ∧ (∀ t ∈ c.1, t.1.length ≤ 4) ∧ (∀ d ∈ c.2.1, d.1.length ≤ 4) := by
  have h1 := hc.n4
  have h2 := hc.len
  have h3 := hc.wears.len (by omega)
  have h4 := hc.wants.len (by omega)
  refine ⟨by omega, by omega, by omega, fun t ht => ?_, fun d hd => ?_⟩
  · obtain ⟨j, hj⟩ := List.mem_iff_getElem?.1 ht
    have := (hc.good j t hj).over.len (by omega)
    omega
  · have := (hc.dressers d hd).can.len (by omega)
    omega
theorem VC.small {n : Int} {c : dChange} (hc : VC n c) : Small c := by
  obtain ⟨h1, h2, h3, h4, _⟩ := hc.wl
  exact ⟨by omega, fun t ht => by have := h4 t ht; omega, by omega, by omega⟩
theorem VC.fix {n : Int} {c : dChange} (hc : VC n c) : ∃ mv, Fix c mv := by
  obtain ⟨mv, _, h⟩ := fix_ok (k := 100) (by decide) hc.small
  exact ⟨mv, h⟩

theorem bits_tsL {c : dChange} {s a m : Int} {mv : List Bool} {ws : List Int} (hm : ∀ i, Has m i ↔ Has s i ∧ Has a i) (ha : ∀ i : Nat, Has a i ↔ (i : Int) ∈ ws) (hw : ∀ i : Nat, (i : Int) ∈ ws → i < c.1.length) (hc : c.1.length ≤ 8) (hf : ∀ i, Has s i ↔ In mv i) :
    bitsL m 8 = tsL mv ws c.1.length := by
  unfold bitsL tsL
  rw [filter_range (n := c.1.length) (fun i hi => hw i ((ha i).1 ((hm i).1 (of_decide_eq_true hi)).2)) 8 hc]
  congr 1
  apply List.filter_congr
  intro i _
  rw [Bool.eq_iff_iff]
  simp only [decide_eq_true_eq, Bool.and_eq_true]
  rw [hm, hf, ha]
  unfold In
  constructor
  · rintro ⟨h1, h2⟩; exact ⟨by rw [h1]; rfl, h2⟩
  · rintro ⟨h1, h2⟩
    refine ⟨?_, h2⟩
    cases hg : mv[i]? with
    | none => rw [hg] at h1; cases h1
    | some x => rw [hg] at h1; simp at h1; rw [h1]

/-- **A valid change at work.** -/
structure QV (n : Int) (c : dChange) (mv : List Bool) (q : dQuick) : Prop where
  vc : VC n c
  fix : Fix c mv
  eq : q.1 = c
  tasks : q.2.1 = tsC c mv
  t4 : (tsC c mv).length ≤ 4
  len : q.2.2.length = 8
  masks : ∀ (b : Nat) m, q.2.2[b]? = some m → Mask m ∧ ∀ a : Nat, Has m a ↔ ∃ x y, (tsC c mv)[a]? = some x ∧ (tsC c mv)[b]? = some y ∧ BefT c x y

theorem tsC_rng {c : dChange} {mv : List Bool} : ∀ x ∈ tsC c mv, ∃ i : Nat, i < c.1.length ∧ x.2 = (i : Int) := fun x hx => by
  obtain ⟨i, h1, h2, _⟩ := mem_tsC.1 hx
  exact ⟨i, h1, h2⟩

theorem begin_ok {k : Nat} (hk : 50 ≤ k) {n : Int} {c : dChange} {mv : List Bool} (hc : VC n c) (hF : Fix c mv) :
    (4 < (tsC c mv).length → chg_begin k c = some (none, 6)) ∧ ((tsC c mv).length ≤ 4 → ∃ q, chg_begin k c = some (some q, 0) ∧ QV n c mv q) := by
  have hn := hc.n4
  have hl := hc.len
  obtain ⟨w1, w2, w3, w4, _⟩ := hc.wl
  obtain ⟨a, ea, ha⟩ := of_set_ok (k := k) hk (l := c.2.2.1) (by omega) (fun x hx => by have := hc.wears.2 x hx; omega)
  obtain ⟨b, eb, hb⟩ := of_set_ok (k := k) hk (l := c.2.2.2) (by omega) (fun x hx => by have := hc.wants.2 x hx; omega)
  obtain ⟨s, es, hs⟩ := changed_ok hk hc
  obtain ⟨m1, d1⟩ := iand_ok hs.mask ha.1
  obtain ⟨m2, d2⟩ := iand_ok hs.mask hb.1
  have l1 := bitsL_len (s := iand .u8 s a) (j := 8)
  have l2 := bitsL_len (s := iand .u8 s b) (j := 8)
  have b1 := bits_tsL (c := c) d1 ha.2 (fun i h => by have := (hc.wears.2 _ h).2; omega) (by omega) (chg_fix hs hF)
  have b2 := bits_tsL (c := c) d2 hb.2 (fun i h => by have := (hc.wants.2 _ h).2; omega) (by omega) (chg_fix hs hF)
  have e : ([] ++ (bitsL (iand .u8 s a) 8).map fun n => (false, n)) ++ (bitsL (iand .u8 s b) 8).map (fun n => (true, n)) = tsC c mv := by rw [b1, b2, tsC, List.nil_append]
  have run : chg_begin k c = if (4 : Int) < ((tsC c mv).length : Int) then (some (none, (6 : Int))) else ((chg_quick_order k (c, tsC c mv, [(0 : Int), 0, 0, 0, 0, 0, 0, 0])).bind fun r28 =>
      some (some ((r28.1.1, r28.1.2.1, r28.1.2.2.1, r28.1.2.2.2), r28.2.1, r28.2.2), (0 : Int))) := by
    unfold chg_begin
    rw [hc.chk k hk]
    simp only [bs, not_true_eq_false, if_false, es, ea, eb, set_list_ok hk m1, set_list_ok hk m2]
    rw [put_ok hk l1 (by simp)]
    simp only [bs]
    rw [put2_ok hk l2 (by simp; omega), bs, e]
  refine ⟨fun h => by rw [run, if_pos (by omega)], fun h => ?_⟩
  have hq : QI c (tsC c mv) [] (c, tsC c mv, [(0 : Int), 0, 0, 0, 0, 0, 0, 0]) := ⟨rfl, rfl, rfl, fun b m hm => by
    have := List.mem_of_getElem? hm
    simp only [List.mem_cons, List.not_mem_nil, or_false, or_self] at this
    subst this
    exact ⟨⟨by decide, by decide⟩, fun a => by simp [Has]⟩⟩
  obtain ⟨r, er, hr⟩ := order_ok hk hq (by omega) (by omega) (fun t ht => by have := w4 t ht; omega)
  refine ⟨r, by rw [run, if_neg (by omega), er, bs], hc, hF, hr.c, hr.tasks, h, hr.len, fun b m hm => ?_⟩
  obtain ⟨h1, h2⟩ := hr.masks b m hm
  exact ⟨h1, fun a => by rw [h2, pairsC_iff tsC_nodup tsC_rng]⟩

theorem tasksOf_eq {k : Nat} (hk : 50 ≤ k) {n : Int} {c : dChange} {mv : List Bool} (hc : VC n c) (hF : Fix c mv) : kit_TasksOf k c = some ((tsC c mv).map fun x => (x.2, x.1)) := by
  obtain ⟨r, e, mv', hF', rfl⟩ := tasksOf_ok hk hc.small
  rw [e, fix_unique hF' hF, tsC_sel]

/-- **The change that is made of the lots.** -/
theorem lots_ok {k : Nat} (hk : 50 ≤ k) {l : dLots} {m : Int} (hl : Lo l m) (hm : 0 ≤ m ∧ m ≤ 1000) : W (kit_ChangeOf k l) fun r => Lo r.2 (m + 300) ∧ GoodC k r.1 ∧ ∃ n mv q, VC n r.1 ∧ chg_begin k r.1 = some (some q, 0) ∧ QV n r.1 mv q := by
  refine (change_ok hk hl hm).mono fun r hr => ?_
  obtain ⟨hg, hlo⟩ := hr
  obtain ⟨⟨up, n, h1, h4, hl, hgo, hw, hv, hd⟩, hdl, htk⟩ := hg
  have hc : VC n r.1 := vc_of_good ⟨h1, h4⟩ hl hgo hw hv hd hdl
  obtain ⟨mv, hF⟩ := hc.fix
  have := htk _ (tasksOf_eq hk hc hF)
  rw [List.length_map] at this
  obtain ⟨q, hb, hq⟩ := (begin_ok hk hc hF).2 this
  exact ⟨hlo, ⟨⟨up, n, h1, h4, hl, hgo, hw, hv, hd⟩, hdl, htk⟩, n, mv, q, hc, hb, hq⟩

theorem newLots_ok {l : List Int} : Lo (l, 0, 1) 0 := ⟨Int.le_refl 0, Int.le_refl 0⟩
end Go.Proofs.Ytfhdclhbdmhnmaa
