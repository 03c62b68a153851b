/- Plain law of TopSewing, part 3: the costume turned around. -/
import Derived.Test.YtomnkjcklkcnhaaB5
namespace Go.Proofs.Ytomnkjcklkcnhaa
open K Go Go.Proofs

theorem over_turned {n i : Int} {l l' : List Int} (h : OverOk true i n l) (hl : l'.length = l.length) (he : ∀ p : Nat, p < l.length → ∃ v, l[l.length - 1 - p]? = some v ∧ l'[p]? = some (n - 1 - v)) : OverOk false (n - 1 - i) n l' := by
 refine ⟨⟨?_, fun x hx => ?_⟩, fun x hx => ?_⟩
 ·refine List.pairwise_iff_getElem.mpr fun p q hp hq hpq => ?_;obtain ⟨v, e1, e2⟩ := he p (by omega);obtain ⟨v', e3, e4⟩ := he q (by omega);rw [List.getElem?_eq_getElem hp] at e2;rw [List.getElem?_eq_getElem hq] at e4;rw [Option.some.inj e2, Option.some.inj e4];have h1 : l.length - 1 - p < l.length := by omega
  have h2 : l.length - 1 - q < l.length := by omega
  rw [List.getElem?_eq_getElem h1] at e1;rw [List.getElem?_eq_getElem h2] at e3;have := List.pairwise_iff_getElem.mp h.1.1 (l.length - 1 - q) (l.length - 1 - p) h2 h1 (by omega);rw [Option.some.inj e1, Option.some.inj e3] at this;omega
 ·obtain ⟨p, hp, rfl⟩ := List.getElem_of_mem hx;obtain ⟨v, e1, e2⟩ := he p (by omega);rw [List.getElem?_eq_getElem hp] at e2;rw [Option.some.inj e2];have := h.1.2 v (List.mem_of_getElem? e1);omega
 ·obtain ⟨p, hp, rfl⟩ := List.getElem_of_mem hx;obtain ⟨v, e1, e2⟩ := he p (by omega);rw [List.getElem?_eq_getElem hp] at e2;rw [Option.some.inj e2];have := h.2 v (List.mem_of_getElem? e1);have h3 : i < v := of_decide_eq_true this.1;exact ⟨decide_eq_false (by omega), by omega⟩

theorem mirrored2_ok {k : Nat} (hk : 50 ≤ k) {a0 r3 : dCostume} {y8 : (List dSeam) × Int} {l : List Int} {n i : Int} {s : dSeam} (hn : 1 ≤ n ∧ n ≤ 3) (hr : (r3.2.2.2.1.length : Int) = n) (hi : 0 ≤ y8.2 ∧ y8.2 < n) (ha : a0.2.2.2.1[(n - 1 - y8.2).toNat]? = some s) (hs : s.2.2.2.1 = l) (h : OverOk true i n l) :
 W (kit_Mirrored_l2 k a0 r3 y8 k (l, 0)) fun r => OverOk false (n - 1 - i) n r := by
 have hll := h.1.len (by omega);refine W.mono (R := fun r => r.length = l.length ∧ ∀ p : Nat, p < l.length → ∃ v, l[l.length - 1 - p]? = some v ∧ r[p]? = some (n - 1 - v)) ?_ fun r hr => over_turned h hr.1 hr.2
 refine W.loop (f := kit_Mirrored_l2 k a0 r3 y8) (fun q y => 0 ≤ y.2 ∧ y.2 ≤ l.length ∧ q = (l.length - y.2).toNat ∧ y.1.length = l.length ∧ ∀ p : Nat, (p : Int) < y.2 → ∃ v, l[l.length - 1 - p]? = some v ∧ y.1[p]? = some (n - 1 - v)) ?_ l.length k _ (by omega)
  ⟨Int.le_refl _, by show (0 : Int) ≤ l.length; omega, by show _ = ((l.length : Int) - 0).toNat; omega, rfl, fun p hp => by have : (p : Int) < 0 := hp; omega⟩
 rintro fuel q ⟨y, j⟩ ⟨h0, h1, hq, hl, hd⟩ ih;simp only at h0 h1 hq hl hd;unfold kit_Mirrored_l2;refine W.ite (fun hlt => ?_) (fun hge => W.ret ⟨hl, fun p hp => hd p ?_⟩)
 ·replace hlt : j < (y.length : Int) := hlt;rw [hl] at hlt;refine W.ck (by omega) (by omega) (W.ck (by omega) (by omega) (W.ck (by omega) (by omega) ?_))
  have hin : (n - 1 - y8.2).toNat < a0.2.2.2.1.length := by
   rcases Nat.lt_or_ge (n - 1 - y8.2).toNat a0.2.2.2.1.length with h | h
   ·exact h
   ·rw [List.getElem?_eq_none h] at ha; cases ha
  rw [hr];refine W.at_ (by omega) (by omega) fun x hx => ?_;rw [ha] at hx;obtain rfl := Option.some.inj hx;refine W.ck (by show _ ≤ (y.length : Int) - 1; omega) (by show (y.length : Int) - 1 ≤ _; omega) (W.ck (by show _ ≤ (y.length : Int) - 1 - j; omega) (by show (y.length : Int) - 1 - j ≤ _; omega) ?_);show W ((geti s.2.2.2.1 ((y.length : Int) - 1 - j)).bind _) _;rw [hs];refine W.at_ (by omega) (by omega) fun v hv => ?_;have hb := h.1.2 v (List.mem_of_getElem? hv);refine W.ck (by omega) (by omega) (W.at_ h0 (by show j < (y.length : Int); omega) fun _ _ => W.ck (by show _ ≤ j + 1; omega) (by show j + 1 ≤ _; omega) (ih (q - 1) (y.set j.toNat (n - 1 - v), j + 1) (by omega) ⟨?_, ?_, ?_, ?_, fun p hp => ?_⟩))
  ·show 0 ≤ j + 1; omega
  ·show j + 1 ≤ (l.length : Int); omega
  ·show q - 1 = ((l.length : Int) - (j + 1)).toNat; omega
  ·show (y.set _ _).length = _; rw [List.length_set]; exact hl
  ·replace hp : (p : Int) < j + 1 := hp;by_cases hpj : p = j.toNat
   ·refine ⟨v, ?_, ?_⟩
    ·rw [← hv]; congr 1; omega
    ·show (y.set j.toNat _)[p]? = _;rw [hpj, List.getElem?_set_self (by omega)]
   ·obtain ⟨v', e1, e2⟩ := hd p (by omega);exact ⟨v', e1, by show (y.set j.toNat _)[p]? = _; rw [List.getElem?_set_ne (by omega)]; exact e2⟩
 ·replace hge : ¬ j < (y.length : Int) := hge;show (p : Int) < j;omega
end Go.Proofs.Ytomnkjcklkcnhaa

/- Plain law of TopSewing, part 4: the kit's costume and setting. -/
namespace Go.Proofs.Ytomnkjcklkcnhaa
open K Go Go.Proofs

theorem copyInts_eq {k : Nat} {l : List Int} (h : l.length ≤ 1000) : kit_CopyInts k l = some l := by
 unfold kit_CopyInts;rw [chkP, if_pos (okLen_of (by simp only [List.length_nil]; omega))];rfl

theorem copyBetweens_eq {k : Nat} {l : List dBetween} (h : l.length ≤ 1000) : kit_CopyBetweens k l = some l := by
 unfold kit_CopyBetweens;rw [chkP, if_pos (okLen_of (by simp only [List.length_nil]; omega))];rfl

theorem pieces_len {g : Int} {l : List dBetween} (h : PiecesOk g l) : l.length ≤ 2 := by
 obtain ⟨a, _, rfl | ⟨b, _, _, rfl⟩⟩ := h <;> simp

theorem copySeam_eq {k : Nat} {up : Bool} {g n i : Int} {s : dSeam} (hn : 1 ≤ n ∧ n ≤ 3) (h : GoodS up g n i s) : kit_CopySeam k s = some s := by
 have := h.over.1.len (by omega);have := pieces_len h.pieces;unfold kit_CopySeam;rw [chkP, if_pos (okLen_of (by simp only [List.length_nil]; omega)), copyInts_eq (by omega)];rfl

theorem copySeamF_eq {k : Nat} {up : Bool} {g n i : Int} {s : dSeam} (hn : 1 ≤ n ∧ n ≤ 3) (h : GoodS up g n i s) : kit_CopySeamF k s = some s := by
 have := h.over.1.len (by omega);have := pieces_len h.pieces;unfold kit_CopySeamF;rw [chkP, if_pos (okLen_of (by simp only [List.length_nil]; omega)), copyInts_eq (by omega)];rfl

theorem copy_l1 {k : Nat} (hk : 50 ≤ k) {up : Bool} {g n : Int} {c : dCostume} (hn : 1 ≤ n ∧ n ≤ 3) (h : GoodSs up g n n c.2.2.2.1) : W (kit_CopyCostume_l1 k c k ([], 0)) fun r => r = c.2.2.2.1 := by
 have hlen := h.len
 refine W.loop (f := kit_CopyCostume_l1 k c) (fun q y => 0 ≤ y.2 ∧ y.2 ≤ n ∧ q = (n - y.2).toNat ∧ y.1 = c.2.2.2.1.take y.2.toNat) ?_ n.toNat k _ (by omega)
  ⟨Int.le_refl _, by show 0 ≤ n; omega, by show _ = (n - 0).toNat; omega, rfl⟩
 rintro fuel q ⟨y, j⟩ ⟨h0, h1, hq, hy⟩ ih;simp only at h0 h1 hq hy;subst hy;unfold kit_CopyCostume_l1;refine W.ite (fun hlt => ?_) (fun hge => W.ret ?_)
 ·replace hlt : j < (c.2.2.2.1.length : Int) := hlt;refine W.at_ h0 hlt fun s hs => W.bindE (copySeamF_eq hn (h.good _ s hs)) ?_
  have e : c.2.2.2.1.take j.toNat ++ [s] = c.2.2.2.1.take (j + 1).toNat := by
   rw [show (j + 1).toNat = j.toNat + 1 by omega, List.take_add_one, hs]; rfl
  refine W.chk (okLen_of (by simp only [List.length_take, List.length_cons, List.length_nil]; omega)) (W.ck (by show _ ≤ j + 1; omega) (by show j + 1 ≤ _; omega) (ih (q - 1) (c.2.2.2.1.take j.toNat ++ [s], j + 1) (by omega) ⟨?_, ?_, ?_, e⟩))
  ·show 0 ≤ j + 1; omega
  ·show j + 1 ≤ n; omega
  ·show q - 1 = (n - (j + 1)).toNat; omega
 ·replace hge : ¬ j < (c.2.2.2.1.length : Int) := hge;exact List.take_of_length_le (by omega)

theorem copyCostume_eq {k : Nat} (hk : 50 ≤ k) {up : Bool} {g n i : Int} {c : dCostume} (hn : 1 ≤ n ∧ n ≤ 3) (hi : i ≤ 3) (hG : GoodG i c.1 c.2.1 c.2.2.1) (h : GoodSs up g n n c.2.2.2.1) (h5 : c.2.2.2.2.length ≤ 3) : kit_CopyCostume k c = some c := by
 have h1 := hG.gl; have h2 := hG.bl; have h3 := hG.wl;obtain ⟨r, e, rfl⟩ := copy_l1 hk hn h;unfold kit_CopyCostume;rw [copyInts_eq (by omega), copyBetweens_eq (by omega)];simp only [Option.bind_some];rw [copyInts_eq (by omega)];simp only [Option.bind_some];rw [copyInts_eq (by omega), e];rfl

theorem mirrored1_ok {k : Nat} (hk : 50 ≤ k) {g n : Int} {c : dCostume} (hn : 1 ≤ n ∧ n ≤ 3) (h : GoodSs true g n n c.2.2.2.1) : W (kit_Mirrored_l1 k c c k (c.2.2.2.1, 0)) (GoodSs false g n n) := by
 have hlen := h.len;refine W.mono (R := fun r => r.length = c.2.2.2.1.length ∧ ∀ j : Nat, (j : Int) < n → ∃ s, r[j]? = some s ∧ GoodS false g n j s) ?_ fun r hr => ⟨by have := hr.1; omega, fun j s hs => ?_⟩
 ·refine W.loop (f := kit_Mirrored_l1 k c c) (fun q y => 0 ≤ y.2 ∧ y.2 ≤ n ∧ q = (n - y.2).toNat ∧ y.1.length = c.2.2.2.1.length ∧ ∀ j : Nat, (j : Int) < y.2 → ∃ s, y.1[j]? = some s ∧ GoodS false g n j s) ?_ n.toNat k _ (by omega)
   ⟨Int.le_refl _, by show 0 ≤ n; omega, by show _ = (n - 0).toNat; omega, rfl, fun p hp => by have : (p : Int) < 0 := hp; omega⟩
  rintro fuel q ⟨y, j⟩ ⟨h0, h1, hq, hl, hd⟩ ih;simp only at h0 h1 hq hl hd;unfold kit_Mirrored_l1;refine W.ite (fun hlt => ?_) (fun hge => W.ret ⟨hl, fun p hp => hd p ?_⟩)
  ·replace hlt : j < (c.2.2.2.1.length : Int) := hlt;have inner : W (((K.ck ((c.2.2.2.1.length : Int) - (1 : Int))).bind fun x12 =>
   (K.ck (x12 - j)).bind fun x13 =>
   (geti c.2.2.2.1 x13).bind fun x14 =>
   (kit_CopySeam k x14).bind fun r15 =>
   ((kit_Mirrored_l2 k c c (y, j) k (r15.2.2.2.1, (0 : Int))) : Option ((List Int))).bind fun x18 =>
   (geti y j).bind fun x32 =>
   some (List.set y (Int.toNat j) (r15.1, r15.2.1, r15.2.2.1, x18, r15.2.2.2.2))) : Option ((List dSeam))) fun r => ∃ s, r = y.set j.toNat s ∧ GoodS false g n j s := by
    refine W.ck (by omega) (by omega) (W.ck (by omega) (by omega) (W.at_ (by omega) (by omega) fun s hs => ?_));have hS := h.good _ s hs;rw [show (((c.2.2.2.1.length : Int) - 1 - j).toNat : Int) = n - 1 - j by omega] at hS;refine W.bindE (copySeam_eq hn hS) ?_;rw [hlen] at hs;refine W.bind (mirrored2_ok hk (y8 := (y, j)) hn hlen (by show 0 ≤ j ∧ j < n; omega) hs rfl hS.over) fun l' hl' => ?_;refine W.at_ h0 (by omega) fun _ _ => W.ret ⟨_, rfl, ⟨hS.lo, hS.pieces, ?_, hS.last⟩⟩;rw [show n - 1 - (n - 1 - j) = j by omega] at hl';exact hl'
   refine W.bind inner fun r hr => ?_;obtain ⟨s, rfl, hs⟩ := hr;refine W.ck (by show _ ≤ j + 1; omega) (by show j + 1 ≤ _; omega) (ih (q - 1) (y.set j.toNat s, j + 1) (by omega) ⟨?_, ?_, ?_, ?_, fun p hp => ?_⟩)
   ·show 0 ≤ j + 1; omega
   ·show j + 1 ≤ n; omega
   ·show q - 1 = (n - (j + 1)).toNat; omega
   ·show (y.set _ _).length = _; rw [List.length_set]; exact hl
   ·replace hp : (p : Int) < j + 1 := hp;by_cases hpj : p = j.toNat
    ·refine ⟨s, ?_, ?_⟩
     ·show (y.set j.toNat _)[p]? = _;rw [hpj, List.getElem?_set_self (by omega)]
     ·rw [show (p : Int) = j by omega]; exact hs
    ·obtain ⟨v', e1, e2⟩ := hd p (by omega);exact ⟨v', by show (y.set j.toNat _)[p]? = _; rw [List.getElem?_set_ne (by omega)]; exact e1, e2⟩
  ·replace hge : ¬ j < (c.2.2.2.1.length : Int) := hge;show (p : Int) < j;omega
 ·have hj : j < r.length := by
   rcases Nat.lt_or_ge j r.length with h | h
   ·exact h
   ·rw [List.getElem?_eq_none h] at hs; cases hs
  obtain ⟨s', e1, e2⟩ := hr.2 j (by have := hr.1; omega);rw [hs] at e1;obtain rfl := Option.some.inj e1;exact e2

theorem mirrored_ok {k : Nat} (hk : 50 ≤ k) {g n i : Int} {c : dCostume} (hn : 1 ≤ n ∧ n ≤ 3) (hi : i ≤ 3) (hG : GoodG i c.1 c.2.1 c.2.2.1) (h : GoodSs true g n n c.2.2.2.1) (h5 : c.2.2.2.2 = []) :
 W (kit_Mirrored k c) fun r => r.1 = c.1 ∧ r.2.1 = c.2.1 ∧ r.2.2.1 = c.2.2.1 ∧ GoodSs false g n n r.2.2.2.1 ∧ r.2.2.2.2 = [] := by
 unfold kit_Mirrored;refine W.bindE (copyCostume_eq hk hn hi hG h (by rw [h5]; decide)) (W.bind (mirrored1_ok hk hn h) fun ss hss => ?_);obtain ⟨k', rfl⟩ : ∃ k', k = k' + 1 := ⟨k - 1, by omega⟩
 have e : kit_Mirrored_l3 (k' + 1) c (k' + 1) () = some () := by
  unfold kit_Mirrored_l3;rw [h5]; rfl
 exact W.bindE e (W.ret ⟨rfl, rfl, rfl, hss, h5⟩)
end Go.Proofs.Ytomnkjcklkcnhaa

/- Plain law of TopSewing, part 5: the kit's setting and costume. -/
namespace Go.Proofs.Ytomnkjcklkcnhaa
open K Go Go.Proofs

/-- A setting of these seams, each as far as it goes. -/
def SetOk (ss : List dSeam) (l : List Int) : Prop := l.length = ss.length ∧ ∀ (j : Nat) x s, l[j]? = some x → ss[j]? = some s → s.1 ≤ x ∧ x ≤ s.2.1

theorem setting_ok {k : Nat} (hk : 50 ≤ k) {up : Bool} {g n : Int} {c : dCostume} {l : dLots} {m : Int} (hn : 1 ≤ n ∧ n ≤ 3) (h : GoodSs up g n n c.2.2.2.1) (hl : Lo l m) (hm : 0 ≤ m ∧ m ≤ 10000) :
 W (kit_SettingOf k l c) fun r => Lo r.2 (m + 3) ∧ SetOk c.2.2.2.1 r.1 := by
 have hlen := h.len;unfold kit_SettingOf;refine W.bind (R := fun r => Lo (r.2.1, r.2.2.1, r.2.2.2) (m + 3) ∧ SetOk c.2.2.2.1 r.1) ?_ fun r hr => W.ret hr
 refine W.loop (f := kit_SettingOf_l1 k c) (fun q y => 0 ≤ y.2.2.2.2 ∧ y.2.2.2.2 ≤ n ∧ q = (n - y.2.2.2.2).toNat ∧ Lo (y.1, y.2.1, y.2.2.1) (m + y.2.2.2.2) ∧ (y.2.2.2.1.length : Int) = y.2.2.2.2 ∧ ∀ (j : Nat) x s, y.2.2.2.1[j]? = some x → c.2.2.2.1[j]? = some s → s.1 ≤ x ∧ x ≤ s.2.1) ?_ n.toNat k _ (by omega)
  ⟨Int.le_refl _, by show 0 ≤ n; omega, by show _ = (n - 0).toNat; omega, hl.mono (by show m ≤ m + 0; omega), rfl, fun j x s h => by simp at h⟩
 rintro fuel q ⟨nums, d, t, y, j⟩ ⟨h0, h1, hq, hlo, hl, hd⟩ ih;simp only at h0 h1 hq hlo hl hd;unfold kit_SettingOf_l1;refine W.ite (fun hlt => ?_) (fun hge => W.ret ?_)
 ·replace hlt : j < (c.2.2.2.1.length : Int) := hlt;refine W.at_ h0 hlt fun s hs => W.at_ h0 hlt fun s' hs' => ?_;rw [hs] at hs';obtain rfl := Option.some.inj hs';have hS := (h.good _ s hs).lo;obtain ⟨r8, e8, a8, b8, c8⟩ := inz_ok (k := k) (a := s.1) (b := s.2.1) hlo (by omega) (by omega) (by omega) (by omega);refine W.bindE e8 ?_;refine W.chk (okLen_of (by simp only [List.length_cons, List.length_nil]; omega)) ?_;refine W.ck (by show _ ≤ j + 1; omega) (by show j + 1 ≤ _; omega) (ih (q - 1) (r8.2.1, r8.2.2.1, r8.2.2.2, y ++ [r8.1], j + 1) (by omega) ⟨?_, ?_, ?_, ?_, ?_, fun p x s' hx hs' => ?_⟩)
  ·show 0 ≤ j + 1; omega
  ·show j + 1 ≤ n; omega
  ·show q - 1 = (n - (j + 1)).toNat; omega
  ·exact c8.mono (by show _ ≤ m + (j + 1); omega)
  ·show (((y ++ [_]).length : Nat) : Int) = j + 1;rw [List.length_append, List.length_singleton]; omega
  ·replace hx : (y ++ [r8.1])[p]? = some x := hx;by_cases hjl : p < y.length
   ·exact hd p x s' (by rwa [List.getElem?_append_left hjl] at hx) hs'
   ·have hb : p < (y ++ [r8.1]).length := by
     rcases Nat.lt_or_ge p (y ++ [r8.1]).length with h | h
     ·exact h
     ·rw [List.getElem?_eq_none h] at hx; cases hx
    rw [List.length_append, List.length_singleton] at hb;have hp : p = y.length := by omega
    subst hp;simp only [List.getElem?_concat_length, Option.some.injEq] at hx;rw [show j.toNat = y.length by omega, hs'] at hs;obtain rfl := Option.some.inj hs;omega
 ·replace hge : ¬ j < (c.2.2.2.1.length : Int) := hge;have : j = n := by omega
  subst this;exact ⟨hlo.mono (by omega), by show y.length = _; omega, hd⟩

/-- A costume in form. -/
structure GoodCo (up : Bool) (g n : Int) (c : dCostume) : Prop where
 g3 : 1 ≤ g ∧ g ≤ 3
 n3 : 1 ≤ n ∧ n ≤ 3
 girths : GoodG g c.1 c.2.1 c.2.2.1
 seams : GoodSs up g n n c.2.2.2.1
 now : SetOk c.2.2.2.1 c.2.2.2.2

theorem costume_ok {k : Nat} (hk : 50 ≤ k) {l : dLots} {m : Int} (hl : Lo l m) (hm : 0 ≤ m ∧ m ≤ 1000) :
 W (kit_CostumeOf k l 3) fun r => Lo r.2 (m + 100) ∧ ∃ up g n, GoodCo up g n r.1 := by
 unfold kit_CostumeOf;obtain ⟨r5, e5, a5, b5, c5⟩ := inz_ok (k := k) (a := 1) (b := 3) hl (by omega) (by decide) (by decide) (by decide);obtain ⟨x3, e3, c3, g3⟩ := girths_ok hk (n := r5.1) ⟨a5, b5⟩ c5 (by omega);refine W.bindE (a := x3) (by rw [e5]; exact e3) ?_;obtain ⟨r24, e24, a24, b24, c24⟩ := inz_ok (k := k) (a := 1) (b := 3) c3 (by omega) (by decide) (by decide) (by decide);refine W.bindE e24 ?_;have hgl := g3.gl;obtain ⟨x25, e25, c25, s25⟩ := seams_ok hk (x3 := x3) (r24 := r24) (by omega) ⟨a24, b24⟩ c24 (by omega);refine W.bindE e25 ?_;rw [hgl] at s25;refine W.bind (R := fun x34 => Lo (x34.1, x34.2.1, x34.2.2.1) (m + 90) ∧ GoodG r5.1 x34.2.2.2.1 x34.2.2.2.2.1 x34.2.2.2.2.2.1 ∧ ∃ up, GoodSs up r5.1 r24.1 r24.1 x34.2.2.2.2.2.2.1) ?_ fun x34 h34 => ?_
 ·obtain ⟨r36, e36, c36⟩ := rare_ok (k := k) (a := 2) c25 (by omega) (by decide) (by decide);refine W.bindE e36 (W.ite (fun _ => ?_) (fun _ => W.ret ⟨c36.mono (by omega), g3, true, s25⟩));refine W.bind (mirrored_ok hk (g := r5.1) (n := r24.1) (i := r5.1) (c := (x3.2.2.2.1, x3.2.2.2.2.1, x3.2.2.2.2.2, x25.2.2.2, [])) ⟨a24, b24⟩ b5 g3 s25 rfl) fun r37 h37 => W.ret ⟨c36.mono (by omega), ?_, false, h37.2.2.2.1⟩;show GoodG r5.1 r37.1 r37.2.1 r37.2.2.1;rw [h37.1, h37.2.1, h37.2.2.1];exact g3
 ·obtain ⟨hlo, hg, up, hs⟩ := h34;refine W.bind (setting_ok hk (c := (x34.2.2.2.1, x34.2.2.2.2.1, x34.2.2.2.2.2.1, x34.2.2.2.2.2.2.1, x34.2.2.2.2.2.2.2)) ⟨a24, b24⟩ hs hlo (by omega)) fun r38 h38 => W.ret ⟨h38.1.mono (by omega), up, r5.1, r24.1, ⟨a5, b5⟩, ⟨a24, b24⟩, hg, hs, h38.2⟩
end Go.Proofs.Ytomnkjcklkcnhaa

/- Plain law of TopSewing, part 6: the checks pass. -/
namespace Go.Proofs.Ytomnkjcklkcnhaa
open K Go Go.Proofs

theorem outside_no {k : Nat} {x a b : Int} (h : a ≤ x ∧ x ≤ b) : seam_outside k x a b = some false := by
 unfold seam_outside;rw [if_neg (by omega)];show some (decide (b < x)) = some false;rw [decide_eq_false (by omega)]

theorem pair_ok {k : Nat} {p : dBetween} {a b : Int} (h : a ≤ p.1 ∧ p.1 ≤ p.2 ∧ p.2 ≤ b) : seam_checkPair k p a b = some 0 := by
 unfold seam_checkPair;rw [outside_no ⟨h.1, by omega⟩, Option.bind_some, if_neg (by decide), outside_no ⟨by omega, h.2.2⟩, Option.bind_some, Option.bind_some, if_neg (by decide), if_neg (by omega)]

theorem sized_ok {k : Nat} {n m : Int} (h : 1 ≤ n ∧ n ≤ m) : seam_sized k n m = some 0 := by
 unfold seam_sized;rw [if_neg (by omega), if_neg (by omega)]

/-- A loop that goes through a list and finds nothing. -/
theorem pass_all {ε : Type} {f : Nat → Int → Option (Except ε Unit)} {len : Nat} (hlen : len ≤ 1000000)
 (step : ∀ fuel (j : Nat), j < len → f (fuel + 1) j = (K.ck ((j : Int) + 1)).bind fun x => f fuel x) (stop : ∀ fuel, f (fuel + 1) (len : Int) = some (.ok ())) {k : Nat} (hk : len < k) : f k 0 = some (.ok ()) := by
 have key : ∀ (d j fuel : Nat), j + d = len → d < fuel → f fuel (j : Int) = some (.ok ()) := by
  intro d
  induction d with
  | zero =>
   intro j fuel hj hf;obtain ⟨f', rfl⟩ : ∃ f', fuel = f' + 1 := ⟨fuel - 1, by omega⟩;rw [show j = len by omega];exact stop f'
  | succ d ih =>
   intro j fuel hj hf;obtain ⟨f', rfl⟩ : ∃ f', fuel = f' + 1 := ⟨fuel - 1, by omega⟩;rw [step f' j (by omega), K.ck, if_pos (by omega)];exact ih (j + 1) f' (by omega) (by omega)
 exact key len 0 k (by omega) hk

theorem checkSetting_eq {k : Nat} (hk : 50 ≤ k) {c : dCostume} {l : List Int} (hn : c.2.2.2.1.length ≤ 3) (h : SetOk c.2.2.2.1 l) : seam_checkSetting k c l = some 0 := by
 have hl := h.1;unfold seam_checkSetting;rw [if_neg (by omega), if_neg (by omega)]
 have e : seam_checkSetting_l1 k c l k 0 = some (.ok ()) := by
  refine pass_all (f := seam_checkSetting_l1 k c l) (len := l.length) (by omega) (fun fuel j hj => ?_) (fun fuel => ?_) (by omega)
  ·have hj' : j < c.2.2.2.1.length := by omega
   have h1 : geti l (j : Int) = some l[j] := by rw [geti, if_pos (by omega)]; exact List.getElem?_eq_getElem hj
   have h2 : geti c.2.2.2.1 (j : Int) = some c.2.2.2.1[j] := by rw [geti, if_pos (by omega)]; exact List.getElem?_eq_getElem hj'
   show (if (j : Int) < (l.length : Int) then _ else _) = _;rw [if_pos (by omega), h1, Option.bind_some, h2, Option.bind_some, Option.bind_some, outside_no (h.2 j _ _ (List.getElem?_eq_getElem hj) (List.getElem?_eq_getElem hj')), Option.bind_some, if_neg (by decide)]
  ·show (if (l.length : Int) < (l.length : Int) then _ else _) = _;rw [if_neg (by omega)]
 rw [e]; rfl
end Go.Proofs.Ytomnkjcklkcnhaa

/- Plain law of TopSewing, part 7: the girths and the seams pass. -/
namespace Go.Proofs.Ytomnkjcklkcnhaa
open K Go Go.Proofs

theorem geti_nat {α : Type} {l : List α} {j : Nat} (hj : j < l.length) : geti l (j : Int) = some l[j] := by
 rw [geti, if_pos (by omega)]; exact List.getElem?_eq_getElem hj

theorem checkGirths_eq {k : Nat} (hk : 50 ≤ k) {c : dCostume} {g : Int} (hg : 1 ≤ g ∧ g ≤ 3) (h : GoodG g c.1 c.2.1 c.2.2.1) : seam_checkGirths k c = some 0 := by
 have h1 := h.gl; have h2 := h.bl; have h3 := h.wl;unfold seam_checkGirths;rw [sized_ok (by omega), Option.bind_some, if_neg (by decide)]
 have e1 : seam_checkGirths_l1 k c k 0 = some (.ok ()) := by
  refine pass_all (f := seam_checkGirths_l1 k c) (len := c.1.length) (by omega) (fun fuel j hj => ?_) (fun fuel => ?_) (by omega)
  ·show (if (j : Int) < (c.1.length : Int) then _ else _) = _;rw [if_pos (by omega), geti_nat hj, Option.bind_some, outside_no (h.g _ (List.getElem_mem hj)), Option.bind_some, if_neg (by decide)]
  ·show (if (c.1.length : Int) < (c.1.length : Int) then _ else _) = _;rw [if_neg (by omega)]
 have e2 : seam_checkGirths_l2 k c k 0 = some (.ok ()) := by
  refine pass_all (f := seam_checkGirths_l2 k c) (len := c.2.1.length) (by omega) (fun fuel j hj => ?_) (fun fuel => ?_) (by omega)
  ·show (if (j : Int) < (c.2.1.length : Int) then _ else _) = _;rw [if_pos (by omega), geti_nat hj, Option.bind_some, pair_ok (h.b _ (List.getElem_mem hj)), Option.bind_some, if_neg (by decide)]
  ·show (if (c.2.1.length : Int) < (c.2.1.length : Int) then _ else _) = _;rw [if_neg (by omega)]
 have e3 : seam_checkGirths_l3 k c k 0 = some (.ok ()) := by
  refine pass_all (f := seam_checkGirths_l3 k c) (len := c.2.2.1.length) (by omega) (fun fuel j hj => ?_) (fun fuel => ?_) (by omega)
  ·show (if (j : Int) < (c.2.2.1.length : Int) then _ else _) = _;rw [if_pos (by omega), geti_nat hj, Option.bind_some, outside_no (h.w _ (List.getElem_mem hj)), Option.bind_some, if_neg (by decide)]
  ·show (if (c.2.2.1.length : Int) < (c.2.2.1.length : Int) then _ else _) = _;rw [if_neg (by omega)]
 rw [e1];show (if ¬ ((c.2.1.length : Int) = (c.1.length : Int)) then _ else _) = _;rw [if_neg (by omega), e2];show (if ¬ ((c.2.2.1.length : Int) = (c.1.length : Int)) then _ else _) = _;rw [if_neg (by omega), e3];rfl
end Go.Proofs.Ytomnkjcklkcnhaa

/- Plain law of TopSewing, part 8: the seams pass. -/
namespace Go.Proofs.Ytomnkjcklkcnhaa
open K Go Go.Proofs

theorem ckI {n : Int} (h1 : -9223372036854775808 ≤ n) (h2 : n ≤ 9223372036854775807) : K.ck n = some n := by rw [K.ck, if_pos ⟨h1, h2⟩]

theorem pieces_eq {k : Nat} (hk : 50 ≤ k) {c : dCostume} {s : dSeam} (hg : c.1.length ≤ 3) (h : PiecesOk (c.1.length : Int) s.2.2.1) : seam_checkSeam_l1 k c s k 0 = some (.ok ()) ∧ 1 ≤ s.2.2.1.length ∧ s.2.2.1.length ≤ 2 := by
 have good : ∀ x ∈ s.2.2.1, 0 ≤ x.1 ∧ x.1 < (c.1.length : Int) ∧ x.2 ≠ 0 ∧ -4 ≤ x.2 ∧ x.2 ≤ 4 := by
  obtain ⟨a, ha, e | ⟨b, hb, _, e⟩⟩ := h <;> intro x hx <;> rw [e] at hx
  ·rw [List.mem_singleton.mp hx]; exact ha
  ·rcases List.mem_cons.mp hx with rfl | hx
   ·exact ha
   ·rw [List.mem_singleton.mp hx]; exact hb
 have first : ∀ (j : Nat) (hj : j < s.2.2.1.length) (h0 : 0 < s.2.2.1.length), 0 < j → s.2.2.1[j].1 ≠ s.2.2.1[0].1 := by
  obtain ⟨a, ha, e | ⟨b, hb, hab, e⟩⟩ := h <;> intro j hj h0 hpos
  ·rw [e, List.length_singleton] at hj; omega
  ·have hl : s.2.2.1.length = 2 := by rw [e]; rfl
   obtain rfl : j = 1 := by omega
   simp only [e];exact hab
 have hlen : 1 ≤ s.2.2.1.length ∧ s.2.2.1.length ≤ 2 := by obtain ⟨a, ha, e | ⟨b, hb, hab, e⟩⟩ := h <;> rw [e] <;> simp
 refine ⟨pass_all (f := seam_checkSeam_l1 k c s) (len := s.2.2.1.length) (by omega) (fun fuel j hj => ?_) (fun fuel => ?_) (by omega), hlen⟩
 ·have hx := good _ (List.getElem_mem hj);show (if (j : Int) < (s.2.2.1.length : Int) then _ else _) = _;rw [if_pos (by omega), geti_nat hj, Option.bind_some, ckI (by omega) (by omega), Option.bind_some, outside_no ⟨hx.1, by omega⟩, Option.bind_some, if_neg (by decide), if_neg hx.2.2.1, outside_no hx.2.2.2, Option.bind_some, Option.bind_some, if_neg (by decide)];by_cases h0 : (0 : Int) < (j : Int)
  ·have g0 : geti s.2.2.1 (0 : Int) = some s.2.2.1[0] := geti_nat (j := 0) (by omega);rw [if_pos h0, g0, Option.bind_some, Option.bind_some, if_neg (by rw [decide_eq_false (first j hj (by omega) (by omega))]; decide)]
  ·rw [if_neg h0, Option.bind_some, if_neg (by decide)]
 ·show (if (s.2.2.1.length : Int) < (s.2.2.1.length : Int) then _ else _) = _;rw [if_neg (by omega)]

theorem over_eq {k : Nat} (hk : 50 ≤ k) {c : dCostume} {s : dSeam} {up : Bool} {i : Int} (hn : 1 ≤ c.2.2.2.1.length ∧ c.2.2.2.1.length ≤ 3) (h : OverOk up i (c.2.2.2.1.length : Int) s.2.2.2.1) : seam_checkSeam_l2 k c i s k 0 = some (.ok ()) := by
 have hll := h.1.len (by omega);refine pass_all (f := seam_checkSeam_l2 k c i s) (len := s.2.2.2.1.length) (by omega) (fun fuel j hj => ?_) (fun fuel => ?_) (by omega)
 ·have hx := h.1.2 _ (List.getElem_mem hj);have hy := (h.2 _ (List.getElem_mem hj)).2;show (if (j : Int) < (s.2.2.2.1.length : Int) then _ else _) = _;rw [if_pos (by omega), geti_nat hj, Option.bind_some, ckI (by omega) (by omega), Option.bind_some, outside_no ⟨hx.1, by omega⟩, Option.bind_some, if_neg (by decide), Option.bind_some, if_neg (by rw [decide_eq_false hy]; decide)];by_cases h0 : (0 : Int) < (j : Int)
  ·have hj1 : j - 1 < s.2.2.2.1.length := by omega
   have g0 : geti s.2.2.2.1 ((j : Int) - 1) = some s.2.2.2.1[j - 1] := by
    rw [show (j : Int) - 1 = ((j - 1 : Nat) : Int) by omega]; exact geti_nat hj1
   have hp := List.pairwise_iff_getElem.mp h.1.1 (j - 1) j hj1 hj (by omega);rw [if_pos h0, ckI (by omega) (by omega), Option.bind_some, g0, Option.bind_some, Option.bind_some, if_neg (by rw [decide_eq_false (by omega)]; decide)]
  ·rw [if_neg h0, Option.bind_some, if_neg (by decide)]
 ·show (if (s.2.2.2.1.length : Int) < (s.2.2.2.1.length : Int) then _ else _) = _;rw [if_neg (by omega)]

theorem checkSeam_eq {k : Nat} (hk : 50 ≤ k) {c : dCostume} {up : Bool} {g n : Int} (h : GoodCo up g n c) {j : Nat} (hj : j < c.2.2.2.1.length) : seam_checkSeam k c j = some 0 := by
 have hS := h.seams.good j _ (List.getElem?_eq_getElem hj);have hn := h.seams.len; have hg := h.girths.gl;have h3 := h.n3; have h4 := h.g3;generalize hs : c.2.2.2.1[j] = s at hS;unfold seam_checkSeam;rw [geti_nat hj, hs, Option.bind_some, pair_ok (a := -2) (b := 2) hS.lo, Option.bind_some, if_neg (by decide)];obtain ⟨e1, l1, l2⟩ := pieces_eq hk (c := c) (s := s) (by omega) (by rw [hg]; exact hS.pieces);have e2 := over_eq hk (c := c) (s := s) (up := up) (i := j) (by omega) (by rw [hn]; exact hS.over);rw [sized_ok (by omega), Option.bind_some, if_neg (by decide), e1];show K.bE _ _ _ = _;rw [e2];show (seam_outside k s.2.2.2.2 0 4).bind _ = _;rw [outside_no hS.last, Option.bind_some, if_neg (by decide)]
end Go.Proofs.Ytomnkjcklkcnhaa

/- Plain law of TopSewing, part 9: begin is what gownOf says. -/
namespace Go.Proofs.Ytomnkjcklkcnhaa
open K Go Go.Proofs

theorem begin_seam_eq {k : Nat} (hk : 50 ≤ k) {c : dCostume} {up : Bool} {g n : Int} (h : GoodCo up g n c) {ms : List Int} (hg : seam_gownOf k c = some ((c, ms), true)) : seam_begin k c = some ((c, ms), 0) := by
 have hn := h.seams.len;have h3 := h.n3;unfold seam_begin;rw [checkGirths_eq hk h.g3 h.girths, Option.bind_some, if_neg (by decide), sized_ok (by omega), Option.bind_some, if_neg (by decide)]
 have e : seam_begin_l1 k c k 0 = some (.ok ()) := by
  refine pass_all (f := seam_begin_l1 k c) (len := c.2.2.2.1.length) (by omega) (fun fuel j hj => ?_) (fun fuel => ?_) (by omega)
  ·show (if (j : Int) < (c.2.2.2.1.length : Int) then _ else _) = _;rw [if_pos (by omega), checkSeam_eq hk h hj, Option.bind_some, if_neg (by decide)]
  ·show (if (c.2.2.2.1.length : Int) < (c.2.2.2.1.length : Int) then _ else _) = _;rw [if_neg (by omega)]
 rw [e];show (seam_gownOf k c).bind _ = _;rw [hg, Option.bind_some, if_neg (fun h => h rfl), checkSetting_eq hk (by omega) h.now, Option.bind_some]

theorem asked_seam_eq {k : Nat} (hk : 50 ≤ k) {c : dCostume} {up : Bool} {g n : Int} (h : GoodCo up g n c) {ms l : List Int} (hg : seam_gownOf k c = some ((c, ms), true)) (hl : SetOk c.2.2.2.1 l) : seam_asked k c l = some ((c, ms), 0) := by
 have hn := h.seams.len;have h3 := h.n3;unfold seam_asked;rw [begin_seam_eq hk h hg, Option.bind_some, if_neg (fun h => h rfl), checkSetting_eq hk (by omega) hl, Option.bind_some]
end Go.Proofs.Ytomnkjcklkcnhaa

/- Plain law of TopSewing, part 10: what lies over a seam, by pattern. -/
namespace Go.Proofs.Ytomnkjcklkcnhaa
open K Go Go.Proofs

/-- The lists of numbers from 0 to 2 that grow. -/
def ascs : List (List Int) := [[], [0], [1], [2], [0, 1], [0, 2], [1, 2], [0, 1, 2]]

theorem asc_mem {l : List Int} (h : Asc l 3) : l ∈ ascs := by
 have hl := h.len (by decide);match l, h, hl with
 | [], _, _ => decide
 | [a], h, _ =>
  have := h.2 a (by simp);have : a = 0 ∨ a = 1 ∨ a = 2 := by omega
  rcases this with rfl | rfl | rfl <;> decide
 | [a, b], h, _ =>
  have h1 := h.2 a (by simp);have h2 := h.2 b (by simp);have h3 : a < b := by have := h.1; simp at this; exact this
  have : (a = 0 ∧ b = 1) ∨ (a = 0 ∧ b = 2) ∨ (a = 1 ∧ b = 2) := by omega
  rcases this with ⟨rfl, rfl⟩ | ⟨rfl, rfl⟩ | ⟨rfl, rfl⟩ <;> decide
 | [a, b, d], h, _ =>
  have h1 := h.2 a (by simp);have h2 := h.2 b (by simp);have h3 := h.2 d (by simp);have h4 := h.1;simp at h4;obtain rfl : a = 0 := by omega
  obtain rfl : b = 1 := by omega
  obtain rfl : d = 2 := by omega
  decide
 | _ :: _ :: _ :: _ :: _, _, hl => simp at hl; omega

theorem over_mem {up : Bool} {i n : Int} {l : List Int} (hn : n ≤ 3) (h : OverOk up i n l) : l ∈ ascs.filter fun l => l.all fun x => decide (decide (i < x) = up) && decide (x ≠ i) && decide (x < n) := by
 refine List.mem_filter.mpr ⟨asc_mem (h.1.mono hn), List.all_eq_true.mpr fun x hx => ?_⟩;have h1 := h.2 x hx;have h2 := h.1.2 x hx;simp only [Bool.and_eq_true];exact ⟨⟨decide_eq_true h1.1, decide_eq_true h1.2⟩, decide_eq_true h2.2⟩
end Go.Proofs.Ytomnkjcklkcnhaa

/- Plain law of TopSewing, part 11: what gownOf says, by pattern. -/
namespace Go.Proofs.Ytomnkjcklkcnhaa
open K Go Go.Proofs

/-- The patterns of what lies over, so many seams, up or down. -/
def pats (up : Bool) : Nat → List (List (List Int))
 | 1 => [[[]]]
 | 2 => if up then [[[], []], [[1], []]] else [[[], []], [[], [0]]]
 | 3 => if up then [[], [1], [2], [1, 2]].flatMap fun a => [[], [2]].map fun b => [a, b, []] else [[], [0], [1], [0, 1]].flatMap fun a => [[], [0]].map fun b => [[], b, a]
 | _ => []

theorem pats_mem {up : Bool} {g n : Int} {ss : List dSeam} (hn : 1 ≤ n ∧ n ≤ 3) (h : GoodSs up g n n ss) : ss.map (fun s => s.2.2.2.1) ∈ pats up ss.length := by
 have hl := h.len;have o : ∀ (j : Nat) s, ss[j]? = some s → s.2.2.2.1 ∈ ascs.filter fun l => l.all fun x => decide (decide ((j : Int) < x) = up) && decide (x ≠ (j : Int)) && decide (x < n) := fun j s hs => over_mem hn.2 (h.good j s hs).over;match ss, hl, o with
 | [], hl, _ => simp at hl; omega
 | [a], hl, o =>
  obtain rfl : n = 1 := by simpa using hl.symm
  have h0 := o 0 a rfl;revert h0;simp only [List.map_cons, List.map_nil];generalize a.2.2.2.1 = x;intro h0;have key : ∀ up : Bool, ∀ x ∈ ascs.filter fun l => l.all fun x => decide (decide (((0 : Nat) : Int) < x) = up) && decide (x ≠ ((0 : Nat) : Int)) && decide (x < 1), [x] ∈ pats up 1 := by decide +kernel
  exact key up x h0
 | [a, b], hl, o =>
  obtain rfl : n = 2 := by simpa using hl.symm
  have h0 := o 0 a rfl;have h1 := o 1 b rfl;revert h0 h1;simp only [List.map_cons, List.map_nil];generalize a.2.2.2.1 = x;generalize b.2.2.2.1 = y;intro h0 h1;have key : ∀ up : Bool, ∀ x ∈ ascs.filter fun l => l.all fun x => decide (decide (((0 : Nat) : Int) < x) = up) && decide (x ≠ ((0 : Nat) : Int)) && decide (x < 2), ∀ y ∈ ascs.filter fun l => l.all fun x => decide (decide (((1 : Nat) : Int) < x) = up) && decide (x ≠ ((1 : Nat) : Int)) && decide (x < 2), [x, y] ∈ pats up 2 := by decide +kernel
  exact key up x h0 y h1
 | [a, b, d], hl, o =>
  obtain rfl : n = 3 := by simpa using hl.symm
  have h0 := o 0 a rfl;have h1 := o 1 b rfl;have h2 := o 2 d rfl;revert h0 h1 h2;simp only [List.map_cons, List.map_nil];generalize a.2.2.2.1 = x;generalize b.2.2.2.1 = y;generalize d.2.2.2.1 = z;intro h0 h1 h2;have key : ∀ up : Bool, ∀ x ∈ ascs.filter fun l => l.all fun x => decide (decide (((0 : Nat) : Int) < x) = up) && decide (x ≠ ((0 : Nat) : Int)) && decide (x < 3), ∀ y ∈ ascs.filter fun l => l.all fun x => decide (decide (((1 : Nat) : Int) < x) = up) && decide (x ≠ ((1 : Nat) : Int)) && decide (x < 3), ∀ z ∈ ascs.filter fun l => l.all fun x => decide (decide (((2 : Nat) : Int) < x) = up) && decide (x ≠ ((2 : Nat) : Int)) && decide (x < 3), [x, y, z] ∈ pats up 3 := by decide +kernel
  exact key up x h0 y h1 z h2
 | _ :: _ :: _ :: _ :: _, hl, _ => simp at hl; omega
end Go.Proofs.Ytomnkjcklkcnhaa

/- Plain law of TopSewing, part 12: what gownOf says, by pattern. -/
namespace Go.Proofs.Ytomnkjcklkcnhaa
open K Go Go.Proofs

/-- What lies over each seam in the end, from what lies over it. -/
def gm (ovs : List (List Int)) : List Int := match seam_gownOf 100 ([], [], [], ovs.map fun o => (0, 0, [], o, 0), []) with
 | some r => r.1.2
 | none => []

theorem gown_ok {k : Nat} (hk : k = 100) {up : Bool} {g n : Int} {c : dCostume} (hn : 1 ≤ n ∧ n ≤ 3) (h : GoodSs up g n n c.2.2.2.1) : seam_gownOf k c = some ((c, gm (c.2.2.2.1.map fun s => s.2.2.2.1)), true) := by
 subst hk;have hp := pats_mem hn h;obtain ⟨gs, bs, ws, ss, t⟩ := c;simp only at hp ⊢;match ss, hp with
 | [], hp => cases up <;> simp [pats] at hp
 | [(a0, a1, p0, o0, l0)], hp =>
  simp only [List.map_cons, List.map_nil] at hp ⊢;simp [pats] at hp;subst hp;rfl
 | [(a0, a1, p0, o0, l0), (b0, b1, p1, o1, l1)], hp =>
  simp only [List.map_cons, List.map_nil] at hp ⊢;cases up <;> simp [pats] at hp <;> rcases hp with ⟨rfl, rfl⟩ | ⟨rfl, rfl⟩ <;> rfl
 | [(a0, a1, p0, o0, l0), (b0, b1, p1, o1, l1), (c0, c1, p2, o2, l2)], hp =>
  simp only [List.map_cons, List.map_nil] at hp ⊢;cases up <;> simp [pats] at hp <;> rcases hp with ⟨rfl, rfl, rfl⟩ | ⟨rfl, rfl, rfl⟩ | ⟨rfl, rfl, rfl⟩ | ⟨rfl, rfl, rfl⟩ | ⟨rfl, rfl, rfl⟩ | ⟨rfl, rfl, rfl⟩ | ⟨rfl, rfl, rfl⟩ | ⟨rfl, rfl, rfl⟩ <;> rfl
 | _ :: _ :: _ :: _ :: _, hp => simp [pats] at hp
end Go.Proofs.Ytomnkjcklkcnhaa

/- Plain law of TopSewing, part 13: the seams that are touched. -/
namespace Go.Proofs.Ytomnkjcklkcnhaa
open K Go Go.Proofs

/-- The set of the seams touched, from which ones differ (from the seam i on). -/
def tS (ms : List Int) : Nat → List Bool → Int → Int
 | _, [], acc => acc
 | i, b :: bs, acc => tS ms (i + 1) bs (if b = true then ior .u8 acc (ior .u8 (ms.getD i 0) (ishl .u8 1 (i : Int))) else acc)

/-- Which ones differ. -/
def dif : List Int → List Int → List Bool
 | x :: l, y :: m => decide (x ≠ y) :: dif l m
 | _, _ => []

theorem touched_go {k : Nat} {c : dCostume} {ms : List Int} (hm : ms.length = 3) {l : List Int} (hl : l.length ≤ 3) (hc : l.length ≤ c.2.2.2.2.length) :
 ∀ (d j fuel : Nat) (acc : Int), j + d = l.length → d < fuel → seam_gown_touched_l1 k (c, ms) l fuel (acc, (j : Int)) = some (tS ms j (dif (l.drop j) (c.2.2.2.2.drop j)) acc) := by
 intro d
 induction d with
 | zero =>
  intro j fuel acc hj hf;obtain ⟨f', rfl⟩ : ∃ f', fuel = f' + 1 := ⟨fuel - 1, by omega⟩;show (if (j : Int) < (l.length : Int) then _ else _) = _;rw [if_neg (by omega), List.drop_of_length_le (by omega)];rfl
 | succ d ih =>
  intro j fuel acc hj hf;obtain ⟨f', rfl⟩ : ∃ f', fuel = f' + 1 := ⟨fuel - 1, by omega⟩;have h1 : j < l.length := by omega
  have h2 : j < c.2.2.2.2.length := by omega
  have h3 : j < ms.length := by omega
  show (if (j : Int) < (l.length : Int) then _ else _) = _;rw [if_pos (by omega), geti_nat h1, Option.bind_some, geti_nat h2, Option.bind_some];rw [List.drop_eq_getElem_cons h1, List.drop_eq_getElem_cons h2];show _ = some (tS ms (j + 1) (dif (l.drop (j + 1)) (c.2.2.2.2.drop (j + 1))) (if decide (l[j] ≠ c.2.2.2.2[j]) = true then ior .u8 acc (ior .u8 (ms.getD j 0) (ishl .u8 1 (j : Int))) else acc));by_cases h : l[j] = c.2.2.2.2[j]
  ·rw [if_neg (by rw [h]; simp), if_neg (by rw [h]; simp), Option.bind_some, ckI (by omega) (by omega), Option.bind_some];exact ih (j + 1) f' acc (by omega) (by omega)
  ·rw [if_pos h, if_pos (decide_eq_true h), chkP, if_pos (by omega), Option.bind_some, geti_nat h3, Option.bind_some];unfold seam_set_with;rw [chkP, if_pos (by omega), Option.bind_some, Option.bind_some, Option.bind_some, ckI (by omega) (by omega), Option.bind_some];rw [List.getD_eq_getElem?_getD, List.getElem?_eq_getElem h3, Option.getD_some];exact ih (j + 1) f' _ (by omega) (by omega)

theorem touched_eq {k : Nat} (hk : 50 ≤ k) {c : dCostume} {ms : List Int} (hm : ms.length = 3) {l : List Int} (hl : l.length ≤ 3) (hc : l.length ≤ c.2.2.2.2.length) : seam_gown_touched k (c, ms) l = some (tS ms 0 (dif l c.2.2.2.2) 0) := by
 unfold seam_gown_touched;have := touched_go (k := k) (c := c) hm hl hc l.length 0 k 0 (by omega) (by omega);rw [List.drop_zero, List.drop_zero] at this;rw [show ((0 : Nat) : Int) = 0 from rfl] at this;rw [this, Option.bind_some]
end Go.Proofs.Ytomnkjcklkcnhaa

/- Plain law of TopSewing, part 14: ready. -/
namespace Go.Proofs.Ytomnkjcklkcnhaa
open K Go Go.Proofs

def allB : Nat → List (List Bool)
 | 0 => [[]]
 | n + 1 => (allB n).flatMap fun l => [true :: l, false :: l]
theorem allB_mem : ∀ l : List Bool, l ∈ allB l.length
 | [] => List.mem_singleton.mpr rfl
 | b :: l => List.mem_flatMap.mpr ⟨l, allB_mem l, by cases b <;> simp⟩

def lst (s : Int) : List Int := (seam_set_list 100 s).getD []

theorem lst_fin : ∀ up : Bool, ∀ n ∈ [1, 2, 3], ∀ ovs ∈ pats up n, ∀ bs ∈ allB n, (gm ovs).length = 3 ∧ seam_set_list 100 (tS (gm ovs) 0 bs 0) = some (lst (tS (gm ovs) 0 bs 0)) ∧ (lst (tS (gm ovs) 0 bs 0)).length ≤ n ∧ ∀ x ∈ lst (tS (gm ovs) 0 bs 0), 0 ≤ x ∧ x < (n : Int) := by decide +kernel
end Go.Proofs.Ytomnkjcklkcnhaa

/- Plain law of TopSewing, part 15: sew. -/
namespace Go.Proofs.Ytomnkjcklkcnhaa
open K Go Go.Proofs

theorem sew1_ok {k : Nat} {c : dCostume} {ms L : List Int} (hL : L.length ≤ 3) (h : ∀ x ∈ L, 0 ≤ x ∧ x < (c.2.2.2.1.length : Int)) (hk : 50 ≤ k) :
 W (seam_gown_sew_l1 k (c, ms) L k 0) fun r => r = .ok () ∨ ∃ x, r = .error (0, .iface 127 (.agg #[.int .i64 x])) := by
 refine W.loop (f := seam_gown_sew_l1 k (c, ms) L) (fun q y => 0 ≤ y ∧ y ≤ L.length ∧ q = (L.length - y).toNat) ?_ L.length k _ (by omega) ⟨Int.le_refl _, by omega, by omega⟩;rintro fuel q j ⟨h0, h1, hq⟩ ih;unfold seam_gown_sew_l1;refine W.ite (fun hlt => ?_) (fun hge => W.ret (.inl rfl));refine W.at_ h0 hlt fun x hx => ?_;have hb := h x (List.mem_of_getElem? hx);refine W.at_ hb.1 hb.2 fun s hs => W.ite (fun _ => W.ret (.inr ⟨x, rfl⟩)) (fun _ => W.ck (by omega) (by omega) (ih (q - 1) (j + 1) (by omega) ⟨by omega, by omega, by omega⟩))

theorem sew_ok {k : Nat} (hk : 50 ≤ k) {c : dCostume} {ms L l : List Int} {S : Int} (ht : seam_gown_touched k (c, ms) l = some S) (hs : seam_set_list k S = some L) (hL : L.length ≤ 3) (h : ∀ x ∈ L, 0 ≤ x ∧ x < (c.2.2.2.1.length : Int)) :
 W (seam_gown_sew k (c, ms) l) fun r => r = (S, .nilIface) ∨ ∃ x, r = (0, .iface 127 (.agg #[.int .i64 x])) := by
 unfold seam_gown_sew;refine W.bindE ht ?_;obtain ⟨r, e, hr⟩ := sew1_ok (ms := ms) hL h hk;rw [hs, Option.bind_some, e];rcases hr with rfl | ⟨x, rfl⟩
 ·exact ⟨_, rfl, .inl rfl⟩
 ·exact ⟨_, rfl, .inr ⟨x, rfl⟩⟩
end Go.Proofs.Ytomnkjcklkcnhaa

/- Plain law of TopSewing, part 16: ready. -/
namespace Go.Proofs.Ytomnkjcklkcnhaa
open K Go Go.Proofs

theorem ready_ok {k : Nat} (hk : 50 ≤ k) {c : dCostume} {ms L l : List Int} {S : Int} (ha : seam_asked k c l = some ((c, ms), 0)) (ht : seam_gown_touched k (c, ms) l = some S) (hs : seam_set_list k S = some L) (hL : L.length ≤ 3) (h : ∀ x ∈ L, 0 ≤ x ∧ x < (c.2.2.2.1.length : Int)) :
 W (seam_ready k c l) fun r => r = ((([], [], [], [], []), [0, 0, 0]), 0, 12) ∨ r = ((c, ms), S, 0) := by
 unfold seam_ready;rw [ha, Option.bind_some, if_neg (fun h => h rfl)];obtain ⟨r, e, hr⟩ := sew_ok (c := c) hk ht hs hL h;refine W.bindE e ?_;rcases hr with rfl | ⟨x, rfl⟩
 ·exact ⟨_, rfl, .inr rfl⟩
 ·exact ⟨_, rfl, .inl rfl⟩
end Go.Proofs.Ytomnkjcklkcnhaa

/- Plain law of TopSewing, part 17: the order does not see the costume. -/
namespace Go.Proofs.Ytomnkjcklkcnhaa
open K Go Go.Proofs

theorem order3 {k : Nat} {c c' : dCostume} {ms L : List Int} {S S' e e' x : Int} {z : List Int × Int} : ∀ n y, seam_Order_l3 k ((c, ms), S, e) L z x n y = seam_Order_l3 k ((c', ms), S', e') L z x n y := by
 intro n
 induction n with
 | zero => intro y; rfl
 | succ n ih => intro y; unfold seam_Order_l3; simp only [ih]
theorem order2 {k : Nat} {c c' : dCostume} {ms L : List Int} {S S' e e' : Int} {z : List Int × Int} : ∀ n y, seam_Order_l2 k ((c, ms), S, e) L z n y = seam_Order_l2 k ((c', ms), S', e') L z n y := by
 intro n
 induction n with
 | zero => intro y; rfl
 | succ n ih => intro y; unfold seam_Order_l2; simp only [ih, order3 (c := c) (c' := c') (S := S) (S' := S') (e := e) (e' := e')]
theorem order1 {k : Nat} {c c' : dCostume} {ms L : List Int} {S S' e e' : Int} : ∀ n y, seam_Order_l1 k ((c, ms), S, e) L n y = seam_Order_l1 k ((c', ms), S', e') L n y := by
 intro n
 induction n with
 | zero => intro y; rfl
 | succ n ih => intro y; unfold seam_Order_l1; simp only [ih, order2 (c := c) (c' := c') (S := S) (S' := S') (e := e) (e' := e')]

/-- The order, from the Over lists and which settings differ. -/
def ord (ovs : List (List Int)) (bs : List Bool) : List Int := (seam_Order_l1 100 ((([], [], [], [], []), gm ovs), 0, 0) (lst (tS (gm ovs) 0 bs 0)) 100 ([], 0)).getD []

theorem ord_fin : ∀ up : Bool, ∀ n ∈ [1, 2, 3], ∀ ovs ∈ pats up n, ∀ bs ∈ allB n, seam_Order_l1 100 ((([], [], [], [], []), gm ovs), 0, 0) (lst (tS (gm ovs) 0 bs 0)) 100 ([], 0) = some (ord ovs bs) ∧ (ord ovs bs).length = (lst (tS (gm ovs) 0 bs 0)).length := by decide +kernel
end Go.Proofs.Ytomnkjcklkcnhaa

/- Plain law of TopSewing, part 18: Sewn and Order. -/
namespace Go.Proofs.Ytomnkjcklkcnhaa
open K Go Go.Proofs

theorem dif_len : ∀ {l m : List Int}, l.length = m.length → (dif l m).length = l.length
 | [], [], _ => rfl
 | [], _ :: _, h => by simp at h
 | _ :: _, [], h => by simp at h
 | x :: l, y :: m, h => by
  have := dif_len (l := l) (m := m) (by simpa using h)
  simp only [dif, List.length_cons, this]

/-- What lies over each seam. -/
def ovs (c : dCostume) : List (List Int) := c.2.2.2.1.map fun s => s.2.2.2.1

/-- The set touched. -/
def tchd (c : dCostume) (l : List Int) : List Int := lst (tS (gm (ovs c)) 0 (dif l c.2.2.2.2) 0)

theorem sewn_order {k : Nat} (hk : k = 100) {c : dCostume} {up : Bool} {g n : Int} (h : GoodCo up g n c) {l : List Int} (hl : SetOk c.2.2.2.1 l) :
 ((seam_Sewn k c l = some ([], 12) ∧ seam_Order k c l = some ([], 12)) ∨ (seam_Sewn k c l = some (tchd c l, 0) ∧ seam_Order k c l = some (ord (ovs c) (dif l c.2.2.2.2), 0))) ∧
  ovs c ∈ pats up c.2.2.2.1.length ∧ dif l c.2.2.2.2 ∈ allB c.2.2.2.1.length ∧ c.2.2.2.1.length ∈ [1, 2, 3] := by
 have hn := h.seams.len;have h3 := h.n3
 have hn3 : c.2.2.2.1.length ∈ [1, 2, 3] := by
  have : c.2.2.2.1.length = 1 ∨ c.2.2.2.1.length = 2 ∨ c.2.2.2.1.length = 3 := by omega
  rcases this with e | e | e <;> rw [e] <;> decide
 have hp : ovs c ∈ pats up c.2.2.2.1.length := pats_mem h3 h.seams;have l1 := hl.1;have l2 := h.now.1
 have hb : dif l c.2.2.2.2 ∈ allB c.2.2.2.1.length := by
  have := allB_mem (dif l c.2.2.2.2);rwa [dif_len (by omega), l1] at this
 refine ⟨?_, hp, hb, hn3⟩;have hk50 : 50 ≤ k := by omega
 have hg := gown_ok hk h3 h.seams;obtain ⟨f1, f2, f3, f4⟩ := lst_fin up _ hn3 _ hp _ hb;obtain ⟨f5, f6⟩ := ord_fin up _ hn3 _ hp _ hb;have f2' : seam_set_list k (tS (gm (ovs c)) 0 (dif l c.2.2.2.2) 0) = some (tchd c l) := by rw [hk]; exact f2
 obtain ⟨r, e, hr⟩ := ready_ok hk50 (asked_seam_eq hk50 h hg hl) (touched_eq hk50 (c := c) f1 (by omega) (by omega)) f2' (by show (lst _).length ≤ 3; omega) f4;unfold seam_Sewn seam_Order;rw [e, Option.bind_some, Option.bind_some];rcases hr with rfl | rfl
 ·refine .inl ⟨?_, if_pos (by decide)⟩;rw [hk];rfl
 ·refine .inr ⟨?_, ?_⟩
  ·rw [f2', Option.bind_some]
  ·rw [if_neg (fun h => h rfl), f2', Option.bind_some, order1 (c' := ([], [], [], [], [])) (S' := 0) (e' := 0), hk];show ((seam_Order_l1 100 ((([], [], [], [], []), gm (ovs c)), 0, 0) (lst (tS (gm (ovs c)) 0 (dif l c.2.2.2.2) 0)) 100 ([], 0)).bind _) = _;rw [f5, Option.bind_some]
end Go.Proofs.Ytomnkjcklkcnhaa

/- Plain law of TopSewing, part 20: a change of one dresser, by pattern. -/
namespace Go.Proofs.Ytomnkjcklkcnhaa
open K Go Go.Proofs

def upN (m : Nat) : List Int := (List.range m).map fun (i : Nat) => (i : Int)
/-- The change that TopSewing makes. -/
def sewC (P : List (List Int)) (ps : List Int) (from_ : Int) : dChange := ((P.zip ps).map fun x => (x.1, 1, x.2, 0, 0), [(upN P.length, 0, from_)], [], upN P.length)
def onT (m : Nat) : List (Bool × Int) := (upN m).map fun x => (true, x)
/-- The plans of a pattern. -/
def plP (P : List (List Int)) : List (List dStep) := plansS (sewC P [1, 1, 1] 0) (onT P.length)

theorem plans1 {up : Bool} {P : List (List Int)} (h : P ∈ pats up 1) (p0 f : Int) : plansS (sewC P [p0] f) (onT 1) = plP P := by
 simp [pats] at h;subst h; rfl
theorem plans2 {up : Bool} {P : List (List Int)} (h : P ∈ pats up 2) (p0 p1 f : Int) : plansS (sewC P [p0, p1] f) (onT 2) = plP P := by
 cases up <;> simp [pats] at h <;> rcases h with rfl | rfl <;> rfl
theorem plans3 {up : Bool} {P : List (List Int)} (h : P ∈ pats up 3) (p0 p1 p2 f : Int) : plansS (sewC P [p0, p1, p2] f) (onT 3) = plP P := by
 cases up <;> simp [pats] at h <;> rcases h with rfl | rfl | rfl | rfl | rfl | rfl | rfl | rfl <;> rfl
end Go.Proofs.Ytomnkjcklkcnhaa

/- Plain law of TopSewing, part 21: the first plan and the order. -/
namespace Go.Proofs.Ytomnkjcklkcnhaa
open K Go Go.Proofs

/-- What lies over each of these seams among them. -/
def cov (o : List (List Int)) (L : List Int) : List (List Int) := L.map fun s => (upN L.length).filter fun k => decide (L.getD k.toNat 0 ∈ o.getD s.toNat [])

theorem first_fin : ∀ up : Bool, ∀ n ∈ [1, 2, 3], ∀ o ∈ pats up n, ∀ bs ∈ allB n, lst (tS (gm o) 0 bs 0) ≠ [] →
 cov o (lst (tS (gm o) 0 bs 0)) ∈ pats up (lst (tS (gm o) 0 bs 0)).length ∧
 ((plP (cov o (lst (tS (gm o) 0 bs 0)))).headD []).map (fun s => (lst (tS (gm o) 0 bs 0)).getD s.1.toNat 0) = ord o bs := by decide +kernel

theorem plans_fin : ∀ up : Bool, ∀ m ∈ [1, 2, 3], ∀ P ∈ pats up m, plP P ≠ [] ∧ ∀ p ∈ plP P, (p.map fun s => s.1).isPerm (upN m) = true ∧ ∀ s ∈ p, s.2 = 0 := by decide +kernel
end Go.Proofs.Ytomnkjcklkcnhaa

/- Plain law of TopSewing, part 22: the change of one dresser, and its fewest bars. -/
namespace Go.Proofs.Ytomnkjcklkcnhaa
open K Go Go.Proofs

theorem over_fin : ∀ up : Bool, ∀ m ∈ [1, 2, 3], ∀ P ∈ pats up m, P.length = m ∧ ∀ j ∈ List.range 3, j < m → (P.getD j []).Pairwise (· < ·) ∧ ∀ x ∈ P.getD j [], 0 ≤ x ∧ x < (m : Int) ∧ decide ((j : Int) < x) = up ∧ x ≠ (j : Int) := by decide +kernel

/-- A change of one dresser, in form. -/
structure SC (up : Bool) (m : Nat) (P : List (List Int)) (ps : List Int) (f : Int) : Prop where
 m3 : m ∈ [1, 2, 3]
 pat : P ∈ pats up m
 len : ps.length = m
 puts : ∀ p ∈ ps, 1 ≤ p ∧ p ≤ 4
 start : 0 ≤ f ∧ f ≤ 9

theorem SC.plen {up : Bool} {m : Nat} {P : List (List Int)} {ps : List Int} {f : Int} (h : SC up m P ps f) : P.length = m := (over_fin up m h.m3 P h.pat).1
theorem SC.m13 {up : Bool} {m : Nat} {P : List (List Int)} {ps : List Int} {f : Int} (h : SC up m P ps f) : 1 ≤ m ∧ m ≤ 3 := by
 have := h.m3;simp only [List.mem_cons, List.not_mem_nil, or_false] at this;omega
theorem SC.tlen {up : Bool} {m : Nat} {P : List (List Int)} {ps : List Int} {f : Int} (h : SC up m P ps f) : (sewC P ps f).1.length = m := by
 show (((P.zip ps).map _).length) = m;rw [List.length_map, List.length_zip, h.plen, h.len]; omega

theorem mem_upN {m : Nat} {x : Int} : x ∈ upN m ↔ 0 ≤ x ∧ x < (m : Int) := by
 unfold upN;simp only [List.mem_map, List.mem_range];constructor
 ·rintro ⟨i, h, rfl⟩; omega
 ·intro h; exact ⟨x.toNat, by omega, by omega⟩
theorem upN_asc {m : Nat} (h : m ∈ [1, 2, 3]) : Asc (upN m) m := by
 refine ⟨?_, fun x hx => mem_upN.1 hx⟩;simp only [List.mem_cons, List.not_mem_nil, or_false] at h;rcases h with rfl | rfl | rfl <;> decide

theorem sew_get {P : List (List Int)} {ps : List Int} {f : Int} {j : Nat} {t : dThing} (h : (sewC P ps f).1[j]? = some t) : ∃ p, ps[j]? = some p ∧ t = (P.getD j [], 1, p, 0, 0) := by
 replace h : ((P.zip ps).map fun x => ((x.1, 1, x.2, 0, 0) : dThing))[j]? = some t := h;rw [List.getElem?_map] at h;cases hz : (P.zip ps)[j]? with
 | none => rw [hz] at h; cases h
 | some x =>
  rw [hz] at h;obtain ⟨h1, h2⟩ := List.getElem?_zip_eq_some.1 hz;refine ⟨x.2, h2, ?_⟩;rw [List.getD_eq_getElem?_getD, h1];exact (Option.some.inj h).symm

theorem sew_vc {up : Bool} {m : Nat} {P : List (List Int)} {ps : List Int} {f : Int} (h : SC up m P ps f) : VC m (sewC P ps f) := by
 have h13 := h.m13;have hpl := h.plen;refine vc_of_good (up := up) (by omega) (by rw [h.tlen]) (fun j t ht => ?_) ⟨List.Pairwise.nil, fun x hx => by cases hx⟩ ?_ (fun x hx => ?_) (by show 1 ≤ 1 ∧ 1 ≤ 3; decide)
 ·have hj : j < m := by
   rcases Nat.lt_or_ge j m with hj | hj
   ·exact hj
   ·rw [List.getElem?_eq_none (by rw [h.tlen]; exact hj)] at ht; cases ht
  obtain ⟨p, hp, rfl⟩ := sew_get ht;have hp' := h.puts p (List.mem_of_getElem? hp);obtain ⟨o1, o2⟩ := (over_fin up m h.m3 P h.pat).2 j (List.mem_range.2 (by omega)) hj;refine ⟨⟨⟨o1, fun x hx => ?_⟩, fun x hx => ?_⟩, ?_, hp', ?_, ?_⟩
  ·have := o2 x hx; omega
  ·have := o2 x hx; exact ⟨this.2.2.1, this.2.2.2⟩
  ·show (1 : Int) ≤ 1 ∧ (1 : Int) ≤ 4; decide
  ·show (0 : Int) ≤ 0 ∧ (0 : Int) ≤ 2; decide
  ·show (0 : Int) ≤ 0 ∧ (0 : Int) ≤ 12; decide
 ·show Asc (upN P.length) m;rw [hpl]; exact upN_asc h.m3
 ·obtain rfl := List.mem_singleton.1 hx;refine ⟨?_, ?_, h.start⟩
  ·show Asc (upN P.length) m;rw [hpl]; exact upN_asc h.m3
  ·show (0 : Int) ≤ 0 ∧ (0 : Int) ≤ 2; decide

theorem sew_fix {up : Bool} {m : Nat} {P : List (List Int)} {ps : List Int} {f : Int} (h : SC up m P ps f) : Fix (sewC P ps f) (List.replicate m true) := by
 have hpl := h.plen
 have hin : ∀ i, In (List.replicate m true) i ↔ i < m := fun i => by
  show (List.replicate m true)[i]? = some true ↔ _;rw [List.getElem?_replicate];split <;> simp_all
 have hwants : (sewC P ps f).2.2.2 = upN m := by show upN P.length = _; rw [hpl]
 have hwears : (sewC P ps f).2.2.1 = [] := rfl;refine ⟨by rw [List.length_replicate, h.tlen], fun C hC i hi => hC i ?_ ?_, fun i hi _ => (hin i).2 ?_⟩
 ·rw [h.tlen]; exact (hin i).1 hi
 ·refine .inl (.inr ⟨by rw [hwears]; simp, ?_⟩);rw [hwants]; exact mem_upN.2 ⟨by omega, by have := (hin i).1 hi; omega⟩
 ·rwa [h.tlen] at hi

theorem ts_fin : ∀ m ∈ [1, 2, 3], (((tsL (List.replicate m true) [] m).map fun x => (false, x)) ++ ((tsL (List.replicate m true) (upN m) m).map fun x => (true, x))) = onT m := by decide +kernel
theorem sew_ts {up : Bool} {m : Nat} {P : List (List Int)} {ps : List Int} {f : Int} (h : SC up m P ps f) : tsC (sewC P ps f) (List.replicate m true) = onT m := by
 unfold tsC;rw [h.tlen, show (sewC P ps f).2.2.2 = upN m by show upN P.length = _; rw [h.plen]];exact ts_fin m h.m3

theorem sew_plans {up : Bool} {m : Nat} {P : List (List Int)} {ps : List Int} {f : Int} (h : SC up m P ps f) : plansS (sewC P ps f) (onT m) = plP P := by
 have hl := h.len;have hm := h.m3;have hp := h.pat;simp only [List.mem_cons, List.not_mem_nil, or_false] at hm;rcases hm with rfl | rfl | rfl
 ·match ps, hl with
  | [a], _ => exact plans1 hp a f
 ·match ps, hl with
  | [a, b], _ => exact plans2 hp a b f
 ·match ps, hl with
  | [a, b, d], _ => exact plans3 hp a b d f

theorem minL_const {g : List dStep → Int} : ∀ (l : List (List dStep)) (b : Bool × Int × List dStep), b.1 = true → (∀ p ∈ l, g p = b.2.1) → minL g b l = b
 | [], _, _, _ => rfl
 | p :: l, b, h1, h2 => by
  have h3 := h2 p (List.mem_cons_self ..)
  rw [minL, if_neg (by simp [h1, h3])]
  exact minL_const l b h1 fun q hq => h2 q (List.mem_cons_of_mem _ hq)

theorem perm_sum {l m : List Int} (h : l.Perm m) : l.sum = m.sum := by
 induction h with
 | nil => rfl
 | cons a _ ih => rw [List.sum_cons, List.sum_cons, ih]
 | swap a b l => simp only [List.sum_cons]; omega
 | trans _ _ h1 h2 => rw [h1, h2]
theorem sum_upN {ps : List Int} : ((upN ps.length).map fun x => ps.getD x.toNat 0).sum = ps.sum := by
 congr 1;apply List.ext_getElem
 ·simp [upN]
 ·intro i h1 h2;simp [upN, h2]

theorem sew_len {up : Bool} {m : Nat} {P : List (List Int)} {ps : List Int} {f : Int} (h : SC up m P ps f) {p : List dStep} (hp : p ∈ plP P) : lenS (sewC P ps f) (onT m) p = f + ps.sum := by
 obtain ⟨h1, h2⟩ := (plans_fin up m h.m3 P h.pat).2 p hp;have hperm : (p.map fun s => s.1).Perm (upN m) := List.isPerm_iff.1 h1;have h13 := h.m13;have hF : F0 (sewC P ps f) 0 = f := rfl
 have hb : ∀ s ∈ p, 0 ≤ s.1 ∧ s.1 < (m : Int) ∧ barsB (sewC P ps f) (tsk (onT m) s.1) = ps.getD s.1.toNat 0 := fun s hs => by
  have hm := mem_upN.1 (hperm.mem_iff.1 (List.mem_map_of_mem hs));refine ⟨hm.1, hm.2, ?_⟩
  have e1 : tsk (onT m) s.1 = (true, s.1) := by
   unfold tsk onT upN;rw [List.getElem?_map, List.getElem?_map, List.getElem?_range (by omega)];simp only [Option.map_some, Option.getD_some, Prod.mk.injEq, true_and]; omega
  rw [e1];unfold barsB;rw [if_pos rfl];unfold thg;have hj : s.1.toNat < (sewC P ps f).1.length := by rw [h.tlen]; omega
  obtain ⟨q, hq, e⟩ := sew_get (List.getElem?_eq_getElem hj);rw [List.getElem?_eq_getElem hj, e];show q = _;rw [List.getD_eq_getElem?_getD, hq]; rfl
 have hpos : ∀ i, 0 ≤ ps.getD i 0 := fun i => by
  rw [List.getD_eq_getElem?_getD];cases hi : ps[i]? with
  | none => simp
  | some x => have := h.puts x (List.mem_of_getElem? hi); simp; omega
 obtain ⟨g1, g2⟩ := bge_one (c := sewC P ps f) (ts := onT m) p E0 (F0 (sewC P ps f)) (fun i => by rw [hF]; exact h.start.1) fun s hs => ⟨h2 s hs, by rw [(hb s hs).2.2]; exact hpos _⟩
 have hsum : barsSum (sewC P ps f) (onT m) p = ps.sum := by
  unfold barsSum;rw [List.map_congr_left (g := (fun x : Int => ps.getD x.toNat 0) ∘ fun s : dStep => s.1) (fun s hs => (hb s hs).2.2), ← List.map_map];rw [perm_sum (hperm.map (fun x : Int => ps.getD x.toNat 0)), ← h.len, sum_upN]
 rw [hF, hsum] at g1 g2
 have hne : p ≠ [] := fun e => by
  subst e;have := hperm.length_eq;simp [upN] at this; omega
 obtain ⟨s, hs, e⟩ := g2.resolve_left hne;have hs' := hb s hs;have g0 := g1 0; have g1' := g1 1; have g2' := g1 2; have g3' := g1 3;unfold lenS maxE;have hcase : s.1.toNat = 0 ∨ s.1.toNat = 1 ∨ s.1.toNat = 2 := by omega
 unfold imax;rcases hcase with h | h | h <;> rw [h] at e <;> repeat' split;all_goals omega

theorem sew_fewest {k : Nat} (hk : 50 ≤ k) {up : Bool} {m : Nat} {P : List (List Int)} {ps : List Int} {f : Int} (h : SC up m P ps f) : chg_Fewest k (sewC P ps f) = some ((plP P).headD [], f + ps.sum, 0) := by
 have ht := sew_ts h;have h13 := h.m13;obtain ⟨q, hb, hQ⟩ := (begin_ok hk (sew_vc h) (sew_fix h)).2 (by rw [ht]; simp [onT, upN]; omega)
 have key : fewS (sewC P ps f) (onT m) = (true, f + ps.sum, (plP P).headD []) := by
  unfold fewS;rw [sew_plans h];have hne := (plans_fin up m h.m3 P h.pat).1;have hlen := fun p hp => sew_len h (p := p) hp;revert hne hlen;cases plP P with
  | nil => intro hne; exact absurd rfl hne
  | cons x l =>
   intro _ hlen;rw [minL, if_pos (.inl rfl), minL_const l _ rfl (fun p hp => by rw [hlen p (List.mem_cons_of_mem _ hp), hlen x (List.mem_cons_self ..)]), hlen x (List.mem_cons_self ..)];rfl
 rw [Fewest_eq hk hQ hb, ht, key];rfl
end Go.Proofs.Ytomnkjcklkcnhaa

/- Plain law of TopSewing, part 23: the change that is made of the seams. -/
namespace Go.Proofs.Ytomnkjcklkcnhaa
open K Go Go.Proofs

theorem upN_succ {j : Nat} : upN (j + 1) = upN j ++ [(j : Int)] := by simp [upN, List.range_succ]
theorem upN_len {j : Nat} : (upN j).length = j := by simp [upN]

def covI (o : List (List Int)) (L : List Int) (s : Int) : List Int := (upN L.length).filter fun k => decide (L.getD k.toNat 0 ∈ o.getD s.toNat [])

theorem cover_ok {k : Nat} (hk : 50 ≤ k) {c : dCostume} {L : List Int} {y7 : (List dThing) × (List Int) × Int × (List Int)} {i : Nat} (hL : L.length ≤ 3) (hx : ∀ x ∈ L, 0 ≤ x ∧ x < (c.2.2.2.1.length : Int)) (ho : ∀ s ∈ c.2.2.2.1, s.2.2.2.1.length ≤ 3)
 (hy : y7.2.2.1 = (i : Int)) (hi : i < L.length) : W (top_sewingOf_l2 k c L y7 k ([], 0)) fun r => r = covI (ovs c) L (L.getD i 0) := by
 refine W.loop (f := top_sewingOf_l2 k c L y7) (fun m y => ∃ j : Nat, y.2 = (j : Int) ∧ j ≤ L.length ∧ m = L.length - j ∧ y.1 = (upN j).filter fun k => decide (L.getD k.toNat 0 ∈ (ovs c).getD (L.getD i 0).toNat [])) ?_ L.length k _ (by omega) ⟨0, rfl, by omega, by omega, rfl⟩;rintro fuel q ⟨out, y⟩ ⟨j, h1, h2, h3, h4⟩ ih;simp only at h1 h4;subst h1; subst h4;unfold top_sewingOf_l2;refine W.ite (fun hlt => ?_) (fun hge => W.ret ?_)
 ·replace hlt : (j : Int) < (L.length : Int) := hlt;refine W.bind (R := fun x => x = (upN (j + 1)).filter fun k => decide (L.getD k.toNat 0 ∈ (ovs c).getD (L.getD i 0).toNat [])) ?_ fun x hx' => ?_
  ·rw [hy];refine W.at_ (by omega) (by omega) fun s hs => ?_;have hs' := hx s (List.mem_of_getElem? hs);have es : L.getD i 0 = s := by rw [List.getD_eq_getElem?_getD, show L[i]? = some s by simpa using hs]; rfl
   refine W.at_ hs'.1 hs'.2 fun t ht => W.at_ (by show (0 : Int) ≤ (j : Int); omega) hlt fun v hv => ?_;have ev : L.getD j 0 = v := by rw [List.getD_eq_getElem?_getD, show L[j]? = some v by simpa using hv]; rfl
   have eo : (ovs c).getD s.toNat [] = t.2.2.2.1 := by
    rw [List.getD_eq_getElem?_getD, ovs, List.getElem?_map, ht]; rfl
   have hol := ho t (List.mem_of_getElem? ht);refine W.bind (at_ok (k := k) (x := v) (by omega) (by omega)) fun r hr => ?_;rw [upN_succ, List.filter_append, es, eo]
   have hlen : ((upN j).filter fun k => decide (L.getD k.toNat 0 ∈ t.2.2.2.1)).length ≤ 3 := by
    have := List.length_filter_le (fun k => decide (L.getD k.toNat 0 ∈ t.2.2.2.1)) (upN j);rw [upN_len] at this; omega
   refine W.ite (fun h0 => W.chk (okLen_of (by simp only [List.length_cons, List.length_nil]; omega)) (W.ret ?_)) (fun h0 => W.ret ?_)
   ·show _ ++ [(j : Int)] = _ ++ [(j : Int)].filter _;rw [List.filter_cons, if_pos]
    ·rfl
    ·rw [decide_eq_true_eq, show ((j : Int)).toNat = j by omega, ev]; exact hr.1 h0
   ·show _ = _ ++ [(j : Int)].filter _;rw [List.filter_cons, if_neg]
    ·simp
    ·rw [decide_eq_true_eq, show ((j : Int)).toNat = j by omega, ev]; exact fun h => h0 (hr.2 h)
  ·subst hx';refine W.ck (by show _ ≤ (j : Int) + 1; omega) (by show (j : Int) + 1 ≤ _; omega) (ih (q - 1) _ (by omega) ⟨j + 1, ?_, by omega, by omega, rfl⟩);show (j : Int) + 1 = _; omega
 ·replace hge : ¬ (j : Int) < (L.length : Int) := hge;have : j = L.length := by omega
  subst this;rfl

theorem cov_zip {o : List (List Int)} {L ps : List Int} (hl : ps.length = L.length) : ((List.range L.length).map fun (q : Nat) => ((covI o L (L.getD q 0), 1, ps.getD q 0, 0, 0) : dThing)) = ((cov o L).zip ps).map fun x => (x.1, 1, x.2, 0, 0) := by
 apply List.ext_getElem
 ·simp [cov, hl]
 ·intro i h1 h2;have h3 : i < L.length := by simpa using h1
  have h4 : i < ps.length := by omega
  simp [cov, covI, h3, h4]

theorem sewingOf_ok {k : Nat} (hk : 50 ≤ k) {c : dCostume} {L ps : List Int} {f : Int} (hL : L.length ≤ 3) (hx : ∀ x ∈ L, 0 ≤ x ∧ x < (c.2.2.2.1.length : Int)) (ho : ∀ s ∈ c.2.2.2.1, s.2.2.2.1.length ≤ 3) (hl : ps.length = L.length) :
 W (top_sewingOf k c L ps f) fun r => r = sewC (cov (ovs c) L) ps f := by
 unfold top_sewingOf;refine W.bind (R := fun x => x = (((List.range L.length).map fun (q : Nat) => ((covI (ovs c) L (L.getD q 0), 1, ps.getD q 0, 0, 0) : dThing)), upN L.length, upN L.length)) ?_ fun x hx' => W.ret ?_
 ·refine W.loop (f := top_sewingOf_l1 k c L ps) (fun m y => ∃ j : Nat, j ≤ L.length ∧ m = L.length - j ∧ y = (((List.range j).map fun (q : Nat) => ((covI (ovs c) L (L.getD q 0), 1, ps.getD q 0, 0, 0) : dThing)), upN j, (j : Int), upN j)) ?_ L.length k _ (by omega) ⟨0, by omega, by omega, rfl⟩;rintro fuel q y ⟨j, h1, h2, rfl⟩ ih;unfold top_sewingOf_l1;refine W.ite (fun hlt => ?_) (fun hge => W.ret ?_)
  ·replace hlt : (j : Int) < (L.length : Int) := hlt;refine W.bind (R := fun x => x = ((List.range (j + 1)).map fun (q : Nat) => ((covI (ovs c) L (L.getD q 0), 1, ps.getD q 0, 0, 0) : dThing))) ?_ fun x hx' => ?_
   ·refine W.at_ (by show (0 : Int) ≤ (j : Int); omega) (by show (j : Int) < _; omega) fun p hp => ?_;have ep : ps.getD j 0 = p := by rw [List.getD_eq_getElem?_getD, show ps[j]? = some p by simpa using hp]; rfl
    refine W.bind (cover_ok hk hL hx ho (i := j) rfl (by omega)) fun r hr => ?_;subst hr;refine W.chk (okLen_of (by simp only [List.length_map, List.length_range, List.length_cons, List.length_nil]; omega)) (W.chk (okLen_of (by simp only [upN_len, List.length_cons, List.length_nil]; omega)) (W.chk (okLen_of (by simp only [upN_len, List.length_cons, List.length_nil]; omega)) (W.ret ?_)));show _ = List.map _ (List.range (j + 1));rw [List.range_succ, List.map_append, List.map_singleton, ep]
   ·subst hx';refine W.ck (by show _ ≤ (j : Int) + 1; omega) (by show (j : Int) + 1 ≤ _; omega) (ih (q - 1) _ (by omega) ⟨j + 1, by omega, by omega, ?_⟩);show (_, upN j ++ [(j : Int)], (j : Int) + 1, upN j ++ [(j : Int)]) = _;rw [← upN_succ, show ((j + 1 : Nat) : Int) = (j : Int) + 1 by omega]
  ·replace hge : ¬ (j : Int) < (L.length : Int) := hge;have : j = L.length := by omega
   subst this;rfl
 ·subst hx';unfold sewC;rw [cov_zip hl, show (cov (ovs c) L).length = L.length by simp [cov]]
end Go.Proofs.Ytomnkjcklkcnhaa

/- Plain law of TopSewing, part 24: the law. -/
namespace Go.Proofs.Ytomnkjcklkcnhaa
open K Go Go.Proofs

set_option maxRecDepth 100000 in
theorem awake100 : top_sewingAwake 100 = some true := by decide +kernel

theorem puts_ok {k : Nat} (hk : 50 ≤ k) {r3 : dCostume × dLots} {r6 : List Int × Int} {l : dLots} {m f : Int} (hL : r6.1.length ≤ 3) (hx : ∀ x ∈ r6.1, 0 ≤ x ∧ x < (r3.1.2.2.2.1.length : Int)) (hl : Lo l m) (hm : 0 ≤ m ∧ m ≤ 100000) (hf : 0 ≤ f ∧ f ≤ 9) :
 W (top_TopSewing_l1 k r3 r6 k (l.1, l.2.1, l.2.2, [], f, 0)) fun r => ∃ ps : List Int, r = .ok (ps, f + ps.sum) ∧ ps.length = r6.1.length ∧ ∀ p ∈ ps, 1 ≤ p ∧ p ≤ 4 := by
 refine W.loop (f := top_TopSewing_l1 k r3 r6) (fun q y => ∃ j : Nat, y.2.2.2.2.2 = (j : Int) ∧ j ≤ r6.1.length ∧ q = r6.1.length - j ∧ y.2.2.2.1.length = j ∧ (∀ p ∈ y.2.2.2.1, 1 ≤ p ∧ p ≤ 4) ∧ y.2.2.2.2.1 = f + y.2.2.2.1.sum ∧ y.2.2.2.1.sum ≤ 4 * j ∧ 0 ≤ y.2.2.2.1.sum ∧ Lo (y.1, y.2.1, y.2.2.1) (m + j)) ?_ r6.1.length k _ (by omega)
  ⟨0, rfl, by omega, by omega, rfl, fun p hp => by simp at hp, by simp, by simp, by simp, hl.mono (by omega)⟩
 rintro fuel q ⟨nums, d, t, ps, bars, i⟩ ⟨j, h1, h2, h3, h4, h5, h6, h7, h8, hlo⟩ ih;simp only at h1 h4 h5 h6 h7 h8 hlo;subst h1; subst h6;unfold top_TopSewing_l1;refine W.ite (fun hlt => ?_) (fun hge => W.ret ?_)
 ·replace hlt : (j : Int) < (r6.1.length : Int) := hlt;refine W.bind (R := fun x => x = false) ?_ fun x hx' => ?_
  ·refine W.at_ (by show (0 : Int) ≤ (j : Int); omega) hlt fun v hv => ?_;have hv' := hx v (List.mem_of_getElem? hv);refine W.ite (fun h => by omega) fun _ => W.at_ (by show (0 : Int) ≤ (j : Int); omega) hlt fun v' hv2 => W.ret ?_;rw [hv] at hv2;obtain rfl := Option.some.inj hv2;exact decide_eq_false (by omega)
  ·subst hx';rw [if_neg (by decide)];obtain ⟨r20, e20, a20, b20, c20⟩ := in_ok (k := k) (a := 1) (b := 4) hlo (by omega) (by decide) (by decide) (by decide);refine W.bindE e20 ?_;refine W.chk (okLen_of (by simp only [List.length_cons, List.length_nil]; omega)) ?_;refine W.at_ (by show (0 : Int) ≤ (j : Int); omega) (by show (j : Int) < (((ps ++ [r20.1]).length : Nat) : Int); rw [List.length_append, List.length_singleton]; omega) fun v hv => ?_
   have ev : v = r20.1 := by
    replace hv : (ps ++ [r20.1])[((j : Int)).toNat]? = some v := hv;rw [show ((j : Int)).toNat = ps.length by omega, List.getElem?_concat_length] at hv;exact (Option.some.inj hv).symm
   subst ev;refine W.ck (by show _ ≤ f + ps.sum + r20.1; omega) (by show f + ps.sum + r20.1 ≤ _; omega) ?_;refine W.ck (by show _ ≤ (j : Int) + 1; omega) (by show (j : Int) + 1 ≤ _; omega) ?_;have hsum : (ps ++ [r20.1]).sum = ps.sum + r20.1 := by simp
   refine ih (q - 1) _ (by omega) ⟨j + 1, ?_, by omega, by omega, ?_, fun p hp => ?_, ?_, ?_, ?_, ?_⟩
   ·show (j : Int) + 1 = _; omega
   ·show (ps ++ [r20.1]).length = _; simp; omega
   ·rcases mem_snoc hp with h | rfl
    ·exact h5 p h
    ·omega
   ·show f + ps.sum + r20.1 = f + (ps ++ [r20.1]).sum; rw [hsum]; omega
   ·show (ps ++ [r20.1]).sum ≤ _; rw [hsum]; omega
   ·show 0 ≤ (ps ++ [r20.1]).sum; rw [hsum]; omega
   ·exact c20.mono (by omega)
 ·replace hge : ¬ (j : Int) < (r6.1.length : Int) := hge;exact ⟨ps, rfl, by show ps.length = _; omega, h5⟩

theorem match_ok {k : Nat} (hk : 50 ≤ k) {r6 r7 : List Int × Int} {r27 : (List dBetween) × Int × Int} (hp : ∀ s ∈ r27.1, 0 ≤ s.1 ∧ s.1 < (r6.1.length : Int)) (he : r27.1.map (fun s => r6.1.getD s.1.toNat 0) = r7.1) (h3 : r27.1.length ≤ 3) :
 W (top_TopSewing_l2 k r6 r7 r27 k 0) fun r => r = .ok () := by
 refine W.loop (f := top_TopSewing_l2 k r6 r7 r27) (fun q y => ∃ j : Nat, y = (j : Int) ∧ j ≤ r27.1.length ∧ q = r27.1.length - j) ?_ r27.1.length k _ (by omega) ⟨0, rfl, by omega, by omega⟩;rintro fuel q y ⟨j, rfl, h2, h3'⟩ ih;unfold top_TopSewing_l2;refine W.ite (fun hlt => ?_) (fun hge => W.ret rfl);refine W.bind (R := fun x => x = false) ?_ fun x hx' => ?_
 ·refine W.at_ (by omega) hlt fun s hs => ?_;have hs' := hp s (List.mem_of_getElem? hs);refine W.ite (fun h => by omega) fun _ => W.at_ (by omega) hlt fun s2 hs2 => ?_;rw [hs] at hs2;obtain rfl := Option.some.inj hs2;refine W.ite (fun h => by omega) fun _ => W.at_ (by omega) hlt fun s3 hs3 => ?_;rw [hs] at hs3;obtain rfl := Option.some.inj hs3;refine W.at_ hs'.1 hs'.2 fun v hv => ?_;have hlen : r7.1.length = r27.1.length := by rw [← he, List.length_map]
  refine W.at_ (by omega) (by omega) fun w hw => W.ret ?_
  have : w = v := by
   rw [← he, List.getElem?_map, hs] at hw;have h : r6.1.getD s.1.toNat 0 = w := Option.some.inj hw;rw [← h, List.getD_eq_getElem?_getD, hv]; rfl
  subst this;simp
 ·subst hx';rw [if_neg (by decide)];exact W.ck (by omega) (by omega) (ih (q - 1) _ (by omega) ⟨j + 1, by omega, by omega, by omega⟩)

theorem sewing_law {k : Nat} (hk : k = 100) (a0 : List Int) : top_TopSewing k a0 = some true := by
 suffices h : W (top_TopSewing k a0) fun r => r = true by
  obtain ⟨r, e, rfl⟩ := h; exact e
 have hk5 : 50 ≤ k := by omega
 have hawake : top_sewingAwake k = some true := by rw [hk]; exact awake100
 unfold top_TopSewing;refine W.bindE (a := (a0, 0, 1)) rfl ?_;refine W.bind (costume_ok hk5 (l := (a0, 0, 1)) (m := 0) newLots_ok (by decide)) fun r3 ⟨lo3, up, g, n, hG⟩ => ?_;have h3 := hG.n3;have hnl := hG.seams.len;refine W.bind (setting_ok hk5 (c := r3.1) (l := (r3.2.1, r3.2.2.1, r3.2.2.2)) h3 hG.seams lo3 (by decide)) fun r5 ⟨lo5, hS⟩ => ?_;obtain ⟨hso, hpat, hbs, hn3⟩ := sewn_order hk hG hS
 have fin : ∀ r6 r7 : List Int × Int, r6.2 = r7.2 → r6.2 = 0 ∨ r6.2 = 12 → r7.1.length = r6.1.length → r6.1.length ≤ r3.1.2.2.2.1.length →
  (((if ¬ (r6.2 = r7.2) then (some true) else (if ¬ (r6.2 = (0 : Int)) then (if ¬ (r6.2 = (12 : Int)) then (some true) else (if ¬ ((r7.1.length : Int) = (r6.1.length : Int)) then (some true) else (some (decide ((r3.1.2.2.2.1.length : Int) < (r6.1.length : Int)))))) else (if ¬ ((r7.1.length : Int) = (r6.1.length : Int)) then (some true) else (some (decide ((r3.1.2.2.2.1.length : Int) < (r6.1.length : Int))))))) : Option (Bool)) = some false) := by
  intro r6 r7 h1 h2 h4 h5;rw [if_neg (fun h => h h1), if_neg (fun h : ¬ ((r7.1.length : Int) = (r6.1.length : Int)) => h (by omega)), decide_eq_false (by omega)];rcases h2 with h2 | h2
  ·rw [if_neg (fun h => h h2)]
  ·rw [if_pos (by omega), if_neg (fun h => h h2)]
 rcases hso with ⟨e6, e7⟩ | ⟨e6, e7⟩
 ·refine W.bindE e6 (W.bindE e7 ?_);refine W.bindE (fin ([], 12) ([], 12) rfl (.inr rfl) rfl (Nat.zero_le _)) ?_;rw [if_neg (by decide)];exact W.ite (fun _ => W.bindE hawake (W.ret rfl)) fun h => absurd rfl h
 ·refine W.bindE e6 (W.bindE e7 ?_);obtain ⟨f1, f2, f3, f4⟩ := lst_fin up _ hn3 _ hpat _ hbs;obtain ⟨f5, f6⟩ := ord_fin up _ hn3 _ hpat _ hbs;have f3' : (tchd r3.1 r5.1).length ≤ r3.1.2.2.2.1.length := f3;have f4' : ∀ x ∈ tchd r3.1 r5.1, 0 ≤ x ∧ x < (r3.1.2.2.2.1.length : Int) := f4;have f6' : (ord (ovs r3.1) (dif r5.1 r3.1.2.2.2.2)).length = (tchd r3.1 r5.1).length := f6;have hfirst := first_fin up _ hn3 _ hpat _ hbs;replace hfirst : tchd r3.1 r5.1 ≠ [] → cov (ovs r3.1) (tchd r3.1 r5.1) ∈ pats up (tchd r3.1 r5.1).length ∧ ((plP (cov (ovs r3.1) (tchd r3.1 r5.1))).headD []).map (fun s => (tchd r3.1 r5.1).getD s.1.toNat 0) = ord (ovs r3.1) (dif r5.1 r3.1.2.2.2.2) := hfirst;revert f3' f4' f6' hfirst;generalize tchd r3.1 r5.1 = L;generalize ord (ovs r3.1) (dif r5.1 r3.1.2.2.2.2) = O;intro f3' f4' f6' hfirst;refine W.bindE (fin (L, 0) (O, 0) rfl (.inl rfl) f6' f3') ?_;rw [if_neg (by decide)];refine W.ite (fun _ => W.bindE hawake (W.ret rfl)) fun hne => ?_;have hne' : L ≠ [] := fun e => hne (by subst e; rfl);obtain ⟨hcov, hord⟩ := hfirst hne';obtain ⟨r11, e11, a11, b11, c11⟩ := upto_ok (k := k) (n := 9) (l := (r5.2.1, r5.2.2.1, r5.2.2.2)) lo5 (by omega) (by decide);replace b11 := b11 (by decide);refine W.bindE e11 ?_;obtain ⟨r12, e12, ps, rfl, hpl, hps⟩ := puts_ok hk5 (r3 := r3) (r6 := (L, 0)) (l := (r11.2.1, r11.2.2.1, r11.2.2.2)) (f := r11.1) (by show L.length ≤ 3; omega) f4' c11 (by omega) ⟨a11, b11⟩;rw [e12];show W ((top_sewingOf k r3.1 L ps r11.1).bind _) _
  have hov : ∀ s ∈ r3.1.2.2.2.1, s.2.2.2.1.length ≤ 3 := fun s hs => by
   obtain ⟨j, hj⟩ := List.mem_iff_getElem?.1 hs;have := (hG.seams.good j s hj).over.1.len (by omega);omega
  obtain ⟨r26, e26, rfl⟩ := sewingOf_ok hk5 (c := r3.1) (L := L) (ps := ps) (f := r11.1) (by omega) f4' hov hpl;refine W.bindE e26 ?_
  have hL3 : L.length ∈ [1, 2, 3] := by
   have : 0 < L.length := List.length_pos_iff.2 hne';have : L.length = 1 ∨ L.length = 2 ∨ L.length = 3 := by omega
   rcases this with e | e | e <;> rw [e] <;> decide
  have hSC : SC up L.length (cov (ovs r3.1) L) ps r11.1 := ⟨hL3, hcov, hpl, hps, a11, b11⟩;refine W.bindE (sew_fewest hk5 hSC) ?_;obtain ⟨hpne, hpl2⟩ := plans_fin up _ hL3 _ hcov
  have hmem : (plP (cov (ovs r3.1) L)).headD [] ∈ plP (cov (ovs r3.1) L) := by
   revert hpne;cases plP (cov (ovs r3.1) L) with
   | nil => intro h; exact absurd rfl h
   | cons x l => intro _; exact List.mem_cons_self ..
  have hperm := List.isPerm_iff.1 (hpl2 _ hmem).1;revert hord hperm;generalize (plP (cov (ovs r3.1) L)).headD [] = p;intro hord hperm;have hpO : p.length = O.length := by rw [← hord, List.length_map]
  refine W.bindE (a := false) ?_ ?_
  ·show (if ¬ ((0 : Int) = 0) then some true else if ¬ (r11.1 + ps.sum = r11.1 + ps.sum) then some true else some (!decide ((p.length : Int) = (O.length : Int)))) = some false;rw [if_neg (fun h => h rfl), if_neg (fun h => h rfl), decide_eq_true (by omega)]; rfl
  ·rw [if_neg (by decide)];obtain ⟨r, er, rfl⟩ := match_ok hk5 (r6 := (L, 0)) (r7 := (O, 0)) (r27 := (p, r11.1 + ps.sum, 0)) (fun s hs => mem_upN.1 (hperm.mem_iff.1 (List.mem_map_of_mem hs))) hord (by show p.length ≤ 3; omega);rw [er];exact W.bindE hawake (W.ret rfl)
end Go.Proofs.Ytomnkjcklkcnhaa
