/- The program's functions, part 2: what each computes, and that the code computes it. Printed by a program of this proof's own. -/
import Derived.Test.YtomnkjcklkcnhaaP1
set_option linter.unusedVariables false
set_option maxRecDepth 4000
namespace Go.Proofs.Ytomnkjcklkcnhaa
open K Go Go.Proofs
def chg_quick_plans_1 {σ : Type} (k : Nat) (Y : σ → (List dBetween) → Option (σ × Bool)) (a1 : (dChange × (List (Bool × Int)) × (List Int))) (s0 : σ) : Option (σ) :=
 (chg_quick_plans_1_1 k Y ((a1.1.1, a1.1.2.1, a1.1.2.2.1, a1.1.2.2.2), a1.2.1, a1.2.2) k (0 : Int) ([] : (List dBetween)) s0).bind fun r4 =>
 some r4.2.2

theorem chg_quick_plans_1_ok {σ Z : Type} (E : Z → σ → List D) (l : Nat) (Y : σ → (List dBetween) → Option (σ × Bool)) (k : Nat) (a1 : (dChange × (List (Bool × Int)) × (List Int))) (b_a1 : Nat) (m_a1 : Value) (c_a1 : Nat) (hY : ∀ z s p r, Y s p = some r → YT Try.prog l [Rs tBetween p] ([.obj b_a1 102 (Qq a1 (.eq m_a1))] ++ E z s) (fun z' : Z => (.eq (.bool r.2), [.obj b_a1 102 (Qq a1 (.eq m_a1))] ++ E z' r.1))) :
 ∀ (z0 : Z) (s0 : σ) (r : σ), chg_quick_plans_1 k Y a1 s0 = some r → Ctr Try.prog 40 [.eq (.func (.yield l) #[] #[]), Pt c_a1] ([.obj c_a1 72 (Pt b_a1), .obj b_a1 102 (Qq a1 (.eq m_a1))] ++ E z0 s0) (fun z : Z => (resA [], [.obj c_a1 72 (Pt b_a1), .obj b_a1 102 (Qq a1 (.eq m_a1))] ++ E z r)) := by
 intro z0 s0 r h;unfold chg_quick_plans_1 at h;replace h := b_top h;refine Ctr.of 8 Try.func40 rfl Try.ntmps40 rfl fun S w0 => ?_;refine sr (bx fun b1 => ?_);refine nt (sr (JO.s01 rfl rfl rfl (o_alloc rfl za37 al37) trivial fun b2 => ?_));refine nt (sr (JO.s01 rfl rfl rfl (o_alloc rfl za108 al108) trivial fun b3 => ?_));refine nt (sr (JO.s rfl (o_mkfn [] [.tmp 3, .tmp 1, .tmp 2, .tmp 4] [] [(Pv b2), (Pv c_a1), (Pv b1), (Pv b3)] rfl rfl rfl) ⟨rfl, rfl, rfl, rfl, trivial⟩ ?_));refine JO.n11 rfl rfl (o_store rfl sz108 rfl rfl rfl) ⟨rfl, rfl, trivial⟩ ?_;refine nt (JC.region (lo sz108 ?_));refine JO.se (SE.nil 46 tBetween) ?_;obtain ⟨r4, er4, h⟩ := b_bind h;refine fr 5 ?_;refine fr 2 ?_;refine fr 4 ?_;refine fr 5 ?_;refine fr 5 ?_;refine fr 5 ?_;refine JO.stepA rfl rfl rfl (o_callv (fs := []) (cs := [(Pv b2), (Pv c_a1), (Pv b1), (Pv b3)]) (ags := [.eq (.int .u8 (0 : Int))]) [.const (.int .u8 (0))] rfl rfl en41 rfl (chg_quick_plans_1_1_ok E l Y k b2 ((a1.1.1, a1.1.2.1, a1.1.2.2.1, a1.1.2.2.2), a1.2.1, a1.2.2) b_a1 m_a1 c_a1 b1 b3 hY k (0 : Int) ([] : (List dBetween)) (.slice none 0 0) z0 s0 r4 er4)) ⟨rfl, rfl, trivial⟩ fun z5 => ?_;refine JO.nil (JN.end_n ?_);refine JN.se (SE.finT (Γ' := []) [.sl z5.1 46 tBetween r4.2.1, .obj b2 37 (.eq z5.1), .obj c_a1 72 (Pt b_a1), .obj b1 107 (.eq (.func (.yield l) #[] #[])), .obj b3 108 (.eq (.func (.func 41) #[] #[(Pv b2), (Pv c_a1), (Pv b1), (Pv b3)])), .obj b_a1 102 (Qq a1 (.eq m_a1))] (E z5.2 r4.2.2) [2, 5] trivial rfl) ?_;cases h;exact JN.retA z5.2 [] trivial rfl



theorem chg_quick_plans_ok (b : Nat) : Ctr Try.prog 28 [Pt b] [] (fun z : Nat => (resA [.eq (.func (.func 40) #[] #[(Pv z)])], [.obj z 72 (Pt b)])) := by
 refine Ctr.of 4 Try.func28 rfl Try.ntmps28 rfl fun S w0 => ?_;refine sr (bx fun z => ?_);refine cq (nt (sr ?_));refine ja (o_mkfn [] [.tmp 1] [] [(Pv z)] rfl rfl rfl) ?_;refine aq (nt (JC.ret ?_));exact JN.ret z [_] 1 ⟨rfl, trivial⟩ rfl


def chg_keyOf_l1 (k : Nat) : Nat → ((List dBetween) × Int) → Option (List dBetween)
 | 0, _ => none
 | n + 1, y5 =>
  if y5.2 < (4 : Int) then ((chkP (0 ≤ y5.2 ∧ y5.2 < 4)).bind fun _ =>
  (ck (y5.2 + (1 : Int))).bind fun x8 =>
  chg_keyOf_l1 k n (List.set y5.1 (Int.toNat y5.2) ((-1 : Int), (-1 : Int)), x8)) else (some y5.1)
def chg_keyOf (k : Nat) (a0 : (List dBetween)) : Option (List dBetween) :=
 ((chg_keyOf_l1 k k ([((0 : Int), (0 : Int)), ((0 : Int), (0 : Int)), ((0 : Int), (0 : Int)), ((0 : Int), (0 : Int))], (0 : Int))) : Option ((List dBetween))).bind fun x3 =>
 some (List.take 4 a0 ++ List.drop (List.length a0) x3)

theorem chg_keyOf_ok (k : Nat) (a0 : (List dBetween)) (r : (List dBetween)) (h : chg_keyOf k a0 = some r) :
 Ctr Try.prog 45 [Rs tBetween a0] [] (fun _ : Unit => (resA [.rep (.arr 4 tBetween) r], [])) := by
 unfold chg_keyOf at h;replace h := b_top h;refine Ctr.of 16 Try.func45 rfl Try.ntmps45 rfl fun S w0 => ?_;refine sr (JO.s01 rfl rfl rfl (o_alloc rfl za114 al114) trivial fun b1 => ?_);refine nt (sr (JO.s01 rfl rfl rfl (o_alloc rfl za114 al114) trivial fun b2 => ?_));refine nt (JC.cutB (Z := Unit) (α := (List dBetween)) (fun z4 x3 => [(0, Rs tBetween a0), (2, Pt b1), (3, Pt b2)]) (fun z4 x3 => [.obj b1 114 (.rep (.arr 4 tBetween) [((0 : Int), (0 : Int)), ((0 : Int), (0 : Int)), ((0 : Int), (0 : Int)), ((0 : Int), (0 : Int))]), .obj b2 114 (.rep (.arr 4 tBetween) x3)]) h (fun K h => ?_) (fun z4 x3 h => ?_))
 ·refine sr (JO.mc rfl ?_);refine nt (JC.block (JC.loopB (Z := Unit) (α := (List dBetween) × Int) (fun z6 y5 => [(0, Rs tBetween a0), (2, Pt b1), (3, Pt b2), (5, I y5.2)]) (fun z6 y5 => [.obj b1 114 (.rep (.arr 4 tBetween) [((0 : Int), (0 : Int)), ((0 : Int), (0 : Int)), ((0 : Int), (0 : Int)), ((0 : Int), (0 : Int))]), .obj b2 114 (.rep (.arr 4 tBetween) y5.1)]) (chg_keyOf_l1 k) k () ([((0 : Int), (0 : Int)), ((0 : Int), (0 : Int)), ((0 : Int), (0 : Int)), ((0 : Int), (0 : Int))], (0 : Int)) (fun _ => rfl) h (SE.fin [1, 0] ⟨rfl, rfl, rfl, rfl, trivial⟩ rfl) (fun n z6 y5 h => ?_)));unfold chg_keyOf_l1 at h;refine sr (jb (o_lss rfl) ?_);refine nt (JC.seq (ci h (fun h => ?_) (fun h => ?_)))
  ·refine sk (JC.seq (JC.block (sr (mq ?_))));refine aq (nt (JC.region ?_));refine mq ?_;refine jb (o_buildT [(0, .const (.int .i64 (-1)), _), (1, .const (.int .i64 (-1)), _)] rfl pl46 za46 alb46 (stors ⟨rfl, rfl, trivial⟩) rfl) ?_;obtain ⟨u7, eu7, h⟩ := b_bind h;refine jb (o_index_arr rfl U114 sz46 (chkP_some eu7).1 (chkP_some eu7).2) ?_;refine fr 1 ?_;refine JO.n11 rfl rfl (o_store_arr (t := tBetween) (off := 0) (i := y5.2) (N := 4) rfl sz46 (.agg (.pair .int .int)) trivial rfl rfl rfl (chkP_some eu7).1 (chkP_some eu7).2 rfl) ⟨rfl, rfl, trivial⟩ ?_;refine JO.nil (JN.blk_n (tn (JC.region ?_)));obtain ⟨x8, ex8, h⟩ := b_bind h;refine jb (o_add rfl ex8) ?_;refine mq (nl ?_);exact jz ((), (List.set y5.1 (Int.toNat y5.2) ((-1 : Int), (-1 : Int)), x8)) h [1, 0]
  ·refine xa ?_;exact jz ((), y5.1) h [0, 1]
 ·refine sr (ja (o_slice_arr rfl U114 sz46) ?_);refine mq ?_;refine fr 1 ?_;refine kb (o_copy_arr rfl rfl U37 sz46) ?_;refine nt (sr (lo sz114 ?_));refine fr 1 ?_;refine JO.n11 rfl rfl (o_store rfl sz114 rfl rfl rfl) ⟨rfl, rfl, trivial⟩ ?_;refine nt (JC.ret ?_);cases h;exact JN.ret () [.rep (.arr 4 tBetween) (List.take 4 a0 ++ List.drop (List.length a0) x3)] 0 ⟨⟨_, _, _, _, _, rfl, (.head _), sz114, (nfn), rfl⟩, trivial⟩ rfl


def chg_quick_bars (k : Nat) (a0 : (dChange × (List (Bool × Int)) × (List Int))) (a1 : (Bool × Int)) : Option Int :=
 (cond a1.1 (chg_on_thing k a1.2) (chg_off_thing k a1.2)).bind fun r1 =>
 (geti a0.1.1 r1).bind fun x2 =>
 if a1.1 = true then (some x2.2.2.1) else (some x2.2.1)

theorem chg_quick_bars_ok (k : Nat) (a0 : (dChange × (List (Bool × Int)) × (List Int))) (b_a0 : Nat) (m_a0 : Value) (a1 : (Bool × Int)) (r : Int) (h : chg_quick_bars k a0 a1 = some r) :
 Ctr Try.prog 60 [Pt b_a0, .rep (.tag 105 106) a1] [.obj b_a0 102 (Qq a0 (.eq m_a0))] (fun _ : Unit => (resA [I r], [.obj b_a0 102 (Qq a0 (.eq m_a0))])) := by
 unfold chg_quick_bars at h;replace h := b_top h;refine Ctr.of 27 Try.func60 rfl Try.ntmps60 rfl fun S w0 => ?_;refine sr (cq (nt (JC.seq ?_)));refine JC.drawW ?_;refine DW.t00 rfl rfl rfl (o_move rfl) ⟨rfl, trivial⟩ ?_;refine DW.t00 rfl rfl rfl (o_nil_obj rfl) ⟨rfl, trivial⟩ ?_;refine DW.t00 rfl rfl rfl (o_field_obj rfl fo102_0) ⟨rfl, trivial⟩ ?_;refine DW.t00 rfl rfl rfl (o_field_obj rfl fo43_0) ⟨rfl, trivial⟩ ?_;refine DW.t11 0 rfl rfl rfl rfl (o_load_obj rfl sz40 nfs rfl) ⟨rfl, trivial⟩ ?_;refine DW.t00 rfl rfl rfl (o_move rfl) ⟨rfl, trivial⟩ ?_;obtain ⟨r1, er1, h⟩ := b_bind h;refine DW.t00 rfl rfl rfl (o_invoke rfl rfl mt105_thing mt106_thing (ctr_cond (fun hb => chg_off_thing_ok k a1.2 r1 (by simpa [hb] using er1)) (fun hb => chg_on_thing_ok k a1.2 r1 (by simpa [hb] using er1)))) ⟨rfl, trivial⟩ ?_;obtain ⟨x2, ex2, h⟩ := b_bind h;refine DW.t00 rfl rfl rfl (o_index (t := tThing) rfl U40 sz84 ex2) ⟨rfl, rfl, trivial⟩ ?_;refine DW.t00 rfl rfl rfl (o_load_at (t := tThing) rfl sz84 rfl) ⟨rfl, trivial⟩ ?_;refine DW.tNew (ptrD 84 (.agg (.pair (.eq (.slice none 0 0)) (.pair (I (0 : Int)) (.pair (I (0 : Int)) (.pair (I (0 : Int)) (I (0 : Int)))))))) (fun _ => rfl) rfl rfl rfl (o_alloc rfl za84 al84) trivial ?_;refine DW.fin 10 [true, true, true, true, true, true, true, true, true, true] [] [] [] rfl (by kernel_rfl) (by kernel_rfl) (by kernel_rfl) mixed (fun vs hv hB => ?_);obtain ⟨w0, vs1, rfl, hv1⟩ := len_cons hv;obtain ⟨w1, vs2, rfl, hv2⟩ := len_cons hv1;obtain ⟨w2, vs3, rfl, hv3⟩ := len_cons hv2;obtain ⟨w3, vs4, rfl, hv4⟩ := len_cons hv3;obtain ⟨w4, vs5, rfl, hv5⟩ := len_cons hv4;obtain ⟨w5, vs6, rfl, hv6⟩ := len_cons hv5;obtain ⟨w6, vs7, rfl, hv7⟩ := len_cons hv6;obtain ⟨w7, vs8, rfl, hv8⟩ := len_cons hv7;obtain ⟨w8, vs9, rfl, hv9⟩ := len_cons hv8;obtain ⟨w9, vs10, rfl, hv10⟩ := len_cons hv9;obtain rfl := len_nil hv10;obtain ⟨b3, rfl⟩ := ptr_of hB.2.2.2.2.2.2.2.2.2.1;refine ⟨[0, 1], [.obj b_a0 102 (Qq a0 (.eq m_a0)), .obj b3 84 (.agg (.pair (.eq (.slice none 0 0)) (.pair (I (0 : Int)) (.pair (I (0 : Int)) (.pair (I (0 : Int)) (I (0 : Int)))))))], by kernel_rfl, by decide, ?_⟩;refine JT.front 1 rfl ?_;refine JT.n11 rfl rfl (o_store rfl sz84 rfl rfl rfl) ⟨rfl, rfl, trivial⟩ (by kernel_rfl) ?_;refine JT.nil ?_;refine JN.se (SE.fin (Γ' := [(1, .rep (.tag 105 106) a1), (5, Pt b3)]) (Δ' := [.obj b3 84 (.rep tThing x2), .obj b_a0 102 (Qq a0 (.eq m_a0))]) [0, 1] ⟨rfl, rfl, trivial⟩ rfl) ?_;refine tn (JC.seq (sr (mq ?_)));refine JO.s rfl (o_as1 rfl ta106 (by decide)) ⟨rfl, trivial⟩ ?_;refine mq ?_;refine xr ?_;refine xr ?_;refine aq ?_;refine aq (nt (sr ?_));refine mq (nt ?_);refine cv h (fun h => ?_) (fun h => ?_)
 ·refine sr (fl fo84_2 ?_);refine lo sz3 ?_;refine aq (nt (rx ?_));refine JN.se (SE.fin (Γ' := [(4, _)]) [1, 0] ⟨rfl, trivial⟩ rfl) ?_;cases h;exact JN.ret () [_] 1 ⟨rfl, trivial⟩ rfl
 ·refine sk (sr (fl fo84_1 ?_));refine lo sz3 ?_;refine aq (nt (JC.ret ?_));refine JN.se (SE.fin (Γ' := [(4, _)]) [1, 0] ⟨rfl, trivial⟩ rfl) ?_;cases h;exact JN.ret () [_] 1 ⟨rfl, trivial⟩ rfl


def chg_quick_begins_l1 (k : Nat) (a0 : (dChange × (List (Bool × Int)) × (List Int))) : Nat → ((List Int) × Int) → Option (List Int)
 | 0, _ => none
 | n + 1, y6 =>
  if y6.2 < (a0.1.2.1.length : Int) then ((geti a0.1.2.1 y6.2).bind fun x8 =>
  (chkP (0 ≤ y6.2 ∧ y6.2 < 3)).bind fun _ =>
  (ck (y6.2 + (1 : Int))).bind fun x11 =>
  chg_quick_begins_l1 k a0 n (List.set y6.1 (Int.toNat y6.2) x8.2.2, x11)) else (some y6.1)

def chg_quick_begins_l3 (k : Nat) (y14 : (List Int) × (List Int) × (List Int) × Int) (r26 : (List Int)) : Nat → (Int × Int) → Option Int
 | 0, _ => none
 | n + 1, y27 =>
  if y27.2 < (r26.length : Int) then ((geti r26 y27.2).bind fun x29 =>
  (chkP (0 ≤ x29 ∧ x29 < 4)).bind fun _ =>
  (geti y14.2.1 x29).bind fun x31 =>
  (ck (y27.2 + (1 : Int))).bind fun x32 =>
  chg_quick_begins_l3 k y14 r26 n (imax y27.1 x31, x32)) else (some y27.1)

def chg_quick_begins_l2 (k : Nat) (a0 : (dChange × (List (Bool × Int)) × (List Int))) (a1 : (List dBetween)) : Nat → ((List Int) × (List Int) × (List Int) × Int) → Option ((List Int) × (List Int))
 | 0, _ => none
 | n + 1, y14 =>
  if y14.2.2.2 < (a1.length : Int) then ((((geti a1 y14.2.2.2).bind fun x18 =>
  (chkP (0 ≤ x18.2 ∧ x18.2 < 3)).bind fun _ =>
  (geti y14.2.2.1 x18.2).bind fun x21 =>
  (((chkP (0 ≤ x18.1 ∧ x18.1 < 8)).bind fun _ =>
  (geti a0.2.2 x18.1).bind fun x25 =>
  (chg_set_list k x25).bind fun r26 =>
  chg_quick_begins_l3 k y14 r26 k (x21, (0 : Int))) : Option (Int)).bind fun x22 =>
  (geti a0.2.1 x18.1).bind fun x33 =>
  (chg_quick_bars k ((a0.1.1, a0.1.2.1, a0.1.2.2.1, a0.1.2.2.2), a0.2.1, a0.2.2) x33).bind fun r34 =>
  (ck (x22 + r34)).bind fun x35 =>
  (chkP (okLen (List.length y14.1 + List.length [x22]))).bind fun _ =>
  (chkP (0 ≤ x18.1 ∧ x18.1 < 4)).bind fun _ =>
  (chkP (0 ≤ x18.2 ∧ x18.2 < 3)).bind fun _ =>
  some (y14.1 ++ [x22], List.set y14.2.1 (Int.toNat x18.1) x35, List.set y14.2.2.1 (Int.toNat x18.2) x35)) : Option ((List Int) × (List Int) × (List Int))).bind fun x16 =>
  (ck (y14.2.2.2 + (1 : Int))).bind fun x40 =>
  chg_quick_begins_l2 k a0 a1 n (x16.1, x16.2.1, x16.2.2, x40)) else (some (y14.1, y14.2.1))
def chg_quick_begins (k : Nat) (a0 : (dChange × (List (Bool × Int)) × (List Int))) (a1 : (List dBetween)) : Option ((List Int) × (List Int)) :=
 ((chg_quick_begins_l1 k a0 k ([(0 : Int), (0 : Int), (0 : Int)], (0 : Int))) : Option ((List Int))).bind fun x4 =>
 ((chg_quick_begins_l2 k a0 a1 k (([] : (List Int)), [(0 : Int), (0 : Int), (0 : Int), (0 : Int)], x4, (0 : Int))) : Option ((List Int) × (List Int))).bind fun x12 =>
 some (x12.1, x12.2)

theorem chg_quick_begins_ok (k : Nat) (a0 : (dChange × (List (Bool × Int)) × (List Int))) (b_a0 : Nat) (m_a0 : Value) (a1 : (List dBetween)) (r : (List Int) × (List Int)) (h : chg_quick_begins k a0 a1 = some r) :
 Ctr Try.prog 46 [Pt b_a0, Rs tBetween a1] [.obj b_a0 102 (Qq a0 (.eq m_a0))] (fun _ : Unit => (resA [Ri r.1, .rep (.arr 4 (.int .i64)) r.2], [.obj b_a0 102 (Qq a0 (.eq m_a0))])) := by
 unfold chg_quick_begins at h;replace h := b_top h;refine Ctr.of 89 Try.func46 rfl Try.ntmps46 rfl fun S w0 => ?_;refine sr (cq ?_);refine JO.s01 rfl rfl rfl (o_alloc rfl za117 al117) trivial fun b1 => ?_;refine nt (sr (cq (nt (sr ?_))));refine JO.s01 rfl rfl rfl (o_alloc rfl za117 al117) trivial fun b2 => ?_;refine nt (sr (JO.s01 rfl rfl rfl (o_alloc rfl za135 al135) trivial fun b3 => ?_));refine nt (JC.cutB (Z := Unit) (α := (List Int)) (fun z5 x4 => [(0, Pt b_a0), (1, Rs tBetween a1), (5, Pt b1), (6, .eq (.slice none 0 0)), (7, Pt b2), (8, Pt b3)]) (fun z5 x4 => [.obj b_a0 102 (Qq a0 (.eq m_a0)), .obj b1 117 (.rep (.arr 4 (.int .i64)) [(0 : Int), (0 : Int), (0 : Int), (0 : Int)]), .obj b2 117 (.rep (.arr 4 (.int .i64)) [(0 : Int), (0 : Int), (0 : Int), (0 : Int)]), .obj b3 135 (.rep (.arr 3 (.int .i64)) x4)]) h (fun K h => ?_) (fun z5 x4 h => ?_))
 ·refine sr (mq ?_);refine ja (o_nil_obj rfl) ?_;refine fl fo102_0 ?_;refine fl fo43_1 ?_;refine fr 3 ?_;refine lo sz41 ?_;refine ol U41 ?_;refine JO.mc rfl ?_;refine nt (JC.block (JC.loopB (Z := Unit) (α := (List Int) × Int) (fun z7 y6 => [(0, Pt b_a0), (1, Rs tBetween a1), (5, Pt b1), (6, .eq (.slice none 0 0)), (7, Pt b2), (8, Pt b3), (21, Rs tDresser a0.1.2.1), (22, I (a0.1.2.1.length : Int)), (23, I y6.2)]) (fun z7 y6 => [.obj b_a0 102 (Qq a0 (.eq m_a0)), .obj b1 117 (.rep (.arr 4 (.int .i64)) [(0 : Int), (0 : Int), (0 : Int), (0 : Int)]), .obj b2 117 (.rep (.arr 4 (.int .i64)) [(0 : Int), (0 : Int), (0 : Int), (0 : Int)]), .obj b3 135 (.rep (.arr 3 (.int .i64)) y6.1)]) (chg_quick_begins_l1 k a0) k () ([(0 : Int), (0 : Int), (0 : Int)], (0 : Int)) (fun _ => rfl) h (SE.fin [0, 3, 2, 1] ⟨rfl, rfl, rfl, rfl, rfl, rfl, rfl, rfl, rfl, trivial⟩ rfl) (fun n z7 y6 h => ?_)));unfold chg_quick_begins_l1 at h;refine sr (jb (o_lss rfl) ?_);refine nt (JC.seq (ci h (fun h => ?_) (fun h => ?_)))
  ·refine sk (JC.seq (JC.block (sr (mq ?_))));obtain ⟨x8, ex8, h⟩ := b_bind h;refine jb (o_index (t := tDresser) rfl U41 sz82 ex8) ?_;refine ja (o_load_at (t := tDresser) rfl sz82 rfl) ?_;refine JO.s01 rfl rfl rfl (o_alloc rfl za82 al82) trivial fun b9 => ?_;refine aq ?_;refine JO.n11 rfl rfl (o_store rfl sz82 rfl rfl rfl) ⟨rfl, rfl, trivial⟩ ?_;refine nt (JC.region (mq ?_));refine fl fo82_2 ?_;refine lo sz3 ?_;obtain ⟨u10, eu10, h⟩ := b_bind h;refine jb (o_index_arr rfl U135 sz3 (chkP_some eu10).1 (chkP_some eu10).2) ?_;refine fr 4 ?_;refine JO.n11 rfl rfl (o_store_arr (t := (.int .i64)) (off := 0) (i := y6.2) (N := 3) rfl sz3 .int rfl rfl rfl rfl (chkP_some eu10).1 (chkP_some eu10).2 rfl) ⟨rfl, rfl, trivial⟩ ?_;refine JO.nil (JN.blk_n (tn (JC.region ?_)));obtain ⟨x11, ex11, h⟩ := b_bind h;refine jb (o_add rfl ex11) ?_;refine mq (nl ?_);exact jz ((), (List.set y6.1 (Int.toNat y6.2) x8.2.2, x11)) h [2, 3, 4, 0]
  ·refine xa ?_;exact jz ((), y6.1) h [0, 1, 2, 3]
 ·refine JC.cutB (Z := Value) (α := (List Int) × (List Int)) (fun z13 x12 => [(5, Pt b1), (6, .eq z13), (7, Pt b2)]) (fun z13 x12 => [.obj b1 117 (.rep (.arr 4 (.int .i64)) [(0 : Int), (0 : Int), (0 : Int), (0 : Int)]), .sl z13 3 (.int .i64) x12.1, .obj b2 117 (.rep (.arr 4 (.int .i64)) x12.2), .obj b_a0 102 (Qq a0 (.eq m_a0))]) h (fun K h => ?_) (fun z13 x12 h => ?_)
  ·refine sr (mq ?_);refine ol U37 ?_;refine JO.mc rfl ?_;refine nt (JC.block (JC.se (SE.nil 3 (.int .i64)) ?_));refine JC.loopB (Z := Value) (α := (List Int) × (List Int) × (List Int) × Int) (fun z15 y14 => [(0, Pt b_a0), (5, Pt b1), (6, .eq z15), (7, Pt b2), (8, Pt b3), (33, Rs tBetween a1), (34, I (a1.length : Int)), (35, I y14.2.2.2)]) (fun z15 y14 => [.obj b_a0 102 (Qq a0 (.eq m_a0)), .obj b1 117 (.rep (.arr 4 (.int .i64)) [(0 : Int), (0 : Int), (0 : Int), (0 : Int)]), .sl z15 3 (.int .i64) y14.1, .obj b2 117 (.rep (.arr 4 (.int .i64)) y14.2.1), .obj b3 135 (.rep (.arr 3 (.int .i64)) y14.2.2.1)]) (chg_quick_begins_l2 k a0 a1) k (.slice none 0 0) (([] : (List Int)), [(0 : Int), (0 : Int), (0 : Int), (0 : Int)], x4, (0 : Int)) (fun _ => rfl) h (SE.fin [1, 2, 0, 3, 4] ⟨rfl, rfl, rfl, rfl, rfl, rfl, rfl, rfl, trivial⟩ rfl) (fun n z15 y14 h => ?_);unfold chg_quick_begins_l2 at h;refine sr (jb (o_lss rfl) ?_);refine nt (JC.seq (ci h (fun h => ?_) (fun h => ?_)))
   ·refine sk (JC.cutB (Z := Value) (α := (List Int) × (List Int) × (List Int)) (fun z17 x16 => [(0, Pt b_a0), (5, Pt b1), (6, .eq z17), (7, Pt b2), (8, Pt b3), (33, Rs tBetween a1), (34, I (a1.length : Int)), (35, I y14.2.2.2)]) (fun z17 x16 => [.obj b_a0 102 (Qq a0 (.eq m_a0)), .obj b1 117 (.rep (.arr 4 (.int .i64)) [(0 : Int), (0 : Int), (0 : Int), (0 : Int)]), .sl z17 3 (.int .i64) x16.1, .obj b2 117 (.rep (.arr 4 (.int .i64)) x16.2.1), .obj b3 135 (.rep (.arr 3 (.int .i64)) x16.2.2)]) h (fun K h => ?_) (fun z17 x16 h => ?_))
    ·refine JC.block (sr ?_);obtain ⟨x18, ex18, h⟩ := b_bind h;refine jb (o_index (t := tBetween) rfl U37 sz46 ex18) ?_;refine ja (o_load_at (t := tBetween) rfl sz46 rfl) ?_;refine JO.s01 rfl rfl rfl (o_alloc rfl za46 al46) trivial fun b19 => ?_;refine JO.n11 rfl rfl (o_store rfl sz46 rfl rfl rfl) ⟨rfl, rfl, trivial⟩ ?_;refine nt (sr (fl fo46_1 ?_));refine lo sz3 ?_;obtain ⟨u20, eu20, h⟩ := b_bind h;refine jb (o_index_arr rfl U135 sz3 (chkP_some eu20).1 (chkP_some eu20).2) ?_;obtain ⟨x21, ex21, h⟩ := b_bind h;refine fr 5 ?_;refine ka (o_load_arr (t := (.int .i64)) (off := 0) (i := x18.2) (N := 3) rfl sz3 (fun _ => rfl) rfl rfl rfl rfl ex21) ?_;refine aq (nt ?_);refine JC.cutB (Z := Unit) (α := Int) (fun z23 x22 => [(0, Pt b_a0), (5, Pt b1), (6, .eq z15), (7, Pt b2), (8, Pt b3), (12, Pt b19), (13, I x22), (33, Rs tBetween a1), (34, I (a1.length : Int)), (35, I y14.2.2.2)]) (fun z23 x22 => [.obj b_a0 102 (Qq a0 (.eq m_a0)), .obj b1 117 (.rep (.arr 4 (.int .i64)) [(0 : Int), (0 : Int), (0 : Int), (0 : Int)]), .sl z15 3 (.int .i64) y14.1, .obj b2 117 (.rep (.arr 4 (.int .i64)) y14.2.1), .obj b3 135 (.rep (.arr 3 (.int .i64)) y14.2.2.1), .obj b19 46 (.rep tBetween x18)]) h (fun K h => ?_) (fun z23 x22 h => ?_)
     ·refine JC.seq (JC.drawN ?_);refine dm ?_;refine da (o_field_obj rfl fo46_0) ?_;refine ea 1 (o_load_obj rfl sz3 nfs rfl) ?_;refine da (o_nil_obj rfl) ?_;refine da (o_field_obj rfl fo102_2) ?_;obtain ⟨u24, eu24, h⟩ := b_bind h;refine db (o_index_arr rfl U100 sz99 (chkP_some eu24).1 (chkP_some eu24).2) ?_;obtain ⟨x25, ex25, h⟩ := b_bind h;refine ea 2 (o_load_arr (t := (.int .u8)) (off := 5) (i := x18.1) (N := 8) rfl sz99 (fun _ => rfl) rfl rfl rfl rfl ex25) ?_;obtain ⟨r26, er26, h⟩ := b_bind h;refine da (o_call [.tmp 49] rfl rfl en38 rfl (chg_set_list_ok k x25 r26 er26)) ?_;refine da (o_len rfl rfl U22) ?_;refine dm ?_;refine df mixed ?_;refine nt (JC.block (JC.loopB (Z := Unit) (α := Int × Int) (fun z28 y27 => [(0, Pt b_a0), (5, Pt b1), (6, .eq z15), (7, Pt b2), (8, Pt b3), (12, Pt b19), (13, I y27.1), (33, Rs tBetween a1), (34, I (a1.length : Int)), (35, I y14.2.2.2), (50, Ri r26), (51, I (r26.length : Int)), (52, I y27.2)]) (fun z28 y27 => [.obj b_a0 102 (Qq a0 (.eq m_a0)), .obj b1 117 (.rep (.arr 4 (.int .i64)) [(0 : Int), (0 : Int), (0 : Int), (0 : Int)]), .sl z15 3 (.int .i64) y14.1, .obj b2 117 (.rep (.arr 4 (.int .i64)) y14.2.1), .obj b3 135 (.rep (.arr 3 (.int .i64)) y14.2.2.1), .obj b19 46 (.rep tBetween x18)]) (chg_quick_begins_l3 k y14 r26) k () (x21, (0 : Int)) (fun _ => rfl) h (SE.fin [2, 3, 4, 5, 0, 1] ⟨rfl, rfl, rfl, rfl, rfl, rfl, rfl, rfl, rfl, rfl, rfl, rfl, rfl, trivial⟩ rfl) (fun n z28 y27 h => ?_)));unfold chg_quick_begins_l3 at h;refine sr (jb (o_lss rfl) ?_);refine nt (JC.seq (ci h (fun h => ?_) (fun h => ?_)))
      ·refine sk (JC.seq (JC.block (sr ?_)));obtain ⟨x29, ex29, h⟩ := b_bind h;refine jb (o_index (t := (.int .i64)) rfl U22 sz3 ex29) ?_;refine ja (o_load_at (t := (.int .i64)) rfl sz3 rfl) ?_;refine aq (nt (JC.region ?_));iterate 2 refine mq ?_
       obtain ⟨u30, eu30, h⟩ := b_bind h;refine jb (o_index_arr rfl U117 sz3 (chkP_some eu30).1 (chkP_some eu30).2) ?_;obtain ⟨x31, ex31, h⟩ := b_bind h;refine fr 3 ?_;refine ka (o_load_arr (t := (.int .i64)) (off := 0) (i := x29) (N := 4) rfl sz3 (fun _ => rfl) rfl rfl rfl rfl ex31) ?_;refine jb (o_max rfl rfl) ?_;refine aq (JO.nil (JN.blk_n (tn (JC.region ?_))));obtain ⟨x32, ex32, h⟩ := b_bind h;refine jb (o_add rfl ex32) ?_;refine mq (nl ?_);exact jz ((), (imax y27.1 x31, x32)) h [1, 2, 3, 0, 4, 5]
      ·refine xa ?_;exact jz ((), y27.1) h [0, 1, 2, 3, 4, 5]
     ·refine JC.seq (JC.drawN ?_);refine dm ?_;refine dm ?_;refine dm ?_;refine da (o_nil_obj rfl) ?_;refine da (o_field_obj rfl fo102_1) ?_;refine ea 0 (o_load_obj rfl sz98 nfs rfl) ?_;refine da (o_field_obj rfl fo46_0) ?_;refine ea 5 (o_load_obj rfl sz3 nfs rfl) ?_;obtain ⟨x33, ex33, h⟩ := b_bind h;refine db (o_index (t := (.tag 105 106)) rfl U98 sz111 ex33) ?_;refine da (o_load_at (t := (.tag 105 106)) rfl sz111 rfl) ?_;obtain ⟨r34, er34, h⟩ := b_bind h;refine eb 0 (o_call [.tmp 63, .tmp 71] rfl rfl en60 rfl (chg_quick_bars_ok k ((a0.1.1, a0.1.2.1, a0.1.2.2.1, a0.1.2.2.2), a0.2.1, a0.2.2) b_a0 m_a0 x33 r34 er34)) ?_;refine df mixed ?_;obtain ⟨x35, ex35, h⟩ := b_bind h;refine jb (o_add rfl ex35) ?_;refine aq (nt ?_);refine JC.drawW ?_;refine DW.t00 rfl rfl rfl (o_field_obj rfl fo46_0) ⟨rfl, trivial⟩ ?_;refine DW.t11 5 rfl rfl rfl rfl (o_load_obj rfl sz3 nfs rfl) ⟨rfl, trivial⟩ ?_;refine DW.t00 rfl rfl rfl (o_field_obj rfl fo46_1) ⟨rfl, trivial⟩ ?_;refine DW.t11 5 rfl rfl rfl rfl (o_load_obj rfl sz3 nfs rfl) ⟨rfl, trivial⟩ ?_;refine DW.t00 rfl rfl rfl (o_move rfl) ⟨rfl, trivial⟩ ?_;refine DW.t00 rfl rfl rfl (o_move rfl) ⟨rfl, trivial⟩ ?_;refine DW.t00 rfl rfl rfl (o_litB (t := (.int .i64)) [(.tmp 79, _)] [x22] rfl rfl sl22 (.cons rfl .int .nil) rfl rfl) ⟨rfl, trivial⟩ ?_;obtain ⟨u36, eu36, h⟩ := b_bind h;refine DW.tTurn 2 rfl (fun v => [.sl v 3 (.int .i64) (y14.1 ++ [x22])]) (fun _ => rfl) rfl rfl rfl (o_append rfl rfl sl22 (chkP_some eu36)) ⟨rfl, rfl, trivial⟩ ?_;refine DW.t00 rfl rfl rfl (o_move rfl) ⟨rfl, trivial⟩ ?_;refine DW.t00 rfl rfl rfl (o_move rfl) ⟨rfl, trivial⟩ ?_;refine DW.fin 10 [false, false, false, false, true, true, true, true, false, false] [6, 84] [5] [.obj b19 46 (.rep tBetween x18)] rfl (by kernel_rfl) (by kernel_rfl) (by kernel_rfl) mixed (fun vs hv hB => ?_);obtain ⟨w0, vs1, rfl, hv1⟩ := len_cons hv;obtain ⟨w1, vs2, rfl, hv2⟩ := len_cons hv1;obtain ⟨w2, vs3, rfl, hv3⟩ := len_cons hv2;obtain ⟨w3, vs4, rfl, hv4⟩ := len_cons hv3;obtain ⟨w4, vs5, rfl, hv5⟩ := len_cons hv4;obtain ⟨w5, vs6, rfl, hv6⟩ := len_cons hv5;obtain ⟨w6, vs7, rfl, hv7⟩ := len_cons hv6;obtain ⟨v37, vs8, rfl, hv8⟩ := len_cons hv7;obtain ⟨w8, vs9, rfl, hv9⟩ := len_cons hv8;obtain ⟨w9, vs10, rfl, hv10⟩ := len_cons hv9;obtain rfl := len_nil hv10;refine ⟨[4, 0, 1, 2, 3, 5], [.obj b_a0 102 (Qq a0 (.eq m_a0)), .obj b1 117 (.rep (.arr 4 (.int .i64)) [(0 : Int), (0 : Int), (0 : Int), (0 : Int)]), .obj b2 117 (.rep (.arr 4 (.int .i64)) y14.2.1), .obj b3 135 (.rep (.arr 3 (.int .i64)) y14.2.2.1), .sl v37 3 (.int .i64) (y14.1 ++ [x22])], by kernel_rfl, by decide, ?_⟩;refine JT.y00 rfl rfl rfl rfl (o_assign rfl) ⟨rfl, trivial⟩ (by kernel_rfl) ?_;obtain ⟨u38, eu38, h⟩ := b_bind h;refine JT.y00 rfl rfl rfl rfl (o_index_arr rfl U117 sz3 (chkP_some eu38).1 (chkP_some eu38).2) ⟨rfl, rfl, trivial⟩ (by kernel_rfl) ?_;refine JT.front 2 rfl ?_;refine JT.n11 rfl rfl (o_store_arr (t := (.int .i64)) (off := 0) (i := x18.1) (N := 4) rfl sz3 .int rfl rfl rfl rfl (chkP_some eu38).1 (chkP_some eu38).2 rfl) ⟨rfl, rfl, trivial⟩ (by kernel_rfl) ?_;refine JT.all (by kernel_rfl) ?_;obtain ⟨u39, eu39, h⟩ := b_bind h;refine jb (o_index_arr rfl U135 sz3 (chkP_some eu39).1 (chkP_some eu39).2) ?_;refine fr 4 ?_;refine JO.n11 rfl rfl (o_store_arr (t := (.int .i64)) (off := 0) (i := x18.2) (N := 3) rfl sz3 .int rfl rfl rfl rfl (chkP_some eu39).1 (chkP_some eu39).2 rfl) ⟨rfl, rfl, trivial⟩ ?_;refine JO.nil (bn ?_);exact jz (v37, (y14.1 ++ [x22], List.set y14.2.1 (Int.toNat x18.1) x35, List.set y14.2.2.1 (Int.toNat x18.2) x35)) h [3, 4, 5, 2, 0]
    ·refine JC.region ?_;obtain ⟨x40, ex40, h⟩ := b_bind h;refine jb (o_add rfl ex40) ?_;refine mq (nl ?_);exact jz (z17, (x16.1, x16.2.1, x16.2.2, x40)) h [0, 1, 2, 3, 4]
   ·refine xa ?_;exact jz (z15, (y14.1, y14.2.1)) h [1, 2, 3, 0]
  ·refine JC.seq (JC.drawN ?_);refine dm ?_;refine ea 2 (o_load_obj rfl sz117 (nfn) rfl) ?_;refine da (o_assign rfl) ?_;refine df mixed ?_;refine JO.n11 rfl rfl (o_store rfl sz117 rfl rfl rfl) ⟨rfl, rfl, trivial⟩ ?_;refine nt (JC.ret (JN.front 1 rfl ?_));refine JN.se (SE.frz [4, 6, 87] ⟨rfl, rfl, rfl, trivial⟩) ?_;refine JN.se (SE.fin (Γ' := [(4, _), (5, _)]) [2, 0, 1] ⟨rfl, rfl, trivial⟩ rfl) ?_;cases h;exact JN.ret () [_, .rep (.arr 4 (.int .i64)) x12.2] 1 ⟨rfl, ⟨_, _, _, _, _, rfl, (.tail _ (.head _)), sz117, (nfn), rfl⟩, trivial⟩ rfl


def slc_Max_int_l1 (k : Nat) (a0 : (List Int)) : Nat → (Int × Int) → Option Int
 | 0, _ => none
 | n + 1, y4 =>
  if y4.2 < (a0.length : Int) then ((geti a0 y4.2).bind fun x6 =>
  (ck (y4.2 + (1 : Int))).bind fun x7 =>
  slc_Max_int_l1 k a0 n (imax y4.1 x6, x7)) else (some y4.1)
def slc_Max_int (k : Nat) (a0 : (List Int)) : Option Int :=
 if (a0.length : Int) < (1 : Int) then (none) else ((geti a0 (0 : Int)).bind fun x1 =>
 ((slc_Max_int_l1 k a0 k (x1, (1 : Int))) : Option (Int)).bind fun x2 =>
 some x2)

theorem slc_Max_int_ok (k : Nat) (a0 : (List Int)) (r : Int) (h : slc_Max_int k a0 = some r) :
 Ctr Try.prog 47 [Ri a0] [] (fun _ : Unit => (resA [I r], [])) := by
 unfold slc_Max_int at h;replace h := b_top h;refine Ctr.of 25 Try.func47 rfl Try.ntmps47 rfl fun S w0 => ?_;refine sr (cq (nt (JC.seq (sr ?_))));refine mq ?_;refine ol U22 ?_;refine jb (o_lss rfl) ?_;refine nt (ci h (fun h => ?_) (fun h => ?_))
 ·refine JC.region ?_;cases h
 ·refine sk (sr (mq ?_));obtain ⟨x1, ex1, h⟩ := b_bind h;refine jb (o_index (t := (.int .i64)) rfl U22 sz3 ex1) ?_;refine ja (o_load_at (t := (.int .i64)) rfl sz3 rfl) ?_;refine aq (nt ?_);refine JC.cutB (Z := Unit) (α := Int) (fun z3 x2 => [(3, I x2)]) (fun z3 x2 => []) h (fun K h => ?_) (fun z3 x2 h => ?_)
  ·refine sr (cq (nt (JC.block ?_)));refine JC.loopB (Z := Unit) (α := Int × Int) (fun z5 y4 => [(0, Ri a0), (3, I y4.1), (4, I y4.2)]) (fun z5 y4 => []) (slc_Max_int_l1 k a0) k () (x1, (1 : Int)) (fun _ => rfl) h (SE.fin [] ⟨rfl, rfl, rfl, trivial⟩ rfl) (fun n z5 y4 h => ?_);unfold slc_Max_int_l1 at h;refine JC.seq (sr ?_);iterate 2 refine mq ?_
   refine ol U22 ?_;refine jb (o_lss rfl) ?_;refine nt (ci h (fun h => ?_) (fun h => ?_))
   ·refine sk (JC.seq (JC.block (JC.region ?_)));iterate 3 refine mq ?_
    obtain ⟨x6, ex6, h⟩ := b_bind h;refine jb (o_index (t := (.int .i64)) rfl U22 sz3 ex6) ?_;refine ja (o_load_at (t := (.int .i64)) rfl sz3 rfl) ?_;refine jb (o_max rfl rfl) ?_;refine aq (JO.nil (JN.blk_n (tn (JC.region ?_))));refine mq ?_;obtain ⟨x7, ex7, h⟩ := b_bind h;refine jb (o_add rfl ex7) ?_;refine aq (nl ?_);exact jz ((), (imax y4.1 x6, x7)) h []
   ·refine xa ?_;exact jz ((), y4.1) h []
  ·refine sr (mq ?_);refine aq (nt (JC.ret ?_));cases h;exact ra


/-! The bars of a plan, known or not. -/
def lineV (l : List (Int × Int)) : Value := .agg (l.flatMap fun s => [Value.int .i64 s.1, Value.int .i64 s.2]).toArray

theorem lineV_inj : ∀ {l l' : List (Int × Int)}, lineV l = lineV l' → l = l' := by
 have key : ∀ {l l' : List (Int × Int)}, (l.flatMap fun s => [Value.int .i64 s.1, Value.int .i64 s.2]) = (l'.flatMap fun s => [Value.int .i64 s.1, Value.int .i64 s.2]) → l = l' := by
  intro l
  induction l with
  | nil => intro l' h; cases l' with
   | nil => rfl
   | cons s l' => simp at h
  | cons s l ih => intro l' h; cases l' with
   | nil => simp at h
   | cons s' l' =>
    obtain ⟨a, b⟩ := s;obtain ⟨a', b'⟩ := s';simp only [List.flatMap_cons, List.cons_append, List.nil_append, List.cons.injEq, Value.int.injEq, true_and] at h;rw [h.1, h.2.1, ih h.2.2]
 intro l l' h;simp only [lineV, Value.agg.injEq] at h;exact key (by simpa using congrArg Array.toList h)

theorem line_holds {S : FS} {w : World} {u : Value} {l : List dStep} (h : (A.rep (.arr 4 tStep) l).holds S w u) : u = lineV l := by
 obtain ⟨cs, ⟨_, h1⟩, h2⟩ := h
 have key : ∀ {l : List dStep} {cs : List Value}, rdAll (rd S w tStep) l cs → cs = l.flatMap fun s => [Value.int .i64 s.1, Value.int .i64 s.2] := by
  intro l
  induction l with
  | nil => intro cs h; exact h
  | cons s l ih =>
   rintro cs ⟨c1, c2, rfl, h1, h2⟩;have e1 : c1 = [Value.int .i64 s.1, Value.int .i64 s.2] := rd_enc tStep rfl h1;rw [e1, ih h2];rfl
 rw [h2, key h1];rfl

/-- The key of a plan. -/
def keyL (p : List dStep) : List dStep := p ++ List.replicate (4 - p.length) (-1, -1)

def lenGuard (a0 : (dChange × (List (Bool × Int)) × (List Int))) (p : List dStep) : Prop := p.length = a0.2.1.length ∧ p.length ≤ 4 ∧ ∀ s ∈ p, 0 ≤ s.1 ∧ s.1 < 8 ∧ 0 ≤ s.2 ∧ s.2 < 8
instance (a0 : (dChange × (List (Bool × Int)) × (List Int))) (p : List dStep) : Decidable (lenGuard a0 p) := by unfold lenGuard; infer_instance

theorem keyL_inj {a0 : (dChange × (List (Bool × Int)) × (List Int))} {p q : List dStep} (hp : lenGuard a0 p) (hq : lenGuard a0 q) (h : keyL p = keyL q) : p = q := by
 have hl : p.length = q.length := hp.1.trans hq.1.symm;unfold keyL at h;exact (List.append_inj h hl).1

theorem keyL_nil {a0 : (dChange × (List (Bool × Int)) × (List Int))} {p : List dStep} (hp : lenGuard a0 p) (h : keyL p = keyL []) : p = [] := by
 cases p with
 | nil => rfl
 | cons s p =>
  exfalso;have h0 := (hp.2.2 s (by simp)).1;have h1 : (keyL (s :: p))[0]? = (keyL [])[0]? := by rw [h]
  simp [keyL] at h1;rw [h1] at h0;omega

theorem keyL_len {p : List dStep} (h : p.length ≤ 4) : (keyL p).length = 4 := by simp [keyL]; omega

theorem typesN : Try.prog.types.size + 2 ≤ 10000 := Nat.le_of_ble_eq_true (by kernel_rfl)
theorem typesLine : 114 < Try.prog.types.size := Nat.lt_of_lt_of_le (Nat.lt_succ_self 114) (Nat.le_of_ble_eq_true (by kernel_rfl))
theorem klawLine : WideMaps.KeyLaw Try.prog 114 := deep_law_gate (by kernel_rfl) typesN (Nat.lt_of_lt_of_le (Nat.lt_succ_self 114) (Nat.le_of_ble_eq_true (by kernel_rfl))) (by kernel_rfl) (by kernel_rfl)

theorem key_line {l : List dStep} (h4 : l.length = 4) (hw : ∀ s ∈ l, (Lit.int .i64 s.1).wf = true ∧ (Lit.int .i64 s.2).wf = true) : ∃ lt, keyOf Try.prog 114 (lineV l) = some lt := by
 match l, h4, hw with
 | [(a0, a1), (b0, b1), (c0, c1), (d0, d1)], _, hw =>
  have h1 := hw (a0, a1) (by simp);have h2 := hw (b0, b1) (by simp);have h3 := hw (c0, c1) (by simp);have h4 := hw (d0, d1) (by simp)
  have hint : ∀ (d : Nat) (n : Int), (Lit.int .i64 n).wf = true → Try.prog.keyLits (d + 1) 3 [.int .i64 n] = some [.int .i64 n] := fun d n h => by
   simp only [Program.keyLits, U3, h, and_self, if_true]
  have hstep : ∀ (d : Nat) (n m : Int), (Lit.int .i64 n).wf = true → (Lit.int .i64 m).wf = true → Try.prog.keyLits (d + 2) 46 [.int .i64 n, .int .i64 m] = some [.int .i64 n, .int .i64 m] := fun d n m g1 g2 => by
   have hc : Try.prog.cellsOf 46 = 2 := by kernel_rfl
   have hc3 : Try.prog.cellsOf 3 = 1 := by kernel_rfl
   simp [Program.keyLits, U46, hc, hc3, g1, g2, U3]
  obtain ⟨d, hd⟩ : ∃ d, Try.prog.types.size + 1 = d + 3 := ⟨Try.prog.types.size - 2, by have := typesLine; omega⟩;have hc : Try.prog.cellsOf 114 = 8 := by kernel_rfl
  have hc2 : Try.prog.cellsOf 46 = 2 := by kernel_rfl
  have hk : Try.prog.keyType 114 = true := by kernel_rfl
  have hr : List.range 4 = [0, 1, 2, 3] := by decide
  have hL : Try.prog.keyLits (Try.prog.types.size + 1) 114 (lineV [(a0, a1), (b0, b1), (c0, c1), (d0, d1)]).cells.toList = some [.int .i64 a0, .int .i64 a1, .int .i64 b0, .int .i64 b1, .int .i64 c0, .int .i64 c1, .int .i64 d0, .int .i64 d1] := by
   rw [hd];unfold Program.keyLits;simp [lineV, Value.cells, U114, hc, hc2, hr, hstep, h1, h2, h3, h4]
  refine ⟨.string (keyBytes [.int .i64 a0, .int .i64 a1, .int .i64 b0, .int .i64 b1, .int .i64 c0, .int .i64 c1, .int .i64 d0, .int .i64 d1]), ?_⟩;unfold keyOf;rw [U114];have hf : (lineV [(a0, a1), (b0, b1), (c0, c1), (d0, d1)]).formed Try.prog 114 = true := by simp [lineV, Value.formed, U114, hc]
  simp only [hk, hf, Bool.and_self, if_true, hL, Option.map_some]

theorem wf_small {n : Int} (h1 : -1 ≤ n) (h2 : n < 8) : (Lit.int .i64 n).wf = true := by
 simp only [Lit.wf, Bool.and_eq_true, decide_eq_true_eq];exact ⟨Int.le_trans (by decide) h1, Int.le_trans (Int.le_of_lt h2) (by decide)⟩

theorem key_plan {a0 : (dChange × (List (Bool × Int)) × (List Int))} {p : List dStep} (h : lenGuard a0 p) : ∃ lt, keyOf Try.prog 114 (lineV (keyL p)) = some lt := by
 refine key_line (keyL_len h.2.1) fun s hs => ?_;simp only [keyL, List.mem_append, List.mem_replicate] at hs;rcases hs with hs | ⟨_, rfl⟩
 ·obtain ⟨h1, h2, h3, h4⟩ := h.2.2 s hs;exact ⟨wf_small (by omega) h2, wf_small (by omega) h4⟩
 ·exact ⟨wf_small (by decide) (by decide), wf_small (by decide) (by decide)⟩

def chg_quick_length (k : Nat) (a0 : (dChange × (List (Bool × Int)) × (List Int))) (a1 : List dStep) : Option Int :=
 (chkP (lenGuard a0 a1)).bind fun _ =>
 (chg_keyOf k a1).bind fun ky =>
 (chkP (ky = keyL a1)).bind fun _ =>
 (chg_keyOf k []).bind fun k0 =>
 (chkP (k0 = keyL [])).bind fun _ =>
 if a1 = [] then some 0 else (chg_quick_begins k a0 a1).bind fun r => (slc_Max_int k r.2).bind fun n => some n

/-- What the map of the bars holds. -/
def Known (k : Nat) (a0 : (dChange × (List (Bool × Int)) × (List Int))) : Obj → Prop := MapInv Try.prog 114 fun kv n => ∃ p, lenGuard a0 p ∧ kv = lineV (keyL p) ∧ chg_quick_length k a0 p = some n
theorem known_nil {k : Nat} {a0 : (dChange × (List (Bool × Int)) × (List Int))} : Known k a0 (.map #[] 0) := MapInv.nil
theorem known_fun {k : Nat} {a0 : (dChange × (List (Bool × Int)) × (List Int))} {kv : Value} : ∀ n n' : Int, (∃ p, lenGuard a0 p ∧ kv = lineV (keyL p) ∧ chg_quick_length k a0 p = some n) → (∃ p, lenGuard a0 p ∧ kv = lineV (keyL p) ∧ chg_quick_length k a0 p = some n') → n = n' := by
 rintro n n' ⟨p, h1, h2, h3⟩ ⟨q, h4, h5, h6⟩;obtain rfl := keyL_inj h1 h4 (lineV_inj (h2.symm.trans h5));exact Option.some.inj (h3.symm.trans h6)

theorem chg_quick_length_ok (k : Nat) (a0 : (dChange × (List (Bool × Int)) × (List Int))) (b_a0 z_a0 : Nat) (a1 : (List dBetween)) (r : Int) (h : chg_quick_length k a0 a1 = some r) :
 Ctr Try.prog 29 [Pt b_a0, Rs tBetween a1] [.obj b_a0 102 (Qq a0 (.eq (.map (some z_a0)))), .inv z_a0 (Known k a0)] (fun _ : Unit => (resA [I r], [.obj b_a0 102 (Qq a0 (.eq (.map (some z_a0)))), .inv z_a0 (Known k a0)])) := by
 have h0 := h;unfold chg_quick_length at h;replace h := b_top h;obtain ⟨u1, eg, h⟩ := b_bind h;have hg := chkP_some eg;obtain ⟨ky, eky, h⟩ := b_bind h;obtain ⟨u2, e2, h⟩ := b_bind h;have hky := chkP_some e2;obtain ⟨k0, ek0, h⟩ := b_bind h;obtain ⟨u3, e3, h⟩ := b_bind h;have hk0 := chkP_some e3;have gk := key_plan hg;have g0 : ∃ lt, keyOf Try.prog 114 (lineV (keyL [])) = some lt := key_line (keyL_len (by simp)) (fun s hs => by simp [keyL] at hs; subst hs; exact ⟨by decide, by decide⟩);rw [← hky] at gk;rw [← hk0] at g0;refine Ctr.of 42 Try.func29 rfl Try.ntmps29 rfl fun S w0 => ?_;refine sr (cq (nt (sr ?_)));refine mq ?_;refine ja (o_call [.tmp 11] rfl rfl en45 rfl (chg_keyOf_ok k a1 ky eky)) ?_;refine JO.s01 rfl rfl rfl (o_alloc rfl za114 al114) trivial fun b1 => ?_;refine JO.n11 rfl rfl (o_store rfl sz114 rfl rfl rfl) ⟨rfl, rfl, trivial⟩ ?_;refine nt (JC.seq (JC.seq (JC.drawN ?_)));refine ea 0 (o_load_obj rfl sz114 (nfn) rfl) ?_;refine da (OpT.need (N := [(.const (.slice none 0 0), .eq (.slice none 0 0))]) (o_call [.const (.slice none 0 0)] rfl rfl en45 rfl (chg_keyOf_ok k [] k0 ek0)) fun _ _ _ hn => ⟨(ent_holds (t := (.slice tStep)) (x := ([] : (List dStep))) .nil rfl rfl hn.1), trivial⟩) ?_;refine df mixed ?_;refine JO.stepG (Δ := []) (F := _) (fun _ _ _ => wanted_none rfl _) rfl rfl (o_eqkey (kv := lineV ky) (kw := lineV k0) rfl (by kernel_rfl) (by kernel_rfl) klawLine (by kernel_rfl) (fun _ _ _ hh => line_holds hh) (fun _ _ _ hh => line_holds hh) gk g0) ⟨rfl, rfl, trivial⟩ fun q5 => ?_;refine nt (JC.cond rfl (fun hb => ?_) (fun hb => ?_))
 ·have hn : a1 = [] := keyL_nil hg (by rw [← hky, ← hk0]; exact lineV_inj (q5.2.1 hb));replace h := b_if hn h;refine sr (cq (nt (rx ?_)));refine JN.se (SE.fin (Γ' := [(4, _)]) [1, 2, 0] ⟨rfl, trivial⟩ rfl) ?_;cases h;exact JN.ret () [_] 2 ⟨rfl, trivial⟩ rfl
 ·have hn : ¬ a1 = [] := fun e => by rw [q5.2.2 (by rw [hky, hk0, e])] at hb; cases hb
  replace h := b_ifn hn h;refine sk (JC.seq (JC.seq (JC.front 2 rfl ?_)));refine JC.openInv fun ob hob => ?_;obtain ⟨lnn, lbb, hlR, hlk⟩ := lookup_cases (z := z_a0) U97 zvLine klawLine gk known_fun hob;refine JC.drawN ?_;refine dm ?_;refine da (o_nil_obj rfl) ?_;refine da (o_field_obj rfl fo102_3) ?_;refine ea 2 (o_load_obj rfl sz97 nfs rfl) ?_;refine ea 1 (o_load_obj rfl sz114 (nfn) rfl) ?_;refine eb 0 (o_lookupD (kv := lineV ky) rfl (fun _ _ _ hh => line_holds hh) hlk) ?_;refine dm ?_;refine da (o_extract rfl rfl) ?_;refine da (o_extract rfl rfl) ?_;refine da (o_assign rfl) ?_;refine df mixed ?_;refine aq (nt (sr ?_));refine mq (nt ?_);refine JC.se (SE.rawInv (Known k a0) hob) ?_;refine JC.cond rfl (fun hb => ?_) (fun hb => ?_)
  ·obtain ⟨p, hp, he, hl⟩ := hlR hb;have hpa : p = a1 := keyL_inj hp hg (by rw [← hky]; exact (lineV_inj he).symm);rw [hpa] at hl;replace h : (some lnn : Option Int).bind some = some r := hl.symm.trans h0;refine sr (mq ?_);refine aq (nt (rx ?_));refine JN.se (SE.fin (Γ' := [(4, _)]) [2, 0, 1] ⟨rfl, trivial⟩ rfl) ?_;cases h;exact JN.ret () [_] 2 ⟨rfl, trivial⟩ rfl
  ·refine sk (sr ?_);iterate 2 refine mq ?_
   obtain ⟨r2, er2, h⟩ := b_bind h;refine fr 2 ?_;refine kb (o_call [.tmp 28, .tmp 29] rfl rfl en46 rfl (chg_quick_begins_ok k ((a0.1.1, a0.1.2.1, a0.1.2.2.1, a0.1.2.2.2), a0.2.1, a0.2.2) b_a0 (.map (some z_a0)) a1 r2 er2)) ?_;refine mq ?_;refine xr ?_;refine xr ?_;refine JO.s01 rfl rfl rfl (o_alloc rfl za117 al117) trivial fun b3 => ?_;refine aq ?_;refine JO.n11 rfl rfl (o_store rfl sz117 rfl rfl rfl) ⟨rfl, rfl, trivial⟩ ?_;refine nt (sr (ja (o_slice_arr rfl U117 sz3) ?_));refine JO.se (SE.arrSl' (by decide)) ?_;obtain ⟨r4, er4, h⟩ := b_bind h;refine ka (OpT.borrow (N := [(.tmp 33, .eq (.slice (some ⟨b3, 0, none⟩) 4 4))]) (o_call [.tmp 33] rfl rfl en47 rfl (slc_Max_int_ok k r2.2 r4 er4)) (fun _ _ _ hv hn => ⟨(lend hn.1 hv), trivial⟩) (fun _ => ⟨rfl, flat_nil⟩)) ?_;refine JO.se SE.slArr' ?_;refine aq (nt (JC.seq ?_));refine JC.drawN ?_;refine dm ?_;refine da (o_nil_obj rfl) ?_;refine da (o_field_obj rfl fo102_3) ?_;refine ea 1 (o_load_obj rfl sz97 nfs rfl) ?_;refine ea 3 (o_load_obj rfl sz114 (nfn) rfl) ?_;refine dm ?_;refine df mixed ?_;refine fr 2 ?_;have hl : chg_quick_length k a0 a1 = some r4 := h0.trans (show some r = some r4 from h.symm);refine JO.n11 rfl rfl (o_mapUpdate (kv := lineV ky) rfl U97 klawLine (fun _ _ _ hh => line_holds hh) gk ⟨a1, hg, by rw [hky], hl⟩) ⟨rfl, rfl, rfl, trivial⟩ ?_;refine nt (sr (mq ?_));refine aq (nt (JC.ret ?_));refine JN.se (SE.fin (Γ' := [(4, _)]) [2, 0, 1, 3] ⟨rfl, trivial⟩ rfl) ?_;cases h;exact JN.ret () [_] 2 ⟨rfl, trivial⟩ rfl


def chg_least (k : Nat) (a0 : (dChange × (List (Bool × Int)) × (List Int))) : Option ((List dBetween) × Int × Bool) :=
 (chg_quick_plans_1 k (stopY (fun (y5 : Bool × Int × (List dBetween)) (p7 : (List dBetween)) =>
  (chg_quick_length k ((a0.1.1, a0.1.2.1, a0.1.2.2.1, a0.1.2.2.2), a0.2.1, a0.2.2) p7).bind fun r9 =>
  ((if ¬ (y5.1 = true) then (some true) else (some (decide (r9 < y5.2.1)))) : Option (Bool)).bind fun x10 =>
  if x10 = true then (some ((true, r9, p7), true)) else (some ((y5.1, y5.2.1, y5.2.2), true)))) ((a0.1.1, a0.1.2.1, a0.1.2.2.1, a0.1.2.2.2), a0.2.1, a0.2.2) ((false, (0 : Int), []), false)).bind fun r8 =>
 if r8.2 = true then (none) else (some (r8.1.2.2, r8.1.2.1, r8.1.1))

theorem chg_least_ok (k : Nat) (a0 : (dChange × (List (Bool × Int)) × (List Int))) (b_a0 z_a0 : Nat) (c_a0 : Nat) (r : (List dBetween) × Int × Bool) (h : chg_least k a0 = some r) :
 Ctr Try.prog 27 [.eq (.func (.func 40) #[] #[(Pv c_a0)]), .eq (.func (.func 29) #[(Pv b_a0)] #[])] [.obj b_a0 102 (Qq a0 (.eq (.map (some z_a0)))), .inv z_a0 (Known k a0), .obj c_a0 72 (Pt b_a0)] (fun _ : Unit => (resA [Rs tBetween r.1, I r.2.1, .eq (.bool r.2.2)], [.obj b_a0 102 (Qq a0 (.eq (.map (some z_a0)))), .inv z_a0 (Known k a0), .obj c_a0 72 (Pt b_a0)])) := by
 unfold chg_least at h;replace h := b_top h;refine Ctr.ofM 29 Try.func27 rfl Try.ntmps27 rfl fun S w0 => ?_;refine sr (bx fun b1 => ?_);refine cq ?_;refine cq ?_;refine cq (nt (sr ?_));refine JO.s01 rfl rfl rfl (o_alloc rfl za37 al37) trivial fun b2 => ?_;refine nt (sr (JO.s01 rfl rfl rfl (o_alloc rfl za3 al3) trivial fun b3 => ?_));refine JO.s01 rfl rfl rfl (o_alloc rfl za4 al4) trivial fun b4 => ?_;refine fr 1 ?_;refine JO.n11 rfl rfl (o_store rfl sz3 rfl rfl rfl) ⟨rfl, rfl, trivial⟩ ?_;refine fr 1 ?_;refine JO.n11 rfl rfl (o_store rfl sz4 rfl rfl rfl) ⟨rfl, rfl, trivial⟩ ?_;refine nt (JC.seq (sr (mq (nt (JC.block ?_)))));refine JC.front 2 rfl ?_;refine JC.se (SE.objE (a := .eq (.slice none 0 0)) (a' := Rs tBetween []) (AE.ent .nil)) ?_;refine JC.front 5 rfl ?_;refine JC.front 4 rfl ?_;refine JC.front 2 rfl ?_;refine JC.front 4 rfl ?_;refine JC.front 4 rfl ?_;refine JC.front 5 rfl ?_;refine JC.front 6 rfl ?_;obtain ⟨r8, er8, h⟩ := b_bind h;refine JC.rangeFunc (Δ := [.obj c_a0 72 (Pt b_a0), .obj b_a0 102 (Qq a0 (.eq (.map (some z_a0)))), .obj b4 4 (.eq (.bool false)), .obj b3 3 (I (0 : Int)), .obj b2 37 (Rs tBetween []), .obj b1 80 (.eq (.func (.func 29) #[(Pv b_a0)] #[])), .inv z_a0 (Known k a0)]) (F := []) (X := Unit) (J := fun _ => jOf r8.2) (E := fun _ => [.obj c_a0 72 (Pt b_a0), .obj b_a0 102 (Qq a0 (.eq (.map (some z_a0)))), .obj b4 4 (.eq (.bool r8.1.1)), .obj b3 3 (I r8.1.2.1), .obj b2 37 (Rs tBetween r8.1.2.2), .obj b1 80 (.eq (.func (.func 29) #[(Pv b_a0)] #[])), .inv z_a0 (Known k a0)]) (r0 := fun _ => .tup .any) rfl rfl en40 (fun rec hp ha hb hs hpe hN hv l => ?_) (fun dl _ => stop_cases (fun hj => ?_) (fun hj => ?_))
 ·rcases rec with ⟨st0, pe0, fn0, tm0, ps0, as0, bd0, df0⟩;dsimp only at hp ha hb hs hpe hN hv;subst hp hs hpe;have vN : Vals tm0 [(3, Pt b1), (7, Pt b2), (8, Pt b3), (9, Pt b4)] := ⟨congrArg A.eq (hv 3 _ rfl).symm, congrArg A.eq (hv 7 _ rfl).symm, congrArg A.eq (hv 8 _ rfl).symm, congrArg A.eq (hv 9 _ rfl).symm, trivial⟩;refine Ctr.pick [1, 2, 0, 3, 4, 5, 6, 7] [2, 0, 1, 3, 4, 5, 6, 7] (chg_quick_plans_1_ok (fun (_ : Unit) (q : (Bool × Int × (List dBetween)) × Bool) => [.raw l (.loop (recEnd ⟨.ready, none, fn0, tm0, #[13], as0, bd0, df0⟩ (jOf q.2))), .obj b4 4 (.eq (.bool q.1.1)), .obj b3 3 (I q.1.2.1), .obj b2 37 (Rs tBetween q.1.2.2), .obj b1 80 (.eq (.func (.func 29) #[(Pv b_a0)] #[])), .inv z_a0 (Known k a0)]) l (stopY (fun (y5 : Bool × Int × (List dBetween)) (p7 : (List dBetween)) =>
  (chg_quick_length k ((a0.1.1, a0.1.2.1, a0.1.2.2.1, a0.1.2.2.2), a0.2.1, a0.2.2) p7).bind fun r9 =>
  ((if ¬ (y5.1 = true) then (some true) else (some (decide (r9 < y5.2.1)))) : Option (Bool)).bind fun x10 =>
  if x10 = true then (some ((true, r9, p7), true)) else (some ((y5.1, y5.2.1, y5.2.2), true)))) k ((a0.1.1, a0.1.2.1, a0.1.2.2.1, a0.1.2.2.2), a0.2.1, a0.2.2) b_a0 (.map (some z_a0)) c_a0 (fun z q p r' h => ?_) () ((false, (0 : Int), []), false) r8 er8) rfl (fun _ => rfl) (fun _ => rfl)
  obtain ⟨r2, hq, h2, rfl⟩ := stopY_some h;obtain ⟨y5, b5⟩ := q;obtain rfl : b5 = false := hq;replace h := b_top h2;obtain ⟨p7, hpv⟩ : ∃ x, x = p := ⟨_, rfl⟩;subst hpv;refine YT.pick (R' := (fun _ : Unit => (.eq (.bool r2.2), [.raw l (.loop (recEnd ⟨.ready, none, fn0, tm0, #[13], as0, bd0, df0⟩ (jOf (!r2.2)))), .obj b_a0 102 (Qq a0 (.eq (.map (some z_a0)))), .obj b4 4 (.eq (.bool r2.1.1)), .obj b3 3 (I r2.1.2.1), .obj b2 37 (Rs tBetween r2.1.2.2), .obj b1 80 (.eq (.func (.func 29) #[(Pv b_a0)] #[])), .inv z_a0 (Known k a0)]))) [1, 0, 2, 3, 4, 5, 6] [1, 0, 2, 3, 4, 5, 6] (YT.of' ha hb (N := 29) (Γ := [(3, Pt b1), (7, Pt b2), (8, Pt b3), (9, Pt b4)]) rfl hN (by decide) vN (fun S w => ?_)) rfl (fun _ => rfl) (fun _ => rfl);refine JC.region (aq (nl ?_));refine JN.begin rfl rfl ?_;refine JC.block (sr (fr 5 ?_));refine lo sz80 ?_;refine mq ?_;obtain ⟨r9, er9, h⟩ := b_bind h;refine fr 6 ?_;refine fr 3 ?_;refine JO.stepG (Δ := [_, _]) (F := _) (fun _ _ _ => wanted_none rfl _) rfl rfl (o_callv (fs := [(Pv b_a0)]) (cs := []) (ags := [Rs tBetween p7]) [.tmp 15] rfl rfl en29 rfl (chg_quick_length_ok k ((a0.1.1, a0.1.2.1, a0.1.2.2.1, a0.1.2.2.2), a0.2.1, a0.2.2) b_a0 z_a0 p7 r9 er9)) ⟨rfl, rfl, trivial⟩ fun _ => ?_;refine aq (nt ?_);refine JC.cutB (Z := Unit) (α := Bool) (fun z11 x10 => [(7, Pt b2), (8, Pt b3), (9, Pt b4), (10, Rs tBetween p7), (11, I r9), (23, .eq (.bool x10))]) (fun z11 x10 => [.obj b2 37 (Rs tBetween y5.2.2), .obj b3 3 (I y5.2.1), .obj b4 4 (.eq (.bool y5.1)), .obj b_a0 102 (Qq a0 (.eq (.map (some z_a0)))), .inv z_a0 (Known k a0), .obj b1 80 (.eq (.func (.func 29) #[(Pv b_a0)] #[])), .raw l (.loop (⟨.busy, none, fn0, tm0, #[13], as0, bd0, df0⟩ : Loop))]) h (fun K h => ?_) (fun z11 x10 h => ?_)
  ·refine JC.region (fr 4 ?_);refine lo sz4 ?_;refine ja (o_not rfl) ?_;refine mq ?_;refine JO.bool (s := 19) rfl (fun hb => ?_) (fun hb => ?_)
   ·replace h := b_if (nv_t hb) h;iterate 3 refine gn ?_
    refine pt (nl ?_);exact jz ((), true) h [6, 5, 0, 1, 2, 3, 4]
   ·replace h := b_ifn (nv_fn hb) h;refine gm ?_;refine fr 5 ?_;refine JO.g11 rfl rfl rfl rfl rfl rfl (o_load_obj rfl sz3 nfs rfl) ⟨rfl, trivial⟩ ?_;refine gb (o_lss rfl) ?_;refine pf (nl ?_);exact jz ((), decide (r9 < y5.2.1)) h [6, 0, 1, 2, 3, 4, 5]
  ·refine cv h (fun h => ?_) (fun h => ?_)
   ·refine JC.region ?_;iterate 2 refine mq ?_
    refine JO.n11 rfl rfl (o_store rfl sz37 rfl rfl rfl) ⟨rfl, rfl, trivial⟩ ?_;refine fr 1 ?_;refine JO.n11 rfl rfl (o_store rfl sz3 rfl rfl rfl) ⟨rfl, rfl, trivial⟩ ?_;refine fr 2 ?_;refine JO.n11 rfl rfl (o_store rfl sz4 rfl rfl rfl) ⟨rfl, rfl, trivial⟩ ?_;refine JO.nil (JN.blk_n (JN.front 4 rfl ?_));refine JN.front 5 rfl ?_;refine JN.front 4 rfl ?_;refine JN.front 4 rfl ?_;refine JN.front 4 rfl ?_;refine JN.front 5 rfl ?_;refine JN.front 6 rfl ?_;cases h;exact JN.roundN () 6 rfl
   ·refine JC.skip (JN.blk_n (JN.front 4 rfl ?_));refine JN.front 5 rfl ?_;refine JN.front 2 rfl ?_;refine JN.front 3 rfl ?_;refine JN.front 4 rfl ?_;refine JN.front 5 rfl ?_;refine JN.front 6 rfl ?_;cases h;exact JN.roundN () 6 rfl
 ·replace h := b_ifn (v_f hj) h;refine JN.blk_n (tn (JC.seq (JC.drawN ?_)));refine ea 5 (o_load_obj rfl sz37 nfs rfl) ?_;refine ea 4 (o_load_obj rfl sz3 nfs rfl) ?_;refine ea 3 (o_load_obj rfl sz4 nfs rfl) ?_;refine da (o_assign rfl) ?_;refine da (o_assign rfl) ?_;refine df mixed ?_;refine aq (nt (JC.ret ?_));refine JN.retM ?_;refine JN.se (SE.fin (Γ' := [(4, _), (5, _), (6, _)]) [1, 6, 0, 2, 3, 4, 5] ⟨rfl, rfl, rfl, trivial⟩ rfl) ?_;cases h;exact JN.ret () [_, _, _] 3 ⟨rfl, rfl, rfl, trivial⟩ rfl
 ·replace h := b_if (v_t hj) h;cases h


def chg_Fewest (k : Nat) (a0 : dChange) : Option ((List dBetween) × Int × Int) :=
 (chg_begin k a0).bind fun r2 =>
 casesO r2.1 (if ¬ (r2.2 = (0 : Int)) then (some ([], (0 : Int), r2.2)) else (none)) (fun q3 => if ¬ (r2.2 = (0 : Int)) then (some ([], (0 : Int), r2.2)) else ((chg_least k ((q3.1.1, q3.1.2.1, q3.1.2.2.1, q3.1.2.2.2), q3.2.1, q3.2.2)).bind fun r6 =>
 if ¬ (r6.2.2 = true) then (some ([], (0 : Int), (11 : Int))) else (some (r6.1, r6.2.1, (0 : Int)))))

theorem chg_Fewest_ok (k : Nat) (a0 : dChange) (r : (List dBetween) × Int × Int) (h : chg_Fewest k a0 = some r) :
 Ctr Try.prog 12 [.rep tChange a0] [] (fun _ : Unit => (resA [Rs tBetween r.1, I r.2.1, I r.2.2], [])) := by
 unfold chg_Fewest at h;replace h := b_top h;refine Ctr.of 31 Try.func12 rfl Try.ntmps12 rfl fun S w0 => ?_;refine sr (bx fun b1 => ?_);refine cq ?_;refine cq ?_;refine cq (nt (sr ?_));refine lo sz43 ?_;obtain ⟨r2, er2, h⟩ := b_bind h;have cr2 := chg_begin_ok k a0 r2 er2;rcases hr : r2.1 with _ | q3
 ·rw [hr] at h cr2; replace h := co_n h;refine JO.stepG (Δ := []) (F := _) (fun _ _ _ => wanted_none rfl _) rfl rfl (o_call [.tmp 11] rfl rfl en26 rfl cr2) ⟨rfl, trivial⟩ fun _ => ?_;refine mq ?_;refine xr ?_;refine xr ?_;refine aq ?_;refine aq (nt (JC.seq (sr ?_)));refine mq ?_;refine jb (o_neq rfl) ?_;refine nt (cn h (fun h => ?_) (fun h => ?_))
  ·refine sr (mq ?_);refine cq ?_;refine cq ?_;refine aq (nt (rx ?_));refine JN.se (SE.ent (t := (.slice tBetween)) (x := []) 2 rfl .nil rfl rfl) ?_;cases h;exact JN.ret () [_, _, _] 0 ⟨rfl, rfl, rfl, trivial⟩ rfl
  ·refine sk (sr (mq ?_));cases h
 ·rw [hr] at h cr2; replace h := co_s h;refine JO.stepG (Δ := []) (F := _) (fun _ _ _ => wanted_none rfl _) rfl rfl (o_call [.tmp 11] rfl rfl en26 rfl cr2) ⟨rfl, trivial⟩ fun z4 => ?_;refine mq ?_;refine xr ?_;refine xr ?_;refine aq ?_;refine aq (nt (JC.seq (sr ?_)));refine mq ?_;refine jb (o_neq rfl) ?_;refine nt (cn h (fun h => ?_) (fun h => ?_))
  ·refine sr (mq ?_);refine cq ?_;refine cq ?_;refine aq (nt (rx ?_));refine JN.se (SE.ent (t := (.slice tBetween)) (x := []) 2 rfl .nil rfl rfl) ?_;cases h;exact JN.ret () [_, _, _] 0 ⟨rfl, rfl, rfl, trivial⟩ rfl
  ·refine sk (sr (mq ?_));refine JO.s01 rfl rfl rfl (o_call [.tmp 19] rfl rfl en28 rfl (chg_quick_plans_ok z4.1)) ⟨rfl, trivial⟩ fun b5 => ?_;refine mq ?_;refine ja (o_mkfn [.tmp 21] [] [(.pointer (some ⟨z4.1, 0, none⟩))] [] rfl rfl rfl) ?_;refine fr 2 ?_;refine JO.se (SE.rawInv (Known k ((q3.1.1, q3.1.2.1, q3.1.2.2.1, q3.1.2.2.2), q3.2.1, q3.2.2)) known_nil) ?_;obtain ⟨r6, er6, h⟩ := b_bind h;refine fr 1 ?_;refine fr 1 ?_;refine fr 2 ?_;refine JO.stepG (Δ := [_, _, _]) (F := _) (fun _ _ _ => wanted_none rfl _) rfl rfl (o_call [.tmp 20, .tmp 22] rfl rfl en27 rfl (chg_least_ok k ((q3.1.1, q3.1.2.1, q3.1.2.2.1, q3.1.2.2.2), q3.2.1, q3.2.2) z4.1 z4.2 b5 r6 er6)) ⟨rfl, rfl, trivial⟩ fun _ => ?_;refine mq ?_;refine xr ?_;refine xr ?_;refine xr ?_;refine aq ?_;refine aq ?_;refine aq (nt (JC.seq (sr ?_)));refine mq ?_;refine ja (o_not rfl) ?_;refine nt (cw h (fun h => ?_) (fun h => ?_))
   ·refine sr (cq ?_);refine cq ?_;refine cq (nt (rx ?_));refine JN.se (SE.ent (t := (.slice tBetween)) (x := []) 2 rfl .nil rfl rfl) ?_;cases h;exact JN.ret () [_, _, _] 0 ⟨rfl, rfl, rfl, trivial⟩ rfl
   ·refine sk (sr ?_);iterate 2 refine mq ?_
    refine aq ?_;refine aq ?_;refine cq (nt (JC.ret ?_));cases h;exact JN.ret () [_, _, _] 0 ⟨rfl, rfl, rfl, trivial⟩ rfl


def kit_At_l1 (k : Nat) (a0 : (List Int)) (a1 : Int) : Nat → Int → Option (Except Int Unit)
 | 0, _ => none
 | n + 1, y3 =>
  if y3 < (a0.length : Int) then ((geti a0 y3).bind fun x5 =>
  if x5 = a1 then (some (.error y3)) else ((ck (y3 + (1 : Int))).bind fun x6 =>
  kit_At_l1 k a0 a1 n x6)) else (some (.ok ()))
def kit_At (k : Nat) (a0 : (List Int)) (a1 : Int) : Option Int :=
 bE (α := Unit) (kit_At_l1 k a0 a1 k (0 : Int)) (some) fun _ =>
 some (-1 : Int)

theorem kit_At_ok (k : Nat) (a0 : (List Int)) (a1 : Int) (r : Int) (h : kit_At k a0 a1 = some r) :
 Ctr Try.prog 30 [Ri a0, I a1] [] (fun _ : Unit => (resA [I r], [])) := by
 unfold kit_At at h;replace h := b_top h;refine Ctr.of 19 Try.func30 rfl Try.ntmps30 rfl fun S w0 => ?_;refine sr (cq (nt ?_));refine JC.cutE (Z := Unit) (α := Unit) (fun z2 x1 => []) (fun z2 x1 => []) (fun e => e = r) h (fun e h => Option.some.inj h) (fun K hR h => ?_) (fun z2 x1 h => ?_)
 ·refine sr (cq (nt (JC.block ?_)));refine JC.loopB (Z := Unit) (α := Int) (fun z4 y3 => [(0, Ri a0), (1, I a1), (5, I y3)]) (fun z4 y3 => []) (kit_At_l1 k a0 a1) k () (0 : Int) (fun _ => rfl) h (SE.fin [] ⟨rfl, rfl, rfl, trivial⟩ rfl) (fun n z4 y3 h => ?_);unfold kit_At_l1 at h;refine JC.seq (sr ?_);iterate 2 refine mq ?_
  refine ol U22 ?_;refine jb (o_lss rfl) ?_;refine nt (ci h (fun h => ?_) (fun h => ?_))
  ·refine sk (JC.seq (JC.block (sr ?_)));iterate 2 refine mq ?_
   obtain ⟨x5, ex5, h⟩ := b_bind h;refine jb (o_index (t := (.int .i64)) rfl U22 sz3 ex5) ?_;refine ja (o_load_at (t := (.int .i64)) rfl sz3 rfl) ?_;refine mq ?_;refine jb (o_eql rfl) ?_;refine nt (ci h (fun h => ?_) (fun h => ?_))
   ·refine sr (mq ?_);refine aq (nt (JC.ret (br (JN.blk_r (JN.then_r ?_)))));obtain rfl := hR _ h;exact ra
   ·refine JC.skip (JN.blk_n (tn (JC.region (mq ?_))));obtain ⟨x6, ex6, h⟩ := b_bind h;refine jb (o_add rfl ex6) ?_;refine aq (nl ?_);exact jz ((), x6) h []
  ·refine xa ?_;exact jz ((), ()) h []
 ·refine sr (cq (nt (JC.ret ?_)));cases h;exact ra


def top_sewingOf_l2 (k : Nat) (a0 : dCostume) (a1 : (List Int)) (y7 : (List dThing) × (List Int) × Int × (List Int)) : Nat → ((List Int) × Int) → Option (List Int)
 | 0, _ => none
 | n + 1, y15 =>
  if y15.2 < (a1.length : Int) then ((((geti a1 y7.2.2.1).bind fun x19 =>
  (geti a0.2.2.2.1 x19).bind fun x20 =>
  (geti a1 y15.2).bind fun x21 =>
  (kit_At k x20.2.2.2.1 x21).bind fun r22 =>
  if (0 : Int) ≤ r22 then ((chkP (okLen (List.length y15.1 + List.length [y15.2]))).bind fun _ =>
  some (y15.1 ++ [y15.2])) else (some y15.1)) : Option ((List Int))).bind fun x17 =>
  (ck (y15.2 + (1 : Int))).bind fun x26 =>
  top_sewingOf_l2 k a0 a1 y7 n (x17, x26)) else (some y15.1)

def top_sewingOf_l1 (k : Nat) (a0 : dCostume) (a1 : (List Int)) (a2 : (List Int)) : Nat → ((List dThing) × (List Int) × Int × (List Int)) → Option ((List dThing) × (List Int) × (List Int))
 | 0, _ => none
 | n + 1, y7 =>
  if y7.2.2.1 < (a1.length : Int) then ((((geti a2 y7.2.2.1).bind fun x11 =>
  ((top_sewingOf_l2 k a0 a1 y7 k (([] : (List Int)), (0 : Int))) : Option ((List Int))).bind fun x13 =>
  (chkP (okLen (List.length y7.1 + List.length [(x13, (1 : Int), x11, (0 : Int), (0 : Int))]))).bind fun _ =>
  (chkP (okLen (List.length y7.2.1 + List.length [y7.2.2.1]))).bind fun _ =>
  (chkP (okLen (List.length y7.2.2.2 + List.length [y7.2.2.1]))).bind fun _ =>
  some (y7.1 ++ [(x13, (1 : Int), x11, (0 : Int), (0 : Int))])) : Option ((List dThing))).bind fun x9 =>
  (ck (y7.2.2.1 + (1 : Int))).bind fun x36 =>
  top_sewingOf_l1 k a0 a1 a2 n (x9, y7.2.1 ++ [y7.2.2.1], x36, y7.2.2.2 ++ [y7.2.2.1])) else (some (y7.1, y7.2.1, y7.2.2.2))
def top_sewingOf (k : Nat) (a0 : dCostume) (a1 : (List Int)) (a2 : (List Int)) (a3 : Int) : Option dChange :=
 ((top_sewingOf_l1 k a0 a1 a2 k (([] : (List dThing)), ([] : (List Int)), (0 : Int), ([] : (List Int)))) : Option ((List dThing) × (List Int) × (List Int))).bind fun x5 =>
 some (x5.1, [(x5.2.2, (0 : Int), a3)], [], x5.2.1)

theorem top_sewingOf_ok (k : Nat) (a0 : dCostume) (a1 : (List Int)) (a2 : (List Int)) (a3 : Int) (r : dChange) (h : top_sewingOf k a0 a1 a2 a3 = some r) :
 Ctr Try.prog 13 [.rep tCostume a0, Ri a1, Ri a2, I a3] [] (fun _ : Unit => (resA [.rep tChange r], [])) := by
 unfold top_sewingOf at h;replace h := b_top h;refine Ctr.of 80 Try.func13 rfl Try.ntmps13 rfl fun S w0 => ?_;refine sr (bx fun b1 => ?_);refine JO.s01 rfl rfl rfl (o_alloc rfl za43 al43) trivial fun b2 => ?_;refine nt (sr (mq ?_));refine ja (o_buildT [(2, .tmp 13, _)] rfl pl82 za82 alb82 (stors ⟨rfl, trivial⟩) rfl) ?_;refine JO.s01 rfl rfl rfl (o_lit1 (t := (.agg (.pair .val (.pair .val .val)))) ((.slice none 0 0), ((.int .i64 (0 : Int)), (.int .i64 a3))) rfl sl41 (.cons trivial (.agg (.pair (.val rfl) (.pair (.val rfl) (.val rfl)))) .nil) rfl) ⟨rfl, trivial⟩ fun b3 => ?_;refine JO.se (SE.objE (a := .rep (.agg (.pair .val (.pair .val .val))) ((.slice none 0 0), ((.int .i64 (0 : Int)), (.int .i64 a3)))) (a' := .agg (.pair (.eq (.slice none 0 0)) (.pair (I (0 : Int)) (I a3)))) (AE.trans AE.aggR (AE.agg (AE.trans AE.split (AE.pair AE.val (AE.trans AE.split (AE.pair AE.val AE.val))))))) ?_;refine ja (o_buildT [(1, .tmp 15, _)] rfl pl43 za43 alb43 (stors ⟨rfl, trivial⟩) rfl) ?_;refine JO.s01 rfl rfl rfl (o_alloc rfl za43 al43) trivial fun b4 => ?_;refine JO.n11 rfl rfl (o_store rfl sz43 trivial rfl rfl) ⟨rfl, rfl, trivial⟩ ?_;refine nt (JC.cutB (Z := Value × Value × Value) (α := (List dThing) × (List Int) × (List Int)) (fun z6 x5 => [(8, Pt b2), (9, Pt b4)]) (fun z6 x5 => [.obj b2 43 N4, .obj b4 43 (.agg (.pair (.eq z6.1) (.pair (.eq (.slice (some ⟨b3, 0, none⟩) 1 1)) (.pair (.eq (.slice none 0 0)) (.eq z6.2.1))))), .sl z6.1 84 tThing x5.1, .sl z6.2.1 3 (.int .i64) x5.2.1, .obj b3 82 (.agg (.pair (.eq z6.2.2) (.pair (I (0 : Int)) (I a3)))), .sl z6.2.2 3 (.int .i64) x5.2.2]) h (fun K h => ?_) (fun z6 x5 h => ?_))
 ·refine sr (cq (nt (JC.block ?_)));refine JC.se (SE.nil 84 tThing) ?_;refine JC.se (SE.nil 3 (.int .i64)) ?_;refine JC.se (SE.nil 3 (.int .i64)) ?_;refine JC.loopB (Z := Value × Value × Value) (α := (List dThing) × (List Int) × Int × (List Int)) (fun z8 y7 => [(1, Ri a1), (2, Ri a2), (4, Pt b1), (8, Pt b2), (9, Pt b4), (10, I y7.2.2.1)]) (fun z8 y7 => [.obj b1 28 (.rep tCostume a0), .obj b2 43 N4, .obj b4 43 (.agg (.pair (.eq z8.1) (.pair (.eq (.slice (some ⟨b3, 0, none⟩) 1 1)) (.pair (.eq (.slice none 0 0)) (.eq z8.2.1))))), .sl z8.1 84 tThing y7.1, .sl z8.2.1 3 (.int .i64) y7.2.1, .obj b3 82 (.agg (.pair (.eq z8.2.2) (.pair (I (0 : Int)) (I a3)))), .sl z8.2.2 3 (.int .i64) y7.2.2.2]) (top_sewingOf_l1 k a0 a1 a2) k ((.slice none 0 0), (.slice none 0 0), (.slice none 0 0)) (([] : (List dThing)), ([] : (List Int)), (0 : Int), ([] : (List Int))) (fun _ => rfl) h (SE.fin [6, 5, 3, 2, 1, 4, 0] ⟨rfl, rfl, rfl, rfl, rfl, rfl, trivial⟩ rfl) (fun n z8 y7 h => ?_);unfold top_sewingOf_l1 at h;refine JC.seq (sr ?_);iterate 2 refine mq ?_
  refine ol U22 ?_;refine jb (o_lss rfl) ?_;refine nt (ci h (fun h => ?_) (fun h => ?_))
  ·refine sk (JC.cutB (Z := Value × Value × Value) (α := (List dThing)) (fun z10 x9 => [(1, Ri a1), (2, Ri a2), (4, Pt b1), (8, Pt b2), (9, Pt b4), (10, I y7.2.2.1)]) (fun z10 x9 => [.obj b1 28 (.rep tCostume a0), .obj b2 43 N4, .obj b4 43 (.agg (.pair (.eq z10.1) (.pair (.eq (.slice (some ⟨b3, 0, none⟩) 1 1)) (.pair (.eq (.slice none 0 0)) (.eq z10.2.1))))), .sl z10.1 84 tThing x9, .sl z10.2.1 3 (.int .i64) (y7.2.1 ++ [y7.2.2.1]), .obj b3 82 (.agg (.pair (.eq z10.2.2) (.pair (I (0 : Int)) (I a3)))), .sl z10.2.2 3 (.int .i64) (y7.2.2.2 ++ [y7.2.2.1])]) h (fun K h => ?_) (fun z10 x9 h => ?_))
   ·refine JC.block (sr ?_);iterate 2 refine mq ?_
    obtain ⟨x11, ex11, h⟩ := b_bind h;refine jb (o_index (t := (.int .i64)) rfl U22 sz3 ex11) ?_;refine ja (o_load_at (t := (.int .i64)) rfl sz3 rfl) ?_;refine jb (o_buildT [(1, .const (.int .i64 (1)), _), (2, .tmp 26, _)] rfl pl84 za84 alb84 (stors ⟨rfl, rfl, trivial⟩) rfl) ?_;refine JO.s01 rfl rfl rfl (o_alloc rfl za84 al84) trivial fun b12 => ?_;refine JO.n11 rfl rfl (o_store rfl sz84 trivial rfl rfl) ⟨rfl, rfl, trivial⟩ ?_;refine nt (JC.cutB (Z := Value) (α := (List Int)) (fun z14 x13 => [(1, Ri a1), (2, Ri a2), (4, Pt b1), (8, Pt b2), (9, Pt b4), (10, I y7.2.2.1), (11, Pt b12)]) (fun z14 x13 => [.obj b1 28 (.rep tCostume a0), .obj b2 43 N4, .obj b4 43 (.agg (.pair (.eq z8.1) (.pair (.eq (.slice (some ⟨b3, 0, none⟩) 1 1)) (.pair (.eq (.slice none 0 0)) (.eq z8.2.1))))), .sl z8.1 84 tThing y7.1, .sl z8.2.1 3 (.int .i64) y7.2.1, .obj b12 84 (.agg (.pair (.eq z14) (.pair (I (1 : Int)) (.pair (I x11) (.pair (I (0 : Int)) (I (0 : Int))))))), .sl z14 3 (.int .i64) x13, .obj b3 82 (.agg (.pair (.eq z8.2.2) (.pair (I (0 : Int)) (I a3)))), .sl z8.2.2 3 (.int .i64) y7.2.2.2]) h (fun K h => ?_) (fun z14 x13 h => ?_))
    ·refine sr (cq (nt (JC.block ?_)));refine JC.se (SE.nil 3 (.int .i64)) ?_;refine JC.loopB (Z := Value) (α := (List Int) × Int) (fun z16 y15 => [(1, Ri a1), (2, Ri a2), (4, Pt b1), (8, Pt b2), (9, Pt b4), (10, I y7.2.2.1), (11, Pt b12), (12, I y15.2)]) (fun z16 y15 => [.obj b1 28 (.rep tCostume a0), .obj b2 43 N4, .obj b4 43 (.agg (.pair (.eq z8.1) (.pair (.eq (.slice (some ⟨b3, 0, none⟩) 1 1)) (.pair (.eq (.slice none 0 0)) (.eq z8.2.1))))), .sl z8.1 84 tThing y7.1, .sl z8.2.1 3 (.int .i64) y7.2.1, .obj b12 84 (.agg (.pair (.eq z16) (.pair (I (1 : Int)) (.pair (I x11) (.pair (I (0 : Int)) (I (0 : Int))))))), .sl z16 3 (.int .i64) y15.1, .obj b3 82 (.agg (.pair (.eq z8.2.2) (.pair (I (0 : Int)) (I a3)))), .sl z8.2.2 3 (.int .i64) y7.2.2.2]) (top_sewingOf_l2 k a0 a1 y7) k (.slice none 0 0) (([] : (List Int)), (0 : Int)) (fun _ => rfl) h (SE.fin [2, 3, 4, 5, 6, 1, 0, 7, 8] ⟨rfl, rfl, rfl, rfl, rfl, rfl, rfl, rfl, trivial⟩ rfl) (fun n z16 y15 h => ?_);unfold top_sewingOf_l2 at h;refine JC.seq (sr ?_);iterate 2 refine mq ?_
     refine ol U22 ?_;refine jb (o_lss rfl) ?_;refine nt (ci h (fun h => ?_) (fun h => ?_))
     ·refine sk (JC.cutB (Z := Value) (α := (List Int)) (fun z18 x17 => [(1, Ri a1), (2, Ri a2), (4, Pt b1), (8, Pt b2), (9, Pt b4), (10, I y7.2.2.1), (11, Pt b12), (12, I y15.2)]) (fun z18 x17 => [.obj b1 28 (.rep tCostume a0), .obj b2 43 N4, .obj b4 43 (.agg (.pair (.eq z8.1) (.pair (.eq (.slice (some ⟨b3, 0, none⟩) 1 1)) (.pair (.eq (.slice none 0 0)) (.eq z8.2.1))))), .sl z8.1 84 tThing y7.1, .sl z8.2.1 3 (.int .i64) y7.2.1, .obj b12 84 (.agg (.pair (.eq z18) (.pair (I (1 : Int)) (.pair (I x11) (.pair (I (0 : Int)) (I (0 : Int))))))), .sl z18 3 (.int .i64) x17, .obj b3 82 (.agg (.pair (.eq z8.2.2) (.pair (I (0 : Int)) (I a3)))), .sl z8.2.2 3 (.int .i64) y7.2.2.2]) h (fun K h => ?_) (fun z18 x17 h => ?_))
      ·refine JC.block (JC.seq (JC.drawN ?_));refine da (o_field_obj rfl fo28_3) ?_;refine ea 0 (o_load_obj rfl sz26 nfs rfl) ?_;refine dm ?_;refine dm ?_;obtain ⟨x19, ex19, h⟩ := b_bind h;refine db (o_index (t := (.int .i64)) rfl U22 sz3 ex19) ?_;refine da (o_load_at (t := (.int .i64)) rfl sz3 rfl) ?_;obtain ⟨x20, ex20, h⟩ := b_bind h;refine db (o_index (t := tSeam) rfl U26 sz56 ex20) ?_;refine da (o_field_at 1 false rfl fo56_3 rfl) ?_;refine da (o_load_at (t := (.slice (.int .i64))) rfl sz22 rfl) ?_;refine dm ?_;refine dm ?_;obtain ⟨x21, ex21, h⟩ := b_bind h;refine db (o_index (t := (.int .i64)) rfl U22 sz3 ex21) ?_;refine da (o_load_at (t := (.int .i64)) rfl sz3 rfl) ?_;refine df mixed ?_;obtain ⟨r22, er22, h⟩ := b_bind h;refine jb (o_call [.tmp 42, .tmp 46] rfl rfl en30 rfl (kit_At_ok k x20.2.2.2.1 x21 r22 er22)) ?_;refine jb (o_geq rfl) ?_;refine nt (ci h (fun h => ?_) (fun h => ?_))
       ·refine JC.region (fl fo84_0 ?_);refine fr 5 ?_;refine lo sz22 ?_;refine mq ?_;refine ja (o_litB (t := (.int .i64)) [(.tmp 51, _)] [y15.2] rfl rfl sl22 (.cons rfl .int .nil) rfl rfl) ?_;obtain ⟨u23, eu23, h⟩ := b_bind h;refine fr 6 ?_;refine JO.s1x rfl rfl rfl (o_append rfl rfl sl22 (chkP_some eu23)) ⟨rfl, rfl, trivial⟩ fun v24 => ?_;refine fl fo84_0 ?_;refine JO.one fun o25 => ?_;refine fr 1 ?_;refine JO.n11 rfl rfl (o_store rfl sz22 o25 rfl rfl) ⟨rfl, rfl, trivial⟩ ?_;refine JO.nil (bn ?_);exact jz (v24, y15.1 ++ [y15.2]) h [2, 3, 4, 5, 6, 0, 1, 7, 8]
       ·refine JC.skip (bn ?_);exact jz (z16, y15.1) h [0, 1, 2, 3, 4, 5, 6, 7, 8]
      ·refine JC.region (mq ?_);obtain ⟨x26, ex26, h⟩ := b_bind h;refine jb (o_add rfl ex26) ?_;refine aq (nl ?_);exact jz (z18, (x17, x26)) h [0, 1, 2, 3, 4, 5, 6, 7, 8]
     ·refine xa ?_;exact jz (z16, y15.1) h [0, 1, 2, 3, 4, 5, 6, 7, 8]
    ·refine JC.front 5 rfl ?_;refine JC.front 6 rfl ?_;refine JC.se (SE.frzBoth (off := 0) [] trivial rfl rfl) ?_;refine JC.drawW ?_;refine DW.t00 rfl rfl rfl (o_field_obj rfl fo43_1) ⟨rfl, trivial⟩ ?_;refine DW.t11 3 rfl rfl rfl rfl (o_load_obj rfl sz41 nfs rfl) ⟨rfl, trivial⟩ ?_;refine DW.t00 rfl rfl rfl (o_field_obj rfl fo43_0) ⟨rfl, trivial⟩ ?_;refine DW.t11 3 rfl rfl rfl rfl (o_load_obj rfl sz40 nfs rfl) ⟨rfl, trivial⟩ ?_;refine DW.t11 0 rfl rfl rfl rfl (o_load_obj rfl sz84 (nfn) rfl) ⟨rfl, trivial⟩ ?_;refine DW.t00 rfl rfl rfl (o_litB (t := tThing) [(.tmp 59, _)] [(x13, (1 : Int), x11, (0 : Int), (0 : Int))] rfl rfl sl40 (.cons trivial (.agg (.pair .rep (.pair .int (.pair .int (.pair .int .int))))) .nil) rfl rfl) ⟨rfl, trivial⟩ ?_;obtain ⟨u27, eu27, h⟩ := b_bind h;refine DW.tTurn 4 rfl (fun v => [.sl v 84 tThing (y7.1 ++ [(x13, (1 : Int), x11, (0 : Int), (0 : Int))])]) (fun _ => rfl) rfl rfl rfl (o_append rfl rfl sl40 (chkP_some eu27)) ⟨rfl, rfl, trivial⟩ ?_;refine DW.t00 rfl rfl rfl (o_field_obj rfl fo43_3) ⟨rfl, trivial⟩ ?_;refine DW.t11 3 rfl rfl rfl rfl (o_load_obj rfl sz22 nfs rfl) ⟨rfl, trivial⟩ ?_;refine DW.t00 rfl rfl rfl (o_move rfl) ⟨rfl, trivial⟩ ?_;refine DW.t00 rfl rfl rfl (o_litB (t := (.int .i64)) [(.tmp 64, _)] [y7.2.2.1] rfl rfl sl22 (.cons rfl .int .nil) rfl rfl) ⟨rfl, trivial⟩ ?_;obtain ⟨u29, eu29, h⟩ := b_bind h;refine DW.tTurn 5 rfl (fun v => [.sl v 3 (.int .i64) (y7.2.1 ++ [y7.2.2.1])]) (fun _ => rfl) rfl rfl rfl (o_append rfl rfl sl22 (chkP_some eu29)) ⟨rfl, rfl, trivial⟩ ?_;refine DW.t00 rfl rfl rfl (o_field_obj rfl fo43_1) ⟨rfl, trivial⟩ ?_;refine DW.t11 3 rfl rfl rfl rfl (o_load_obj rfl sz41 nfs rfl) ⟨rfl, trivial⟩ ?_;refine DW.t00 rfl rfl rfl (o_index1 rfl U41 sz82) ⟨rfl, rfl, trivial⟩ ?_;refine DW.t00 rfl rfl rfl (o_field_obj rfl fo82_0) ⟨rfl, trivial⟩ ?_;refine DW.t11 6 rfl rfl rfl rfl (o_load_obj rfl sz22 nfs rfl) ⟨rfl, trivial⟩ ?_;refine DW.t00 rfl rfl rfl (o_move rfl) ⟨rfl, trivial⟩ ?_;refine DW.t00 rfl rfl rfl (o_litB (t := (.int .i64)) [(.tmp 72, _)] [y7.2.2.1] rfl rfl sl22 (.cons rfl .int .nil) rfl rfl) ⟨rfl, trivial⟩ ?_;obtain ⟨u31, eu31, h⟩ := b_bind h;refine DW.tTurn 7 rfl (fun v => [.sl v 3 (.int .i64) (y7.2.2.2 ++ [y7.2.2.1])]) (fun _ => rfl) rfl rfl rfl (o_append rfl rfl sl22 (chkP_some eu31)) ⟨rfl, rfl, trivial⟩ ?_;refine DW.t00 rfl rfl rfl (o_field_obj rfl fo43_0) ⟨rfl, trivial⟩ ?_;refine DW.fin 21 [true, true, true, true, true, true, true, true, true, true, true, true, true, true, true, true, true, true, true, true, true] [76, 77, 78] [] [] rfl (by kernel_rfl) (by kernel_rfl) (by kernel_rfl) mixed (fun vs hv hB => ?_);obtain ⟨w0, vs1, rfl, hv1⟩ := len_cons hv;obtain ⟨w1, vs2, rfl, hv2⟩ := len_cons hv1;obtain ⟨w2, vs3, rfl, hv3⟩ := len_cons hv2;obtain ⟨w3, vs4, rfl, hv4⟩ := len_cons hv3;obtain ⟨w4, vs5, rfl, hv5⟩ := len_cons hv4;obtain ⟨w5, vs6, rfl, hv6⟩ := len_cons hv5;obtain ⟨v28, vs7, rfl, hv7⟩ := len_cons hv6;obtain ⟨w7, vs8, rfl, hv8⟩ := len_cons hv7;obtain ⟨w8, vs9, rfl, hv9⟩ := len_cons hv8;obtain ⟨w9, vs10, rfl, hv10⟩ := len_cons hv9;obtain ⟨w10, vs11, rfl, hv11⟩ := len_cons hv10;obtain ⟨v30, vs12, rfl, hv12⟩ := len_cons hv11;obtain ⟨w12, vs13, rfl, hv13⟩ := len_cons hv12;obtain ⟨w13, vs14, rfl, hv14⟩ := len_cons hv13;obtain ⟨w14, vs15, rfl, hv15⟩ := len_cons hv14;obtain ⟨w15, vs16, rfl, hv16⟩ := len_cons hv15;obtain ⟨w16, vs17, rfl, hv17⟩ := len_cons hv16;obtain ⟨w17, vs18, rfl, hv18⟩ := len_cons hv17;obtain ⟨w18, vs19, rfl, hv19⟩ := len_cons hv18;obtain ⟨v32, vs20, rfl, hv20⟩ := len_cons hv19;obtain ⟨w20, vs21, rfl, hv21⟩ := len_cons hv20;obtain rfl := len_nil hv21;refine ⟨[0, 1, 2, 3, 4, 5, 6, 7], [.obj b12 84 (.agg (.pair (Ri x13) (.pair (I (1 : Int)) (.pair (I x11) (.pair (I (0 : Int)) (I (0 : Int))))))), .obj b1 28 (.rep tCostume a0), .obj b2 43 N4, .obj b4 43 (.agg (.pair (.eq z8.1) (.pair (.eq (.slice (some ⟨b3, 0, none⟩) 1 1)) (.pair (.eq (.slice none 0 0)) (.eq z8.2.1))))), .obj b3 82 (.agg (.pair (.eq z8.2.2) (.pair (I (0 : Int)) (I a3)))), .sl v28 84 tThing (y7.1 ++ [(x13, (1 : Int), x11, (0 : Int), (0 : Int))]), .sl v30 3 (.int .i64) (y7.2.1 ++ [y7.2.2.1]), .sl v32 3 (.int .i64) (y7.2.2.2 ++ [y7.2.2.1])], by kernel_rfl, by decide, ?_⟩
     refine JT.front 5 rfl ?_;refine JT.one fun o33 => ?_;refine JT.front 4 rfl ?_;refine JT.n11 rfl rfl (o_store rfl sz40 o33 rfl rfl) ⟨rfl, rfl, trivial⟩ (by kernel_rfl) ?_;refine JT.y00 rfl rfl rfl rfl (o_field_obj rfl fo43_3) ⟨rfl, trivial⟩ (by kernel_rfl) ?_;refine JT.front 6 rfl ?_;refine JT.one fun o34 => ?_;refine JT.front 1 rfl ?_;refine JT.n11 rfl rfl (o_store rfl sz22 o34 rfl rfl) ⟨rfl, rfl, trivial⟩ (by kernel_rfl) ?_;refine JT.y00 rfl rfl rfl rfl (o_index1 rfl U41 sz82) ⟨rfl, rfl, trivial⟩ (by kernel_rfl) ?_;refine JT.y00 rfl rfl rfl rfl (o_field_obj rfl fo82_0) ⟨rfl, trivial⟩ (by kernel_rfl) ?_;refine JT.front 7 rfl ?_;refine JT.one fun o35 => ?_;refine JT.front 7 rfl ?_;refine JT.n11 rfl rfl (o_store rfl sz22 o35 rfl rfl) ⟨rfl, rfl, trivial⟩ (by kernel_rfl) ?_;refine JT.nil ?_;refine JN.se (SE.fin (Γ' := [(1, Ri a1), (2, Ri a2), (4, Pt b1), (8, Pt b2), (9, Pt b4), (10, I y7.2.2.1)]) (Δ' := [.obj b3 82 (.agg (.pair (.eq v32) (.pair (I (0 : Int)) (I a3)))), .sl v32 3 (.int .i64) (y7.2.2.2 ++ [y7.2.2.1]), .obj b4 43 (.agg (.pair (.eq v28) (.pair (.eq (.slice (some ⟨b3, 0, none⟩) 1 1)) (.pair (.eq (.slice none 0 0)) (.eq v30))))), .sl v30 3 (.int .i64) (y7.2.1 ++ [y7.2.2.1]), .sl v28 84 tThing (y7.1 ++ [(x13, (1 : Int), x11, (0 : Int), (0 : Int))]), .obj b12 84 (.agg (.pair (Ri x13) (.pair (I (1 : Int)) (.pair (I x11) (.pair (I (0 : Int)) (I (0 : Int))))))), .obj b1 28 (.rep tCostume a0), .obj b2 43 N4]) [0, 1, 2, 3, 4, 5, 6, 7] ⟨rfl, rfl, rfl, rfl, rfl, rfl, trivial⟩ rfl) ?_;refine bn ?_;exact jz ((v28, v30, v32), y7.1 ++ [(x13, (1 : Int), x11, (0 : Int), (0 : Int))]) h [6, 7, 2, 4, 3, 0, 1]
   ·refine JC.region (mq ?_);obtain ⟨x36, ex36, h⟩ := b_bind h;refine jb (o_add rfl ex36) ?_;refine aq (nl ?_);exact jz ((z10.1, z10.2.1, z10.2.2), (x9, y7.2.1 ++ [y7.2.2.1], x36, y7.2.2.2 ++ [y7.2.2.1])) h [0, 1, 2, 3, 4, 5, 6]
  ·refine xa ?_;exact jz ((z8.1, z8.2.1, z8.2.2), (y7.1, y7.2.1, y7.2.2.2)) h [1, 2, 3, 4, 5, 6]
 ·refine sr (fr 4 ?_);refine fr 5 ?_;refine JO.se (SE.frzBoth (off := 0) [] trivial rfl rfl) ?_;refine JO.se (SE.objE (a := .agg (.pair (Ri x5.2.2) (.pair (I (0 : Int)) (I a3)))) (a' := .rep tDresser (x5.2.2, (0 : Int), a3)) (AE.ent (.agg (.pair .rep (.pair .int .int))))) ?_;refine JO.se SE.obj1 ?_;refine fr 2 ?_;refine fr 3 ?_;refine JO.se (SE.frzBoth (off := 0) [] trivial rfl rfl) ?_;refine fr 1 ?_;refine JO.se (SE.frzBoth (off := 1) [] trivial rfl rfl) ?_;refine fr 2 ?_;refine JO.se (SE.frzBoth (off := 3) [] trivial rfl rfl) ?_;refine lo sz43 ?_;refine fr 1 ?_;refine JO.n11 rfl rfl (o_store rfl sz43 trivial rfl rfl) ⟨rfl, rfl, trivial⟩ ?_;refine nt (JC.ret (JN.se (SE.objE (a := .agg (.pair (Rs tThing x5.1) (.pair (Rs tDresser [(x5.2.2, (0 : Int), a3)]) (.pair (.eq (.slice none 0 0)) (Ri x5.2.1))))) (a' := .rep tChange (x5.1, [(x5.2.2, (0 : Int), a3)], [], x5.2.1)) (AE.ent (.agg (.pair .rep (.pair .rep (.pair .nil .rep)))))) ?_));cases h;exact JN.ret () [.rep tChange (x5.1, [(x5.2.2, (0 : Int), a3)], [], x5.2.1)] 0 ⟨⟨_, _, _, _, _, rfl, (.head _), sz43, (nfn), rfl⟩, trivial⟩ rfl


def top_robe (k : Nat) : Option dCostume :=
 some ([(40 : Int), (30 : Int)], [((0 : Int), (4 : Int)), ((0 : Int), (2 : Int))], [(0 : Int), (3 : Int)], [((-2 : Int), (2 : Int), [((0 : Int), (2 : Int))], [], (2 : Int)), ((-1 : Int), (2 : Int), [((0 : Int), (1 : Int)), ((1 : Int), (2 : Int))], [(0 : Int)], (2 : Int)), ((0 : Int), (1 : Int), [((0 : Int), (2 : Int))], [], (1 : Int))], [(0 : Int), (0 : Int), (0 : Int)])

theorem top_robe_ok (k : Nat) (r : dCostume) (h : top_robe k = some r) :
 Ctr Try.prog 22 [] [] (fun _ : Unit => (resA [.rep tCostume r], [])) := by
 unfold top_robe at h;replace h := b_top h;refine Ctr.of 20 Try.func22 rfl Try.ntmps22 rfl fun S w0 => ?_;refine sr (JO.s01 rfl rfl rfl (o_alloc rfl za28 al28) trivial fun b1 => ?_);refine nt (sr (jb (o_litB (t := (.int .i64)) [(.const (.int .i64 (40)), _), (.const (.int .i64 (30)), _)] [(40 : Int), (30 : Int)] rfl rfl sl22 (.cons rfl .int (.cons rfl .int .nil)) rfl rfl) ?_));refine ja (o_buildT [(1, .const (.int .i64 (4)), _)] rfl pl52 za52 alb52 (stors ⟨rfl, trivial⟩) rfl) ?_;refine ja (o_buildT [(1, .const (.int .i64 (2)), _)] rfl pl52 za52 alb52 (stors ⟨rfl, trivial⟩) rfl) ?_;refine jb (o_litB (t := tBetween) [(.tmp 2, _), (.tmp 3, _)] [((0 : Int), (4 : Int)), ((0 : Int), (2 : Int))] rfl rfl sl25 (.cons trivial (.agg (.pair .int .int)) (.cons trivial (.agg (.pair .int .int)) .nil)) rfl rfl) ?_;refine jb (o_litB (t := (.int .i64)) [(.const (.int .i64 (0)), _), (.const (.int .i64 (3)), _)] [(0 : Int), (3 : Int)] rfl rfl sl22 (.cons rfl .int (.cons rfl .int .nil)) rfl rfl) ?_;refine jb (o_buildT [(0, .const (.int .i64 (0)), _), (1, .const (.int .i64 (2)), _)] rfl pl87 za87 alb87 (stors ⟨rfl, rfl, trivial⟩) rfl) ?_;refine ja (o_litB (t := tBetween) [(.tmp 6, _)] [((0 : Int), (2 : Int))] rfl rfl sl54 (.cons trivial (.agg (.pair .int .int)) .nil) rfl rfl) ?_;refine JO.s rfl (o_buildT [(0, .const (.int .i64 (-2)), _), (1, .const (.int .i64 (2)), _), (2, .tmp 7, _), (4, .const (.int .i64 (2)), _)] rfl pl56 za56 alb56 (stors ⟨rfl, rfl, rfl, rfl, trivial⟩) rfl) ⟨rfl, rfl, rfl, rfl, trivial⟩ ?_;refine jb (o_buildT [(0, .const (.int .i64 (0)), _), (1, .const (.int .i64 (1)), _)] rfl pl87 za87 alb87 (stors ⟨rfl, rfl, trivial⟩) rfl) ?_;refine jb (o_buildT [(0, .const (.int .i64 (1)), _), (1, .const (.int .i64 (2)), _)] rfl pl87 za87 alb87 (stors ⟨rfl, rfl, trivial⟩) rfl) ?_;refine jb (o_litB (t := tBetween) [(.tmp 9, _), (.tmp 10, _)] [((0 : Int), (1 : Int)), ((1 : Int), (2 : Int))] rfl rfl sl54 (.cons trivial (.agg (.pair .int .int)) (.cons trivial (.agg (.pair .int .int)) .nil)) rfl rfl) ?_;refine ja (o_litB (t := (.int .i64)) [(.const (.int .i64 (0)), _)] [(0 : Int)] rfl rfl sl22 (.cons rfl .int .nil) rfl rfl) ?_;refine JO.s rfl (o_buildT [(0, .const (.int .i64 (-1)), _), (1, .const (.int .i64 (2)), _), (2, .tmp 11, _), (3, .tmp 12, _), (4, .const (.int .i64 (2)), _)] rfl pl56 za56 alb56 (stors ⟨rfl, rfl, rfl, rfl, rfl, trivial⟩) rfl) ⟨rfl, rfl, rfl, rfl, rfl, trivial⟩ ?_;refine jb (o_buildT [(0, .const (.int .i64 (0)), _), (1, .const (.int .i64 (2)), _)] rfl pl87 za87 alb87 (stors ⟨rfl, rfl, trivial⟩) rfl) ?_;refine ja (o_litB (t := tBetween) [(.tmp 14, _)] [((0 : Int), (2 : Int))] rfl rfl sl54 (.cons trivial (.agg (.pair .int .int)) .nil) rfl rfl) ?_;refine jc (o_buildT [(1, .const (.int .i64 (1)), _), (2, .tmp 15, _), (4, .const (.int .i64 (1)), _)] rfl pl56 za56 alb56 (stors ⟨rfl, rfl, rfl, trivial⟩) rfl) ?_;refine jc (o_litB (t := tSeam) [(.tmp 8, _), (.tmp 13, _), (.tmp 16, _)] [((-2 : Int), (2 : Int), [((0 : Int), (2 : Int))], [], (2 : Int)), ((-1 : Int), (2 : Int), [((0 : Int), (1 : Int)), ((1 : Int), (2 : Int))], [(0 : Int)], (2 : Int)), ((0 : Int), (1 : Int), [((0 : Int), (2 : Int))], [], (1 : Int))] rfl rfl sl26 (.cons trivial (.agg (.pair .int (.pair .int (.pair .rep (.pair .nil .int))))) (.cons trivial (.agg (.pair .int (.pair .int (.pair .rep (.pair .rep .int))))) (.cons trivial (.agg (.pair .int (.pair .int (.pair .rep (.pair .nil .int))))) .nil))) rfl rfl) ?_;refine jc (o_litB (t := (.int .i64)) [(.const (.int .i64 (0)), _), (.const (.int .i64 (0)), _), (.const (.int .i64 (0)), _)] [(0 : Int), (0 : Int), (0 : Int)] rfl rfl sl22 (.cons rfl .int (.cons rfl .int (.cons rfl .int .nil))) rfl rfl) ?_;refine JO.s rfl (o_buildT [(0, .tmp 1, _), (1, .tmp 4, _), (2, .tmp 5, _), (3, .tmp 17, _), (4, .tmp 18, _)] rfl pl28 za28 alb28 (stors ⟨rfl, rfl, rfl, rfl, rfl, trivial⟩) rfl) ⟨rfl, rfl, rfl, rfl, rfl, trivial⟩ ?_;refine JO.n11 rfl rfl (o_store rfl sz28 trivial rfl rfl) ⟨rfl, rfl, trivial⟩ ?_;refine nt (JC.ret (JN.se (SE.objE (a := .agg (.pair (Ri [(40 : Int), (30 : Int)]) (.pair (Rs tBetween [((0 : Int), (4 : Int)), ((0 : Int), (2 : Int))]) (.pair (Ri [(0 : Int), (3 : Int)]) (.pair (Rs tSeam [((-2 : Int), (2 : Int), [((0 : Int), (2 : Int))], [], (2 : Int)), ((-1 : Int), (2 : Int), [((0 : Int), (1 : Int)), ((1 : Int), (2 : Int))], [(0 : Int)], (2 : Int)), ((0 : Int), (1 : Int), [((0 : Int), (2 : Int))], [], (1 : Int))]) (Ri [(0 : Int), (0 : Int), (0 : Int)])))))) (a' := .rep tCostume ([(40 : Int), (30 : Int)], [((0 : Int), (4 : Int)), ((0 : Int), (2 : Int))], [(0 : Int), (3 : Int)], [((-2 : Int), (2 : Int), [((0 : Int), (2 : Int))], [], (2 : Int)), ((-1 : Int), (2 : Int), [((0 : Int), (1 : Int)), ((1 : Int), (2 : Int))], [(0 : Int)], (2 : Int)), ((0 : Int), (1 : Int), [((0 : Int), (2 : Int))], [], (1 : Int))], [(0 : Int), (0 : Int), (0 : Int)])) (AE.ent (.agg (.pair .rep (.pair .rep (.pair .rep (.pair .rep .rep))))))) ?_))
 cases h;exact JN.ret () [.rep tCostume ([(40 : Int), (30 : Int)], [((0 : Int), (4 : Int)), ((0 : Int), (2 : Int))], [(0 : Int), (3 : Int)], [((-2 : Int), (2 : Int), [((0 : Int), (2 : Int))], [], (2 : Int)), ((-1 : Int), (2 : Int), [((0 : Int), (1 : Int)), ((1 : Int), (2 : Int))], [(0 : Int)], (2 : Int)), ((0 : Int), (1 : Int), [((0 : Int), (2 : Int))], [], (1 : Int))], [(0 : Int), (0 : Int), (0 : Int)])] 0 ⟨⟨_, _, _, _, _, rfl, (.head _), sz28, (nfn), rfl⟩, trivial⟩ rfl


def kit_SameInts_l1 (k : Nat) (a0 : (List Int)) (a1 : (List Int)) : Nat → Int → Option (Except Bool Unit)
 | 0, _ => none
 | n + 1, y3 =>
  if y3 < (a0.length : Int) then ((geti a0 y3).bind fun x5 =>
  (geti a1 y3).bind fun x6 =>
  if ¬ (x5 = x6) then (some (.error false)) else ((ck (y3 + (1 : Int))).bind fun x7 =>
  kit_SameInts_l1 k a0 a1 n x7)) else (some (.ok ()))
def kit_SameInts (k : Nat) (a0 : (List Int)) (a1 : (List Int)) : Option Bool :=
 if ¬ ((a0.length : Int) = (a1.length : Int)) then (some false) else (bE (α := Unit) (kit_SameInts_l1 k a0 a1 k (0 : Int)) (some) fun _ =>
 some true)

theorem kit_SameInts_ok (k : Nat) (a0 : (List Int)) (a1 : (List Int)) (r : Bool) (h : kit_SameInts k a0 a1 = some r) :
 Ctr Try.prog 23 [Ri a0, Ri a1] [] (fun _ : Unit => (resA [.eq (.bool r)], [])) := by
 unfold kit_SameInts at h;replace h := b_top h;refine Ctr.of 26 Try.func23 rfl Try.ntmps23 rfl fun S w0 => ?_;refine sr (cq (nt (JC.seq (sr ?_))));refine mq ?_;refine ol U22 ?_;refine mq ?_;refine ol U22 ?_;refine jb (o_neq rfl) ?_;refine nt (cn h (fun h => ?_) (fun h => ?_))
 ·refine sr (cq (nt (rx ?_)));cases h;exact ra
 ·refine sk (JC.cutE (Z := Unit) (α := Unit) (fun z2 x1 => []) (fun z2 x1 => []) (fun e => e = r) h (fun e h => Option.some.inj h) (fun K hR h => ?_) (fun z2 x1 h => ?_))
  ·refine sr (cq (nt (JC.block ?_)));refine JC.loopB (Z := Unit) (α := Int) (fun z4 y3 => [(0, Ri a0), (1, Ri a1), (5, I y3)]) (fun z4 y3 => []) (kit_SameInts_l1 k a0 a1) k () (0 : Int) (fun _ => rfl) h (SE.fin [] ⟨rfl, rfl, rfl, trivial⟩ rfl) (fun n z4 y3 h => ?_);unfold kit_SameInts_l1 at h;refine JC.seq (sr ?_);iterate 2 refine mq ?_
   refine ol U22 ?_;refine jb (o_lss rfl) ?_;refine nt (ci h (fun h => ?_) (fun h => ?_))
   ·refine sk (JC.seq (JC.block (JC.seq (JC.drawN ?_))));refine dm ?_;refine dm ?_;obtain ⟨x5, ex5, h⟩ := b_bind h;refine db (o_index (t := (.int .i64)) rfl U22 sz3 ex5) ?_;refine da (o_load_at (t := (.int .i64)) rfl sz3 rfl) ?_;refine dm ?_;refine dm ?_;obtain ⟨x6, ex6, h⟩ := b_bind h;refine db (o_index (t := (.int .i64)) rfl U22 sz3 ex6) ?_;refine da (o_load_at (t := (.int .i64)) rfl sz3 rfl) ?_;refine df mixed ?_;refine jb (o_neq rfl) ?_;refine nt (cn h (fun h => ?_) (fun h => ?_))
    ·refine sr (cq (nt (JC.ret (br (JN.blk_r (JN.then_r ?_))))));obtain rfl := hR _ h;exact ra
    ·refine JC.skip (JN.blk_n (tn (JC.region (mq ?_))));obtain ⟨x7, ex7, h⟩ := b_bind h;refine jb (o_add rfl ex7) ?_;refine aq (nl ?_);exact jz ((), x7) h []
   ·refine xa ?_;exact jz ((), ()) h []
  ·refine sr (cq (nt (JC.ret ?_)));cases h;exact ra


def kit_SameSteps_l1 (k : Nat) (a0 : (List dBetween)) (a1 : (List dBetween)) : Nat → Int → Option (Except Bool Unit)
 | 0, _ => none
 | n + 1, y3 =>
  if y3 < (a0.length : Int) then ((geti a0 y3).bind fun x5 =>
  (geti a1 y3).bind fun x6 =>
  if ¬ (x5 = x6) then (some (.error false)) else ((ck (y3 + (1 : Int))).bind fun x7 =>
  kit_SameSteps_l1 k a0 a1 n x7)) else (some (.ok ()))
def kit_SameSteps (k : Nat) (a0 : (List dBetween)) (a1 : (List dBetween)) : Option Bool :=
 if ¬ ((a0.length : Int) = (a1.length : Int)) then (some false) else (bE (α := Unit) (kit_SameSteps_l1 k a0 a1 k (0 : Int)) (some) fun _ =>
 some true)

theorem kit_SameSteps_ok (k : Nat) (a0 : (List dBetween)) (a1 : (List dBetween)) (r : Bool) (h : kit_SameSteps k a0 a1 = some r) :
 Ctr Try.prog 24 [Rs tBetween a0, Rs tBetween a1] [] (fun _ : Unit => (resA [.eq (.bool r)], [])) := by
 unfold kit_SameSteps at h;replace h := b_top h;refine Ctr.of 26 Try.func24 rfl Try.ntmps24 rfl fun S w0 => ?_;refine sr (cq (nt (JC.seq (sr ?_))));refine mq ?_;refine ol U37 ?_;refine mq ?_;refine ol U37 ?_;refine jb (o_neq rfl) ?_;refine nt (cn h (fun h => ?_) (fun h => ?_))
 ·refine sr (cq (nt (rx ?_)));cases h;exact ra
 ·refine sk (JC.cutE (Z := Unit) (α := Unit) (fun z2 x1 => []) (fun z2 x1 => []) (fun e => e = r) h (fun e h => Option.some.inj h) (fun K hR h => ?_) (fun z2 x1 h => ?_))
  ·refine sr (cq (nt (JC.block ?_)));refine JC.loopB (Z := Unit) (α := Int) (fun z4 y3 => [(0, Rs tBetween a0), (1, Rs tBetween a1), (5, I y3)]) (fun z4 y3 => []) (kit_SameSteps_l1 k a0 a1) k () (0 : Int) (fun _ => rfl) h (SE.fin [] ⟨rfl, rfl, rfl, trivial⟩ rfl) (fun n z4 y3 h => ?_);unfold kit_SameSteps_l1 at h;refine JC.seq (sr ?_);iterate 2 refine mq ?_
   refine ol U37 ?_;refine jb (o_lss rfl) ?_;refine nt (ci h (fun h => ?_) (fun h => ?_))
   ·refine sk (JC.seq (JC.block (JC.seq (JC.drawN ?_))));refine dm ?_;refine dm ?_;obtain ⟨x5, ex5, h⟩ := b_bind h;refine db (o_index (t := tBetween) rfl U37 sz46 ex5) ?_;refine da (o_load_at (t := tBetween) rfl sz46 rfl) ?_;refine dm ?_;refine dm ?_;obtain ⟨x6, ex6, h⟩ := b_bind h;refine db (o_index (t := tBetween) rfl U37 sz46 ex6) ?_;refine da (o_load_at (t := tBetween) rfl sz46 rfl) ?_;refine df mixed ?_;refine jb (o_neqs rfl eq46 rfl) ?_;refine nt (cn h (fun h => ?_) (fun h => ?_))
    ·refine sr (cq (nt (JC.ret (br (JN.blk_r (JN.then_r ?_))))));obtain rfl := hR _ h;exact ra
    ·refine JC.skip (JN.blk_n (tn (JC.region (mq ?_))));obtain ⟨x7, ex7, h⟩ := b_bind h;refine jb (o_add rfl ex7) ?_;refine aq (nl ?_);exact jz ((), x7) h []
   ·refine xa ?_;exact jz ((), ()) h []
  ·refine sr (cq (nt (JC.ret ?_)));cases h;exact ra


def top_sewingAwake (k : Nat) : Option Bool :=
 (top_robe k).bind fun r1 =>
 (seam_Order k r1 [(0 : Int), (1 : Int), (0 : Int)]).bind fun r2 =>
 (top_robe k).bind fun r3 =>
 (top_sewingOf k r3 [(0 : Int), (1 : Int)] [(2 : Int), (3 : Int)] (1 : Int)).bind fun r4 =>
 (chg_Fewest k r4).bind fun r5 =>
 ((if r2.2 = (0 : Int) then (if r5.2.2 = (0 : Int) then (if r5.2.1 = (6 : Int) then ((kit_SameInts k r2.1 [(1 : Int), (0 : Int)]).bind fun r8 =>
 if r8 = true then ((kit_SameSteps k r5.1 [((1 : Int), (0 : Int)), ((0 : Int), (0 : Int))]).bind fun r9 =>
 some r9) else (some false)) else (some false)) else (some false)) else (some false)) : Option (Bool)).bind fun x6 =>
 some x6

theorem top_sewingAwake_ok (k : Nat) (r : Bool) (h : top_sewingAwake k = some r) :
 Ctr Try.prog 9 [] [] (fun _ : Unit => (resA [.eq (.bool r)], [])) := by
 unfold top_sewingAwake at h;replace h := b_top h;refine Ctr.of 43 Try.func9 rfl Try.ntmps9 rfl fun S w0 => ?_;refine sr (cq (nt (sr ?_)));obtain ⟨r1, er1, h⟩ := b_bind h;refine JO.s rfl (o_call [] rfl rfl en22 rfl (top_robe_ok k  r1 er1)) trivial ?_;refine jc (o_litB (t := (.int .i64)) [(.const (.int .i64 (0)), _), (.const (.int .i64 (1)), _), (.const (.int .i64 (0)), _)] [(0 : Int), (1 : Int), (0 : Int)] rfl rfl sl22 (.cons rfl .int (.cons rfl .int (.cons rfl .int .nil))) rfl rfl) ?_;obtain ⟨r2, er2, h⟩ := b_bind h;refine jb (o_call [.tmp 7, .tmp 8] rfl rfl en8 rfl (seam_Order_ok k r1 [(0 : Int), (1 : Int), (0 : Int)] r2 er2)) ?_;refine mq ?_;refine xr ?_;refine xr ?_;refine aq ?_;refine aq (nt (sr ?_));obtain ⟨r3, er3, h⟩ := b_bind h;refine JO.s rfl (o_call [] rfl rfl en22 rfl (top_robe_ok k  r3 er3)) trivial ?_;refine jb (o_litB (t := (.int .i64)) [(.const (.int .i64 (0)), _), (.const (.int .i64 (1)), _)] [(0 : Int), (1 : Int)] rfl rfl sl22 (.cons rfl .int (.cons rfl .int .nil)) rfl rfl) ?_;refine jb (o_litB (t := (.int .i64)) [(.const (.int .i64 (2)), _), (.const (.int .i64 (3)), _)] [(2 : Int), (3 : Int)] rfl rfl sl22 (.cons rfl .int (.cons rfl .int .nil)) rfl rfl) ?_;obtain ⟨r4, er4, h⟩ := b_bind h;refine JO.s rfl (o_call [.tmp 13, .tmp 14, .tmp 15, .const (.int .i64 (1))] rfl rfl en13 rfl (top_sewingOf_ok k r3 [(0 : Int), (1 : Int)] [(2 : Int), (3 : Int)] (1 : Int) r4 er4)) ⟨rfl, rfl, rfl, rfl, trivial⟩ ?_;obtain ⟨r5, er5, h⟩ := b_bind h;refine ja (o_call [.tmp 16] rfl rfl en12 rfl (chg_Fewest_ok k r4 r5 er5)) ?_;refine mq ?_;refine xr ?_;refine xr ?_;refine xr ?_;refine aq ?_;refine aq ?_;refine aq (nt ?_);refine JC.cutB (Z := Unit) (α := Bool) (fun z7 x6 => [(0, .eq (.bool x6))]) (fun z7 x6 => []) h (fun K h => ?_) (fun z7 x6 h => ?_)
 ·refine JC.region (mq ?_);refine jb (o_eql rfl) ?_;refine mq ?_;refine JO.bool (s := 23) rfl (fun hb => ?_) (fun hb => ?_)
  ·replace h := b_if (d_t hb) h;refine gm ?_;refine gb (o_eql rfl) ?_;refine pt ?_;refine mq ?_;refine JO.bool (s := 27) rfl (fun hb => ?_) (fun hb => ?_)
   ·replace h := b_if (d_t hb) h;refine gm ?_;refine gb (o_eql rfl) ?_;refine pt ?_;refine mq ?_;refine JO.bool (s := 31) rfl (fun hb => ?_) (fun hb => ?_)
    ·replace h := b_if (d_t hb) h;refine gm ?_;refine gb (o_litB (t := (.int .i64)) [(.const (.int .i64 (1)), _), (.const (.int .i64 (0)), _)] [(1 : Int), (0 : Int)] rfl rfl sl22 (.cons rfl .int (.cons rfl .int .nil)) rfl rfl) ?_;obtain ⟨r8, er8, h⟩ := b_bind h;refine gb (o_call [.tmp 32, .tmp 33] rfl rfl en23 rfl (kit_SameInts_ok k r2.1 [(1 : Int), (0 : Int)] r8 er8)) ?_;refine pt ?_;refine mq ?_;refine JO.bool (s := 36) rfl (fun hb => ?_) (fun hb => ?_)
     ·replace h := b_if (v_t hb) h;refine gm ?_;refine ga (o_buildT [(0, .const (.int .i64 (1)), _)] rfl pl46 za46 alb46 (stors ⟨rfl, trivial⟩) rfl) ?_;refine ga (o_buildT [(0, .const (.int .i64 (0)), _)] rfl pl46 za46 alb46 (stors ⟨rfl, trivial⟩) rfl) ?_;refine gb (o_litB (t := tBetween) [(.tmp 38, _), (.tmp 39, _)] [((1 : Int), (0 : Int)), ((0 : Int), (0 : Int))] rfl rfl sl37 (.cons trivial (.agg (.pair .int .int)) (.cons trivial (.agg (.pair .int .int)) .nil)) rfl rfl) ?_;obtain ⟨r9, er9, h⟩ := b_bind h;refine gb (o_call [.tmp 37, .tmp 40] rfl rfl en24 rfl (kit_SameSteps_ok k r5.1 [((1 : Int), (0 : Int)), ((0 : Int), (0 : Int))] r9 er9)) ?_;refine pt ?_;refine aq (nl ?_);exact jz ((), r9) h []
     ·replace h := b_ifn (v_f hb) h;iterate 5 refine gn ?_
      refine pf ?_;refine aq (nl ?_);exact jz ((), false) h []
    ·replace h := b_ifn (d_f hb) h;iterate 3 refine gn ?_
     refine pf ?_;refine mq ?_;iterate 5 refine gn ?_
     refine pf ?_;refine aq (nl ?_);exact jz ((), false) h []
   ·replace h := b_ifn (d_f hb) h;iterate 2 refine gn ?_
    refine pf ?_;refine mq ?_;iterate 3 refine gn ?_
    refine pf ?_;refine mq ?_;iterate 5 refine gn ?_
    refine pf ?_;refine aq (nl ?_);exact jz ((), false) h []
  ·replace h := b_ifn (d_f hb) h;iterate 2 refine gn ?_
   refine pf ?_;refine mq ?_;iterate 2 refine gn ?_
   refine pf ?_;refine mq ?_;iterate 3 refine gn ?_
   refine pf ?_;refine mq ?_;iterate 5 refine gn ?_
   refine pf ?_;refine aq (nl ?_);exact jz ((), false) h []
 ·refine JC.ret ?_;cases h;exact ra


def top_TopSewing_l1 (k : Nat) (r3 : dCostume × dLots) (r6 : (List Int) × Int) : Nat → ((List Int) × Int × Int × (List Int) × Int × Int) → Option (Except Bool ((List Int) × Int))
 | 0, _ => none
 | n + 1, y14 =>
  if y14.2.2.2.2.2 < (r6.1.length : Int) then ((((geti r6.1 y14.2.2.2.2.2).bind fun x18 =>
  if x18 < (0 : Int) then (some true) else ((geti r6.1 y14.2.2.2.2.2).bind fun x19 =>
  some (decide ((r3.1.2.2.2.1.length : Int) ≤ x19)))) : Option (Bool)).bind fun x16 =>
  if x16 = true then (some (.error false)) else ((kit_Lots_In k (y14.1, y14.2.1, y14.2.2.1) (1 : Int) (4 : Int)).bind fun r20 =>
  (chkP (okLen (List.length y14.2.2.2.1 + List.length [r20.1]))).bind fun _ =>
  (geti (y14.2.2.2.1 ++ [r20.1]) y14.2.2.2.2.2).bind fun x23 =>
  (ck (y14.2.2.2.2.1 + x23)).bind fun x24 =>
  (ck (y14.2.2.2.2.2 + (1 : Int))).bind fun x25 =>
  top_TopSewing_l1 k r3 r6 n (r20.2.1, r20.2.2.1, r20.2.2.2, y14.2.2.2.1 ++ [r20.1], x24, x25))) else (some (.ok (y14.2.2.2.1, y14.2.2.2.2.1)))

def top_TopSewing_l2 (k : Nat) (r6 : (List Int) × Int) (r7 : (List Int) × Int) (r27 : (List dBetween) × Int × Int) : Nat → Int → Option (Except Bool Unit)
 | 0, _ => none
 | n + 1, y32 =>
  if y32 < (r27.1.length : Int) then ((((geti r27.1 y32).bind fun x36 =>
  if x36.1 < (0 : Int) then (some true) else ((geti r27.1 y32).bind fun x37 =>
  if (r6.1.length : Int) ≤ x37.1 then (some true) else ((geti r27.1 y32).bind fun x38 =>
  (geti r6.1 x38.1).bind fun x39 =>
  (geti r7.1 y32).bind fun x40 =>
  some (!decide (x39 = x40))))) : Option (Bool)).bind fun x34 =>
  if x34 = true then (some (.error false)) else ((ck (y32 + (1 : Int))).bind fun x41 =>
  top_TopSewing_l2 k r6 r7 r27 n x41)) else (some (.ok ()))
def top_TopSewing (k : Nat) (a0 : (List Int)) : Option Bool :=
 (kit_NewLots k a0).bind fun r1 =>
 (kit_CostumeOf k (r1.1, r1.2.1, r1.2.2) (3 : Int)).bind fun r3 =>
 (kit_SettingOf k (r3.2.1, r3.2.2.1, r3.2.2.2) r3.1).bind fun r5 =>
 (seam_Sewn k r3.1 r5.1).bind fun r6 =>
 (seam_Order k r3.1 r5.1).bind fun r7 =>
 ((if ¬ (r6.2 = r7.2) then (some true) else (if ¬ (r6.2 = (0 : Int)) then (if ¬ (r6.2 = (12 : Int)) then (some true) else (if ¬ ((r7.1.length : Int) = (r6.1.length : Int)) then (some true) else (some (decide ((r3.1.2.2.2.1.length : Int) < (r6.1.length : Int)))))) else (if ¬ ((r7.1.length : Int) = (r6.1.length : Int)) then (some true) else (some (decide ((r3.1.2.2.2.1.length : Int) < (r6.1.length : Int))))))) : Option (Bool)).bind fun x8 =>
 if x8 = true then (some false) else (if (r6.1.length : Int) = (0 : Int) then ((top_sewingAwake k).bind fun r10 =>
 some r10) else ((kit_Lots_Upto k (r5.2.1, r5.2.2.1, r5.2.2.2) (9 : Int)).bind fun r11 =>
 bE (α := (List Int) × Int) (top_TopSewing_l1 k r3 r6 k (r11.2.1, r11.2.2.1, r11.2.2.2, ([] : (List Int)), r11.1, (0 : Int))) (some) fun x12 =>
 (top_sewingOf k r3.1 r6.1 x12.1 r11.1).bind fun r26 =>
 (chg_Fewest k r26).bind fun r27 =>
 ((if ¬ (r27.2.2 = (0 : Int)) then (some true) else (if ¬ (r27.2.1 = x12.2) then (some true) else (some (!decide ((r27.1.length : Int) = (r7.1.length : Int)))))) : Option (Bool)).bind fun x28 =>
 if x28 = true then (some false) else (bE (α := Unit) (top_TopSewing_l2 k r6 r7 r27 k (0 : Int)) (some) fun _ =>
 (top_sewingAwake k).bind fun r42 =>
 some r42)))

theorem top_TopSewing_ok (k : Nat) (a0 : (List Int)) (r : Bool) (h : top_TopSewing k a0 = some r) :
 Ctr Try.prog 3 [Ri a0] [] (fun _ : Unit => (resA [.eq (.bool r)], [])) := by
 unfold top_TopSewing at h;replace h := b_top h;refine Ctr.of 164 Try.func3 rfl Try.ntmps3 rfl fun S w0 => ?_;refine sr (cq (nt (sr ?_)));refine mq ?_;obtain ⟨r1, er1, h⟩ := b_bind h;refine JO.s01 rfl rfl rfl (o_call [.tmp 18] rfl rfl en4 rfl (kit_NewLots_ok k a0 r1 er1)) ⟨rfl, trivial⟩ fun b2 => ?_;refine aq (nt (sr ?_));refine mq ?_;obtain ⟨r3, er3, h⟩ := b_bind h;refine kb (o_call [.tmp 20, .const (.int .i64 (3))] rfl rfl en5 rfl (kit_CostumeOf_ok k (r1.1, r1.2.1, r1.2.2) b2 (3 : Int) r3 er3)) ?_;refine JO.s01 rfl rfl rfl (o_alloc rfl za28 al28) trivial fun b4 => ?_;refine JO.n11 rfl rfl (o_store rfl sz28 rfl rfl rfl) ⟨rfl, rfl, trivial⟩ ?_;refine nt (sr (mq ?_));refine lo sz28 ?_;obtain ⟨r5, er5, h⟩ := b_bind h;refine fr 1 ?_;refine kb (o_call [.tmp 22, .tmp 23] rfl rfl en6 rfl (kit_SettingOf_ok k (r3.2.1, r3.2.2.1, r3.2.2.2) b2 r3.1 r5 er5)) ?_;refine aq (nt (sr ?_));refine fr 1 ?_;refine lo sz28 ?_;refine mq ?_;obtain ⟨r6, er6, h⟩ := b_bind h;refine jb (o_call [.tmp 26, .tmp 27] rfl rfl en7 rfl (seam_Sewn_ok k r3.1 r5.1 r6 er6)) ?_;refine mq ?_;refine xr ?_;refine xr ?_;refine aq ?_;refine aq (nt (sr ?_));refine lo sz28 ?_;refine mq ?_;obtain ⟨r7, er7, h⟩ := b_bind h;refine jb (o_call [.tmp 32, .tmp 33] rfl rfl en8 rfl (seam_Order_ok k r3.1 r5.1 r7 er7)) ?_;refine mq ?_;refine xr ?_;refine xr ?_;refine aq ?_;refine aq (nt (JC.seq ?_));refine JC.cutB (Z := Unit) (α := Bool) (fun z9 x8 => [(3, Pt b2), (4, Pt b4), (6, Ri r6.1), (8, Ri r7.1), (62, .eq (.bool x8))]) (fun z9 x8 => [.obj b2 50 (.agg (.pair (Ri r5.2.1) (.pair (I r5.2.2.1) (.eq (.int .u64 r5.2.2.2))))), .obj b4 28 (.rep tCostume r3.1)]) h (fun K h => ?_) (fun z9 x8 h => ?_)
 ·refine JC.region ?_;iterate 2 refine mq ?_
  refine jb (o_neq rfl) ?_;refine mq ?_;refine JO.bool (s := 40) rfl (fun hb => ?_) (fun hb => ?_)
  ·replace h := b_if (n_t hb) h;iterate 3 refine gn ?_
   refine gu ?_;refine gu ?_;refine gn ?_;refine pt ?_;refine mq ?_;iterate 5 refine gn ?_
   refine pt ?_;refine mq ?_;iterate 6 refine gn ?_
   refine pt (nl ?_);exact jz ((), true) h [1, 0]
  ·replace h := b_ifn (n_fn hb) h;refine gm ?_;refine gb (o_neq rfl) ?_;refine gm ?_;refine JO.bool (s := 43) rfl (fun hb => ?_) (fun hb => ?_)
   ·replace h := b_if (n_t hb) h;refine gm ?_;refine gb (o_neq rfl) ?_;refine gb (o_pick_t rfl) ?_;refine pf ?_;refine mq ?_;refine JO.bool (s := 48) rfl (fun hb => ?_) (fun hb => ?_)
    ·replace h := b_if (n_t hb) h;iterate 5 refine gn ?_
     refine pt ?_;refine mq ?_;iterate 6 refine gn ?_
     refine pt (nl ?_);exact jz ((), true) h [1, 0]
    ·replace h := b_ifn (n_fn hb) h;refine gm ?_;refine ga (o_len rfl rfl U22) ?_;refine gm ?_;refine ga (o_len rfl rfl U22) ?_;refine gb (o_neq rfl) ?_;refine pf ?_;refine mq ?_;refine JO.bool (s := 55) rfl (fun hb => ?_) (fun hb => ?_)
     ·replace h := b_if (n_t hb) h;iterate 6 refine gn ?_
      refine pt (nl ?_);exact jz ((), true) h [1, 0]
     ·replace h := b_ifn (n_fn hb) h;refine gm ?_;refine ga (o_len rfl rfl U22) ?_;refine ga (o_field_obj rfl fo28_3) ?_;refine JO.g11 rfl rfl rfl rfl rfl rfl (o_load_obj rfl sz26 nfs rfl) ⟨rfl, trivial⟩ ?_;refine ga (o_len rfl rfl U26) ?_;refine gb (o_gtr rfl) ?_;refine pf (nl ?_);exact jz ((), decide ((r3.1.2.2.2.1.length : Int) < (r6.1.length : Int))) h [1, 0]
   ·replace h := b_ifn (n_fn hb) h;iterate 2 refine gn ?_
    refine gb (o_pick_f rfl) ?_;refine pf ?_;refine mq ?_;refine gm ?_;refine ga (o_len rfl rfl U22) ?_;refine gm ?_;refine ga (o_len rfl rfl U22) ?_;refine gb (o_neq rfl) ?_;refine pf ?_;refine mq ?_;refine JO.bool (s := 55) rfl (fun hb => ?_) (fun hb => ?_)
    ·replace h := b_if (n_t hb) h;iterate 6 refine gn ?_
     refine pt (nl ?_);exact jz ((), true) h [1, 0]
    ·replace h := b_ifn (n_fn hb) h;refine gm ?_;refine ga (o_len rfl rfl U22) ?_;refine ga (o_field_obj rfl fo28_3) ?_;refine JO.g11 rfl rfl rfl rfl rfl rfl (o_load_obj rfl sz26 nfs rfl) ⟨rfl, trivial⟩ ?_;refine ga (o_len rfl rfl U26) ?_;refine gb (o_gtr rfl) ?_;refine pf (nl ?_);exact jz ((), decide ((r3.1.2.2.2.1.length : Int) < (r6.1.length : Int))) h [1, 0]
 ·refine cv h (fun h => ?_) (fun h => ?_)
  ·refine sr (cq (nt (rx ?_)));cases h;exact ra
  ·refine sk (JC.seq (sr (mq ?_)));refine ol U22 ?_;refine jb (o_eql rfl) ?_;refine nt (ci h (fun h => ?_) (fun h => ?_))
   ·refine sr ?_;obtain ⟨r10, er10, h⟩ := b_bind h;refine JO.s rfl (o_call [] rfl rfl en9 rfl (top_sewingAwake_ok k  r10 er10)) trivial ?_;refine aq (nt (rx ?_));cases h;exact ra
   ·refine sk (sr (cq (nt (sr ?_))));refine mq ?_;obtain ⟨r11, er11, h⟩ := b_bind h;refine kb (o_call [.tmp 67, .const (.int .i64 (9))] rfl rfl en10 rfl (kit_Lots_Upto_ok k (r5.2.1, r5.2.2.1, r5.2.2.2) b2 (9 : Int) r11 er11)) ?_;refine aq (nt (sr ?_));refine mq ?_;refine aq (nt ?_);refine JC.cutE (Z := Value) (α := (List Int) × Int) (fun z13 x12 => [(4, Pt b4), (6, Ri r6.1), (8, Ri r7.1), (10, .eq z13), (11, I x12.2), (12, I r11.1)]) (fun z13 x12 => [.obj b4 28 (.rep tCostume r3.1), .sl z13 3 (.int .i64) x12.1]) (fun e => e = r) h (fun e h => Option.some.inj h) (fun K hR h => ?_) (fun z13 x12 h => ?_)
    ·refine sr (cq (nt (JC.block ?_)));refine JC.se (SE.nil 3 (.int .i64)) ?_;refine JC.loopB (Z := Value) (α := (List Int) × Int × Int × (List Int) × Int × Int) (fun z15 y14 => [(3, Pt b2), (4, Pt b4), (6, Ri r6.1), (8, Ri r7.1), (10, .eq z15), (11, I y14.2.2.2.2.1), (12, I r11.1), (13, I y14.2.2.2.2.2)]) (fun z15 y14 => [.obj b2 50 (.agg (.pair (Ri y14.1) (.pair (I y14.2.1) (.eq (.int .u64 y14.2.2.1))))), .obj b4 28 (.rep tCostume r3.1), .sl z15 3 (.int .i64) y14.2.2.2.1]) (top_TopSewing_l1 k r3 r6) k (.slice none 0 0) (r11.2.1, r11.2.2.1, r11.2.2.2, ([] : (List Int)), r11.1, (0 : Int)) (fun _ => rfl) h (SE.fin [1, 2, 0] ⟨rfl, rfl, rfl, rfl, rfl, rfl, rfl, rfl, trivial⟩ rfl) (fun n z15 y14 h => ?_);unfold top_TopSewing_l1 at h;refine JC.seq (sr ?_);iterate 2 refine mq ?_
     refine ol U22 ?_;refine jb (o_lss rfl) ?_;refine nt (ci h (fun h => ?_) (fun h => ?_))
     ·refine sk (JC.seq (JC.block (JC.seq (JC.cutB (Z := Unit) (α := Bool) (fun z17 x16 => [(3, Pt b2), (4, Pt b4), (6, Ri r6.1), (8, Ri r7.1), (10, .eq z15), (11, I y14.2.2.2.2.1), (12, I r11.1), (13, I y14.2.2.2.2.2), (90, .eq (.bool x16))]) (fun z17 x16 => [.obj b2 50 (.agg (.pair (Ri y14.1) (.pair (I y14.2.1) (.eq (.int .u64 y14.2.2.1))))), .obj b4 28 (.rep tCostume r3.1), .sl z15 3 (.int .i64) y14.2.2.2.1]) h (fun K h => ?_) (fun z17 x16 h => ?_)))))
      ·refine JC.drawN ?_;refine dm ?_;refine dm ?_;obtain ⟨x18, ex18, h⟩ := b_bind h;refine db (o_index (t := (.int .i64)) rfl U22 sz3 ex18) ?_;refine da (o_load_at (t := (.int .i64)) rfl sz3 rfl) ?_;refine db (o_lss rfl) ?_;refine DN.fork rfl rfl rfl (o_move rfl) ⟨rfl, trivial⟩ (fun hb => ?_) (fun hb => ?_)
       ·replace h := b_if (d_t hb) h;iterate 7 refine dg ?_
        refine df mixed ?_;refine gn ?_;refine pt (nl ?_);exact jz ((), true) h [0, 1, 2]
       ·replace h := b_ifn (d_f hb) h;refine DN.sg00 rfl rfl rfl rfl rfl (o_move rfl) ⟨rfl, rfl, trivial⟩ ?_;refine DN.sg00 rfl rfl rfl rfl rfl (o_move rfl) ⟨rfl, rfl, trivial⟩ ?_;obtain ⟨x19, ex19, h⟩ := b_bind h;refine DN.sg00 rfl rfl rfl rfl rfl (o_index (t := (.int .i64)) rfl U22 sz3 ex19) ⟨rfl, rfl, rfl, trivial⟩ ?_;refine DN.sg00 rfl rfl rfl rfl rfl (o_load_at (t := (.int .i64)) rfl sz3 rfl) ⟨rfl, rfl, trivial⟩ ?_;refine DN.sg00 rfl rfl rfl rfl rfl (o_field_obj rfl fo28_3) ⟨rfl, rfl, trivial⟩ ?_;refine DN.sg11 1 rfl rfl rfl rfl rfl rfl (o_load_obj rfl sz26 nfs rfl) ⟨rfl, rfl, trivial⟩ ?_;refine DN.sg00 rfl rfl rfl rfl rfl (o_len rfl rfl U26) ⟨rfl, rfl, trivial⟩ ?_;refine df mixed ?_;refine gb (o_geq rfl) ?_;refine pf (nl ?_);exact jz ((), decide ((r3.1.2.2.2.1.length : Int) ≤ x19)) h [0, 1, 2]
      ·refine cv h (fun h => ?_) (fun h => ?_)
       ·refine sr (cq (nt (rx (br (JN.blk_r (JN.then_r ?_))))));obtain rfl := hR _ h;exact ra
       ·refine sk (sr ?_);iterate 2 refine mq ?_
        obtain ⟨r20, er20, h⟩ := b_bind h;refine kc (o_call [.tmp 92, .const (.int .i64 (1)), .const (.int .i64 (4))] rfl rfl en11 rfl (kit_Lots_In_ok k (y14.1, y14.2.1, y14.2.2.1) b2 (1 : Int) (4 : Int) r20 er20)) ?_;refine ja (o_litB (t := (.int .i64)) [(.tmp 93, _)] [r20.1] rfl rfl sl22 (.cons rfl .int .nil) rfl rfl) ?_;obtain ⟨u21, eu21, h⟩ := b_bind h;refine fr 2 ?_;refine JO.s1x rfl rfl rfl (o_append rfl rfl sl22 (chkP_some eu21)) ⟨rfl, rfl, trivial⟩ fun v22 => ?_;refine aq (nt (JC.region ?_));iterate 3 refine mq ?_
        obtain ⟨x23, ex23, h⟩ := b_bind h;refine kb (o_index_own (t := (.int .i64)) rfl U22 sz3 ex23) ?_;refine ka (o_load_el (i := Int.toNat y14.2.2.2.2.2) (off := 0) rfl sz3 (fun _ => rfl) rfl (geti_some ex23).2.2 rfl) ?_;obtain ⟨x24, ex24, h⟩ := b_bind h;refine jb (o_add rfl ex24) ?_;refine aq (JO.nil (JN.blk_n (tn (JC.region ?_))));refine mq ?_;obtain ⟨x25, ex25, h⟩ := b_bind h;refine jb (o_add rfl ex25) ?_;refine aq (nl ?_);exact jz (v22, (r20.2.1, r20.2.2.1, r20.2.2.2, y14.2.2.2.1 ++ [r20.1], x24, x25)) h [1, 2, 0]
     ·refine xa ?_;exact jz (z15, (y14.2.2.2.1, y14.2.2.2.2.1)) h [1, 2]
    ·refine sr (lo sz28 ?_);iterate 3 refine mq ?_
     refine fr 1 ?_;refine JO.se (SE.frz [10, 105] ⟨rfl, rfl, trivial⟩) ?_;obtain ⟨r26, er26, h⟩ := b_bind h;refine JO.s rfl (o_call [.tmp 103, .tmp 104, .tmp 105, .tmp 106] rfl rfl en13 rfl (top_sewingOf_ok k r3.1 r6.1 x12.1 r11.1 r26 er26)) ⟨rfl, rfl, rfl, rfl, trivial⟩ ?_;obtain ⟨r27, er27, h⟩ := b_bind h;refine ja (o_call [.tmp 107] rfl rfl en12 rfl (chg_Fewest_ok k r26 r27 er27)) ?_;refine mq ?_;refine xr ?_;refine xr ?_;refine xr ?_;refine aq ?_;refine aq ?_;refine aq (nt (JC.seq ?_));refine JC.cutB (Z := Unit) (α := Bool) (fun z29 x28 => [(6, Ri r6.1), (8, Ri r7.1), (14, Rs tBetween r27.1), (125, .eq (.bool x28))]) (fun z29 x28 => []) h (fun K h => ?_) (fun z29 x28 h => ?_)
     ·refine JC.region (mq ?_);refine jb (o_neq rfl) ?_;refine mq ?_;refine JO.bool (s := 114) rfl (fun hb => ?_) (fun hb => ?_)
      ·replace h := b_if (n_t hb) h;iterate 3 refine gn ?_
       refine pt ?_;refine mq ?_;iterate 5 refine gn ?_
       refine pt (nl ?_);exact jz ((), true) h []
      ·replace h := b_ifn (n_fn hb) h;refine gm ?_;refine gm ?_;refine gb (o_neq rfl) ?_;refine pf ?_;refine mq ?_;refine JO.bool (s := 119) rfl (fun hb => ?_) (fun hb => ?_)
       ·replace h := b_if (n_t hb) h;iterate 5 refine gn ?_
        refine pt (nl ?_);exact jz ((), true) h []
       ·replace h := b_ifn (n_fn hb) h;refine gm ?_;refine ga (o_len rfl rfl U37) ?_;refine gm ?_;refine ga (o_len rfl rfl U22) ?_;refine gb (o_neq rfl) ?_;refine pf (nl ?_);exact jz ((), !decide ((r27.1.length : Int) = (r7.1.length : Int))) h []
     ·refine cv h (fun h => ?_) (fun h => ?_)
      ·refine sr (cq (nt (rx ?_)));cases h;exact ra
      ·refine sk (JC.cutE (Z := Unit) (α := Unit) (fun z31 x30 => []) (fun z31 x30 => []) (fun e => e = r) h (fun e h => Option.some.inj h) (fun K hR h => ?_) (fun z31 x30 h => ?_))
       ·refine sr (cq (nt (JC.block ?_)));refine JC.loopB (Z := Unit) (α := Int) (fun z33 y32 => [(6, Ri r6.1), (8, Ri r7.1), (14, Rs tBetween r27.1), (17, I y32)]) (fun z33 y32 => []) (top_TopSewing_l2 k r6 r7 r27) k () (0 : Int) (fun _ => rfl) h (SE.fin [] ⟨rfl, rfl, rfl, rfl, trivial⟩ rfl) (fun n z33 y32 h => ?_);unfold top_TopSewing_l2 at h;refine JC.seq (sr ?_);iterate 2 refine mq ?_
        refine ol U37 ?_;refine jb (o_lss rfl) ?_;refine nt (ci h (fun h => ?_) (fun h => ?_))
        ·refine sk (JC.seq (JC.block (JC.cutB (Z := Unit) (α := Bool) (fun z35 x34 => [(6, Ri r6.1), (8, Ri r7.1), (14, Rs tBetween r27.1), (17, I y32), (162, .eq (.bool x34))]) (fun z35 x34 => []) h (fun K h => ?_) (fun z35 x34 h => ?_))))
         ·refine JC.drawN ?_;refine dm ?_;refine dm ?_;obtain ⟨x36, ex36, h⟩ := b_bind h;refine db (o_index (t := tBetween) rfl U37 sz46 ex36) ?_;refine da (o_field_at 1 false rfl fo46_0 rfl) ?_;refine da (o_load_at (t := (.int .i64)) rfl sz3 rfl) ?_;refine db (o_lss rfl) ?_;refine DN.fork rfl rfl rfl (o_move rfl) ⟨rfl, trivial⟩ (fun hb => ?_) (fun hb => ?_)
          ·replace h := b_if (d_t hb) h;iterate 8 refine dg ?_
           refine db (o_pick_t rfl) ?_;refine dm ?_;iterate 12 refine dg ?_
           refine df mixed ?_;refine gn ?_;refine pt (nl ?_);exact jz ((), true) h []
          ·replace h := b_ifn (d_f hb) h;refine DN.sg00 rfl rfl rfl rfl rfl (o_move rfl) ⟨rfl, rfl, trivial⟩ ?_;refine DN.sg00 rfl rfl rfl rfl rfl (o_move rfl) ⟨rfl, rfl, trivial⟩ ?_;obtain ⟨x37, ex37, h⟩ := b_bind h;refine DN.sg00 rfl rfl rfl rfl rfl (o_index (t := tBetween) rfl U37 sz46 ex37) ⟨rfl, rfl, rfl, trivial⟩ ?_;refine DN.sg00 rfl rfl rfl rfl rfl (o_field_at 1 false rfl fo46_0 rfl) ⟨rfl, rfl, trivial⟩ ?_;refine DN.sg00 rfl rfl rfl rfl rfl (o_load_at (t := (.int .i64)) rfl sz3 rfl) ⟨rfl, rfl, trivial⟩ ?_;refine DN.sg00 rfl rfl rfl rfl rfl (o_move rfl) ⟨rfl, rfl, trivial⟩ ?_;refine DN.sg00 rfl rfl rfl rfl rfl (o_len rfl rfl U22) ⟨rfl, rfl, trivial⟩ ?_;refine DN.sg00 rfl rfl rfl rfl rfl (o_geq rfl) ⟨rfl, rfl, rfl, trivial⟩ ?_;refine db (o_pick_f rfl) ?_;refine DN.fork rfl rfl rfl (o_move rfl) ⟨rfl, trivial⟩ (fun hb => ?_) (fun hb => ?_)
           ·replace h := b_if (d_t hb) h;iterate 12 refine dg ?_
            refine df mixed ?_;refine gn ?_;refine pt (nl ?_);exact jz ((), true) h []
           ·replace h := b_ifn (d_f hb) h;refine DN.sg00 rfl rfl rfl rfl rfl (o_move rfl) ⟨rfl, rfl, trivial⟩ ?_;refine DN.sg00 rfl rfl rfl rfl rfl (o_move rfl) ⟨rfl, rfl, trivial⟩ ?_;refine DN.sg00 rfl rfl rfl rfl rfl (o_move rfl) ⟨rfl, rfl, trivial⟩ ?_;obtain ⟨x38, ex38, h⟩ := b_bind h;refine DN.sg00 rfl rfl rfl rfl rfl (o_index (t := tBetween) rfl U37 sz46 ex38) ⟨rfl, rfl, rfl, trivial⟩ ?_;refine DN.sg00 rfl rfl rfl rfl rfl (o_field_at 1 false rfl fo46_0 rfl) ⟨rfl, rfl, trivial⟩ ?_;refine DN.sg00 rfl rfl rfl rfl rfl (o_load_at (t := (.int .i64)) rfl sz3 rfl) ⟨rfl, rfl, trivial⟩ ?_;obtain ⟨x39, ex39, h⟩ := b_bind h;refine DN.sg00 rfl rfl rfl rfl rfl (o_index (t := (.int .i64)) rfl U22 sz3 ex39) ⟨rfl, rfl, rfl, trivial⟩ ?_;refine DN.sg00 rfl rfl rfl rfl rfl (o_load_at (t := (.int .i64)) rfl sz3 rfl) ⟨rfl, rfl, trivial⟩ ?_;refine DN.sg00 rfl rfl rfl rfl rfl (o_move rfl) ⟨rfl, rfl, trivial⟩ ?_;refine DN.sg00 rfl rfl rfl rfl rfl (o_move rfl) ⟨rfl, rfl, trivial⟩ ?_;obtain ⟨x40, ex40, h⟩ := b_bind h;refine DN.sg00 rfl rfl rfl rfl rfl (o_index (t := (.int .i64)) rfl U22 sz3 ex40) ⟨rfl, rfl, rfl, trivial⟩ ?_;refine DN.sg00 rfl rfl rfl rfl rfl (o_load_at (t := (.int .i64)) rfl sz3 rfl) ⟨rfl, rfl, trivial⟩ ?_;refine df mixed ?_;refine gb (o_neq rfl) ?_;refine pf (nl ?_);exact jz ((), !decide (x39 = x40)) h []
         ·refine cv h (fun h => ?_) (fun h => ?_)
          ·refine sr (cq (nt (JC.ret (br (JN.blk_r (JN.then_r ?_))))));obtain rfl := hR _ h;exact ra
          ·refine JC.skip (JN.blk_n (tn (JC.region (mq ?_))));obtain ⟨x41, ex41, h⟩ := b_bind h;refine jb (o_add rfl ex41) ?_;refine aq (nl ?_);exact jz ((), x41) h []
        ·refine xa ?_;exact jz ((), ()) h []
       ·refine sr ?_;obtain ⟨r42, er42, h⟩ := b_bind h;refine JO.s rfl (o_call [] rfl rfl en9 rfl (top_sewingAwake_ok k  r42 er42)) trivial ?_;refine aq (nt (JC.ret ?_));cases h;exact ra


end Go.Proofs.Ytomnkjcklkcnhaa
