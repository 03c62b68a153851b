/- The program's functions, part 3: what each computes, and that the code computes it. Printed by a program of this proof's own. -/
import Derived.Test.YtfhdclhbdmhnmaaGreatP2
set_option linter.unusedVariables false
set_option maxRecDepth 4000
namespace Go.Proofs.YtfhdclhbdmhnmaaGreat
open K Go Go.Proofs
def ref_before (k : Nat) (a0 : dChange) (a1 : dTask) (a2 : dTask) : Option Bool :=
 if a1.1 = a2.1 then (((if ¬ (a1.2 = true) then (some a2.2) else (some false)) : Option (Bool)).bind fun x4 =>
 some x4) else ((geti a0.1 a2.1).bind fun x6 =>
 (ref_has k x6.1 a1.1).bind fun r7 =>
 (geti a0.1 a1.1).bind fun x8 =>
 (ref_has k x8.1 a2.1).bind fun r9 =>
 if ¬ (a1.2 = true) then (((if r7 = true then (some true) else (if r9 = true then (some a2.2) else (some false))) : Option (Bool)).bind fun x10 =>
 some x10) else (((if r9 = true then (some a2.2) else (some false)) : Option (Bool)).bind fun x12 =>
 some x12))

theorem ref_before_ok (k : Nat) (a0 : dChange) (a1 : dTask) (a2 : dTask) (r : Bool) (h : ref_before k a0 a1 a2 = some r) :
 Ctr Tryz.prog 106 [.rep tChange a0, .rep tTask a1, .rep tTask a2] [] (fun _ : Unit => (resA [.eq (.bool r)], [])) := by
 unfold ref_before at h;replace h := b_top h;refine Ctr.of 57 Tryz.func106 rfl Tryz.ntmps106 rfl fun S w0 => ?_;refine sr (bx fun b1 => ?_);refine bx fun b2 => ?_;refine bx fun b3 => ?_;refine cq (nt (JC.seq (sr ?_)));refine fl fo116_0 ?_;refine fr 1 ?_;refine lo sz3 ?_;refine fl fo116_0 ?_;refine fr 1 ?_;refine lo sz3 ?_;refine jb (o_eql rfl) ?_;refine nt (ci h (fun h => ?_) (fun h => ?_))
 ·refine JC.cutB (Z := Unit) (α := Bool) (fun z5 x4 => [(6, .eq (.bool x4))]) (fun z5 x4 => []) h (fun K h => ?_) (fun z5 x4 h => ?_)
  ·refine JC.region (fl fo116_1 ?_);refine fr 1 ?_;refine lo sz4 ?_;refine ja (o_not rfl) ?_;refine mq ?_;refine JO.bool (s := 17) rfl (fun hb => ?_) (fun hb => ?_)
   ·replace h := b_if (nv_t hb) h;refine ga (o_field_obj rfl fo116_1) ?_;refine fr 1 ?_;refine JO.g11 rfl rfl rfl rfl rfl rfl (o_load_obj rfl sz4 nfs rfl) ⟨rfl, trivial⟩ ?_;refine pt ?_;refine aq (nl ?_);exact jz ((), a2.2) h []
   ·replace h := b_ifn (nv_fn hb) h;iterate 2 refine gn ?_
    refine pf ?_;refine aq (nl ?_);exact jz ((), false) h []
  ·refine rx ?_;cases h;exact ra
 ·refine sk (JC.seq (JC.drawN ?_));refine da (o_field_obj rfl fo26_0) ?_;refine ea 2 (o_load_obj rfl sz22 nfs rfl) ?_;refine da (o_field_obj rfl fo116_0) ?_;refine ea 0 (o_load_obj rfl sz3 nfs rfl) ?_;obtain ⟨x6, ex6, h⟩ := b_bind h;refine db (o_index (t := tThing) rfl U22 sz74 ex6) ?_;refine da (o_field_at 1 false rfl fo74_0 rfl) ?_;refine da (o_load_at (t := (.slice (.int .i64))) rfl sz24 rfl) ?_;refine da (o_field_obj rfl fo116_0) ?_;refine ea 1 (o_load_obj rfl sz3 nfs rfl) ?_;obtain ⟨r7, er7, h⟩ := b_bind h;refine db (o_call [.tmp 27, .tmp 29] rfl rfl en79 rfl (ref_has_ok k x6.1 a1.1 r7 er7)) ?_;refine da (o_field_obj rfl fo26_0) ?_;refine ea 2 (o_load_obj rfl sz22 nfs rfl) ?_;refine da (o_field_obj rfl fo116_0) ?_;refine ea 1 (o_load_obj rfl sz3 nfs rfl) ?_;obtain ⟨x8, ex8, h⟩ := b_bind h;refine db (o_index (t := tThing) rfl U22 sz74 ex8) ?_;refine da (o_field_at 1 false rfl fo74_0 rfl) ?_;refine da (o_load_at (t := (.slice (.int .i64))) rfl sz24 rfl) ?_;refine da (o_field_obj rfl fo116_0) ?_;refine ea 0 (o_load_obj rfl sz3 nfs rfl) ?_;refine df mixed ?_;obtain ⟨r9, er9, h⟩ := b_bind h;refine jb (o_call [.tmp 37, .tmp 39] rfl rfl en79 rfl (ref_has_ok k x8.1 a2.1 r9 er9)) ?_;refine aq ?_;refine aq (nt (JC.seq (sr ?_)));refine fl fo116_1 ?_;refine fr 1 ?_;refine lo sz4 ?_;refine ja (o_not rfl) ?_;refine nt (cw h (fun h => ?_) (fun h => ?_))
  ·refine JC.cutB (Z := Unit) (α := Bool) (fun z11 x10 => [(6, .eq (.bool x10))]) (fun z11 x10 => []) h (fun K h => ?_) (fun z11 x10 h => ?_)
   ·refine JC.region ?_;iterate 2 refine mq ?_
    refine JO.bool (s := 45) rfl (fun hb => ?_) (fun hb => ?_)
    ·replace h := b_if (v_t hb) h;iterate 2 refine gn ?_
     refine gu ?_;refine gu ?_;refine gn ?_;refine pt ?_;refine aq (nl ?_);exact jz ((), true) h []
    ·replace h := b_ifn (v_f hb) h;refine gm ?_;refine gm ?_;refine JO.bool (s := 47) rfl (fun hb => ?_) (fun hb => ?_)
     ·replace h := b_if (v_t hb) h;refine ga (o_field_obj rfl fo116_1) ?_;refine fr 1 ?_;refine JO.g11 rfl rfl rfl rfl rfl rfl (o_load_obj rfl sz4 nfs rfl) ⟨rfl, trivial⟩ ?_;refine gb (o_pick_t rfl) ?_;refine pf ?_;refine aq (nl ?_);exact jz ((), a2.2) h []
     ·replace h := b_ifn (v_f hb) h;iterate 2 refine gn ?_
      refine gb (o_pick_f rfl) ?_;refine pf ?_;refine aq (nl ?_);exact jz ((), false) h []
   ·refine rx ?_;cases h;exact ra
  ·refine sk (JC.cutB (Z := Unit) (α := Bool) (fun z13 x12 => [(6, .eq (.bool x12))]) (fun z13 x12 => []) h (fun K h => ?_) (fun z13 x12 h => ?_))
   ·refine JC.region ?_;iterate 2 refine mq ?_
    refine JO.bool (s := 53) rfl (fun hb => ?_) (fun hb => ?_)
    ·replace h := b_if (v_t hb) h;refine ga (o_field_obj rfl fo116_1) ?_;refine fr 1 ?_;refine JO.g11 rfl rfl rfl rfl rfl rfl (o_load_obj rfl sz4 nfs rfl) ⟨rfl, trivial⟩ ?_;refine pt ?_;refine aq (nl ?_);exact jz ((), a2.2) h []
    ·replace h := b_ifn (v_f hb) h;iterate 2 refine gn ?_
     refine pf ?_;refine aq (nl ?_);exact jz ((), false) h []
   ·refine JC.ret ?_;cases h;exact ra


def ref_begins_l2 (k : Nat) (a0 : dChange) (a1 : (List dStep)) (r2 : (List dTask)) (y5 : (List Int) × Int) (x10 : dTask) : Nat → (Int × Int) → Option Int
 | 0, _ => none
 | n + 1, y16 =>
  if y16.2 < y5.2 then ((((geti y5.1 y16.2).bind fun x20 =>
  (geti a1 y16.2).bind fun x21 =>
  (geti r2 x21.1).bind fun x22 =>
  (ref_takes k a0 x22).bind fun r23 =>
  (ck (x20 + r23)).bind fun x24 =>
  (((geti a1 y16.2).bind fun x27 =>
  (geti a1 y5.2).bind fun x28 =>
  if x27.2 = x28.2 then (some true) else ((geti a1 y16.2).bind fun x29 =>
  (geti r2 x29.1).bind fun x30 =>
  (ref_before k a0 x30 x10).bind fun r31 =>
  some r31)) : Option (Bool)).bind fun x25 =>
  if x25 = true then (some (imax y16.1 x24)) else (some y16.1)) : Option (Int)).bind fun x18 =>
  (ck (y16.2 + (1 : Int))).bind fun x32 =>
  ref_begins_l2 k a0 a1 r2 y5 x10 n (x18, x32)) else (some y16.1)

def ref_begins_l1 (k : Nat) (a0 : dChange) (a1 : (List dStep)) (r2 : (List dTask)) : Nat → ((List Int) × Int) → Option (List Int)
 | 0, _ => none
 | n + 1, y5 =>
  if y5.2 < (a1.length : Int) then ((((geti a1 y5.2).bind fun x9 =>
  (geti r2 x9.1).bind fun x10 =>
  (geti a1 y5.2).bind fun x12 =>
  (geti a0.2.1 x12.2).bind fun x13 =>
  ((ref_begins_l2 k a0 a1 r2 y5 x10 k (x13.2.2, (0 : Int))) : Option (Int)).bind fun x14 =>
  (chkP (okLen (List.length y5.1 + List.length [x14]))).bind fun _ =>
  some (y5.1 ++ [x14])) : Option ((List Int))).bind fun x7 =>
  (ck (y5.2 + (1 : Int))).bind fun x35 =>
  ref_begins_l1 k a0 a1 r2 n (x7, x35)) else (some y5.1)
def ref_begins (k : Nat) (a0 : dChange) (a1 : (List dStep)) : Option (List Int) :=
 (ref_tasks k a0).bind fun r2 =>
 ((ref_begins_l1 k a0 a1 r2 k (([] : (List Int)), (0 : Int))) : Option ((List Int))).bind fun x3 =>
 some x3

theorem ref_begins_ok (k : Nat) (a0 : dChange) (a1 : (List dStep)) (r : (List Int)) (h : ref_begins k a0 a1 = some r) :
 Ctr Tryz.prog 62 [.rep tChange a0, Rs tStep a1] [] (fun _ : Unit => (resA [Ri r], [])) := by
 unfold ref_begins at h;replace h := b_top h;refine Ctr.of 90 Tryz.func62 rfl Tryz.ntmps62 rfl fun S w0 => ?_;refine sr (bx fun b1 => ?_);refine cq (nt (sr ?_));refine lo sz26 ?_;obtain ⟨r2, er2, h⟩ := b_bind h;refine ja (o_call [.tmp 12] rfl rfl en61 rfl (ref_tasks_ok k a0 r2 er2)) ?_;refine aq (nt (sr ?_));refine cq (nt ?_);refine JC.cutB (Z := Value) (α := (List Int)) (fun z4 x3 => [(6, .eq z4)]) (fun z4 x3 => [.sl z4 3 (.int .i64) x3]) h (fun K h => ?_) (fun z4 x3 h => ?_)
 ·refine sr (cq (nt (JC.block ?_)));refine JC.se (SE.nil 3 (.int .i64)) ?_;refine JC.loopB (Z := Value) (α := (List Int) × Int) (fun z6 y5 => [(1, Rs tStep a1), (2, Pt b1), (5, Rs tTask r2), (6, .eq z6), (7, I y5.2)]) (fun z6 y5 => [.obj b1 26 (.rep tChange a0), .sl z6 3 (.int .i64) y5.1]) (ref_begins_l1 k a0 a1 r2) k (.slice none 0 0) (([] : (List Int)), (0 : Int)) (fun _ => rfl) h (SE.fin [1, 0] ⟨rfl, rfl, rfl, rfl, rfl, trivial⟩ rfl) (fun n z6 y5 h => ?_);unfold ref_begins_l1 at h;refine JC.seq (sr ?_);iterate 2 refine mq ?_
  refine ol U34 ?_;refine jb (o_lss rfl) ?_;refine nt (ci h (fun h => ?_) (fun h => ?_))
  ·refine sk (JC.cutB (Z := Value) (α := (List Int)) (fun z8 x7 => [(1, Rs tStep a1), (2, Pt b1), (5, Rs tTask r2), (6, .eq z8), (7, I y5.2)]) (fun z8 x7 => [.obj b1 26 (.rep tChange a0), .sl z8 3 (.int .i64) x7]) h (fun K h => ?_) (fun z8 x7 h => ?_))
   ·refine JC.block (sr ?_);iterate 3 refine mq ?_
    obtain ⟨x9, ex9, h⟩ := b_bind h;refine jb (o_index (t := tStep) rfl U34 sz92 ex9) ?_;refine ja (o_field_at 1 false rfl fo92_0 rfl) ?_;refine ja (o_load_at (t := (.int .i64)) rfl sz3 rfl) ?_;obtain ⟨x10, ex10, h⟩ := b_bind h;refine jb (o_index (t := tTask) rfl U112 sz116 ex10) ?_;refine ja (o_load_at (t := tTask) rfl sz116 rfl) ?_;refine JO.s01 rfl rfl rfl (o_alloc rfl za116 al116) trivial fun b11 => ?_;refine JO.n11 rfl rfl (o_store rfl sz116 rfl rfl rfl) ⟨rfl, rfl, trivial⟩ ?_;refine nt (JC.seq (JC.drawN ?_));refine da (o_field_obj rfl fo26_1) ?_;refine ea 1 (o_load_obj rfl sz23 nfs rfl) ?_;refine dm ?_;refine dm ?_;obtain ⟨x12, ex12, h⟩ := b_bind h;refine db (o_index (t := tStep) rfl U34 sz92 ex12) ?_;refine da (o_field_at 1 false rfl fo92_1 rfl) ?_;refine da (o_load_at (t := (.int .i64)) rfl sz3 rfl) ?_;refine df mixed ?_;obtain ⟨x13, ex13, h⟩ := b_bind h;refine jb (o_index (t := tDresser) rfl U23 sz52 ex13) ?_;refine ja (o_field_at 1 false rfl fo52_2 rfl) ?_;refine ja (o_load_at (t := (.int .i64)) rfl sz3 rfl) ?_;refine aq (nt ?_);refine JC.cutB (Z := Unit) (α := Int) (fun z15 x14 => [(1, Rs tStep a1), (2, Pt b1), (5, Rs tTask r2), (6, .eq z6), (7, I y5.2), (9, I x14)]) (fun z15 x14 => [.obj b1 26 (.rep tChange a0), .sl z6 3 (.int .i64) y5.1]) h (fun K h => ?_) (fun z15 x14 h => ?_)
    ·refine sr (cq (nt (JC.block ?_)));refine JC.loopB (Z := Unit) (α := Int × Int) (fun z17 y16 => [(1, Rs tStep a1), (2, Pt b1), (5, Rs tTask r2), (6, .eq z6), (7, I y5.2), (8, Pt b11), (9, I y16.1), (10, I y16.2)]) (fun z17 y16 => [.obj b1 26 (.rep tChange a0), .sl z6 3 (.int .i64) y5.1, .obj b11 116 (.rep tTask x10)]) (ref_begins_l2 k a0 a1 r2 y5 x10) k () (x13.2.2, (0 : Int)) (fun _ => rfl) h (SE.fin [1, 2, 0] ⟨rfl, rfl, rfl, rfl, rfl, rfl, rfl, rfl, trivial⟩ rfl) (fun n z17 y16 h => ?_);unfold ref_begins_l2 at h;refine JC.seq (sr ?_);iterate 2 refine mq ?_
     refine jb (o_lss rfl) ?_;refine nt (ci h (fun h => ?_) (fun h => ?_))
     ·refine sk (JC.cutB (Z := Unit) (α := Int) (fun z19 x18 => [(1, Rs tStep a1), (2, Pt b1), (5, Rs tTask r2), (6, .eq z6), (7, I y5.2), (8, Pt b11), (9, I x18), (10, I y16.2)]) (fun z19 x18 => [.obj b1 26 (.rep tChange a0), .sl z6 3 (.int .i64) y5.1, .obj b11 116 (.rep tTask x10)]) h (fun K h => ?_) (fun z19 x18 h => ?_))
      ·refine JC.block (JC.seq (JC.drawN ?_));refine dm ?_;refine dm ?_;obtain ⟨x20, ex20, h⟩ := b_bind h;refine eb 1 (o_index_own (t := (.int .i64)) rfl U24 sz3 ex20) ?_;refine ea 1 (o_load_el (i := Int.toNat y16.2) (off := 0) rfl sz3 (fun _ => rfl) rfl (geti_some ex20).2.2 rfl) ?_;refine ea 0 (o_load_obj rfl sz26 (nfn) rfl) ?_;refine dm ?_;refine dm ?_;refine dm ?_;obtain ⟨x21, ex21, h⟩ := b_bind h;refine db (o_index (t := tStep) rfl U34 sz92 ex21) ?_;refine da (o_field_at 1 false rfl fo92_0 rfl) ?_;refine da (o_load_at (t := (.int .i64)) rfl sz3 rfl) ?_;obtain ⟨x22, ex22, h⟩ := b_bind h;refine db (o_index (t := tTask) rfl U112 sz116 ex22) ?_;refine da (o_load_at (t := tTask) rfl sz116 rfl) ?_;obtain ⟨r23, er23, h⟩ := b_bind h;refine db (o_call [.tmp 47, .tmp 55] rfl rfl en63 rfl (ref_takes_ok k a0 x22 r23 er23)) ?_;refine df mixed ?_;obtain ⟨x24, ex24, h⟩ := b_bind h;refine jb (o_add rfl ex24) ?_;refine aq (nt ?_);refine JC.cutB (Z := Unit) (α := Bool) (fun z26 x25 => [(1, Rs tStep a1), (2, Pt b1), (5, Rs tTask r2), (6, .eq z6), (7, I y5.2), (8, Pt b11), (9, I y16.1), (10, I y16.2), (11, I x24), (81, .eq (.bool x25))]) (fun z26 x25 => [.obj b1 26 (.rep tChange a0), .sl z6 3 (.int .i64) y5.1, .obj b11 116 (.rep tTask x10)]) h (fun K h => ?_) (fun z26 x25 h => ?_)
       ·refine JC.drawN ?_;refine dm ?_;refine dm ?_;obtain ⟨x27, ex27, h⟩ := b_bind h;refine db (o_index (t := tStep) rfl U34 sz92 ex27) ?_;refine da (o_field_at 1 false rfl fo92_1 rfl) ?_;refine da (o_load_at (t := (.int .i64)) rfl sz3 rfl) ?_;refine dm ?_;refine dm ?_;obtain ⟨x28, ex28, h⟩ := b_bind h;refine db (o_index (t := tStep) rfl U34 sz92 ex28) ?_;refine da (o_field_at 1 false rfl fo92_1 rfl) ?_;refine da (o_load_at (t := (.int .i64)) rfl sz3 rfl) ?_;refine db (o_eql rfl) ?_;refine DN.fork rfl rfl rfl (o_move rfl) ⟨rfl, trivial⟩ (fun hb => ?_) (fun hb => ?_)
        ·replace h := b_if (d_t hb) h;iterate 10 refine dg ?_
         refine df mixed ?_;refine gn ?_;refine pt (nl ?_);exact jz ((), true) h [0, 1, 2]
        ·replace h := b_ifn (d_f hb) h;refine DN.sg11 0 rfl rfl rfl rfl rfl rfl (o_load_obj rfl sz26 (nfn) rfl) ⟨rfl, rfl, trivial⟩ ?_;refine DN.sg00 rfl rfl rfl rfl rfl (o_move rfl) ⟨rfl, rfl, trivial⟩ ?_;refine DN.sg00 rfl rfl rfl rfl rfl (o_move rfl) ⟨rfl, rfl, trivial⟩ ?_;refine DN.sg00 rfl rfl rfl rfl rfl (o_move rfl) ⟨rfl, rfl, trivial⟩ ?_;obtain ⟨x29, ex29, h⟩ := b_bind h;refine DN.sg00 rfl rfl rfl rfl rfl (o_index (t := tStep) rfl U34 sz92 ex29) ⟨rfl, rfl, rfl, trivial⟩ ?_;refine DN.sg00 rfl rfl rfl rfl rfl (o_field_at 1 false rfl fo92_0 rfl) ⟨rfl, rfl, trivial⟩ ?_;refine DN.sg00 rfl rfl rfl rfl rfl (o_load_at (t := (.int .i64)) rfl sz3 rfl) ⟨rfl, rfl, trivial⟩ ?_;obtain ⟨x30, ex30, h⟩ := b_bind h;refine DN.sg00 rfl rfl rfl rfl rfl (o_index (t := tTask) rfl U112 sz116 ex30) ⟨rfl, rfl, rfl, trivial⟩ ?_;refine DN.sg00 rfl rfl rfl rfl rfl (o_load_at (t := tTask) rfl sz116 rfl) ⟨rfl, rfl, trivial⟩ ?_;refine DN.sg11 2 rfl rfl rfl rfl rfl rfl (o_load_obj rfl sz116 (nfn) rfl) ⟨rfl, rfl, trivial⟩ ?_;refine df mixed ?_;obtain ⟨r31, er31, h⟩ := b_bind h;refine gc (o_call [.tmp 70, .tmp 78, .tmp 79] rfl rfl en106 rfl (ref_before_ok k a0 x30 x10 r31 er31)) ?_;refine pf (nl ?_);exact jz ((), r31) h [0, 1, 2]
       ·refine cv h (fun h => ?_) (fun h => ?_)
        ·refine JC.region ?_;iterate 2 refine mq ?_
         refine jb (o_max rfl rfl) ?_;refine aq (JO.nil (bn ?_));exact jz ((), imax y16.1 x24) h [0, 1, 2]
        ·refine JC.skip (bn ?_);exact jz ((), y16.1) h [0, 1, 2]
      ·refine JC.region (mq ?_);obtain ⟨x32, ex32, h⟩ := b_bind h;refine jb (o_add rfl ex32) ?_;refine aq (nl ?_);exact jz ((), (x18, x32)) h [0, 1, 2]
     ·refine xa ?_;exact jz ((), y16.1) h [0, 1]
    ·refine JC.region ?_;iterate 2 refine mq ?_
     refine ja (o_litB (t := (.int .i64)) [(.tmp 86, _)] [x14] rfl rfl sl24 (.cons rfl .int .nil) rfl rfl) ?_;obtain ⟨u33, eu33, h⟩ := b_bind h;refine fr 1 ?_;refine JO.s1x rfl rfl rfl (o_append rfl rfl sl24 (chkP_some eu33)) ⟨rfl, rfl, trivial⟩ fun v34 => ?_;refine aq (JO.nil (bn ?_));exact jz (v34, y5.1 ++ [x14]) h [1, 0]
   ·refine JC.region (mq ?_);obtain ⟨x35, ex35, h⟩ := b_bind h;refine jb (o_add rfl ex35) ?_;refine aq (nl ?_);exact jz (z8, (x7, x35)) h [0, 1]
  ·refine xa ?_;exact jz (z6, y5.1) h [1]
 ·refine sr (mq ?_);refine aq (nt (JC.ret ?_));refine JN.se (SE.frz [4, 6, 89] ⟨rfl, rfl, rfl, trivial⟩) ?_;cases h;exact ra


def ref_bars_l1 (k : Nat) (a0 : dChange) (a1 : (List dStep)) (r2 : (List dTask)) (r3 : (List Int)) : Nat → (Int × Int) → Option Int
 | 0, _ => none
 | n + 1, y6 =>
  if y6.2 < (a1.length : Int) then ((geti r3 y6.2).bind fun x8 =>
  (geti a1 y6.2).bind fun x9 =>
  (geti r2 x9.1).bind fun x10 =>
  (ref_takes k a0 x10).bind fun r11 =>
  (ck (x8 + r11)).bind fun x12 =>
  (ck (y6.2 + (1 : Int))).bind fun x13 =>
  ref_bars_l1 k a0 a1 r2 r3 n (imax y6.1 x12, x13)) else (some y6.1)
def ref_bars (k : Nat) (a0 : dChange) (a1 : (List dStep)) : Option Int :=
 (ref_tasks k a0).bind fun r2 =>
 (ref_begins k a0 a1).bind fun r3 =>
 ((ref_bars_l1 k a0 a1 r2 r3 k ((0 : Int), (0 : Int))) : Option (Int)).bind fun x4 =>
 some x4

theorem ref_bars_ok (k : Nat) (a0 : dChange) (a1 : (List dStep)) (r : Int) (h : ref_bars k a0 a1 = some r) :
 Ctr Tryz.prog 73 [.rep tChange a0, Rs tStep a1] [] (fun _ : Unit => (resA [I r], [])) := by
 unfold ref_bars at h;replace h := b_top h;refine Ctr.of 38 Tryz.func73 rfl Tryz.ntmps73 rfl fun S w0 => ?_;refine sr (bx fun b1 => ?_);refine cq (nt (sr ?_));refine cq (nt (JC.seq ?_));refine JC.drawN ?_;refine ea 0 (o_load_obj rfl sz26 (nfn) rfl) ?_;obtain ⟨r2, er2, h⟩ := b_bind h;refine da (o_call [.tmp 9] rfl rfl en61 rfl (ref_tasks_ok k a0 r2 er2)) ?_;refine ea 0 (o_load_obj rfl sz26 (nfn) rfl) ?_;refine dm ?_;refine df mixed ?_;obtain ⟨r3, er3, h⟩ := b_bind h;refine jb (o_call [.tmp 11, .tmp 12] rfl rfl en62 rfl (ref_begins_ok k a0 a1 r3 er3)) ?_;refine aq ?_;refine aq (nt ?_);refine JC.cutB (Z := Unit) (α := Int) (fun z5 x4 => [(5, I x4)]) (fun z5 x4 => []) h (fun K h => ?_) (fun z5 x4 h => ?_)
 ·refine sr (cq (nt (JC.block ?_)));refine JC.loopB (Z := Unit) (α := Int × Int) (fun z7 y6 => [(1, Rs tStep a1), (2, Pt b1), (5, I y6.1), (6, Rs tTask r2), (7, Ri r3), (8, I y6.2)]) (fun z7 y6 => [.obj b1 26 (.rep tChange a0)]) (ref_bars_l1 k a0 a1 r2 r3) k () ((0 : Int), (0 : Int)) (fun _ => rfl) h (SE.fin [0] ⟨rfl, rfl, rfl, rfl, rfl, rfl, trivial⟩ rfl) (fun n z7 y6 h => ?_);unfold ref_bars_l1 at h;refine JC.seq (sr ?_);iterate 2 refine mq ?_
  refine ol U34 ?_;refine jb (o_lss rfl) ?_;refine nt (ci h (fun h => ?_) (fun h => ?_))
  ·refine sk (JC.seq (JC.block (JC.drawN ?_)));refine dm ?_;refine dm ?_;refine dm ?_;obtain ⟨x8, ex8, h⟩ := b_bind h;refine db (o_index (t := (.int .i64)) rfl U24 sz3 ex8) ?_;refine da (o_load_at (t := (.int .i64)) rfl sz3 rfl) ?_;refine ea 0 (o_load_obj rfl sz26 (nfn) rfl) ?_;refine dm ?_;refine dm ?_;refine dm ?_;obtain ⟨x9, ex9, h⟩ := b_bind h;refine db (o_index (t := tStep) rfl U34 sz92 ex9) ?_;refine da (o_field_at 1 false rfl fo92_0 rfl) ?_;refine da (o_load_at (t := (.int .i64)) rfl sz3 rfl) ?_;obtain ⟨x10, ex10, h⟩ := b_bind h;refine db (o_index (t := tTask) rfl U112 sz116 ex10) ?_;refine da (o_load_at (t := tTask) rfl sz116 rfl) ?_;obtain ⟨r11, er11, h⟩ := b_bind h;refine db (o_call [.tmp 25, .tmp 33] rfl rfl en63 rfl (ref_takes_ok k a0 x10 r11 er11)) ?_;obtain ⟨x12, ex12, h⟩ := b_bind h;refine db (o_add rfl ex12) ?_;refine df mixed ?_;refine jb (o_max rfl rfl) ?_;refine aq (JO.nil (JN.blk_n (tn (JC.region ?_))));refine mq ?_;obtain ⟨x13, ex13, h⟩ := b_bind h;refine jb (o_add rfl ex13) ?_;refine aq (nl ?_);exact jz ((), (imax y6.1 x12, x13)) h [0]
  ·refine xa ?_;exact jz ((), y6.1) h []
 ·refine sr (mq ?_);refine aq (nt (JC.ret ?_));cases h;exact ra


def ref_done_l1 (k : Nat) (a0 : (List dStep)) (a1 : Int) : Nat → Int → Option (Except Int Unit)
 | 0, _ => none
 | n + 1, y3 =>
  if y3 < (a0.length : Int) then ((geti a0 y3).bind fun x5 =>
  if x5.1 = a1 then (some (.error y3)) else ((ck (y3 + (1 : Int))).bind fun x6 =>
  ref_done_l1 k a0 a1 n x6)) else (some (.ok ()))
def ref_done (k : Nat) (a0 : (List dStep)) (a1 : Int) : Option Int :=
 bE (α := Unit) (ref_done_l1 k a0 a1 k (0 : Int)) (some) fun _ =>
 some (-1 : Int)

theorem ref_done_ok (k : Nat) (a0 : (List dStep)) (a1 : Int) (r : Int) (h : ref_done k a0 a1 = some r) :
 Ctr Tryz.prog 120 [Rs tStep a0, I a1] [] (fun _ : Unit => (resA [I r], [])) := by
 unfold ref_done at h;replace h := b_top h;refine Ctr.of 20 Tryz.func120 rfl Tryz.ntmps120 rfl fun S w0 => ?_;refine sr (cq (nt ?_));refine JC.cutE (Z := Unit) (α := Unit) (fun z2 x1 => []) (fun z2 x1 => []) (fun e => e = r) h (fun e h => Option.some.inj h) (fun K hR h => ?_) (fun z2 x1 h => ?_)
 ·refine sr (cq (nt (JC.block ?_)));refine JC.loopB (Z := Unit) (α := Int) (fun z4 y3 => [(0, Rs tStep a0), (1, I a1), (5, I y3)]) (fun z4 y3 => []) (ref_done_l1 k a0 a1) k () (0 : Int) (fun _ => rfl) h (SE.fin [] ⟨rfl, rfl, rfl, trivial⟩ rfl) (fun n z4 y3 h => ?_);unfold ref_done_l1 at h;refine JC.seq (sr ?_);iterate 2 refine mq ?_
  refine ol U34 ?_;refine jb (o_lss rfl) ?_;refine nt (ci h (fun h => ?_) (fun h => ?_))
  ·refine sk (JC.seq (JC.block (sr ?_)));iterate 2 refine mq ?_
   obtain ⟨x5, ex5, h⟩ := b_bind h;refine jb (o_index (t := tStep) rfl U34 sz92 ex5) ?_;refine ja (o_field_at 1 false rfl fo92_0 rfl) ?_;refine ja (o_load_at (t := (.int .i64)) rfl sz3 rfl) ?_;refine mq ?_;refine jb (o_eql rfl) ?_;refine nt (ci h (fun h => ?_) (fun h => ?_))
   ·refine sr (mq ?_);refine aq (nt (JC.ret (br (JN.blk_r (JN.then_r ?_)))));obtain rfl := hR _ h;exact ra
   ·refine JC.skip (JN.blk_n (tn (JC.region (mq ?_))));obtain ⟨x6, ex6, h⟩ := b_bind h;refine jb (o_add rfl ex6) ?_;refine aq (nl ?_);exact jz ((), x6) h []
  ·refine xa ?_;exact jz ((), ()) h []
 ·refine sr (cq (nt (JC.ret ?_)));cases h;exact ra


def ref_can (k : Nat) (a0 : dChange) (a1 : dDresser) (a2 : dTask) : Option Bool :=
 (geti a0.1 a2.1).bind fun x4 =>
 (((ref_has k a1.1 a2.1).bind fun r7 =>
 if r7 = true then (if x4.2.2.2.1 = (0 : Int) then (some true) else (if a1.2.1 = (0 : Int) then (some true) else (some (decide (x4.2.2.2.1 = a1.2.1))))) else (some false)) : Option (Bool)).bind fun x5 =>
 some x5

theorem ref_can_ok (k : Nat) (a0 : dChange) (a1 : dDresser) (a2 : dTask) (r : Bool) (h : ref_can k a0 a1 a2 = some r) :
 Ctr Tryz.prog 121 [.rep tChange a0, .rep tDresser a1, .rep tTask a2] [] (fun _ : Unit => (resA [.eq (.bool r)], [])) := by
 unfold ref_can at h;replace h := b_top h;refine Ctr.of 35 Tryz.func121 rfl Tryz.ntmps121 rfl fun S w0 => ?_;refine sr (bx fun b1 => ?_);refine bx fun b2 => ?_;refine bx fun b3 => ?_;refine cq (nt (sr ?_));refine fl fo26_0 ?_;refine fr 2 ?_;refine lo sz22 ?_;refine fl fo116_0 ?_;refine fr 1 ?_;refine lo sz3 ?_;obtain ⟨x4, ex4, h⟩ := b_bind h;refine jb (o_index (t := tThing) rfl U22 sz74 ex4) ?_;refine ja (o_field_at 1 false rfl fo74_3 rfl) ?_;refine ja (o_load_at (t := (.int .i64)) rfl sz3 rfl) ?_;refine aq (nt ?_);refine JC.cutB (Z := Unit) (α := Bool) (fun z6 x5 => [(6, .eq (.bool x5))]) (fun z6 x5 => []) h (fun K h => ?_) (fun z6 x5 h => ?_)
 ·refine JC.region (fl fo52_0 ?_);refine fr 2 ?_;refine lo sz24 ?_;refine fl fo116_0 ?_;refine fr 1 ?_;refine lo sz3 ?_;obtain ⟨r7, er7, h⟩ := b_bind h;refine jb (o_call [.tmp 16, .tmp 18] rfl rfl en79 rfl (ref_has_ok k a1.1 a2.1 r7 er7)) ?_;refine mq ?_;refine JO.bool (s := 20) rfl (fun hb => ?_) (fun hb => ?_)
  ·replace h := b_if (v_t hb) h;refine gm ?_;refine gb (o_eql rfl) ?_;refine gm ?_;refine JO.bool (s := 23) rfl (fun hb => ?_) (fun hb => ?_)
   ·replace h := b_if (d_t hb) h;iterate 3 refine gn ?_
    refine gb (o_pick_t rfl) ?_;refine gm ?_;iterate 4 refine gn ?_
    refine gb (o_pick_t rfl) ?_;refine pt ?_;refine aq (nl ?_);exact jz ((), true) h []
   ·replace h := b_ifn (d_f hb) h;refine ga (o_field_obj rfl fo52_1) ?_;refine fr 1 ?_;refine JO.g11 rfl rfl rfl rfl rfl rfl (o_load_obj rfl sz3 nfs rfl) ⟨rfl, trivial⟩ ?_;refine gb (o_eql rfl) ?_;refine gb (o_pick_f rfl) ?_;refine gm ?_;refine JO.bool (s := 28) rfl (fun hb => ?_) (fun hb => ?_)
    ·replace h := b_if (d_t hb) h;iterate 4 refine gn ?_
     refine gb (o_pick_t rfl) ?_;refine pt ?_;refine aq (nl ?_);exact jz ((), true) h []
    ·replace h := b_ifn (d_f hb) h;refine gm ?_;refine ga (o_field_obj rfl fo52_1) ?_;refine JO.g11 rfl rfl rfl rfl rfl rfl (o_load_obj rfl sz3 nfs rfl) ⟨rfl, trivial⟩ ?_;refine gb (o_eql rfl) ?_;refine gb (o_pick_f rfl) ?_;refine pt ?_;refine aq (nl ?_);exact jz ((), decide (x4.2.2.2.1 = a1.2.1)) h []
  ·replace h := b_ifn (v_f hb) h;iterate 3 refine gn ?_
   refine gu ?_;refine gu ?_;refine gu ?_;iterate 2 refine gn ?_
   refine gu ?_;refine gu ?_;refine gu ?_;refine gu ?_;refine gn ?_;refine pf ?_;refine aq (nl ?_);exact jz ((), false) h []
 ·refine JC.ret ?_;cases h;exact ra


def ref_checkStep_l1 (k : Nat) (a0 : dChange) (a1 : (List dStep)) (a2 : dStep) (r3 : (List dTask)) : Nat → Int → Option (Except Int Unit)
 | 0, _ => none
 | n + 1, y14 =>
  if y14 < (r3.length : Int) then ((((geti r3 y14).bind fun x18 =>
  (geti r3 a2.1).bind fun x19 =>
  (ref_before k a0 x18 x19).bind fun r20 =>
  if r20 = true then ((ref_done k a1 y14).bind fun r21 =>
  some (decide (r21 < (0 : Int)))) else (some false)) : Option (Bool)).bind fun x16 =>
  if x16 = true then (some (.error (5 : Int))) else ((ck (y14 + (1 : Int))).bind fun x22 =>
  ref_checkStep_l1 k a0 a1 a2 r3 n x22)) else (some (.ok ()))
def ref_checkStep (k : Nat) (a0 : dChange) (a1 : (List dStep)) (a2 : dStep) : Option Int :=
 (ref_tasks k a0).bind fun r3 =>
 (ck ((r3.length : Int) - (1 : Int))).bind fun x4 =>
 (ref_inside k a2.1 (0 : Int) x4).bind fun r5 =>
 if ¬ (r5 = true) then (some (3 : Int)) else ((ref_done k a1 a2.1).bind fun r6 =>
 if (0 : Int) ≤ r6 then (some (4 : Int)) else ((ck ((a0.2.1.length : Int) - (1 : Int))).bind fun x7 =>
 (ref_inside k a2.2 (0 : Int) x7).bind fun r8 =>
 if ¬ (r8 = true) then (some (3 : Int)) else ((geti a0.2.1 a2.2).bind fun x9 =>
 (geti r3 a2.1).bind fun x10 =>
 (ref_can k a0 x9 x10).bind fun r11 =>
 if ¬ (r11 = true) then (some (8 : Int)) else (bE (α := Unit) (ref_checkStep_l1 k a0 a1 a2 r3 k (0 : Int)) (some) fun _ =>
 some (0 : Int)))))

theorem ref_checkStep_ok (k : Nat) (a0 : dChange) (a1 : (List dStep)) (a2 : dStep) (r : Int) (h : ref_checkStep k a0 a1 a2 = some r) :
 Ctr Tryz.prog 104 [.rep tChange a0, Rs tStep a1, .rep tStep a2] [] (fun _ : Unit => (resA [I r], [])) := by
 unfold ref_checkStep at h;replace h := b_top h;refine Ctr.of 68 Tryz.func104 rfl Tryz.ntmps104 rfl fun S w0 => ?_;refine sr (bx fun b1 => ?_);refine bx fun b2 => ?_;refine cq (nt (sr ?_));refine fr 1 ?_;refine lo sz26 ?_;obtain ⟨r3, er3, h⟩ := b_bind h;refine ja (o_call [.tmp 9] rfl rfl en61 rfl (ref_tasks_ok k a0 r3 er3)) ?_;refine aq (nt (JC.seq (sr ?_)));refine fl fo92_0 ?_;refine fr 1 ?_;refine lo sz3 ?_;refine mq ?_;refine ol U112 ?_;obtain ⟨x4, ex4, h⟩ := b_bind h;refine jb (o_sub rfl ex4) ?_;obtain ⟨r5, er5, h⟩ := b_bind h;refine jc (o_call [.tmp 12, .const (.int .i64 (0)), .tmp 15] rfl rfl en71 rfl (ref_inside_ok k a2.1 (0 : Int) x4 r5 er5)) ?_;refine ja (o_not rfl) ?_;refine nt (cw h (fun h => ?_) (fun h => ?_))
 ·refine sr (cq (nt (rx ?_)));cases h;exact ra
 ·refine sk (JC.seq (sr (mq ?_)));refine fl fo92_0 ?_;refine lo sz3 ?_;obtain ⟨r6, er6, h⟩ := b_bind h;refine jb (o_call [.tmp 18, .tmp 20] rfl rfl en120 rfl (ref_done_ok k a1 a2.1 r6 er6)) ?_;refine jb (o_geq rfl) ?_;refine nt (ci h (fun h => ?_) (fun h => ?_))
  ·refine sr (cq (nt (rx ?_)));cases h;exact ra
  ·refine sk (JC.seq (sr (fl fo92_1 ?_)));refine lo sz3 ?_;refine fl fo26_1 ?_;refine fr 1 ?_;refine lo sz23 ?_;refine ol U23 ?_;obtain ⟨x7, ex7, h⟩ := b_bind h;refine jb (o_sub rfl ex7) ?_;obtain ⟨r8, er8, h⟩ := b_bind h;refine jc (o_call [.tmp 24, .const (.int .i64 (0)), .tmp 28] rfl rfl en71 rfl (ref_inside_ok k a2.2 (0 : Int) x7 r8 er8)) ?_;refine ja (o_not rfl) ?_;refine nt (cw h (fun h => ?_) (fun h => ?_))
   ·refine sr (cq (nt (rx ?_)));cases h;exact ra
   ·refine sk (JC.seq (JC.seq (JC.drawN ?_)));refine ea 0 (o_load_obj rfl sz26 (nfn) rfl) ?_;refine da (o_field_obj rfl fo26_1) ?_;refine ea 0 (o_load_obj rfl sz23 nfs rfl) ?_;refine da (o_field_obj rfl fo92_1) ?_;refine ea 1 (o_load_obj rfl sz3 nfs rfl) ?_;obtain ⟨x9, ex9, h⟩ := b_bind h;refine db (o_index (t := tDresser) rfl U23 sz52 ex9) ?_;refine da (o_load_at (t := tDresser) rfl sz52 rfl) ?_;refine dm ?_;refine da (o_field_obj rfl fo92_0) ?_;refine ea 1 (o_load_obj rfl sz3 nfs rfl) ?_;obtain ⟨x10, ex10, h⟩ := b_bind h;refine db (o_index (t := tTask) rfl U112 sz116 ex10) ?_;refine da (o_load_at (t := tTask) rfl sz116 rfl) ?_;refine df mixed ?_;obtain ⟨r11, er11, h⟩ := b_bind h;refine jc (o_call [.tmp 31, .tmp 37, .tmp 42] rfl rfl en121 rfl (ref_can_ok k a0 x9 x10 r11 er11)) ?_;refine ja (o_not rfl) ?_;refine nt (cw h (fun h => ?_) (fun h => ?_))
    ·refine sr (cq (nt (rx ?_)));cases h;exact ra
    ·refine sk (JC.cutE (Z := Unit) (α := Unit) (fun z13 x12 => []) (fun z13 x12 => []) (fun e => e = r) h (fun e h => Option.some.inj h) (fun K hR h => ?_) (fun z13 x12 h => ?_))
     ·refine sr (cq (nt (JC.block ?_)));refine JC.loopB (Z := Unit) (α := Int) (fun z15 y14 => [(1, Rs tStep a1), (3, Pt b1), (5, Pt b2), (7, Rs tTask r3), (8, I y14)]) (fun z15 y14 => [.obj b1 26 (.rep tChange a0), .obj b2 92 (.rep tStep a2)]) (ref_checkStep_l1 k a0 a1 a2 r3) k () (0 : Int) (fun _ => rfl) h (SE.fin [0, 1] ⟨rfl, rfl, rfl, rfl, rfl, trivial⟩ rfl) (fun n z15 y14 h => ?_);unfold ref_checkStep_l1 at h;refine JC.seq (sr ?_);iterate 2 refine mq ?_
      refine ol U112 ?_;refine jb (o_lss rfl) ?_;refine nt (ci h (fun h => ?_) (fun h => ?_))
      ·refine sk (JC.seq (JC.block (JC.cutB (Z := Unit) (α := Bool) (fun z17 x16 => [(1, Rs tStep a1), (3, Pt b1), (5, Pt b2), (7, Rs tTask r3), (8, I y14), (67, .eq (.bool x16))]) (fun z17 x16 => [.obj b1 26 (.rep tChange a0), .obj b2 92 (.rep tStep a2)]) h (fun K h => ?_) (fun z17 x16 h => ?_))))
       ·refine JC.drawN ?_;refine ea 0 (o_load_obj rfl sz26 (nfn) rfl) ?_;refine dm ?_;refine dm ?_;obtain ⟨x18, ex18, h⟩ := b_bind h;refine db (o_index (t := tTask) rfl U112 sz116 ex18) ?_;refine da (o_load_at (t := tTask) rfl sz116 rfl) ?_;refine dm ?_;refine da (o_field_obj rfl fo92_0) ?_;refine ea 1 (o_load_obj rfl sz3 nfs rfl) ?_;obtain ⟨x19, ex19, h⟩ := b_bind h;refine db (o_index (t := tTask) rfl U112 sz116 ex19) ?_;refine da (o_load_at (t := tTask) rfl sz116 rfl) ?_;obtain ⟨r20, er20, h⟩ := b_bind h;refine dc (o_call [.tmp 51, .tmp 55, .tmp 60] rfl rfl en106 rfl (ref_before_ok k a0 x18 x19 r20 er20)) ?_;refine DN.fork rfl rfl rfl (o_move rfl) ⟨rfl, trivial⟩ (fun hb => ?_) (fun hb => ?_)
        ·replace h := b_if (v_t hb) h;refine DN.sg00 rfl rfl rfl rfl rfl (o_move rfl) ⟨rfl, rfl, trivial⟩ ?_;refine DN.sg00 rfl rfl rfl rfl rfl (o_move rfl) ⟨rfl, rfl, trivial⟩ ?_;refine df mixed ?_;obtain ⟨r21, er21, h⟩ := b_bind h;refine gb (o_call [.tmp 63, .tmp 64] rfl rfl en120 rfl (ref_done_ok k a1 y14 r21 er21)) ?_;refine gb (o_lss rfl) ?_;refine pt (nl ?_);exact jz ((), decide (r21 < (0 : Int))) h [0, 1]
        ·replace h := b_ifn (v_f hb) h;iterate 2 refine dg ?_
         refine df mixed ?_;iterate 2 refine gn ?_
         refine pf (nl ?_);exact jz ((), false) h [0, 1]
       ·refine cv h (fun h => ?_) (fun h => ?_)
        ·refine sr (cq (nt (JC.ret (br (JN.blk_r (JN.then_r ?_))))));obtain rfl := hR _ h;exact ra
        ·refine JC.skip (JN.blk_n (tn (JC.region (mq ?_))));obtain ⟨x22, ex22, h⟩ := b_bind h;refine jb (o_add rfl ex22) ?_;refine aq (nl ?_);exact jz ((), x22) h [0, 1]
      ·refine xa ?_;exact jz ((), ()) h []
     ·refine sr (cq (nt (JC.ret ?_)));cases h;exact ra


def ref_plans_l2 (k : Nat) (a0 : dChange) (a1 : (List dStep)) (self : dChange → (List dStep) → Option ((List (List dStep)))) (y5 : (List (List dStep)) × Int) : Nat → ((List (List dStep)) × Int) → Option (List (List dStep))
 | 0, _ => none
 | n + 1, y9 =>
  if y9.2 < (a0.2.1.length : Int) then ((((ref_checkStep k a0 a1 (y5.2, y9.2)).bind fun r14 =>
  if r14 = (0 : Int) then ((chkP (okLen (List.length ([] : (List dStep)) + List.length a1))).bind fun _ =>
  (chkP (okLen (List.length (([] : (List dStep)) ++ a1) + List.length [(y5.2, y9.2)]))).bind fun _ =>
  (self a0 ((([] : (List dStep)) ++ a1) ++ [(y5.2, y9.2)])).bind fun r20 =>
  (chkP (okLen (List.length y9.1 + List.length r20))).bind fun _ =>
  some (y9.1 ++ r20)) else (some y9.1)) : Option ((List (List dStep)))).bind fun x11 =>
  (ck (y9.2 + (1 : Int))).bind fun x23 =>
  ref_plans_l2 k a0 a1 self y5 n (x11, x23)) else (some y9.1)

def ref_plans_l1 (k : Nat) (a0 : dChange) (a1 : (List dStep)) (self : dChange → (List dStep) → Option ((List (List dStep)))) (r2 : (List dTask)) : Nat → ((List (List dStep)) × Int) → Option (List (List dStep))
 | 0, _ => none
 | n + 1, y5 =>
  if y5.2 < (r2.length : Int) then (((ref_plans_l2 k a0 a1 self y5 k (y5.1, (0 : Int))) : Option ((List (List dStep)))).bind fun x7 =>
  (ck (y5.2 + (1 : Int))).bind fun x24 =>
  ref_plans_l1 k a0 a1 self r2 n (x7, x24)) else (some y5.1)
def ref_plans (k : Nat) : Nat → dChange → (List dStep) → Option ((List (List dStep)))
 | 0, _, _ => none
 | m0 + 1, a0, a1 =>
  (ref_tasks k a0).bind fun r2 =>
  if (a1.length : Int) = (r2.length : Int) then (some [a1]) else (((ref_plans_l1 k a0 a1 (ref_plans k m0) r2 k (([] : (List (List dStep))), (0 : Int))) : Option ((List (List dStep)))).bind fun x3 =>
  some x3)

theorem ref_plans_ok (k : Nat) :
 ∀ (n : Nat) (a0 : dChange) (a1 : (List dStep)) (r : (List (List dStep))), ref_plans k n a0 a1 = some r → Ctr Tryz.prog 118 [.rep tChange a0, Rs tStep a1] ([]) (fun _ : Unit => (resA [.rep (.slice (.slice tStep)) r], [])) := by
 intro n
 induction n with
 | zero => intro a0 a1 r h; cases h
 | succ m0 ih =>
  intro a0 a1 r h;rw [ref_plans] at h;replace h := b_top h;refine Ctr.of 51 Tryz.func118 rfl Tryz.ntmps118 rfl fun S w0 => ?_;refine sr (bx fun b1 => ?_);refine cq (nt (sr ?_));refine lo sz26 ?_;obtain ⟨r2, er2, h⟩ := b_bind h;refine ja (o_call [.tmp 10] rfl rfl en61 rfl (ref_tasks_ok k a0 r2 er2)) ?_;refine aq (nt (JC.seq (sr ?_)));refine mq ?_;refine ol U34 ?_;refine mq ?_;refine ol U112 ?_;refine jb (o_eql rfl) ?_;refine nt (ci h (fun h => ?_) (fun h => ?_))
  ·refine sr (mq ?_);refine ja (o_litB (t := (.slice tStep)) [(.tmp 17, _)] [a1] rfl rfl sl41 (.cons rfl .rep .nil) rfl rfl) ?_;refine aq (nt (rx ?_));cases h;exact ra
  ·refine sk (sr (cq (nt ?_)));refine JC.cutB (Z := Value) (α := (List (List dStep))) (fun z4 x3 => [(6, .eq z4)]) (fun z4 x3 => [.sl z4 34 (.slice tStep) x3]) h (fun K h => ?_) (fun z4 x3 h => ?_)
   ·refine sr (cq (nt (JC.block ?_)));refine JC.se (SE.nil 34 (.slice tStep)) ?_;refine JC.loopB (Z := Value) (α := (List (List dStep)) × Int) (fun z6 y5 => [(1, Rs tStep a1), (2, Pt b1), (5, Rs tTask r2), (6, .eq z6), (7, I y5.2)]) (fun z6 y5 => [.obj b1 26 (.rep tChange a0), .sl z6 34 (.slice tStep) y5.1]) (ref_plans_l1 k a0 a1 (ref_plans k m0) r2) k (.slice none 0 0) (([] : (List (List dStep))), (0 : Int)) (fun _ => rfl) h (SE.fin [1, 0] ⟨rfl, rfl, rfl, rfl, rfl, trivial⟩ rfl) (fun n z6 y5 h => ?_);unfold ref_plans_l1 at h;refine JC.seq (sr ?_);iterate 2 refine mq ?_
    refine ol U112 ?_;refine jb (o_lss rfl) ?_;refine nt (ci h (fun h => ?_) (fun h => ?_))
    ·refine sk (JC.cutB (Z := Value) (α := (List (List dStep))) (fun z8 x7 => [(1, Rs tStep a1), (2, Pt b1), (5, Rs tTask r2), (6, .eq z8), (7, I y5.2)]) (fun z8 x7 => [.obj b1 26 (.rep tChange a0), .sl z8 34 (.slice tStep) x7]) h (fun K h => ?_) (fun z8 x7 h => ?_))
     ·refine JC.block (sr (cq (nt (JC.block ?_))));refine JC.loopB (Z := Value) (α := (List (List dStep)) × Int) (fun z10 y9 => [(1, Rs tStep a1), (2, Pt b1), (5, Rs tTask r2), (6, .eq z10), (7, I y5.2), (8, I y9.2)]) (fun z10 y9 => [.obj b1 26 (.rep tChange a0), .sl z10 34 (.slice tStep) y9.1]) (ref_plans_l2 k a0 a1 (ref_plans k m0) y5) k z6 (y5.1, (0 : Int)) (fun _ => rfl) h (SE.fin [0, 1] ⟨rfl, rfl, rfl, rfl, rfl, rfl, trivial⟩ rfl) (fun n z10 y9 h => ?_);unfold ref_plans_l2 at h;refine JC.seq (sr (mq ?_));refine fl fo26_1 ?_;refine lo sz23 ?_;refine ol U23 ?_;refine jb (o_lss rfl) ?_;refine nt (ci h (fun h => ?_) (fun h => ?_))
      ·refine sk (JC.cutB (Z := Value) (α := (List (List dStep))) (fun z12 x11 => [(1, Rs tStep a1), (2, Pt b1), (5, Rs tTask r2), (6, .eq z12), (7, I y5.2), (8, I y9.2)]) (fun z12 x11 => [.obj b1 26 (.rep tChange a0), .sl z12 34 (.slice tStep) x11]) h (fun K h => ?_) (fun z12 x11 h => ?_))
       ·refine JC.block (sr ?_);iterate 2 refine mq ?_
        refine jb (o_buildT [(0, .tmp 32, _), (1, .tmp 33, _)] rfl pl92 za92 alb92 (stors ⟨rfl, rfl, trivial⟩) rfl) ?_;refine JO.s01 rfl rfl rfl (o_alloc rfl za92 al92) trivial fun b13 => ?_;refine JO.n11 rfl rfl (o_store rfl sz92 trivial rfl rfl) ⟨rfl, rfl, trivial⟩ ?_;refine nt (sr (fr 1 ?_));refine lo sz26 ?_;refine mq ?_;refine fr 1 ?_;refine lo sz92 ?_;obtain ⟨r14, er14, h⟩ := b_bind h;refine jc (OpT.need (N := [(.tmp 35, .rep tChange a0), (.tmp 36, Rs tStep a1), (.tmp 37, .agg (.pair (I y5.2) (I y9.2)))]) (o_call [.tmp 35, .tmp 36, .tmp 37] rfl rfl en104 rfl (ref_checkStep_ok k a0 a1 (y5.2, y9.2) r14 er14)) fun _ _ _ hn => ⟨hn.1, hn.2.1, (ent_holds (t := tStep) (x := (y5.2, y9.2)) (.agg (.pair .int .int)) trivial rfl hn.2.2.1), trivial⟩) ?_;refine jb (o_eql rfl) ?_;refine nt (ci h (fun h => ?_) (fun h => ?_))
        ·refine JC.drawRW [0, 1, 3, 5, 6, 2, 4, 7, 8, 9, 10] (by kernel_rfl) ?_;refine DW.t00 rfl rfl rfl (o_move rfl) ⟨rfl, trivial⟩ ?_;refine DW.t11 1 rfl rfl rfl rfl (o_load_obj rfl sz26 (nfn) rfl) ⟨rfl, trivial⟩ ?_;refine DW.t00 rfl rfl rfl (o_move rfl) ⟨rfl, trivial⟩ ?_;refine DW.t11 0 rfl rfl rfl rfl (o_load_obj rfl sz92 (nfn) rfl) ⟨rfl, trivial⟩ ?_;refine DW.t00 rfl rfl rfl (o_litB (t := tStep) [(.tmp 45, _)] [(y5.2, y9.2)] rfl rfl sl34 (.cons trivial (.agg (.pair .int .int)) .nil) rfl rfl) ⟨rfl, trivial⟩ ?_;refine DW.tNew (fun v => [.sl v 92 tStep ([] : (List dStep))]) (fun _ => rfl) rfl rfl rfl (o_litB_own (t := tStep) [] ([] : (List dStep)) rfl rfl sl34 .nil rfl rfl) trivial ?_;refine DW.fin 6 [false, false, true, false, false, true] [44, 47, 48] [1, 0] [.obj b1 26 (.rep tChange a0), .obj b13 92 (.agg (.pair (I y5.2) (I y9.2)))] rfl (by kernel_rfl) (by kernel_rfl) (by kernel_rfl) mixed (fun vs hv hB => ?_);obtain ⟨w0, vs1, rfl, hv1⟩ := len_cons hv;obtain ⟨w1, vs2, rfl, hv2⟩ := len_cons hv1;obtain ⟨w2, vs3, rfl, hv3⟩ := len_cons hv2;obtain ⟨w3, vs4, rfl, hv4⟩ := len_cons hv3;obtain ⟨w4, vs5, rfl, hv5⟩ := len_cons hv4;obtain ⟨v15, vs6, rfl, hv6⟩ := len_cons hv5;obtain rfl := len_nil hv6;refine ⟨[1, 0, 2, 3], [.sl z10 34 (.slice tStep) y9.1, .sl v15 92 tStep ([] : (List dStep))], by kernel_rfl, by decide, ?_⟩;obtain ⟨u16, eu16, h⟩ := b_bind h;refine JT.front 1 rfl ?_;refine JT.y1x rfl rfl rfl rfl (o_append rfl rfl sl34 (chkP_some eu16)) ⟨rfl, rfl, trivial⟩ (by kernel_rfl) fun v17 => ?_;obtain ⟨u18, eu18, h⟩ := b_bind h;refine JT.y1x rfl rfl rfl rfl (o_append rfl rfl sl34 (chkP_some eu18)) ⟨rfl, rfl, trivial⟩ (by kernel_rfl) fun v19 => ?_;obtain ⟨r20, er20, h⟩ := b_bind h;refine JT.y (Δu := [_]) rfl rfl rfl rfl (OpT.eat (N := [(.tmp 41, .rep tChange a0), (.tmp 47, .eq v19)]) (o_call [.tmp 41, .tmp 47] rfl rfl en118 rfl (ih a0 ((([] : (List dStep)) ++ a1) ++ [(y5.2, y9.2)]) r20 er20)) (fun _ _ _ hv hn => ⟨hn.1, (lend hn.2.1 hv), trivial⟩)) ⟨rfl, rfl, trivial⟩ (by kernel_rfl) fun _ => ?_;refine JT.all (by kernel_rfl) ?_;obtain ⟨u21, eu21, h⟩ := b_bind h;refine fr 2 ?_;refine JO.s1x rfl rfl rfl (o_append rfl rfl sl41 (chkP_some eu21)) ⟨rfl, rfl, trivial⟩ fun v22 => ?_;refine aq (JO.nil (bn ?_));exact jz (v22, y9.1 ++ r20) h [1, 0]
        ·refine JC.skip (bn ?_);exact jz (z10, y9.1) h [1, 2]
       ·refine JC.region (mq ?_);obtain ⟨x23, ex23, h⟩ := b_bind h;refine jb (o_add rfl ex23) ?_;refine aq (nl ?_);exact jz (z12, (x11, x23)) h [0, 1]
      ·refine JC.exit (JN.then_x (JN.then_x (JN.blk_hit (bn ?_))));exact jz (z10, y9.1) h [0, 1]
     ·refine JC.region (mq ?_);obtain ⟨x24, ex24, h⟩ := b_bind h;refine jb (o_add rfl ex24) ?_;refine aq (nl ?_);exact jz (z8, (x7, x24)) h [0, 1]
    ·refine xa ?_;exact jz (z6, y5.1) h [1]
   ·refine sr (mq ?_);refine aq (nt (JC.ret ?_));refine JN.se (SE.frz [4, 6, 50] ⟨rfl, rfl, rfl, trivial⟩) ?_;cases h;exact ra


def ref_Plans (k : Nat) (a0 : dChange) : Option (List (List dStep)) :=
 (ref_plans k k a0 ([] : (List dStep))).bind fun r2 =>
 some r2

theorem ref_Plans_ok (k : Nat) (a0 : dChange) (r : (List (List dStep))) (h : ref_Plans k a0 = some r) :
 Ctr Tryz.prog 99 [.rep tChange a0] [] (fun _ : Unit => (resA [.rep (.slice (.slice tStep)) r], [])) := by
 unfold ref_Plans at h;replace h := b_top h;refine Ctr.of 5 Tryz.func99 rfl Tryz.ntmps99 rfl fun S w0 => ?_;refine sr (bx fun b1 => ?_);refine cq (nt (sr ?_));refine lo sz26 ?_;obtain ⟨r2, er2, h⟩ := b_bind h;refine jb (OpT.need (N := [(.tmp 3, .rep tChange a0), (.const (.slice none 0 0), .eq (.slice none 0 0))]) (o_call [.tmp 3, .const (.slice none 0 0)] rfl rfl en118 rfl (ref_plans_ok k k a0 ([] : (List dStep)) r2 er2)) fun _ _ _ hn => ⟨hn.1, (ent_holds (t := (.slice tStep)) (x := ([] : (List dStep))) .nil rfl rfl hn.2.1), trivial⟩) ?_;refine aq (nt (JC.ret ?_));cases h;exact ra


def ref_fewest_l1 (k : Nat) (a0 : dChange) (r2 : (List (List dStep))) : Nat → (Int × Int × Int) → Option (Int × Int)
 | 0, _ => none
 | n + 1, y7 =>
  if y7.2.2 < (r2.length : Int) then ((((geti r2 y7.2.2).bind fun x11 =>
  (ref_bars k a0 x11).bind fun r12 =>
  if r12 < y7.2.1 then (some (y7.2.2, r12)) else (some (y7.1, y7.2.1))) : Option (Int × Int)).bind fun x9 =>
  (ck (y7.2.2 + (1 : Int))).bind fun x13 =>
  ref_fewest_l1 k a0 r2 n (x9.1, x9.2, x13)) else (some (y7.1, y7.2.1))
def ref_fewest (k : Nat) (a0 : dChange) : Option ((List dStep) × Int × Bool) :=
 (ref_Plans k a0).bind fun r2 =>
 if (r2.length : Int) = (0 : Int) then (some ([], (0 : Int), false)) else ((geti r2 (0 : Int)).bind fun x3 =>
 (ref_bars k a0 x3).bind fun r4 =>
 ((ref_fewest_l1 k a0 r2 k ((0 : Int), r4, (0 : Int))) : Option (Int × Int)).bind fun x5 =>
 (geti r2 x5.1).bind fun x14 =>
 some (x14, x5.2, true))

theorem ref_fewest_ok (k : Nat) (a0 : dChange) (r : (List dStep) × Int × Bool) (h : ref_fewest k a0 = some r) :
 Ctr Tryz.prog 54 [.rep tChange a0] [] (fun _ : Unit => (resA [Rs tStep r.1, I r.2.1, .eq (.bool r.2.2)], [])) := by
 unfold ref_fewest at h;replace h := b_top h;refine Ctr.of 42 Tryz.func54 rfl Tryz.ntmps54 rfl fun S w0 => ?_;refine sr (bx fun b1 => ?_);refine cq ?_;refine cq ?_;refine cq (nt (sr ?_));refine lo sz26 ?_;obtain ⟨r2, er2, h⟩ := b_bind h;refine ja (o_call [.tmp 10] rfl rfl en99 rfl (ref_Plans_ok k a0 r2 er2)) ?_;refine aq (nt (JC.seq (sr ?_)));refine mq ?_;refine ol U41 ?_;refine jb (o_eql rfl) ?_;refine nt (ci h (fun h => ?_) (fun h => ?_))
 ·refine sr (cq ?_);refine cq ?_;refine cq (nt (rx ?_));refine JN.se (SE.ent (t := (.slice tStep)) (x := []) 2 rfl .nil rfl rfl) ?_;cases h;exact JN.ret () [_, _, _] 0 ⟨rfl, rfl, rfl, trivial⟩ rfl
 ·refine sk (JC.seq (JC.drawN ?_));refine ea 0 (o_load_obj rfl sz26 (nfn) rfl) ?_;refine dm ?_;obtain ⟨x3, ex3, h⟩ := b_bind h;refine db (o_index (t := (.slice tStep)) rfl U41 sz34 ex3) ?_;refine da (o_load_at (t := (.slice tStep)) rfl sz34 rfl) ?_;refine df mixed ?_;obtain ⟨r4, er4, h⟩ := b_bind h;refine jb (o_call [.tmp 15, .tmp 18] rfl rfl en73 rfl (ref_bars_ok k a0 x3 r4 er4)) ?_;refine cq ?_;refine aq (nt ?_);refine JC.cutB (Z := Unit) (α := Int × Int) (fun z6 x5 => [(5, .rep (.slice (.slice tStep)) r2), (6, I x5.1), (7, I x5.2)]) (fun z6 x5 => []) h (fun K h => ?_) (fun z6 x5 h => ?_)
  ·refine sr (cq (nt (JC.block ?_)));refine JC.loopB (Z := Unit) (α := Int × Int × Int) (fun z8 y7 => [(1, Pt b1), (5, .rep (.slice (.slice tStep)) r2), (6, I y7.1), (7, I y7.2.1), (8, I y7.2.2)]) (fun z8 y7 => [.obj b1 26 (.rep tChange a0)]) (ref_fewest_l1 k a0 r2) k () ((0 : Int), r4, (0 : Int)) (fun _ => rfl) h (SE.fin [0] ⟨rfl, rfl, rfl, rfl, rfl, trivial⟩ rfl) (fun n z8 y7 h => ?_);unfold ref_fewest_l1 at h;refine JC.seq (sr ?_);iterate 2 refine mq ?_
   refine ol U41 ?_;refine jb (o_lss rfl) ?_;refine nt (ci h (fun h => ?_) (fun h => ?_))
   ·refine sk (JC.cutB (Z := Unit) (α := Int × Int) (fun z10 x9 => [(1, Pt b1), (5, .rep (.slice (.slice tStep)) r2), (6, I x9.1), (7, I x9.2), (8, I y7.2.2)]) (fun z10 x9 => [.obj b1 26 (.rep tChange a0)]) h (fun K h => ?_) (fun z10 x9 h => ?_))
    ·refine JC.block (JC.seq (JC.drawN ?_));refine ea 0 (o_load_obj rfl sz26 (nfn) rfl) ?_;refine dm ?_;refine dm ?_;obtain ⟨x11, ex11, h⟩ := b_bind h;refine db (o_index (t := (.slice tStep)) rfl U41 sz34 ex11) ?_;refine da (o_load_at (t := (.slice tStep)) rfl sz34 rfl) ?_;refine df mixed ?_;obtain ⟨r12, er12, h⟩ := b_bind h;refine jb (o_call [.tmp 26, .tmp 30] rfl rfl en73 rfl (ref_bars_ok k a0 x11 r12 er12)) ?_;refine aq (nt (sr ?_));iterate 2 refine mq ?_
     refine jb (o_lss rfl) ?_;refine nt (ci h (fun h => ?_) (fun h => ?_))
     ·refine JC.region ?_;iterate 2 refine mq ?_
      refine aq ?_;refine aq (JO.nil (bn ?_));exact jz ((), (y7.2.2, r12)) h [0]
     ·refine JC.skip (bn ?_);exact jz ((), (y7.1, y7.2.1)) h [0]
    ·refine JC.region (mq ?_);obtain ⟨x13, ex13, h⟩ := b_bind h;refine jb (o_add rfl ex13) ?_;refine aq (nl ?_);exact jz ((), (x9.1, x9.2, x13)) h [0]
   ·refine xa ?_;exact jz ((), (y7.1, y7.2.1)) h []
  ·refine sr ?_;iterate 2 refine mq ?_
   obtain ⟨x14, ex14, h⟩ := b_bind h;refine jb (o_index (t := (.slice tStep)) rfl U41 sz34 ex14) ?_;refine ja (o_load_at (t := (.slice tStep)) rfl sz34 rfl) ?_;refine mq ?_;refine aq ?_;refine aq ?_;refine cq (nt (JC.ret ?_));cases h;exact JN.ret () [_, _, _] 0 ⟨rfl, rfl, rfl, trivial⟩ rfl


def kit_SameChanges_l1 (k : Nat) (a0 : dChange) (a1 : dChange) : Nat → Int → Option (Except Bool Unit)
 | 0, _ => none
 | n + 1, y9 =>
  if y9 < (a0.1.length : Int) then ((geti a0.1 y9).bind fun x11 =>
  (geti a1.1 y9).bind fun x12 =>
  (((kit_SameInts k x11.1 x12.1).bind fun r17 =>
  if ¬ (r17 = true) then (some true) else (if ¬ (x11.2.1 = x12.2.1) then (some true) else (if ¬ (x11.2.2.1 = x12.2.2.1) then (some true) else (if ¬ (x11.2.2.2.1 = x12.2.2.2.1) then (some true) else (some (!decide (x11.2.2.2.2 = x12.2.2.2.2))))))) : Option (Bool)).bind fun x15 =>
  if x15 = true then (some (.error false)) else ((ck (y9 + (1 : Int))).bind fun x18 =>
  kit_SameChanges_l1 k a0 a1 n x18)) else (some (.ok ()))

def kit_SameChanges_l2 (k : Nat) (a0 : dChange) (a1 : dChange) : Nat → Int → Option (Except Bool Unit)
 | 0, _ => none
 | n + 1, y21 =>
  if y21 < (a0.2.1.length : Int) then ((geti a0.2.1 y21).bind fun x23 =>
  (geti a1.2.1 y21).bind fun x24 =>
  (((kit_SameInts k x23.1 x24.1).bind fun r29 =>
  if ¬ (r29 = true) then (some true) else (if ¬ (x23.2.1 = x24.2.1) then (some true) else (some (!decide (x23.2.2 = x24.2.2))))) : Option (Bool)).bind fun x27 =>
  if x27 = true then (some (.error false)) else ((ck (y21 + (1 : Int))).bind fun x30 =>
  kit_SameChanges_l2 k a0 a1 n x30)) else (some (.ok ()))
def kit_SameChanges (k : Nat) (a0 : dChange) (a1 : dChange) : Option Bool :=
 (((kit_SameInts k a0.2.2.1 a1.2.2.1).bind fun r5 =>
 if ¬ (r5 = true) then (some true) else ((kit_SameInts k a0.2.2.2 a1.2.2.2).bind fun r6 =>
 if ¬ (r6 = true) then (some true) else (if ¬ ((a0.1.length : Int) = (a1.1.length : Int)) then (some true) else (some (!decide ((a0.2.1.length : Int) = (a1.2.1.length : Int))))))) : Option (Bool)).bind fun x3 =>
 if x3 = true then (some false) else (bE (α := Unit) (kit_SameChanges_l1 k a0 a1 k (0 : Int)) (some) fun _ =>
 bE (α := Unit) (kit_SameChanges_l2 k a0 a1 k (0 : Int)) (some) fun _ =>
 some true)

theorem kit_SameChanges_ok (k : Nat) (a0 : dChange) (a1 : dChange) (r : Bool) (h : kit_SameChanges k a0 a1 = some r) :
 Ctr Tryz.prog 17 [.rep tChange a0, .rep tChange a1] [] (fun _ : Unit => (resA [.eq (.bool r)], [])) := by
 unfold kit_SameChanges at h;replace h := b_top h;refine Ctr.of 131 Tryz.func17 rfl Tryz.ntmps17 rfl fun S w0 => ?_;refine sr (bx fun b1 => ?_);refine bx fun b2 => ?_;refine cq (nt (JC.seq ?_));refine JC.cutB (Z := Unit) (α := Bool) (fun z4 x3 => [(2, Pt b1), (3, Pt b2), (42, .eq (.bool x3))]) (fun z4 x3 => [.obj b1 26 (.rep tChange a0), .obj b2 26 (.rep tChange a1)]) h (fun K h => ?_) (fun z4 x3 h => ?_)
 ·refine JC.region (fl fo26_2 ?_);refine fr 1 ?_;refine lo sz24 ?_;refine fl fo26_2 ?_;refine fr 1 ?_;refine lo sz24 ?_;obtain ⟨r5, er5, h⟩ := b_bind h;refine jb (o_call [.tmp 12, .tmp 14] rfl rfl en22 rfl (kit_SameInts_ok k a0.2.2.1 a1.2.2.1 r5 er5)) ?_;refine ja (o_not rfl) ?_;refine mq ?_;refine JO.bool (s := 17) rfl (fun hb => ?_) (fun hb => ?_)
  ·replace h := b_if (nv_t hb) h;iterate 6 refine gn ?_
   refine pt ?_;refine mq ?_;iterate 7 refine gn ?_
   refine pt ?_;refine mq ?_;iterate 7 refine gn ?_
   refine pt (nl ?_);exact jz ((), true) h [1, 0]
  ·replace h := b_ifn (nv_fn hb) h;refine ga (o_field_obj rfl fo26_3) ?_;refine fr 1 ?_;refine JO.g11 rfl rfl rfl rfl rfl rfl (o_load_obj rfl sz24 nfs rfl) ⟨rfl, trivial⟩ ?_;refine ga (o_field_obj rfl fo26_3) ?_;refine fr 1 ?_;refine JO.g11 rfl rfl rfl rfl rfl rfl (o_load_obj rfl sz24 nfs rfl) ⟨rfl, trivial⟩ ?_;obtain ⟨r6, er6, h⟩ := b_bind h;refine gb (o_call [.tmp 19, .tmp 21] rfl rfl en22 rfl (kit_SameInts_ok k a0.2.2.2 a1.2.2.2 r6 er6)) ?_;refine ga (o_not rfl) ?_;refine pf ?_;refine mq ?_;refine JO.bool (s := 25) rfl (fun hb => ?_) (fun hb => ?_)
   ·replace h := b_if (nv_t hb) h;iterate 7 refine gn ?_
    refine pt ?_;refine mq ?_;iterate 7 refine gn ?_
    refine pt (nl ?_);exact jz ((), true) h [1, 0]
   ·replace h := b_ifn (nv_fn hb) h;refine ga (o_field_obj rfl fo26_0) ?_;refine fr 1 ?_;refine JO.g11 rfl rfl rfl rfl rfl rfl (o_load_obj rfl sz22 nfs rfl) ⟨rfl, trivial⟩ ?_;refine ga (o_len rfl rfl U22) ?_;refine ga (o_field_obj rfl fo26_0) ?_;refine fr 1 ?_;refine JO.g11 rfl rfl rfl rfl rfl rfl (o_load_obj rfl sz22 nfs rfl) ⟨rfl, trivial⟩ ?_;refine ga (o_len rfl rfl U22) ?_;refine gb (o_neq rfl) ?_;refine pf ?_;refine mq ?_;refine JO.bool (s := 34) rfl (fun hb => ?_) (fun hb => ?_)
    ·replace h := b_if (n_t hb) h;iterate 7 refine gn ?_
     refine pt (nl ?_);exact jz ((), true) h [1, 0]
    ·replace h := b_ifn (n_fn hb) h;refine ga (o_field_obj rfl fo26_1) ?_;refine fr 1 ?_;refine JO.g11 rfl rfl rfl rfl rfl rfl (o_load_obj rfl sz23 nfs rfl) ⟨rfl, trivial⟩ ?_;refine ga (o_len rfl rfl U23) ?_;refine ga (o_field_obj rfl fo26_1) ?_;refine fr 1 ?_;refine JO.g11 rfl rfl rfl rfl rfl rfl (o_load_obj rfl sz23 nfs rfl) ⟨rfl, trivial⟩ ?_;refine ga (o_len rfl rfl U23) ?_;refine gb (o_neq rfl) ?_;refine pf (nl ?_);exact jz ((), !decide ((a0.2.1.length : Int) = (a1.2.1.length : Int))) h [1, 0]
 ·refine cv h (fun h => ?_) (fun h => ?_)
  ·refine sr (cq (nt (rx ?_)));cases h;exact ra
  ·refine sk (JC.cutE (Z := Unit) (α := Unit) (fun z8 x7 => [(2, Pt b1), (3, Pt b2)]) (fun z8 x7 => [.obj b1 26 (.rep tChange a0), .obj b2 26 (.rep tChange a1)]) (fun e => e = r) h (fun e h => Option.some.inj h) (fun K hR h => ?_) (fun z8 x7 h => ?_))
   ·refine sr (cq (nt (JC.block ?_)));refine JC.loopB (Z := Unit) (α := Int) (fun z10 y9 => [(2, Pt b1), (3, Pt b2), (5, I y9)]) (fun z10 y9 => [.obj b1 26 (.rep tChange a0), .obj b2 26 (.rep tChange a1)]) (kit_SameChanges_l1 k a0 a1) k () (0 : Int) (fun _ => rfl) h (SE.fin [0, 1] ⟨rfl, rfl, rfl, trivial⟩ rfl) (fun n z10 y9 h => ?_);unfold kit_SameChanges_l1 at h;refine JC.seq (sr (mq ?_));refine fl fo26_0 ?_;refine lo sz22 ?_;refine ol U22 ?_;refine jb (o_lss rfl) ?_;refine nt (ci h (fun h => ?_) (fun h => ?_))
    ·refine sk (JC.seq (JC.block (JC.seq (JC.drawW ?_))));refine DW.t00 rfl rfl rfl (o_field_obj rfl fo26_0) ⟨rfl, trivial⟩ ?_;refine DW.t11 0 rfl rfl rfl rfl (o_load_obj rfl sz22 nfs rfl) ⟨rfl, trivial⟩ ?_;refine DW.t00 rfl rfl rfl (o_move rfl) ⟨rfl, trivial⟩ ?_;obtain ⟨x11, ex11, h⟩ := b_bind h;refine DW.t00 rfl rfl rfl (o_index (t := tThing) rfl U22 sz74 ex11) ⟨rfl, rfl, trivial⟩ ?_;refine DW.t00 rfl rfl rfl (o_load_at (t := tThing) rfl sz74 rfl) ⟨rfl, trivial⟩ ?_;refine DW.t00 rfl rfl rfl (o_field_obj rfl fo26_0) ⟨rfl, trivial⟩ ?_;refine DW.t11 1 rfl rfl rfl rfl (o_load_obj rfl sz22 nfs rfl) ⟨rfl, trivial⟩ ?_;refine DW.t00 rfl rfl rfl (o_move rfl) ⟨rfl, trivial⟩ ?_;obtain ⟨x12, ex12, h⟩ := b_bind h;refine DW.t00 rfl rfl rfl (o_index (t := tThing) rfl U22 sz74 ex12) ⟨rfl, rfl, trivial⟩ ?_;refine DW.t00 rfl rfl rfl (o_load_at (t := tThing) rfl sz74 rfl) ⟨rfl, trivial⟩ ?_;refine DW.tNew (ptrD 74 (.agg (.pair (.eq (.slice none 0 0)) (.pair (I (0 : Int)) (.pair (I (0 : Int)) (.pair (I (0 : Int)) (I (0 : Int)))))))) (fun _ => rfl) rfl rfl rfl (o_alloc rfl za74 al74) trivial ?_;refine DW.tNew (ptrD 74 (.agg (.pair (.eq (.slice none 0 0)) (.pair (I (0 : Int)) (.pair (I (0 : Int)) (.pair (I (0 : Int)) (I (0 : Int)))))))) (fun _ => rfl) rfl rfl rfl (o_alloc rfl za74 al74) trivial ?_;refine DW.fin 12 [true, true, true, true, true, false, false, false, false, false, true, true] [] [1] [.obj b2 26 (.rep tChange a1)] rfl (by kernel_rfl) (by kernel_rfl) (by kernel_rfl) mixed (fun vs hv hB => ?_);obtain ⟨w0, vs1, rfl, hv1⟩ := len_cons hv;obtain ⟨w1, vs2, rfl, hv2⟩ := len_cons hv1;obtain ⟨w2, vs3, rfl, hv3⟩ := len_cons hv2;obtain ⟨w3, vs4, rfl, hv4⟩ := len_cons hv3;obtain ⟨w4, vs5, rfl, hv5⟩ := len_cons hv4;obtain ⟨w5, vs6, rfl, hv6⟩ := len_cons hv5;obtain ⟨w6, vs7, rfl, hv7⟩ := len_cons hv6;obtain ⟨w7, vs8, rfl, hv8⟩ := len_cons hv7;obtain ⟨w8, vs9, rfl, hv9⟩ := len_cons hv8;obtain ⟨w9, vs10, rfl, hv10⟩ := len_cons hv9;obtain ⟨w10, vs11, rfl, hv11⟩ := len_cons hv10;obtain ⟨w11, vs12, rfl, hv12⟩ := len_cons hv11;obtain rfl := len_nil hv12;obtain ⟨b13, rfl⟩ := ptr_of hB.2.2.2.2.2.2.2.2.2.2.1;obtain ⟨b14, rfl⟩ := ptr_of hB.2.2.2.2.2.2.2.2.2.2.2.1;refine ⟨[1, 0, 2, 3], [.obj b1 26 (.rep tChange a0), .obj b13 74 (.agg (.pair (.eq (.slice none 0 0)) (.pair (I (0 : Int)) (.pair (I (0 : Int)) (.pair (I (0 : Int)) (I (0 : Int))))))), .obj b14 74 (.agg (.pair (.eq (.slice none 0 0)) (.pair (I (0 : Int)) (.pair (I (0 : Int)) (.pair (I (0 : Int)) (I (0 : Int)))))))], by kernel_rfl, by decide, ?_⟩;refine JT.front 1 rfl ?_;refine JT.n11 rfl rfl (o_store rfl sz74 rfl rfl rfl) ⟨rfl, rfl, trivial⟩ (by kernel_rfl) ?_;refine JT.all (by kernel_rfl) ?_;refine fr 3 ?_;refine JO.n11 rfl rfl (o_store rfl sz74 rfl rfl rfl) ⟨rfl, rfl, trivial⟩ ?_;refine nt (JC.cutB (Z := Unit) (α := Bool) (fun z16 x15 => [(2, Pt b1), (3, Pt b2), (5, I y9), (93, .eq (.bool x15))]) (fun z16 x15 => [.obj b1 26 (.rep tChange a0), .obj b2 26 (.rep tChange a1)]) h (fun K h => ?_) (fun z16 x15 h => ?_))
     ·refine JC.region (fl fo74_0 ?_);refine fr 2 ?_;refine lo sz24 ?_;refine fl fo74_0 ?_;refine fr 1 ?_;refine lo sz24 ?_;obtain ⟨r17, er17, h⟩ := b_bind h;refine jb (o_call [.tmp 61, .tmp 63] rfl rfl en22 rfl (kit_SameInts_ok k x11.1 x12.1 r17 er17)) ?_;refine ja (o_not rfl) ?_;refine mq ?_;refine JO.bool (s := 66) rfl (fun hb => ?_) (fun hb => ?_)
      ·replace h := b_if (nv_t hb) h;iterate 5 refine gn ?_
       refine pt ?_;refine mq ?_;iterate 5 refine gn ?_
       refine pt ?_;refine mq ?_;iterate 5 refine gn ?_
       refine pt ?_;refine mq ?_;iterate 5 refine gn ?_
       refine pt (nl ?_);exact jz ((), true) h [3, 2]
      ·replace h := b_ifn (nv_fn hb) h;refine ga (o_field_obj rfl fo74_1) ?_;refine fr 1 ?_;refine JO.g11 rfl rfl rfl rfl rfl rfl (o_load_obj rfl sz3 nfs rfl) ⟨rfl, trivial⟩ ?_;refine ga (o_field_obj rfl fo74_1) ?_;refine fr 1 ?_;refine JO.g11 rfl rfl rfl rfl rfl rfl (o_load_obj rfl sz3 nfs rfl) ⟨rfl, trivial⟩ ?_;refine gb (o_neq rfl) ?_;refine pf ?_;refine mq ?_;refine JO.bool (s := 73) rfl (fun hb => ?_) (fun hb => ?_)
       ·replace h := b_if (n_t hb) h;iterate 5 refine gn ?_
        refine pt ?_;refine mq ?_;iterate 5 refine gn ?_
        refine pt ?_;refine mq ?_;iterate 5 refine gn ?_
        refine pt (nl ?_);exact jz ((), true) h [3, 2]
       ·replace h := b_ifn (n_fn hb) h;refine ga (o_field_obj rfl fo74_2) ?_;refine fr 1 ?_;refine JO.g11 rfl rfl rfl rfl rfl rfl (o_load_obj rfl sz3 nfs rfl) ⟨rfl, trivial⟩ ?_;refine ga (o_field_obj rfl fo74_2) ?_;refine fr 1 ?_;refine JO.g11 rfl rfl rfl rfl rfl rfl (o_load_obj rfl sz3 nfs rfl) ⟨rfl, trivial⟩ ?_;refine gb (o_neq rfl) ?_;refine pf ?_;refine mq ?_;refine JO.bool (s := 80) rfl (fun hb => ?_) (fun hb => ?_)
        ·replace h := b_if (n_t hb) h;iterate 5 refine gn ?_
         refine pt ?_;refine mq ?_;iterate 5 refine gn ?_
         refine pt (nl ?_);exact jz ((), true) h [3, 2]
        ·replace h := b_ifn (n_fn hb) h;refine ga (o_field_obj rfl fo74_3) ?_;refine fr 1 ?_;refine JO.g11 rfl rfl rfl rfl rfl rfl (o_load_obj rfl sz3 nfs rfl) ⟨rfl, trivial⟩ ?_;refine ga (o_field_obj rfl fo74_3) ?_;refine fr 1 ?_;refine JO.g11 rfl rfl rfl rfl rfl rfl (o_load_obj rfl sz3 nfs rfl) ⟨rfl, trivial⟩ ?_;refine gb (o_neq rfl) ?_;refine pf ?_;refine mq ?_;refine JO.bool (s := 87) rfl (fun hb => ?_) (fun hb => ?_)
         ·replace h := b_if (n_t hb) h;iterate 5 refine gn ?_
          refine pt (nl ?_);exact jz ((), true) h [3, 2]
         ·replace h := b_ifn (n_fn hb) h;refine ga (o_field_obj rfl fo74_4) ?_;refine fr 1 ?_;refine JO.g11 rfl rfl rfl rfl rfl rfl (o_load_obj rfl sz3 nfs rfl) ⟨rfl, trivial⟩ ?_;refine ga (o_field_obj rfl fo74_4) ?_;refine fr 1 ?_;refine JO.g11 rfl rfl rfl rfl rfl rfl (o_load_obj rfl sz3 nfs rfl) ⟨rfl, trivial⟩ ?_;refine gb (o_neq rfl) ?_;refine pf (nl ?_);exact jz ((), !decide (x11.2.2.2.2 = x12.2.2.2.2)) h [3, 2]
     ·refine cv h (fun h => ?_) (fun h => ?_)
      ·refine sr (cq (nt (JC.ret (br (JN.blk_r (JN.then_r ?_))))));obtain rfl := hR _ h;exact ra
      ·refine JC.skip (JN.blk_n (tn (JC.region (mq ?_))));obtain ⟨x18, ex18, h⟩ := b_bind h;refine jb (o_add rfl ex18) ?_;refine aq (nl ?_);exact jz ((), x18) h [0, 1]
    ·refine xa ?_;exact jz ((), ()) h [0, 1]
   ·refine JC.cutE (Z := Unit) (α := Unit) (fun z20 x19 => []) (fun z20 x19 => []) (fun e => e = r) h (fun e h => Option.some.inj h) (fun K hR h => ?_) (fun z20 x19 h => ?_)
    ·refine sr (cq (nt (JC.block ?_)));refine JC.loopB (Z := Unit) (α := Int) (fun z22 y21 => [(2, Pt b1), (3, Pt b2), (8, I y21)]) (fun z22 y21 => [.obj b1 26 (.rep tChange a0), .obj b2 26 (.rep tChange a1)]) (kit_SameChanges_l2 k a0 a1) k () (0 : Int) (fun _ => rfl) h (SE.fin [0, 1] ⟨rfl, rfl, rfl, trivial⟩ rfl) (fun n z22 y21 h => ?_);unfold kit_SameChanges_l2 at h;refine JC.seq (sr (mq ?_));refine fl fo26_1 ?_;refine lo sz23 ?_;refine ol U23 ?_;refine jb (o_lss rfl) ?_;refine nt (ci h (fun h => ?_) (fun h => ?_))
     ·refine sk (JC.seq (JC.block (JC.seq (JC.drawW ?_))));refine DW.t00 rfl rfl rfl (o_field_obj rfl fo26_1) ⟨rfl, trivial⟩ ?_;refine DW.t11 0 rfl rfl rfl rfl (o_load_obj rfl sz23 nfs rfl) ⟨rfl, trivial⟩ ?_;refine DW.t00 rfl rfl rfl (o_move rfl) ⟨rfl, trivial⟩ ?_;obtain ⟨x23, ex23, h⟩ := b_bind h;refine DW.t00 rfl rfl rfl (o_index (t := tDresser) rfl U23 sz52 ex23) ⟨rfl, rfl, trivial⟩ ?_;refine DW.t00 rfl rfl rfl (o_load_at (t := tDresser) rfl sz52 rfl) ⟨rfl, trivial⟩ ?_;refine DW.t00 rfl rfl rfl (o_field_obj rfl fo26_1) ⟨rfl, trivial⟩ ?_;refine DW.t11 1 rfl rfl rfl rfl (o_load_obj rfl sz23 nfs rfl) ⟨rfl, trivial⟩ ?_;refine DW.t00 rfl rfl rfl (o_move rfl) ⟨rfl, trivial⟩ ?_;obtain ⟨x24, ex24, h⟩ := b_bind h;refine DW.t00 rfl rfl rfl (o_index (t := tDresser) rfl U23 sz52 ex24) ⟨rfl, rfl, trivial⟩ ?_;refine DW.t00 rfl rfl rfl (o_load_at (t := tDresser) rfl sz52 rfl) ⟨rfl, trivial⟩ ?_;refine DW.tNew (ptrD 52 (.agg (.pair (.eq (.slice none 0 0)) (.pair (I (0 : Int)) (I (0 : Int)))))) (fun _ => rfl) rfl rfl rfl (o_alloc rfl za52 al52) trivial ?_;refine DW.tNew (ptrD 52 (.agg (.pair (.eq (.slice none 0 0)) (.pair (I (0 : Int)) (I (0 : Int)))))) (fun _ => rfl) rfl rfl rfl (o_alloc rfl za52 al52) trivial ?_;refine DW.fin 12 [true, true, true, true, true, false, false, false, false, false, true, true] [] [1] [.obj b2 26 (.rep tChange a1)] rfl (by kernel_rfl) (by kernel_rfl) (by kernel_rfl) mixed (fun vs hv hB => ?_);obtain ⟨w0, vs1, rfl, hv1⟩ := len_cons hv;obtain ⟨w1, vs2, rfl, hv2⟩ := len_cons hv1;obtain ⟨w2, vs3, rfl, hv3⟩ := len_cons hv2;obtain ⟨w3, vs4, rfl, hv4⟩ := len_cons hv3;obtain ⟨w4, vs5, rfl, hv5⟩ := len_cons hv4;obtain ⟨w5, vs6, rfl, hv6⟩ := len_cons hv5;obtain ⟨w6, vs7, rfl, hv7⟩ := len_cons hv6;obtain ⟨w7, vs8, rfl, hv8⟩ := len_cons hv7;obtain ⟨w8, vs9, rfl, hv9⟩ := len_cons hv8;obtain ⟨w9, vs10, rfl, hv10⟩ := len_cons hv9;obtain ⟨w10, vs11, rfl, hv11⟩ := len_cons hv10;obtain ⟨w11, vs12, rfl, hv12⟩ := len_cons hv11;obtain rfl := len_nil hv12;obtain ⟨b25, rfl⟩ := ptr_of hB.2.2.2.2.2.2.2.2.2.2.1;obtain ⟨b26, rfl⟩ := ptr_of hB.2.2.2.2.2.2.2.2.2.2.2.1;refine ⟨[1, 0, 2, 3], [.obj b1 26 (.rep tChange a0), .obj b25 52 (.agg (.pair (.eq (.slice none 0 0)) (.pair (I (0 : Int)) (I (0 : Int))))), .obj b26 52 (.agg (.pair (.eq (.slice none 0 0)) (.pair (I (0 : Int)) (I (0 : Int)))))], by kernel_rfl, by decide, ?_⟩;refine JT.front 1 rfl ?_;refine JT.n11 rfl rfl (o_store rfl sz52 rfl rfl rfl) ⟨rfl, rfl, trivial⟩ (by kernel_rfl) ?_;refine JT.all (by kernel_rfl) ?_;refine fr 3 ?_;refine JO.n11 rfl rfl (o_store rfl sz52 rfl rfl rfl) ⟨rfl, rfl, trivial⟩ ?_;refine nt (JC.cutB (Z := Unit) (α := Bool) (fun z28 x27 => [(2, Pt b1), (3, Pt b2), (8, I y21), (130, .eq (.bool x27))]) (fun z28 x27 => [.obj b1 26 (.rep tChange a0), .obj b2 26 (.rep tChange a1)]) h (fun K h => ?_) (fun z28 x27 h => ?_))
      ·refine JC.region (fl fo52_0 ?_);refine fr 2 ?_;refine lo sz24 ?_;refine fl fo52_0 ?_;refine fr 1 ?_;refine lo sz24 ?_;obtain ⟨r29, er29, h⟩ := b_bind h;refine jb (o_call [.tmp 112, .tmp 114] rfl rfl en22 rfl (kit_SameInts_ok k x23.1 x24.1 r29 er29)) ?_;refine ja (o_not rfl) ?_;refine mq ?_;refine JO.bool (s := 117) rfl (fun hb => ?_) (fun hb => ?_)
       ·replace h := b_if (nv_t hb) h;iterate 5 refine gn ?_
        refine pt ?_;refine mq ?_;iterate 5 refine gn ?_
        refine pt (nl ?_);exact jz ((), true) h [3, 2]
       ·replace h := b_ifn (nv_fn hb) h;refine ga (o_field_obj rfl fo52_1) ?_;refine fr 1 ?_;refine JO.g11 rfl rfl rfl rfl rfl rfl (o_load_obj rfl sz3 nfs rfl) ⟨rfl, trivial⟩ ?_;refine ga (o_field_obj rfl fo52_1) ?_;refine fr 1 ?_;refine JO.g11 rfl rfl rfl rfl rfl rfl (o_load_obj rfl sz3 nfs rfl) ⟨rfl, trivial⟩ ?_;refine gb (o_neq rfl) ?_;refine pf ?_;refine mq ?_;refine JO.bool (s := 124) rfl (fun hb => ?_) (fun hb => ?_)
        ·replace h := b_if (n_t hb) h;iterate 5 refine gn ?_
         refine pt (nl ?_);exact jz ((), true) h [3, 2]
        ·replace h := b_ifn (n_fn hb) h;refine ga (o_field_obj rfl fo52_2) ?_;refine fr 1 ?_;refine JO.g11 rfl rfl rfl rfl rfl rfl (o_load_obj rfl sz3 nfs rfl) ⟨rfl, trivial⟩ ?_;refine ga (o_field_obj rfl fo52_2) ?_;refine fr 1 ?_;refine JO.g11 rfl rfl rfl rfl rfl rfl (o_load_obj rfl sz3 nfs rfl) ⟨rfl, trivial⟩ ?_;refine gb (o_neq rfl) ?_;refine pf (nl ?_);exact jz ((), !decide (x23.2.2 = x24.2.2)) h [3, 2]
      ·refine cv h (fun h => ?_) (fun h => ?_)
       ·refine sr (cq (nt (JC.ret (br (JN.blk_r (JN.then_r ?_))))));obtain rfl := hR _ h;exact ra
       ·refine JC.skip (JN.blk_n (tn (JC.region (mq ?_))));obtain ⟨x30, ex30, h⟩ := b_bind h;refine jb (o_add rfl ex30) ?_;refine aq (nl ?_);exact jz ((), x30) h [0, 1]
     ·refine xa ?_;exact jz ((), ()) h []
    ·refine sr (cq (nt (JC.ret ?_)));cases h;exact ra


def ref_with (k : Nat) (a0 : dChange) (a1 : Int) (a2 : dDresser) : Option dChange :=
 (chkP (okLen (List.length ([] : (List dDresser)) + List.length a0.2.1))).bind fun _ =>
 (geti (([] : (List dDresser)) ++ a0.2.1) a1).bind fun x9 =>
 some (a0.1, List.set (([] : (List dDresser)) ++ a0.2.1) (Int.toNat a1) a2, a0.2.2)

theorem ref_with_ok (k : Nat) (a0 : dChange) (a1 : Int) (a2 : dDresser) (r : dChange) (h : ref_with k a0 a1 a2 = some r) :
 Ctr Tryz.prog 72 [.rep tChange a0, I a1, .rep tDresser a2] [] (fun _ : Unit => (resA [.rep tChange r], [])) := by
 unfold ref_with at h;replace h := b_top h;refine Ctr.of 20 Tryz.func72 rfl Tryz.ntmps72 rfl fun S w0 => ?_;refine sr (bx fun b1 => ?_);refine bx fun b2 => ?_;refine JO.s01 rfl rfl rfl (o_alloc rfl za26 al26) trivial fun b3 => ?_;refine nt (sr (fr 2 ?_));refine lo sz26 ?_;refine JO.s01 rfl rfl rfl (o_alloc rfl za26 al26) trivial fun b4 => ?_;refine JO.n11 rfl rfl (o_store rfl sz26 rfl rfl rfl) ⟨rfl, rfl, trivial⟩ ?_;refine nt (sr (JO.s01 rfl rfl rfl (o_litB_own (t := tDresser) [] ([] : (List dDresser)) rfl rfl sl23 .nil rfl rfl) trivial fun v5 => ?_));refine fl fo26_1 ?_;refine fr 2 ?_;refine lo sz23 ?_;obtain ⟨u6, eu6, h⟩ := b_bind h;refine fr 1 ?_;refine JO.s1x rfl rfl rfl (o_append rfl rfl sl23 (chkP_some eu6)) ⟨rfl, rfl, trivial⟩ fun v7 => ?_;refine fl fo26_1 ?_;refine JO.one fun o8 => ?_;refine fr 2 ?_;refine JO.n11 rfl rfl (o_store rfl sz23 o8 rfl rfl) ⟨rfl, rfl, trivial⟩ ?_;refine nt (sr (fl fo26_1 ?_));refine lo sz23 ?_;refine mq ?_;refine fr 4 ?_;refine lo sz52 ?_;obtain ⟨x9, ex9, h⟩ := b_bind h;refine fr 2 ?_;refine kb (o_index_own (t := tDresser) rfl U23 sz52 ex9) ?_;refine JO.n11 rfl rfl (o_store_elW (i := Int.toNat a1) rfl sz52 rfl (geti_lt ex9) rfl .rep rfl) ⟨rfl, rfl, trivial⟩ ?_;refine nt (sr (fr 2 ?_));refine fr 1 ?_;refine JO.se (SE.frzBoth (off := 1) [12, 15] ⟨rfl, rfl, trivial⟩ rfl rfl) ?_;refine lo sz26 ?_;refine fr 3 ?_;refine JO.n11 rfl rfl (o_store rfl sz26 trivial rfl rfl) ⟨rfl, rfl, trivial⟩ ?_;refine nt (JC.ret (JN.se (SE.objE (a := .agg (.pair (Rs tThing a0.1) (.pair (Rs tDresser (List.set (([] : (List dDresser)) ++ a0.2.1) (Int.toNat a1) a2)) (.rep (.pair (.slice (.int .i64)) (.slice (.int .i64))) a0.2.2)))) (a' := .rep tChange (a0.1, List.set (([] : (List dDresser)) ++ a0.2.1) (Int.toNat a1) a2, a0.2.2)) (AE.ent (.agg (.pair .rep (.pair .rep .rep))))) ?_));cases h;exact JN.ret () [.rep tChange (a0.1, List.set (([] : (List dDresser)) ++ a0.2.1) (Int.toNat a1) a2, a0.2.2)] 0 ⟨⟨_, _, _, _, _, rfl, (.head _), sz26, (nfn), rfl⟩, trivial⟩ rfl


def ref_Through_l1 (k : Nat) (a0 : (List dChange)) : Nat → Int → Option (Except ((List Int) × Int) Unit)
 | 0, _ => none
 | n + 1, y4 =>
  if y4 < (a0.length : Int) then ((geti a0 y4).bind fun x6 =>
  (ref_asked k x6).bind fun r7 =>
  if ¬ (r7 = (0 : Int)) then (some (.error ([], r7))) else ((ck (y4 + (1 : Int))).bind fun x8 =>
  ref_Through_l1 k a0 n x8)) else (some (.ok ()))

def ref_Through_l2 (k : Nat) (a0 : (List dChange)) : Nat → Int → Option (Except ((List Int) × Int) Unit)
 | 0, _ => none
 | n + 1, y11 =>
  if y11 < (a0.length : Int) then ((geti a0 y11).bind fun x13 =>
  (geti a0 (0 : Int)).bind fun x14 =>
  if ¬ ((x13.2.1.length : Int) = (x14.2.1.length : Int)) then (some (.error ([], (9 : Int)))) else ((ck (y11 + (1 : Int))).bind fun x15 =>
  ref_Through_l2 k a0 n x15)) else (some (.ok ()))

def ref_Through_l3 (k : Nat) (a1 : (List Int)) : Nat → Int → Option (Except ((List Int) × Int) Unit)
 | 0, _ => none
 | n + 1, y19 =>
  if y19 < (a1.length : Int) then ((geti a1 y19).bind fun x21 =>
  (ref_inside k x21 (0 : Int) (20 : Int)).bind fun r22 =>
  if ¬ (r22 = true) then (some (.error ([], (1 : Int)))) else ((ck (y19 + (1 : Int))).bind fun x23 =>
  ref_Through_l3 k a1 n x23)) else (some (.ok ()))

def ref_Through_l5 (k : Nat) (x30 : Int) : Nat → (dChange × Int) → Option dChange
 | 0, _ => none
 | n + 1, y41 =>
  if y41.2 < (y41.1.2.1.length : Int) then ((geti y41.1.2.1 y41.2).bind fun x43 =>
  (ck (x43.2.2 - x30)).bind fun x45 =>
  (ref_with k y41.1 y41.2 (x43.1, x43.2.1, imax (0 : Int) x45)).bind fun r46 =>
  (ck (y41.2 + (1 : Int))).bind fun x47 =>
  ref_Through_l5 k x30 n (r46, x47)) else (some y41.1)

def ref_Through_l4 (k : Nat) (a0 : (List dChange)) (a1 : (List Int)) : Nat → ((List Int) × Int × Int) → Option (Except ((List Int) × Int) (List Int))
 | 0, _ => none
 | n + 1, y26 =>
  if y26.2.2 < (a0.length : Int) then (bE (α := (List Int) × Int) (((if (0 : Int) < y26.2.2 then ((ck (y26.2.2 - (1 : Int))).bind fun x32 =>
  (geti y26.1 x32).bind fun x33 =>
  (ck (y26.2.2 - (1 : Int))).bind fun x34 =>
  (geti a1 x34).bind fun x35 =>
  (ck (x33 + x35)).bind fun x36 =>
  some x36) else (some y26.2.1)) : Option (Int)).bind fun x30 =>
  (geti a0 y26.2.2).bind fun x37 =>
  ((ref_Through_l5 k x30 k (x37, (0 : Int))) : Option (dChange)).bind fun x39 =>
  (ref_fewest k x39).bind fun r48 =>
  if ¬ (r48.2.2 = true) then (some (.error ([], (11 : Int)))) else ((ck (x30 + r48.2.1)).bind fun x49 =>
  (chkP (okLen (List.length y26.1 + List.length [x49]))).bind fun _ =>
  some (.ok (y26.1 ++ [x49], x30)))) (fun e => some (.error e)) fun x28 =>
  (ck (y26.2.2 + (1 : Int))).bind fun x52 =>
  ref_Through_l4 k a0 a1 n (x28.1, x28.2, x52)) else (some (.ok y26.1))
def ref_Through (k : Nat) (a0 : (List dChange)) (a1 : (List Int)) : Option ((List Int) × Int) :=
 (ref_sized k (a0.length : Int) (3 : Int)).bind fun r1 =>
 if ¬ (r1 = (0 : Int)) then (some ([], r1)) else (bE (α := Unit) (ref_Through_l1 k a0 k (0 : Int)) (some) fun _ =>
 bE (α := Unit) (ref_Through_l2 k a0 k (0 : Int)) (some) fun _ =>
 (ck ((a0.length : Int) - (1 : Int))).bind fun x16 =>
 if ¬ ((a1.length : Int) = x16) then (some ([], (9 : Int))) else (bE (α := Unit) (ref_Through_l3 k a1 k (0 : Int)) (some) fun _ =>
 bE (α := (List Int)) (ref_Through_l4 k a0 a1 k (([] : (List Int)), (0 : Int), (0 : Int))) (some) fun x24 =>
 some (x24, (0 : Int))))

theorem ref_Through_ok (k : Nat) (a0 : (List dChange)) (a1 : (List Int)) (r : (List Int) × Int) (h : ref_Through k a0 a1 = some r) :
 Ctr Tryz.prog 30 [Rs tChange a0, Ri a1] [] (fun _ : Unit => (resA [Ri r.1, I r.2], [])) := by
 unfold ref_Through at h;replace h := b_top h;refine Ctr.of 136 Tryz.func30 rfl Tryz.ntmps30 rfl fun S w0 => ?_;refine sr (cq ?_);refine cq (nt (JC.seq (sr ?_)));refine mq ?_;refine ol U29 ?_;obtain ⟨r1, er1, h⟩ := b_bind h;refine jb (o_call [.tmp 21, .const (.int .i64 (3))] rfl rfl en70 rfl (ref_sized_ok k (a0.length : Int) (3 : Int) r1 er1)) ?_;refine aq (nt (sr ?_));refine mq ?_;refine jb (o_neq rfl) ?_;refine nt (cn h (fun h => ?_) (fun h => ?_))
 ·refine sr (mq ?_);refine cq ?_;refine aq (nt (rx ?_));refine JN.se (SE.ent (t := (.slice (.int .i64))) (x := []) 4 rfl .nil rfl rfl) ?_;cases h;exact rb
 ·refine sk (JC.cutE (Z := Unit) (α := Unit) (fun z3 x2 => [(0, Rs tChange a0), (1, Ri a1)]) (fun z3 x2 => []) (fun e => e = r) h (fun e h => Option.some.inj h) (fun K hR h => ?_) (fun z3 x2 h => ?_))
  ·refine sr (cq (nt (JC.block ?_)));refine JC.loopB (Z := Unit) (α := Int) (fun z5 y4 => [(0, Rs tChange a0), (1, Ri a1), (7, I y4)]) (fun z5 y4 => []) (ref_Through_l1 k a0) k () (0 : Int) (fun _ => rfl) h (SE.fin [] ⟨rfl, rfl, rfl, trivial⟩ rfl) (fun n z5 y4 h => ?_);unfold ref_Through_l1 at h;refine JC.seq (sr ?_);iterate 2 refine mq ?_
   refine ol U29 ?_;refine jb (o_lss rfl) ?_;refine nt (ci h (fun h => ?_) (fun h => ?_))
   ·refine sk (JC.seq (JC.block (sr ?_)));iterate 2 refine mq ?_
    obtain ⟨x6, ex6, h⟩ := b_bind h;refine jb (o_index (t := tChange) rfl U29 sz26 ex6) ?_;refine ja (o_load_at (t := tChange) rfl sz26 rfl) ?_;obtain ⟨r7, er7, h⟩ := b_bind h;refine ja (o_call [.tmp 35] rfl rfl en53 rfl (ref_asked_ok k x6 r7 er7)) ?_;refine aq (nt (sr ?_));refine mq ?_;refine jb (o_neq rfl) ?_;refine nt (cn h (fun h => ?_) (fun h => ?_))
    ·refine sr (mq ?_);refine cq ?_;refine aq (nt (JC.ret (br (JN.blk_r (JN.then_r ?_)))));refine JN.se (SE.ent (t := (.slice (.int .i64))) (x := []) 4 rfl .nil rfl rfl) ?_;obtain rfl := hR _ h;exact rb
    ·refine JC.skip (JN.blk_n (tn (JC.region (mq ?_))));obtain ⟨x8, ex8, h⟩ := b_bind h;refine jb (o_add rfl ex8) ?_;refine aq (nl ?_);exact jz ((), x8) h []
   ·refine xa ?_;exact jz ((), ()) h []
  ·refine JC.cutE (Z := Unit) (α := Unit) (fun z10 x9 => [(0, Rs tChange a0), (1, Ri a1)]) (fun z10 x9 => []) (fun e => e = r) h (fun e h => Option.some.inj h) (fun K hR h => ?_) (fun z10 x9 h => ?_)
   ·refine sr (cq (nt (JC.block ?_)));refine JC.loopB (Z := Unit) (α := Int) (fun z12 y11 => [(0, Rs tChange a0), (1, Ri a1), (9, I y11)]) (fun z12 y11 => []) (ref_Through_l2 k a0) k () (0 : Int) (fun _ => rfl) h (SE.fin [] ⟨rfl, rfl, rfl, trivial⟩ rfl) (fun n z12 y11 h => ?_);unfold ref_Through_l2 at h;refine JC.seq (sr ?_);iterate 2 refine mq ?_
    refine ol U29 ?_;refine jb (o_lss rfl) ?_;refine nt (ci h (fun h => ?_) (fun h => ?_))
    ·refine sk (JC.seq (JC.block (JC.seq (JC.drawN ?_))));refine dm ?_;refine dm ?_;obtain ⟨x13, ex13, h⟩ := b_bind h;refine db (o_index (t := tChange) rfl U29 sz26 ex13) ?_;refine da (o_field_at 1 false rfl fo26_1 rfl) ?_;refine da (o_load_at (t := (.slice tDresser)) rfl sz23 rfl) ?_;refine da (o_len rfl rfl U23) ?_;refine dm ?_;obtain ⟨x14, ex14, h⟩ := b_bind h;refine db (o_index (t := tChange) rfl U29 sz26 ex14) ?_;refine da (o_field_at 1 false rfl fo26_1 rfl) ?_;refine da (o_load_at (t := (.slice tDresser)) rfl sz23 rfl) ?_;refine da (o_len rfl rfl U23) ?_;refine df mixed ?_;refine jb (o_neq rfl) ?_;refine nt (cn h (fun h => ?_) (fun h => ?_))
     ·refine sr (cq ?_);refine cq (nt (JC.ret (br (JN.blk_r (JN.then_r ?_)))));refine JN.se (SE.ent (t := (.slice (.int .i64))) (x := []) 4 rfl .nil rfl rfl) ?_;obtain rfl := hR _ h;exact rb
     ·refine JC.skip (JN.blk_n (tn (JC.region (mq ?_))));obtain ⟨x15, ex15, h⟩ := b_bind h;refine jb (o_add rfl ex15) ?_;refine aq (nl ?_);exact jz ((), x15) h []
    ·refine xa ?_;exact jz ((), ()) h []
   ·refine JC.seq (sr (mq ?_));refine ol U24 ?_;refine mq ?_;refine ol U29 ?_;obtain ⟨x16, ex16, h⟩ := b_bind h;refine jb (o_sub rfl ex16) ?_;refine jb (o_neq rfl) ?_;refine nt (cn h (fun h => ?_) (fun h => ?_))
    ·refine sr (cq ?_);refine cq (nt (rx ?_));refine JN.se (SE.ent (t := (.slice (.int .i64))) (x := []) 4 rfl .nil rfl rfl) ?_;cases h;exact rb
    ·refine sk (JC.cutE (Z := Unit) (α := Unit) (fun z18 x17 => [(0, Rs tChange a0), (1, Ri a1)]) (fun z18 x17 => []) (fun e => e = r) h (fun e h => Option.some.inj h) (fun K hR h => ?_) (fun z18 x17 h => ?_))
     ·refine sr (cq (nt (JC.block ?_)));refine JC.loopB (Z := Unit) (α := Int) (fun z20 y19 => [(0, Rs tChange a0), (1, Ri a1), (10, I y19)]) (fun z20 y19 => []) (ref_Through_l3 k a1) k () (0 : Int) (fun _ => rfl) h (SE.fin [] ⟨rfl, rfl, rfl, trivial⟩ rfl) (fun n z20 y19 h => ?_);unfold ref_Through_l3 at h;refine JC.seq (sr ?_);iterate 2 refine mq ?_
      refine ol U24 ?_;refine jb (o_lss rfl) ?_;refine nt (ci h (fun h => ?_) (fun h => ?_))
      ·refine sk (JC.seq (JC.block (sr ?_)));iterate 2 refine mq ?_
       obtain ⟨x21, ex21, h⟩ := b_bind h;refine jb (o_index (t := (.int .i64)) rfl U24 sz3 ex21) ?_;refine ja (o_load_at (t := (.int .i64)) rfl sz3 rfl) ?_;obtain ⟨r22, er22, h⟩ := b_bind h;refine jc (o_call [.tmp 73, .const (.int .i64 (0)), .const (.int .i64 (20))] rfl rfl en71 rfl (ref_inside_ok k x21 (0 : Int) (20 : Int) r22 er22)) ?_;refine ja (o_not rfl) ?_;refine nt (cw h (fun h => ?_) (fun h => ?_))
       ·refine sr (cq ?_);refine cq (nt (JC.ret (br (JN.blk_r (JN.then_r ?_)))));refine JN.se (SE.ent (t := (.slice (.int .i64))) (x := []) 4 rfl .nil rfl rfl) ?_;obtain rfl := hR _ h;exact rb
       ·refine JC.skip (JN.blk_n (tn (JC.region (mq ?_))));obtain ⟨x23, ex23, h⟩ := b_bind h;refine jb (o_add rfl ex23) ?_;refine aq (nl ?_);exact jz ((), x23) h []
      ·refine xa ?_;exact jz ((), ()) h []
     ·refine sr (cq (nt (sr ?_)));refine cq (nt ?_);refine JC.cutE (Z := Value) (α := (List Int)) (fun z25 x24 => [(11, .eq z25)]) (fun z25 x24 => [.sl z25 3 (.int .i64) x24]) (fun e => e = r) h (fun e h => Option.some.inj h) (fun K hR h => ?_) (fun z25 x24 h => ?_)
      ·refine sr (cq (nt (JC.block ?_)));refine JC.se (SE.nil 3 (.int .i64)) ?_;refine JC.loopB (Z := Value) (α := (List Int) × Int × Int) (fun z27 y26 => [(0, Rs tChange a0), (1, Ri a1), (11, .eq z27), (12, I y26.2.1), (13, I y26.2.2)]) (fun z27 y26 => [.sl z27 3 (.int .i64) y26.1]) (ref_Through_l4 k a0 a1) k (.slice none 0 0) (([] : (List Int)), (0 : Int), (0 : Int)) (fun _ => rfl) h (SE.fin [0] ⟨rfl, rfl, rfl, rfl, rfl, trivial⟩ rfl) (fun n z27 y26 h => ?_);unfold ref_Through_l4 at h;refine JC.seq (sr ?_);iterate 2 refine mq ?_
       refine ol U29 ?_;refine jb (o_lss rfl) ?_;refine nt (ci h (fun h => ?_) (fun h => ?_))
       ·refine sk (JC.cutE (Z := Value) (α := (List Int) × Int) (fun z29 x28 => [(0, Rs tChange a0), (1, Ri a1), (11, .eq z29), (12, I x28.2), (13, I y26.2.2)]) (fun z29 x28 => [.sl z29 3 (.int .i64) x28.1]) (fun e => e = r) h (fun e h => hR e h) (fun K hR h => ?_) (fun z29 x28 h => ?_))
        ·refine JC.block (JC.cutB (Z := Unit) (α := Int) (fun z31 x30 => [(0, Rs tChange a0), (1, Ri a1), (11, .eq z27), (12, I x30), (13, I y26.2.2)]) (fun z31 x30 => [.sl z27 3 (.int .i64) y26.1]) h (fun K h => ?_) (fun z31 x30 h => ?_))
         ·refine sr (mq ?_);refine jb (o_gtr rfl) ?_;refine nt (ci h (fun h => ?_) (fun h => ?_))
          ·refine JC.drawN ?_;refine dm ?_;refine dm ?_;obtain ⟨x32, ex32, h⟩ := b_bind h;refine db (o_sub rfl ex32) ?_;obtain ⟨x33, ex33, h⟩ := b_bind h;refine eb 0 (o_index_own (t := (.int .i64)) rfl U24 sz3 ex33) ?_;refine ea 0 (o_load_el (i := Int.toNat x32) (off := 0) rfl sz3 (fun _ => rfl) rfl (geti_some ex33).2.2 rfl) ?_;refine dm ?_;refine dm ?_;obtain ⟨x34, ex34, h⟩ := b_bind h;refine db (o_sub rfl ex34) ?_;obtain ⟨x35, ex35, h⟩ := b_bind h;refine db (o_index (t := (.int .i64)) rfl U24 sz3 ex35) ?_;refine da (o_load_at (t := (.int .i64)) rfl sz3 rfl) ?_;refine df mixed ?_;obtain ⟨x36, ex36, h⟩ := b_bind h;refine jb (o_add rfl ex36) ?_;refine aq (nl ?_);exact jz ((), x36) h [0]
          ·refine JC.skip (JN.then_n ?_);exact jz ((), y26.2.1) h [0]
         ·refine sr ?_;iterate 2 refine mq ?_
          obtain ⟨x37, ex37, h⟩ := b_bind h;refine jb (o_index (t := tChange) rfl U29 sz26 ex37) ?_;refine ja (o_load_at (t := tChange) rfl sz26 rfl) ?_;refine JO.s01 rfl rfl rfl (o_alloc rfl za26 al26) trivial fun b38 => ?_;refine JO.n11 rfl rfl (o_store rfl sz26 rfl rfl rfl) ⟨rfl, rfl, trivial⟩ ?_;refine nt (JC.cutB (Z := Unit) (α := dChange) (fun z40 x39 => [(0, Rs tChange a0), (1, Ri a1), (11, .eq z27), (12, I x30), (13, I y26.2.2), (14, Pt b38)]) (fun z40 x39 => [.sl z27 3 (.int .i64) y26.1, .obj b38 26 (.rep tChange x39)]) h (fun K h => ?_) (fun z40 x39 h => ?_))
          ·refine sr (cq (nt (JC.block ?_)));refine JC.loopB (Z := Unit) (α := dChange × Int) (fun z42 y41 => [(0, Rs tChange a0), (1, Ri a1), (11, .eq z27), (12, I x30), (13, I y26.2.2), (14, Pt b38), (15, I y41.2)]) (fun z42 y41 => [.sl z27 3 (.int .i64) y26.1, .obj b38 26 (.rep tChange y41.1)]) (ref_Through_l5 k x30) k () (x37, (0 : Int)) (fun _ => rfl) h (SE.fin [1, 0] ⟨rfl, rfl, rfl, rfl, rfl, rfl, rfl, trivial⟩ rfl) (fun n z42 y41 h => ?_);unfold ref_Through_l5 at h;refine JC.seq (sr (mq ?_));refine fl fo26_1 ?_;refine fr 1 ?_;refine lo sz23 ?_;refine ol U23 ?_;refine jb (o_lss rfl) ?_;refine nt (ci h (fun h => ?_) (fun h => ?_))
           ·refine sk (JC.seq (JC.block (sr (fl fo26_1 ?_))));refine lo sz23 ?_;refine mq ?_;obtain ⟨x43, ex43, h⟩ := b_bind h;refine jb (o_index (t := tDresser) rfl U23 sz52 ex43) ?_;refine ja (o_load_at (t := tDresser) rfl sz52 rfl) ?_;refine JO.s01 rfl rfl rfl (o_alloc rfl za52 al52) trivial fun b44 => ?_;refine JO.n11 rfl rfl (o_store rfl sz52 rfl rfl rfl) ⟨rfl, rfl, trivial⟩ ?_;refine nt (sr (fl fo52_2 ?_));refine lo sz3 ?_;refine mq ?_;obtain ⟨x45, ex45, h⟩ := b_bind h;refine jb (o_sub rfl ex45) ?_;refine jb (o_max rfl rfl) ?_;refine fl fo52_2 ?_;refine JO.n11 rfl rfl (o_store rfl sz3 rfl rfl rfl) ⟨rfl, rfl, trivial⟩ ?_;refine nt (JC.region (fr 1 ?_));refine lo sz26 ?_;refine mq ?_;refine fr 1 ?_;refine lo sz52 ?_;obtain ⟨r46, er46, h⟩ := b_bind h;refine jc (OpT.need (N := [(.tmp 117, .rep tChange y41.1), (.tmp 118, I y41.2), (.tmp 119, .agg (.pair (Ri x43.1) (.pair (.rep (.int .i64) x43.2.1) (I (imax (0 : Int) x45)))))]) (o_call [.tmp 117, .tmp 118, .tmp 119] rfl rfl en72 rfl (ref_with_ok k y41.1 y41.2 (x43.1, x43.2.1, imax (0 : Int) x45) r46 er46)) fun _ _ _ hn => ⟨hn.1, hn.2.1, (ent_holds (t := tDresser) (x := (x43.1, x43.2.1, imax (0 : Int) x45)) (.agg (.pair .rep (.pair .rep .int))) trivial rfl hn.2.2.1), trivial⟩) ?_;refine fr 1 ?_;refine JO.n11 rfl rfl (o_store rfl sz26 rfl rfl rfl) ⟨rfl, rfl, trivial⟩ ?_;refine JO.nil (JN.blk_n (tn (JC.region (mq ?_))));obtain ⟨x47, ex47, h⟩ := b_bind h;refine jb (o_add rfl ex47) ?_;refine aq (nl ?_);exact jz ((), (r46, x47)) h [2, 0]
           ·refine xa ?_;exact jz ((), y41.1) h [1, 0]
          ·refine sr (fr 1 ?_);refine lo sz26 ?_;obtain ⟨r48, er48, h⟩ := b_bind h;refine ja (o_call [.tmp 122] rfl rfl en54 rfl (ref_fewest_ok k x39 r48 er48)) ?_;refine mq ?_;refine xr ?_;refine xr ?_;refine xr ?_;refine aq ?_;refine aq ?_;refine aq (nt (JC.seq (sr ?_)));refine mq ?_;refine ja (o_not rfl) ?_;refine nt (cw h (fun h => ?_) (fun h => ?_))
           ·refine sr (cq ?_);refine cq (nt (rx (br (JN.blk_r (JN.then_r ?_)))));refine JN.se (SE.ent (t := (.slice (.int .i64))) (x := []) 4 rfl .nil rfl rfl) ?_;obtain rfl := hR _ h;exact rb
           ·refine sk (JC.region ?_);iterate 3 refine mq ?_
            obtain ⟨x49, ex49, h⟩ := b_bind h;refine jb (o_add rfl ex49) ?_;refine ja (o_litB (t := (.int .i64)) [(.tmp 132, _)] [x49] rfl rfl sl24 (.cons rfl .int .nil) rfl rfl) ?_;obtain ⟨u50, eu50, h⟩ := b_bind h;refine fr 1 ?_;refine JO.s1x rfl rfl rfl (o_append rfl rfl sl24 (chkP_some eu50)) ⟨rfl, rfl, trivial⟩ fun v51 => ?_;refine aq (JO.nil (bn ?_));exact jz (v51, (y26.1 ++ [x49], x30)) h [0]
        ·refine JC.region (mq ?_);obtain ⟨x52, ex52, h⟩ := b_bind h;refine jb (o_add rfl ex52) ?_;refine aq (nl ?_);exact jz (z29, (x28.1, x28.2, x52)) h [0]
       ·refine xa ?_;exact jz (z27, y26.1) h [0]
      ·refine sr (mq ?_);refine aq ?_;refine cq (nt (JC.ret ?_));refine JN.se (SE.frz [4, 11, 135] ⟨rfl, rfl, rfl, trivial⟩) ?_;cases h;exact rb


def law_ChangeThroughs_l1 (k : Nat) (a0 : (List dChange)) : Nat → Int → Option (Except Bool Unit)
 | 0, _ => none
 | n + 1, y6 =>
  if y6 < (a0.length : Int) then ((geti a0 y6).bind fun x8 =>
  (law_long k x8).bind fun r9 =>
  if r9 = true then ((law_dressed k).bind fun r10 =>
  some (.error r10)) else ((ck (y6 + (1 : Int))).bind fun x11 =>
  law_ChangeThroughs_l1 k a0 n x11)) else (some (.ok ()))

def law_ChangeThroughs_l3 (k : Nat) (y17 : (List Int) × Int × Int × (List dChange) × (List Int) × Int) (r21 : dChange × dLots) : Nat → (List dDresser) → Option (List dDresser)
 | 0, _ => none
 | n + 1, y31 =>
  (geti y17.2.2.2.1 (0 : Int)).bind fun x33 =>
  if (y31.length : Int) < (x33.2.1.length : Int) then ((kit_CopyChangeV k (r21.1.1, y31, r21.1.2.2.1, r21.1.2.2.2)).bind fun r34 =>
  (geti r34.2.1 (0 : Int)).bind fun x35 =>
  (chkP (okLen (List.length y31 + List.length [x35]))).bind fun _ =>
  law_ChangeThroughs_l3 k y17 r21 n (y31 ++ [x35])) else (some y31)

def law_ChangeThroughs_l2 (k : Nat) : Nat → ((List Int) × Int × Int × (List dChange) × (List Int) × Int) → Option ((List dChange) × (List Int))
 | 0, _ => none
 | n + 1, y17 =>
  if (0 : Int) ≤ y17.2.2.2.2.2 then ((((kit_ChangeOfV k (y17.1, y17.2.1, y17.2.2.1)).bind fun r21 =>
  ((((if (0 : Int) < (y17.2.2.2.1.length : Int) then ((kit_Lots_Rare k (r21.2.1, r21.2.2.1, r21.2.2.2) (6 : Int)).bind fun r28 =>
  some (r28.2.1, r28.2.2.1, r28.2.2.2, !r28.1)) else (some (r21.2.1, r21.2.2.1, r21.2.2.2, false))) : Option ((List Int) × Int × Int × Bool)).bind fun x26 =>
  if x26.2.2.2 = true then (((law_ChangeThroughs_l3 k y17 r21 k r21.1.2.1) : Option ((List dDresser))).bind fun x29 =>
  (geti y17.2.2.2.1 (0 : Int)).bind fun x39 =>
  (chkP (0 ≤ (x39.2.1.length : Int) ∧ (x39.2.1.length : Int) ≤ (x29.length : Int))).bind fun _ =>
  some (x26.1, x26.2.1, x26.2.2.1, List.take (Int.toNat (x39.2.1.length : Int)) x29)) else (some (x26.1, x26.2.1, x26.2.2.1, r21.1.2.1))) : Option ((List Int) × Int × Int × (List dDresser))).bind fun x24 =>
  ((if (0 : Int) < (y17.2.2.2.1.length : Int) then ((kit_Lots_In k (x24.1, x24.2.1, x24.2.2.1) (-1 : Int) (21 : Int)).bind fun r45 =>
  (kit_Lots_Of k (r45.2.1, r45.2.2.1, r45.2.2.2) [(0 : Int), (1 : Int), (5 : Int), r45.1]).bind fun r46 =>
  (chkP (okLen (List.length y17.2.2.2.2.1 + List.length [r46.1]))).bind fun _ =>
  some (r46.2.1, r46.2.2.1, r46.2.2.2, y17.2.2.2.2.1 ++ [r46.1])) else (some (x24.1, x24.2.1, x24.2.2.1, y17.2.2.2.2.1))) : Option ((List Int) × Int × Int × (List Int))).bind fun x43 =>
  (chkP (okLen (List.length y17.2.2.2.1 + List.length [(r21.1.1, x24.2.2.2, r21.1.2.2.1, r21.1.2.2.2)]))).bind fun _ =>
  some (x43.1, x43.2.1, x43.2.2.1, y17.2.2.2.1 ++ [(r21.1.1, x24.2.2.2, r21.1.2.2.1, r21.1.2.2.2)], x43.2.2.2)) : Option ((List Int) × Int × Int × (List dChange) × (List Int))).bind fun x19 =>
  (ck (y17.2.2.2.2.2 - (1 : Int))).bind fun x51 =>
  law_ChangeThroughs_l2 k n (x19.1, x19.2.1, x19.2.2.1, x19.2.2.2.1, x19.2.2.2.2, x51)) else (some (y17.2.2.2.1, y17.2.2.2.2.1))

def law_ChangeThroughs_l5 (k : Nat) (a0 : (List dChange)) (x14 : (List dChange) × (List Int)) (x55 : (List dChange)) (y66 : Int) : Nat → ((List dChange) × Int) → Option (List dChange)
 | 0, _ => none
 | n + 1, y72 =>
  (geti [a0, x14.1, x14.1, x55] y66).bind fun x74 =>
  if y72.2 < (x74.length : Int) then ((geti [a0, x14.1, x14.1, x55] y66).bind fun x75 =>
  (geti x75 y72.2).bind fun x76 =>
  (kit_CopyChangeF k x76).bind fun r77 =>
  (chkP (okLen (List.length y72.1 + List.length [r77]))).bind fun _ =>
  (ck (y72.2 + (1 : Int))).bind fun x80 =>
  law_ChangeThroughs_l5 k a0 x14 x55 y66 n (y72.1 ++ [r77], x80)) else (some y72.1)

def law_ChangeThroughs_l6 (k : Nat) (a0 : (List dChange)) (x14 : (List dChange) × (List Int)) (x55 : (List dChange)) (y66 : Int) (x70 : (List dChange)) : Nat → Int → Option (Except Bool Unit)
 | 0, _ => none
 | n + 1, y93 =>
  if y93 < (x70.length : Int) then ((geti x70 y93).bind fun x95 =>
  (geti [a0, x14.1, x14.1, x55] y66).bind fun x96 =>
  (geti x96 y93).bind fun x97 =>
  (kit_SameChanges k x95 x97).bind fun r98 =>
  if ¬ (r98 = true) then (some (.error false)) else ((ck (y93 + (1 : Int))).bind fun x99 =>
  law_ChangeThroughs_l6 k a0 x14 x55 y66 x70 n x99)) else (some (.ok ()))

def law_ChangeThroughs_l4 (k : Nat) (a0 : (List dChange)) (a1 : (List Int)) (x14 : (List dChange) × (List Int)) (x55 : (List dChange)) (r60 : (List Int)) : Nat → Int → Option (Except Bool Unit)
 | 0, _ => none
 | n + 1, y66 =>
  if y66 < ([a0, x14.1, x14.1, x55].length : Int) then (bE (α := Unit) (((law_ChangeThroughs_l5 k a0 x14 x55 y66 k (([] : (List dChange)), (0 : Int))) : Option ((List dChange))).bind fun x70 =>
  (geti [a1, x14.2, a1, r60 ++ [(3 : Int)]] y66).bind fun x81 =>
  (kit_CopyInts k x81).bind fun r82 =>
  (chg_Through k x70 r82).bind fun r84 =>
  (geti [a0, x14.1, x14.1, x55] y66).bind fun x85 =>
  (geti [a1, x14.2, a1, r60 ++ [(3 : Int)]] y66).bind fun x86 =>
  (ref_Through k x85 x86).bind fun r87 =>
  ((if ¬ (r84.2 = r87.2) then (some true) else ((kit_SameInts k r84.1 r87.1).bind fun r90 =>
  if ¬ (r90 = true) then (some true) else ((geti [a1, x14.2, a1, r60 ++ [(3 : Int)]] y66).bind fun x91 =>
  (kit_SameInts k r82 x91).bind fun r92 =>
  some (!r92)))) : Option (Bool)).bind fun x88 =>
  if x88 = true then (some (.error false)) else (law_ChangeThroughs_l6 k a0 x14 x55 y66 x70 k (0 : Int))) (fun e => some (.error e)) fun _ =>
  (ck (y66 + (1 : Int))).bind fun x100 =>
  law_ChangeThroughs_l4 k a0 a1 x14 x55 r60 n x100) else (some (.ok ()))
def law_ChangeThroughs (k : Nat) (a0 : (List dChange)) (a1 : (List Int)) (a2 : (List Int)) : Option Bool :=
 ((if (20 : Int) < (a0.length : Int) then (some true) else (some (decide ((20 : Int) < (a1.length : Int))))) : Option (Bool)).bind fun x1 =>
 if x1 = true then ((law_dressed k).bind fun r3 =>
 some r3) else (bE (α := Unit) (law_ChangeThroughs_l1 k a0 k (0 : Int)) (some) fun _ =>
 (kit_NewLots k a2).bind fun r12 =>
 (((kit_Lots_Upto k (r12.1, r12.2.1, r12.2.2) (3 : Int)).bind fun r16 =>
 law_ChangeThroughs_l2 k k (r16.2.1, r16.2.2.1, r16.2.2.2, ([] : (List dChange)), ([] : (List Int)), r16.1)) : Option ((List dChange) × (List Int))).bind fun x14 =>
 (chkP (okLen (List.length ([] : (List dChange)) + List.length x14.1))).bind fun _ =>
 ((if (0 : Int) < (a0.length : Int) then ((geti a0 (0 : Int)).bind fun x57 =>
 (chkP (okLen (List.length (([] : (List dChange)) ++ x14.1) + List.length [x57]))).bind fun _ =>
 some ((([] : (List dChange)) ++ x14.1) ++ [x57])) else (some (([] : (List dChange)) ++ x14.1))) : Option ((List dChange))).bind fun x55 =>
 (kit_CopyInts k x14.2).bind fun r60 =>
 (chkP (okLen (List.length r60 + List.length [(3 : Int)]))).bind fun _ =>
 bE (α := Unit) (law_ChangeThroughs_l4 k a0 a1 x14 x55 r60 k (0 : Int)) (some) fun _ =>
 (law_dressed k).bind fun r101 =>
 some r101)

theorem law_ChangeThroughs_ok (k : Nat) (a0 : (List dChange)) (a1 : (List Int)) (a2 : (List Int)) (r : Bool) (h : law_ChangeThroughs k a0 a1 a2 = some r) :
 Ctr Tryz.prog 5 [Rs tChange a0, Ri a1, Ri a2] [] (fun _ : Unit => (resA [.eq (.bool r)], [])) := by
 unfold law_ChangeThroughs at h;replace h := b_top h;refine Ctr.of 219 Tryz.func5 rfl Tryz.ntmps5 rfl fun S w0 => ?_;refine sr (cq (nt (JC.seq ?_)));refine JC.cutB (Z := Unit) (α := Bool) (fun z2 x1 => [(0, Rs tChange a0), (1, Ri a1), (2, Ri a2), (32, .eq (.bool x1))]) (fun z2 x1 => []) h (fun K h => ?_) (fun z2 x1 h => ?_)
 ·refine JC.region (mq ?_);refine ol U29 ?_;refine jb (o_gtr rfl) ?_;refine mq ?_;refine JO.bool (s := 28) rfl (fun hb => ?_) (fun hb => ?_)
  ·replace h := b_if (d_t hb) h;iterate 3 refine gn ?_
   refine pt (nl ?_);exact jz ((), true) h []
  ·replace h := b_ifn (d_f hb) h;refine gm ?_;refine ga (o_len rfl rfl U24) ?_;refine gb (o_gtr rfl) ?_;refine pf (nl ?_);exact jz ((), decide ((20 : Int) < (a1.length : Int))) h []
 ·refine cv h (fun h => ?_) (fun h => ?_)
  ·refine sr ?_;obtain ⟨r3, er3, h⟩ := b_bind h;refine JO.s rfl (o_call [] rfl rfl en10 rfl (law_dressed_ok k  r3 er3)) trivial ?_;refine aq (nt (rx ?_));cases h;exact ra
  ·refine sk (JC.cutE (Z := Unit) (α := Unit) (fun z5 x4 => [(0, Rs tChange a0), (1, Ri a1), (2, Ri a2)]) (fun z5 x4 => []) (fun e => e = r) h (fun e h => Option.some.inj h) (fun K hR h => ?_) (fun z5 x4 h => ?_))
   ·refine sr (cq (nt (JC.block ?_)));refine JC.loopB (Z := Unit) (α := Int) (fun z7 y6 => [(0, Rs tChange a0), (1, Ri a1), (2, Ri a2), (7, I y6)]) (fun z7 y6 => []) (law_ChangeThroughs_l1 k a0) k () (0 : Int) (fun _ => rfl) h (SE.fin [] ⟨rfl, rfl, rfl, rfl, trivial⟩ rfl) (fun n z7 y6 h => ?_);unfold law_ChangeThroughs_l1 at h;refine JC.seq (sr ?_);iterate 2 refine mq ?_
    refine ol U29 ?_;refine jb (o_lss rfl) ?_;refine nt (ci h (fun h => ?_) (fun h => ?_))
    ·refine sk (JC.seq (JC.block (sr ?_)));iterate 2 refine mq ?_
     obtain ⟨x8, ex8, h⟩ := b_bind h;refine jb (o_index (t := tChange) rfl U29 sz26 ex8) ?_;refine ja (o_load_at (t := tChange) rfl sz26 rfl) ?_;obtain ⟨r9, er9, h⟩ := b_bind h;refine ja (o_call [.tmp 43] rfl rfl en9 rfl (law_long_ok k x8 r9 er9)) ?_;refine nt (cv h (fun h => ?_) (fun h => ?_))
     ·refine sr ?_;obtain ⟨r10, er10, h⟩ := b_bind h;refine JO.s rfl (o_call [] rfl rfl en10 rfl (law_dressed_ok k  r10 er10)) trivial ?_;refine aq (nt (JC.ret (br (JN.blk_r (JN.then_r ?_)))));obtain rfl := hR _ h;exact ra
     ·refine JC.skip (JN.blk_n (tn (JC.region (mq ?_))));obtain ⟨x11, ex11, h⟩ := b_bind h;refine jb (o_add rfl ex11) ?_;refine aq (nl ?_);exact jz ((), x11) h []
    ·refine xa ?_;exact jz ((), ()) h []
   ·refine sr (mq ?_);obtain ⟨r12, er12, h⟩ := b_bind h;refine JO.s01 rfl rfl rfl (o_call [.tmp 46] rfl rfl en12 rfl (kit_NewLots_ok k a2 r12 er12)) ⟨rfl, trivial⟩ fun b13 => ?_;refine aq (nt (sr ?_));refine cq (nt (sr ?_));refine cq (nt ?_);refine JC.cutB (Z := Value × Value) (α := (List dChange) × (List Int)) (fun z15 x14 => [(0, Rs tChange a0), (1, Ri a1), (9, .eq z15.1), (10, .eq z15.2)]) (fun z15 x14 => [.sl z15.1 26 tChange x14.1, .sl z15.2 3 (.int .i64) x14.2]) h (fun K h => ?_) (fun z15 x14 h => ?_)
    ·refine sr (mq ?_);obtain ⟨r16, er16, h⟩ := b_bind h;refine kb (o_call [.tmp 48, .const (.int .i64 (3))] rfl rfl en23 rfl (kit_Lots_Upto_ok k (r12.1, r12.2.1, r12.2.2) b13 (3 : Int) r16 er16)) ?_;refine aq (nt (JC.block ?_));refine JC.se (SE.nil 26 tChange) ?_;refine JC.se (SE.nil 3 (.int .i64)) ?_;refine JC.loopB (Z := Value × Value) (α := (List Int) × Int × Int × (List dChange) × (List Int) × Int) (fun z18 y17 => [(0, Rs tChange a0), (1, Ri a1), (8, Pt b13), (9, .eq z18.1), (10, .eq z18.2), (11, I y17.2.2.2.2.2)]) (fun z18 y17 => [.obj b13 79 (.agg (.pair (Ri y17.1) (.pair (I y17.2.1) (.eq (.int .u64 y17.2.2.1))))), .sl z18.1 26 tChange y17.2.2.2.1, .sl z18.2 3 (.int .i64) y17.2.2.2.2.1]) (law_ChangeThroughs_l2 k) k ((.slice none 0 0), (.slice none 0 0)) (r16.2.1, r16.2.2.1, r16.2.2.2, ([] : (List dChange)), ([] : (List Int)), r16.1) (fun _ => rfl) h (SE.fin [2, 1, 0] ⟨rfl, rfl, rfl, rfl, rfl, rfl, trivial⟩ rfl) (fun n z18 y17 h => ?_);unfold law_ChangeThroughs_l2 at h;refine JC.seq (sr (mq ?_));refine jb (o_geq rfl) ?_;refine nt (ci h (fun h => ?_) (fun h => ?_))
     ·refine sk (JC.cutB (Z := Value × Value) (α := (List Int) × Int × Int × (List dChange) × (List Int)) (fun z20 x19 => [(0, Rs tChange a0), (1, Ri a1), (8, Pt b13), (9, .eq z20.1), (10, .eq z20.2), (11, I y17.2.2.2.2.2)]) (fun z20 x19 => [.obj b13 79 (.agg (.pair (Ri x19.1) (.pair (I x19.2.1) (.eq (.int .u64 x19.2.2.1))))), .sl z20.1 26 tChange x19.2.2.2.1, .sl z20.2 3 (.int .i64) x19.2.2.2.2]) h (fun K h => ?_) (fun z20 x19 h => ?_))
      ·refine JC.block (sr (mq ?_));obtain ⟨r21, er21, h⟩ := b_bind h;refine JO.stepG (Δ := [_]) (F := _) (fun _ _ _ => wanted_none rfl _) rfl rfl (o_call [.tmp 54] rfl rfl en24 rfl (kit_ChangeOfV_ok k (y17.1, y17.2.1, y17.2.2.1) b13 r21 er21)) ⟨rfl, trivial⟩ fun z22 => ?_;refine JO.s01 rfl rfl rfl (o_alloc rfl za26 al26) trivial fun b23 => ?_;refine JO.n11 rfl rfl (o_store rfl sz26 trivial rfl rfl) ⟨rfl, rfl, trivial⟩ ?_;refine nt (JC.cutB (Z := Value) (α := (List Int) × Int × Int × (List dDresser)) (fun z25 x24 => [(0, Rs tChange a0), (1, Ri a1), (8, Pt b13), (9, .eq z18.1), (10, .eq z18.2), (11, I y17.2.2.2.2.2), (12, Pt b23)]) (fun z25 x24 => [.obj b13 79 (.agg (.pair (Ri x24.1) (.pair (I x24.2.1) (.eq (.int .u64 x24.2.2.1))))), .sl z18.1 26 tChange y17.2.2.2.1, .sl z18.2 3 (.int .i64) y17.2.2.2.2.1, .obj b23 26 (.agg (.pair (Rs tThing r21.1.1) (.pair (.eq z25) (.pair (Ri r21.1.2.2.1) (Ri r21.1.2.2.2))))), .sl z25 52 tDresser x24.2.2.2]) h (fun K h => ?_) (fun z25 x24 h => ?_))
       ·refine JC.cutB (Z := Unit) (α := (List Int) × Int × Int × Bool) (fun z27 x26 => [(0, Rs tChange a0), (1, Ri a1), (8, Pt b13), (9, .eq z18.1), (10, .eq z18.2), (11, I y17.2.2.2.2.2), (12, Pt b23), (63, .eq (.bool x26.2.2.2))]) (fun z27 x26 => [.obj b13 79 (.agg (.pair (Ri x26.1) (.pair (I x26.2.1) (.eq (.int .u64 x26.2.2.1))))), .sl z18.1 26 tChange y17.2.2.2.1, .sl z18.2 3 (.int .i64) y17.2.2.2.2.1, .obj b23 26 (.agg (.pair (Rs tThing r21.1.1) (.pair (.eq z22) (.pair (Ri r21.1.2.2.1) (Ri r21.1.2.2.2))))), .sl z22 52 tDresser r21.1.2.1]) h (fun K h => ?_) (fun z27 x26 h => ?_)
        ·refine JC.region (mq ?_);refine fr 3 ?_;refine ka (o_len_own rfl rfl U29) ?_;refine jb (o_gtr rfl) ?_;refine mq ?_;refine JO.bool (s := 59) rfl (fun hb => ?_) (fun hb => ?_)
         ·replace h := b_if (d_t hb) h;refine gm ?_;obtain ⟨r28, er28, h⟩ := b_bind h;refine fr 3 ?_;refine JO.g11 rfl rfl rfl rfl rfl rfl (o_call [.tmp 60, .const (.int .i64 (6))] rfl rfl en25 rfl (kit_Lots_Rare_ok k (r21.2.1, r21.2.2.1, r21.2.2.2) b13 (6 : Int) r28 er28)) ⟨rfl, rfl, trivial⟩ ?_;refine ga (o_not rfl) ?_;refine pt (nl ?_);exact jz ((), (r28.2.1, r28.2.2.1, r28.2.2.2, !r28.1)) h [0, 1, 4, 2, 3]
         ·replace h := b_ifn (d_f hb) h;iterate 3 refine gn ?_
          refine pf (nl ?_);exact jz ((), (r21.2.1, r21.2.2.1, r21.2.2.2, false)) h [3, 0, 4, 1, 2]
        ·refine cv h (fun h => ?_) (fun h => ?_)
         ·refine JC.cutB (Z := Value) (α := (List dDresser)) (fun z30 x29 => [(0, Rs tChange a0), (1, Ri a1), (8, Pt b13), (9, .eq z18.1), (10, .eq z18.2), (11, I y17.2.2.2.2.2), (12, Pt b23)]) (fun z30 x29 => [.obj b13 79 (.agg (.pair (Ri x26.1) (.pair (I x26.2.1) (.eq (.int .u64 x26.2.2.1))))), .sl z18.1 26 tChange y17.2.2.2.1, .sl z18.2 3 (.int .i64) y17.2.2.2.2.1, .obj b23 26 (.agg (.pair (Rs tThing r21.1.1) (.pair (.eq z30) (.pair (Ri r21.1.2.2.1) (Ri r21.1.2.2.2))))), .sl z30 52 tDresser x29]) h (fun K h => ?_) (fun z30 x29 h => ?_)
          ·refine JC.block (JC.loopB (Z := Value) (α := (List dDresser)) (fun z32 y31 => [(0, Rs tChange a0), (1, Ri a1), (8, Pt b13), (9, .eq z18.1), (10, .eq z18.2), (11, I y17.2.2.2.2.2), (12, Pt b23)]) (fun z32 y31 => [.obj b13 79 (.agg (.pair (Ri x26.1) (.pair (I x26.2.1) (.eq (.int .u64 x26.2.2.1))))), .sl z18.1 26 tChange y17.2.2.2.1, .sl z18.2 3 (.int .i64) y17.2.2.2.2.1, .obj b23 26 (.agg (.pair (Rs tThing r21.1.1) (.pair (.eq z32) (.pair (Ri r21.1.2.2.1) (Ri r21.1.2.2.2))))), .sl z32 52 tDresser y31]) (law_ChangeThroughs_l3 k y17 r21) k z22 r21.1.2.1 (fun _ => rfl) h (SE.fin [0, 1, 2, 3, 4] ⟨rfl, rfl, rfl, rfl, rfl, rfl, rfl, trivial⟩ rfl) (fun n z32 y31 h => ?_));unfold law_ChangeThroughs_l3 at h;refine JC.seq (JC.seq (JC.drawN ?_));refine da (o_field_obj rfl fo26_1) ?_;refine ea 3 (o_load_obj rfl sz23 nfs rfl) ?_;refine ea 4 (o_len_own rfl rfl U23) ?_;refine dm ?_;obtain ⟨x33, ex33, h⟩ := b_bind h;refine eb 1 (o_index_own (t := tChange) rfl U29 sz26 ex33) ?_;refine ea 1 (o_field_el rfl fo26_1 (geti_ne ex33)) ?_;refine ea 1 (o_load_el (i := Int.toNat (0 : Int)) (off := 1) rfl sz23 (fun _ => rfl) rfl (geti_some ex33).2.2 rfl) ?_;refine da (o_len rfl rfl U23) ?_;refine df mixed ?_;refine jb (o_lss rfl) ?_;refine nt (ci h (fun h => ?_) (fun h => ?_))
           ·refine sk (JC.block (JC.drawN ?_));refine da (o_field_obj rfl fo26_1) ?_;refine ea 3 (o_load_obj rfl sz23 nfs rfl) ?_;refine ea 3 (o_load_obj rfl sz26 (nfn) rfl) ?_;obtain ⟨r34, er34, h⟩ := b_bind h;refine ea 4 (o_call [.tmp 75] rfl rfl en13 rfl (kit_CopyChangeV_ok k (r21.1.1, y31, r21.1.2.2.1, r21.1.2.2.2) z32 r34 er34)) ?_;refine da (o_field rfl U26 rfl sz23 (fun _ => rfl) rfl rfl rfl) ?_;obtain ⟨x35, ex35, h⟩ := b_bind h;refine db (o_index (t := tDresser) rfl U23 sz52 ex35) ?_;refine da (o_load_at (t := tDresser) rfl sz52 rfl) ?_;refine da (o_litB (t := tDresser) [(.tmp 79, _)] [x35] rfl rfl sl23 (.cons rfl .rep .nil) rfl rfl) ?_;refine df mixed ?_;obtain ⟨u36, eu36, h⟩ := b_bind h;refine fr 4 ?_;refine JO.s1x rfl rfl rfl (o_append rfl rfl sl23 (chkP_some eu36)) ⟨rfl, rfl, trivial⟩ fun v37 => ?_;refine fl fo26_1 ?_;refine JO.one fun o38 => ?_;refine fr 4 ?_;refine JO.n11 rfl rfl (o_store rfl sz23 o38 rfl rfl) ⟨rfl, rfl, trivial⟩ ?_;refine JO.nil (bn ?_);exact jz (v37, y31 ++ [x35]) h [2, 3, 4, 0, 1]
           ·refine xa ?_;exact jz (z32, y31) h [0, 1, 2, 3, 4]
          ·refine JC.drawN ?_;refine da (o_field_obj rfl fo26_1) ?_;refine ea 3 (o_load_obj rfl sz23 nfs rfl) ?_;refine dm ?_;obtain ⟨x39, ex39, h⟩ := b_bind h;refine eb 1 (o_index_own (t := tChange) rfl U29 sz26 ex39) ?_;refine ea 1 (o_field_el rfl fo26_1 (geti_ne ex39)) ?_;refine ea 1 (o_load_el (i := Int.toNat (0 : Int)) (off := 1) rfl sz23 (fun _ => rfl) rfl (geti_some ex39).2.2 rfl) ?_;refine da (o_len rfl rfl U23) ?_;refine df mixed ?_;obtain ⟨u40, eu40, h⟩ := b_bind h;refine fr 4 ?_;refine JO.s1x rfl rfl rfl (o_slice_own (t := tDresser) rfl U23 sz52 (chkP_some eu40).1 (chkP_some eu40).2) ⟨rfl, rfl, trivial⟩ fun v41 => ?_;refine fl fo26_1 ?_;refine JO.one fun o42 => ?_;refine fr 4 ?_;refine JO.n11 rfl rfl (o_store rfl sz23 o42 rfl rfl) ⟨rfl, rfl, trivial⟩ ?_;refine nl ?_;exact jz (v41, (x26.1, x26.2.1, x26.2.2.1, List.take (Int.toNat (x39.2.1.length : Int)) x29)) h [2, 3, 4, 0, 1]
         ·refine JC.skip (JN.then_n ?_);exact jz (z22, (x26.1, x26.2.1, x26.2.2.1, r21.1.2.1)) h [0, 1, 2, 3, 4]
       ·refine JC.cutB (Z := Value) (α := (List Int) × Int × Int × (List Int)) (fun z44 x43 => [(0, Rs tChange a0), (1, Ri a1), (8, Pt b13), (9, .eq z18.1), (10, .eq z44), (11, I y17.2.2.2.2.2), (12, Pt b23)]) (fun z44 x43 => [.obj b13 79 (.agg (.pair (Ri x43.1) (.pair (I x43.2.1) (.eq (.int .u64 x43.2.2.1))))), .sl z18.1 26 tChange y17.2.2.2.1, .sl z44 3 (.int .i64) x43.2.2.2, .obj b23 26 (.agg (.pair (Rs tThing r21.1.1) (.pair (.eq z25) (.pair (Ri r21.1.2.2.1) (Ri r21.1.2.2.2))))), .sl z25 52 tDresser x24.2.2.2]) h (fun K h => ?_) (fun z44 x43 h => ?_)
        ·refine sr (mq ?_);refine fr 1 ?_;refine ka (o_len_own rfl rfl U29) ?_;refine jb (o_gtr rfl) ?_;refine nt (ci h (fun h => ?_) (fun h => ?_))
         ·refine JC.region ?_;iterate 3 refine mq ?_
          obtain ⟨r45, er45, h⟩ := b_bind h;refine fr 1 ?_;refine kc (o_call [.tmp 97, .const (.int .i64 (-1)), .const (.int .i64 (21))] rfl rfl en27 rfl (kit_Lots_In_ok k (x24.1, x24.2.1, x24.2.2.1) b13 (-1 : Int) (21 : Int) r45 er45)) ?_;refine JO.s rfl (o_litB (t := (.int .i64)) [(.const (.int .i64 (0)), _), (.const (.int .i64 (1)), _), (.const (.int .i64 (5)), _), (.tmp 98, _)] [(0 : Int), (1 : Int), (5 : Int), r45.1] rfl rfl sl24 (.cons rfl .int (.cons rfl .int (.cons rfl .int (.cons rfl .int .nil)))) rfl rfl) ⟨rfl, rfl, rfl, rfl, trivial⟩ ?_;obtain ⟨r46, er46, h⟩ := b_bind h;refine kb (o_call [.tmp 96, .tmp 99] rfl rfl en26 rfl (kit_Lots_Of_ok k (r45.2.1, r45.2.2.1, r45.2.2.2) b13 [(0 : Int), (1 : Int), (5 : Int), r45.1] r46 er46)) ?_;refine ja (o_litB (t := (.int .i64)) [(.tmp 100, _)] [r46.1] rfl rfl sl24 (.cons rfl .int .nil) rfl rfl) ?_;obtain ⟨u47, eu47, h⟩ := b_bind h;refine fr 2 ?_;refine JO.s1x rfl rfl rfl (o_append rfl rfl sl24 (chkP_some eu47)) ⟨rfl, rfl, trivial⟩ fun v48 => ?_;refine aq (nl ?_);exact jz (v48, (r46.2.1, r46.2.2.1, r46.2.2.2, y17.2.2.2.2.1 ++ [r46.1])) h [1, 2, 0, 3, 4]
         ·refine JC.skip (JN.then_n ?_);exact jz (z18.2, (x24.1, x24.2.1, x24.2.2.1, y17.2.2.2.2.1)) h [1, 0, 2, 3, 4]
        ·refine JC.region (mq ?_);refine fr 3 ?_;refine fr 4 ?_;refine JO.se (SE.frzBoth (off := 1) [] trivial rfl rfl) ?_;refine lo sz26 ?_;refine ja (o_litB (t := tChange) [(.tmp 104, _)] [(r21.1.1, x24.2.2.2, r21.1.2.2.1, r21.1.2.2.2)] rfl rfl sl29 (.cons trivial (.agg (.pair .rep (.pair .rep (.pair .rep .rep)))) .nil) rfl rfl) ?_;obtain ⟨u49, eu49, h⟩ := b_bind h;refine fr 2 ?_;refine JO.s1x rfl rfl rfl (o_append rfl rfl sl29 (chkP_some eu49)) ⟨rfl, rfl, trivial⟩ fun v50 => ?_;refine aq (JO.nil (bn ?_));exact jz ((v50, z44), (x43.1, x43.2.1, x43.2.2.1, y17.2.2.2.1 ++ [(r21.1.1, x24.2.2.2, r21.1.2.2.1, r21.1.2.2.2)], x43.2.2.2)) h [2, 0, 3]
      ·refine JC.region (mq ?_);obtain ⟨x51, ex51, h⟩ := b_bind h;refine jb (o_sub rfl ex51) ?_;refine aq (nl ?_);exact jz ((z20.1, z20.2), (x19.1, x19.2.1, x19.2.2.1, x19.2.2.2.1, x19.2.2.2.2, x51)) h [0, 1, 2]
     ·refine xa ?_;exact jz ((z18.1, z18.2), (y17.2.2.2.1, y17.2.2.2.2.1)) h [1, 2]
    ·refine sr (JO.s01 rfl rfl rfl (o_litB_own (t := tChange) [] ([] : (List dChange)) rfl rfl sl29 .nil rfl rfl) trivial fun v52 => ?_);refine mq ?_;refine fr 1 ?_;refine JO.se (SE.frz [9, 108] ⟨rfl, rfl, trivial⟩) ?_;obtain ⟨u53, eu53, h⟩ := b_bind h;refine JO.s1x rfl rfl rfl (o_append rfl rfl sl29 (chkP_some eu53)) ⟨rfl, rfl, trivial⟩ fun v54 => ?_;refine aq (nt ?_);refine JC.cutB (Z := Value) (α := (List dChange)) (fun z56 x55 => [(0, Rs tChange a0), (1, Ri a1), (9, Rs tChange x14.1), (10, .eq z15.2), (13, .eq z56)]) (fun z56 x55 => [.sl z15.2 3 (.int .i64) x14.2, .sl z56 26 tChange x55]) h (fun K h => ?_) (fun z56 x55 h => ?_)
     ·refine sr (mq ?_);refine ol U29 ?_;refine jb (o_gtr rfl) ?_;refine nt (ci h (fun h => ?_) (fun h => ?_))
      ·refine JC.region ?_;iterate 2 refine mq ?_
       obtain ⟨x57, ex57, h⟩ := b_bind h;refine jb (o_index (t := tChange) rfl U29 sz26 ex57) ?_;refine ja (o_load_at (t := tChange) rfl sz26 rfl) ?_;refine ja (o_litB (t := tChange) [(.tmp 116, _)] [x57] rfl rfl sl29 (.cons rfl .rep .nil) rfl rfl) ?_;obtain ⟨u58, eu58, h⟩ := b_bind h;refine JO.s1x rfl rfl rfl (o_append rfl rfl sl29 (chkP_some eu58)) ⟨rfl, rfl, trivial⟩ fun v59 => ?_;refine aq (nl ?_);exact jz (v59, (([] : (List dChange)) ++ x14.1) ++ [x57]) h [1, 0]
      ·refine JC.skip (JN.then_n ?_);exact jz (v54, ([] : (List dChange)) ++ x14.1) h [1, 0]
     ·refine sr ?_;iterate 4 refine mq ?_
      refine fr 1 ?_;refine JO.se (SE.frz [13, 122] ⟨rfl, rfl, trivial⟩) ?_;refine JO.s rfl (o_litB (t := (.slice tChange)) [(.tmp 119, _), (.tmp 120, _), (.tmp 121, _), (.tmp 122, _)] [a0, x14.1, x14.1, x55] rfl rfl sl55 (.cons rfl .rep (.cons rfl .rep (.cons rfl .rep (.cons rfl .rep .nil)))) rfl rfl) ⟨rfl, rfl, rfl, rfl, trivial⟩ ?_;iterate 4 refine mq ?_
      refine JO.se (SE.frz [10, 125, 127] ⟨rfl, rfl, rfl, trivial⟩) ?_;obtain ⟨r60, er60, h⟩ := b_bind h;refine JO.s01 rfl rfl rfl (o_call [.tmp 127] rfl rfl en28 rfl (kit_CopyInts_ok k x14.2 r60 er60)) ⟨rfl, trivial⟩ fun v61 => ?_;refine ja (o_litB (t := (.int .i64)) [(.const (.int .i64 (3)), _)] [(3 : Int)] rfl rfl sl24 (.cons rfl .int .nil) rfl rfl) ?_;obtain ⟨u62, eu62, h⟩ := b_bind h;refine JO.s1x rfl rfl rfl (o_append rfl rfl sl24 (chkP_some eu62)) ⟨rfl, rfl, trivial⟩ fun v63 => ?_;refine JO.se (SE.frz [130] ⟨rfl, trivial⟩) ?_;refine JO.s rfl (o_litB (t := (.slice (.int .i64))) [(.tmp 124, _), (.tmp 125, _), (.tmp 126, _), (.tmp 130, _)] [a1, x14.2, a1, r60 ++ [(3 : Int)]] rfl rfl sl57 (.cons rfl .rep (.cons rfl .rep (.cons rfl .rep (.cons rfl .rep .nil)))) rfl rfl) ⟨rfl, rfl, rfl, rfl, trivial⟩ ?_;refine aq ?_;refine aq (nt ?_);refine JC.cutE (Z := Unit) (α := Unit) (fun z65 x64 => []) (fun z65 x64 => []) (fun e => e = r) h (fun e h => Option.some.inj h) (fun K hR h => ?_) (fun z65 x64 h => ?_)
      ·refine sr (cq (nt (JC.block ?_)));refine JC.loopB (Z := Unit) (α := Int) (fun z67 y66 => [(14, .rep (.slice (.slice tChange)) [a0, x14.1, x14.1, x55]), (15, .rep (.slice (.slice (.int .i64))) [a1, x14.2, a1, r60 ++ [(3 : Int)]]), (16, I y66)]) (fun z67 y66 => []) (law_ChangeThroughs_l4 k a0 a1 x14 x55 r60) k () (0 : Int) (fun _ => rfl) h (SE.fin [] ⟨rfl, rfl, rfl, trivial⟩ rfl) (fun n z67 y66 h => ?_);unfold law_ChangeThroughs_l4 at h;refine JC.seq (sr ?_);iterate 2 refine mq ?_
       refine ol U55 ?_;refine jb (o_lss rfl) ?_;refine nt (ci h (fun h => ?_) (fun h => ?_))
       ·refine sk (JC.cutE (Z := Unit) (α := Unit) (fun z69 x68 => [(14, .rep (.slice (.slice tChange)) [a0, x14.1, x14.1, x55]), (15, .rep (.slice (.slice (.int .i64))) [a1, x14.2, a1, r60 ++ [(3 : Int)]]), (16, I y66)]) (fun z69 x68 => []) (fun e => e = r) h (fun e h => hR e h) (fun K hR h => ?_) (fun z69 x68 h => ?_))
        ·refine JC.block (sr (cq (nt ?_)));refine JC.cutB (Z := Value) (α := (List dChange)) (fun z71 x70 => [(14, .rep (.slice (.slice tChange)) [a0, x14.1, x14.1, x55]), (15, .rep (.slice (.slice (.int .i64))) [a1, x14.2, a1, r60 ++ [(3 : Int)]]), (16, I y66), (17, .eq z71)]) (fun z71 x70 => [.sl z71 26 tChange x70]) h (fun K h => ?_) (fun z71 x70 h => ?_)
         ·refine sr (cq (nt (JC.block ?_)));refine JC.se (SE.nil 26 tChange) ?_;refine JC.loopB (Z := Value) (α := (List dChange) × Int) (fun z73 y72 => [(14, .rep (.slice (.slice tChange)) [a0, x14.1, x14.1, x55]), (15, .rep (.slice (.slice (.int .i64))) [a1, x14.2, a1, r60 ++ [(3 : Int)]]), (16, I y66), (17, .eq z73), (18, I y72.2)]) (fun z73 y72 => [.sl z73 26 tChange y72.1]) (law_ChangeThroughs_l5 k a0 x14 x55 y66) k (.slice none 0 0) (([] : (List dChange)), (0 : Int)) (fun _ => rfl) h (SE.fin [0] ⟨rfl, rfl, rfl, rfl, rfl, trivial⟩ rfl) (fun n z73 y72 h => ?_);unfold law_ChangeThroughs_l5 at h;refine JC.seq (sr ?_);iterate 3 refine mq ?_
          obtain ⟨x74, ex74, h⟩ := b_bind h;refine jb (o_index (t := (.slice tChange)) rfl U55 sz29 ex74) ?_;refine ja (o_load_at (t := (.slice tChange)) rfl sz29 rfl) ?_;refine ol U29 ?_;refine jb (o_lss rfl) ?_;refine nt (ci h (fun h => ?_) (fun h => ?_))
          ·refine sk (JC.seq (JC.block (JC.region ?_)));iterate 3 refine mq ?_
           obtain ⟨x75, ex75, h⟩ := b_bind h;refine jb (o_index (t := (.slice tChange)) rfl U55 sz29 ex75) ?_;refine ja (o_load_at (t := (.slice tChange)) rfl sz29 rfl) ?_;refine mq ?_;obtain ⟨x76, ex76, h⟩ := b_bind h;refine jb (o_index (t := tChange) rfl U29 sz26 ex76) ?_;refine ja (o_load_at (t := tChange) rfl sz26 rfl) ?_;obtain ⟨r77, er77, h⟩ := b_bind h;refine ja (o_call [.tmp 154] rfl rfl en13 rfl (kit_CopyChangeF_ok k x76 r77 er77)) ?_;refine ja (o_litB (t := tChange) [(.tmp 155, _)] [r77] rfl rfl sl29 (.cons rfl .rep .nil) rfl rfl) ?_;obtain ⟨u78, eu78, h⟩ := b_bind h;refine JO.s1x rfl rfl rfl (o_append rfl rfl sl29 (chkP_some eu78)) ⟨rfl, rfl, trivial⟩ fun v79 => ?_;refine aq (JO.nil (JN.blk_n (tn (JC.region ?_))));refine mq ?_;obtain ⟨x80, ex80, h⟩ := b_bind h;refine jb (o_add rfl ex80) ?_;refine aq (nl ?_);exact jz (v79, (y72.1 ++ [r77], x80)) h [0]
          ·refine xa ?_;exact jz (z73, y72.1) h [0]
         ·refine sr ?_;iterate 2 refine mq ?_
          obtain ⟨x81, ex81, h⟩ := b_bind h;refine jb (o_index (t := (.slice (.int .i64))) rfl U57 sz24 ex81) ?_;refine ja (o_load_at (t := (.slice (.int .i64))) rfl sz24 rfl) ?_;obtain ⟨r82, er82, h⟩ := b_bind h;refine JO.s01 rfl rfl rfl (o_call [.tmp 161] rfl rfl en28 rfl (kit_CopyInts_ok k x81 r82 er82)) ⟨rfl, trivial⟩ fun v83 => ?_;refine aq (nt (sr ?_));iterate 2 refine mq ?_
          refine fr 1 ?_;refine JO.se (SE.frz [17, 164] ⟨rfl, rfl, trivial⟩) ?_;refine JO.se (SE.frz [19, 162, 165] ⟨rfl, rfl, rfl, trivial⟩) ?_;obtain ⟨r84, er84, h⟩ := b_bind h;refine jb (o_call [.tmp 164, .tmp 165] rfl rfl en29 rfl (chg_Through_ok k x70 r82 r84 er84)) ?_;refine mq ?_;refine xr ?_;refine xr ?_;refine aq ?_;refine aq (nt (JC.seq ?_));refine JC.drawN ?_;refine dm ?_;refine dm ?_;obtain ⟨x85, ex85, h⟩ := b_bind h;refine db (o_index (t := (.slice tChange)) rfl U55 sz29 ex85) ?_;refine da (o_load_at (t := (.slice tChange)) rfl sz29 rfl) ?_;refine dm ?_;refine dm ?_;obtain ⟨x86, ex86, h⟩ := b_bind h;refine db (o_index (t := (.slice (.int .i64))) rfl U57 sz24 ex86) ?_;refine da (o_load_at (t := (.slice (.int .i64))) rfl sz24 rfl) ?_;obtain ⟨r87, er87, h⟩ := b_bind h;refine db (o_call [.tmp 173, .tmp 177] rfl rfl en30 rfl (ref_Through_ok k x85 x86 r87 er87)) ?_;refine dm ?_;refine da (o_extract rfl rfl) ?_;refine da (o_extract rfl rfl) ?_;refine da (o_assign rfl) ?_;refine df mixed ?_;refine aq (nt (JC.seq ?_));refine JC.cutB (Z := Unit) (α := Bool) (fun z89 x88 => [(14, .rep (.slice (.slice tChange)) [a0, x14.1, x14.1, x55]), (15, .rep (.slice (.slice (.int .i64))) [a1, x14.2, a1, r60 ++ [(3 : Int)]]), (16, I y66), (17, Rs tChange x70), (198, .eq (.bool x88))]) (fun z89 x88 => []) h (fun K h => ?_) (fun z89 x88 h => ?_)
          ·refine JC.region ?_;iterate 2 refine mq ?_
           refine jb (o_neq rfl) ?_;refine mq ?_;refine JO.bool (s := 184) rfl (fun hb => ?_) (fun hb => ?_)
           ·replace h := b_if (n_t hb) h;iterate 4 refine gn ?_
            refine pt ?_;refine mq ?_;iterate 7 refine gn ?_
            refine pt (nl ?_);exact jz ((), true) h []
           ·replace h := b_ifn (n_fn hb) h;refine gm ?_;refine gm ?_;obtain ⟨r90, er90, h⟩ := b_bind h;refine gb (o_call [.tmp 185, .tmp 186] rfl rfl en22 rfl (kit_SameInts_ok k r84.1 r87.1 r90 er90)) ?_;refine ga (o_not rfl) ?_;refine pf ?_;refine mq ?_;refine JO.bool (s := 190) rfl (fun hb => ?_) (fun hb => ?_)
            ·replace h := b_if (nv_t hb) h;iterate 7 refine gn ?_
             refine pt (nl ?_);exact jz ((), true) h []
            ·replace h := b_ifn (nv_fn hb) h;refine gm ?_;refine gm ?_;refine gm ?_;obtain ⟨x91, ex91, h⟩ := b_bind h;refine gb (o_index (t := (.slice (.int .i64))) rfl U57 sz24 ex91) ?_;refine ga (o_load_at (t := (.slice (.int .i64))) rfl sz24 rfl) ?_;obtain ⟨r92, er92, h⟩ := b_bind h;refine gb (o_call [.tmp 191, .tmp 195] rfl rfl en22 rfl (kit_SameInts_ok k r82 x91 r92 er92)) ?_;refine ga (o_not rfl) ?_;refine pf (nl ?_);exact jz ((), !r92) h []
          ·refine cv h (fun h => ?_) (fun h => ?_)
           ·refine sr (cq (nt (rx (br (JN.blk_r (JN.then_r ?_))))));obtain rfl := hR _ h;exact ra
           ·refine sk (sr (cq (nt (JC.block ?_))));refine JC.loopB (Z := Unit) (α := Int) (fun z94 y93 => [(14, .rep (.slice (.slice tChange)) [a0, x14.1, x14.1, x55]), (15, .rep (.slice (.slice (.int .i64))) [a1, x14.2, a1, r60 ++ [(3 : Int)]]), (16, I y66), (17, Rs tChange x70), (24, I y93)]) (fun z94 y93 => []) (law_ChangeThroughs_l6 k a0 x14 x55 y66 x70) k () (0 : Int) (fun _ => rfl) h (SE.fin [] ⟨rfl, rfl, rfl, rfl, rfl, trivial⟩ rfl) (fun n z94 y93 h => ?_);unfold law_ChangeThroughs_l6 at h;refine JC.seq (sr ?_);iterate 2 refine mq ?_
            refine ol U29 ?_;refine jb (o_lss rfl) ?_;refine nt (ci h (fun h => ?_) (fun h => ?_))
            ·refine sk (JC.seq (JC.block (JC.seq (JC.drawN ?_))));refine dm ?_;refine dm ?_;obtain ⟨x95, ex95, h⟩ := b_bind h;refine db (o_index (t := tChange) rfl U29 sz26 ex95) ?_;refine da (o_load_at (t := tChange) rfl sz26 rfl) ?_;refine dm ?_;refine dm ?_;obtain ⟨x96, ex96, h⟩ := b_bind h;refine db (o_index (t := (.slice tChange)) rfl U55 sz29 ex96) ?_;refine da (o_load_at (t := (.slice tChange)) rfl sz29 rfl) ?_;refine dm ?_;obtain ⟨x97, ex97, h⟩ := b_bind h;refine db (o_index (t := tChange) rfl U29 sz26 ex97) ?_;refine da (o_load_at (t := tChange) rfl sz26 rfl) ?_;refine df mixed ?_;obtain ⟨r98, er98, h⟩ := b_bind h;refine jb (o_call [.tmp 208, .tmp 215] rfl rfl en17 rfl (kit_SameChanges_ok k x95 x97 r98 er98)) ?_;refine ja (o_not rfl) ?_;refine nt (cw h (fun h => ?_) (fun h => ?_))
             ·refine sr (cq (nt (JC.ret (br (JN.blk_r (br (JN.blk_r (JN.then_r ?_))))))));obtain rfl := hR _ h;exact ra
             ·refine JC.skip (JN.blk_n (tn (JC.region (mq ?_))));obtain ⟨x99, ex99, h⟩ := b_bind h;refine jb (o_add rfl ex99) ?_;refine aq (nl ?_);exact jz ((), x99) h []
            ·refine JC.exit (JN.then_x (JN.then_x (JN.blk_hit (bn ?_))));exact jz ((), ()) h []
        ·refine JC.region (mq ?_);obtain ⟨x100, ex100, h⟩ := b_bind h;refine jb (o_add rfl ex100) ?_;refine aq (nl ?_);exact jz ((), x100) h []
       ·refine xa ?_;exact jz ((), ()) h []
      ·refine sr ?_;obtain ⟨r101, er101, h⟩ := b_bind h;refine JO.s rfl (o_call [] rfl rfl en10 rfl (law_dressed_ok k  r101 er101)) trivial ?_;refine aq (nt (JC.ret ?_));cases h;exact ra


end Go.Proofs.YtfhdclhbdmhnmaaGreat
