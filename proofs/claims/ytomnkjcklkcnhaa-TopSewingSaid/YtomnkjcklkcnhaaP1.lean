/- The program's functions, part 1: what each computes, and that the code computes it. Printed by a program of this proof's own. -/
import Derived.Test.YtomnkjcklkcnhaaFacts
import Derived.Test.YtomnkjcklkcnhaaB3
set_option linter.unusedVariables false
set_option maxRecDepth 4000
namespace Go.Proofs.Ytomnkjcklkcnhaa
open K Go Go.Proofs
def kit_NewLots (k : Nat) (a0 : (List Int)) : Option dLots :=
 some (a0, (0 : Int), (1 : Int))

theorem kit_NewLots_ok (k : Nat) (a0 : (List Int)) (r : dLots) (h : kit_NewLots k a0 = some r) :
 Ctr Try.prog 4 [Ri a0] [] (fun z : Nat => (resA [Pt z], [.obj z 50 (.agg (.pair (Ri r.1) (.pair (I r.2.1) (.eq (.int .u64 r.2.2)))))])) := by
 unfold kit_NewLots at h;replace h := b_top h;refine Ctr.of 6 Try.func4 rfl Try.ntmps4 rfl fun S w0 => ?_;refine sr (cq (nt (sr ?_)));refine mq ?_;refine jb (o_buildT [(0, .tmp 3, _), (2, .const (.int .u64 (1)), _)] rfl pl50 za50 alb50 (stors ⟨rfl, rfl, trivial⟩) rfl) ?_;refine JO.s01 rfl rfl rfl (o_box rfl trivial) ⟨rfl, trivial⟩ fun b1 => ?_;refine aq (nt (JC.ret ?_));cases h;exact JN.ret b1 [Pt b1] 1 ⟨rfl, trivial⟩ rfl


def kit_Lots_next (k : Nat) (a0 : dLots) : Option (Int × dLots) :=
 ((if a0.2.1 < (a0.1.length : Int) then ((geti a0.1 a0.2.1).bind fun x3 =>
 some (IntKind.u64.wrap ((IntKind.u64.wrap ((IntKind.u64.wrap (a0.2.2 * (6364136223846793005 : Int))) + (1442695040888963407 : Int))) + (IntKind.u64.wrap ((IntKind.u64.wrap x3) * (2862933555777941757 : Int)))))) else (some (IntKind.u64.wrap ((IntKind.u64.wrap (a0.2.2 * (6364136223846793005 : Int))) + (1442695040888963407 : Int))))) : Option (Int)).bind fun x1 =>
 (ck (a0.2.1 + (1 : Int))).bind fun x4 =>
 some (ishr .u64 (ixor .u64 (IntKind.u64.wrap ((ixor .u64 x1 (ishr .u64 x1 (29 : Int))) * (2685821657736338717 : Int))) (ishr .u64 (IntKind.u64.wrap ((ixor .u64 x1 (ishr .u64 x1 (29 : Int))) * (2685821657736338717 : Int))) (32 : Int))) (8 : Int), (a0.1, x4, x1))

theorem kit_Lots_next_ok (k : Nat) (a0 : dLots) (b_a0 : Nat) (r : Int × dLots) (h : kit_Lots_next k a0 = some r) :
 Ctr Try.prog 25 [Pt b_a0] [.obj b_a0 50 (.agg (.pair (Ri a0.1) (.pair (I a0.2.1) (.eq (.int .u64 a0.2.2)))))] (fun _ : Unit => (resA [.eq (.int .u64 r.1)], [.obj b_a0 50 (.agg (.pair (Ri r.2.1) (.pair (I r.2.2.1) (.eq (.int .u64 r.2.2.2)))))])) := by
 unfold kit_Lots_next at h;replace h := b_top h;refine Ctr.of 67 Try.func25 rfl Try.ntmps25 rfl fun S w0 => ?_;refine sr (cq (nt (sr ?_)));iterate 2 refine mq ?_
 refine ja (o_nil_obj rfl) ?_;refine fl fo50_2 ?_;refine lo sz48 ?_;refine jb (o_mulk rfl) ?_;refine jb (o_addk rfl) ?_;refine ja (o_nil_obj rfl) ?_;refine fl fo50_2 ?_;refine JO.n11 rfl rfl (o_store rfl sz48 rfl rfl rfl) ⟨rfl, rfl, trivial⟩ ?_;refine nt (JC.cutB (Z := Unit) (α := Int) (fun z2 x1 => [(0, Pt b_a0)]) (fun z2 x1 => [.obj b_a0 50 (.agg (.pair (Ri a0.1) (.pair (I a0.2.1) (.eq (.int .u64 x1)))))]) h (fun K h => ?_) (fun z2 x1 h => ?_))
 ·refine JC.seq (JC.drawN ?_);refine dm ?_;refine da (o_nil_obj rfl) ?_;refine da (o_field_obj rfl fo50_1) ?_;refine ea 0 (o_load_obj rfl sz3 nfs rfl) ?_;refine dm ?_;refine da (o_nil_obj rfl) ?_;refine da (o_field_obj rfl fo50_0) ?_;refine ea 0 (o_load_obj rfl sz22 nfs rfl) ?_;refine da (o_len rfl rfl U22) ?_;refine df mixed ?_;refine jb (o_lss rfl) ?_;refine nt (ci h (fun h => ?_) (fun h => ?_))
  ·refine JC.drawN ?_;refine dm ?_;refine dm ?_;refine da (o_nil_obj rfl) ?_;refine da (o_field_obj rfl fo50_2) ?_;refine ea 0 (o_load_obj rfl sz48 nfs rfl) ?_;refine dm ?_;refine da (o_nil_obj rfl) ?_;refine da (o_field_obj rfl fo50_0) ?_;refine ea 0 (o_load_obj rfl sz22 nfs rfl) ?_;refine dm ?_;refine da (o_nil_obj rfl) ?_;refine da (o_field_obj rfl fo50_1) ?_;refine ea 0 (o_load_obj rfl sz3 nfs rfl) ?_;obtain ⟨x3, ex3, h⟩ := b_bind h;refine db (o_index (t := (.int .i64)) rfl U22 sz3 ex3) ?_;refine da (o_load_at (t := (.int .i64)) rfl sz3 rfl) ?_;refine da (o_conv rfl U3 U48) ?_;refine db (o_mulk rfl) ?_;refine db (o_addk rfl) ?_;refine df mixed ?_;refine ja (o_nil_obj rfl) ?_;refine fl fo50_2 ?_;refine JO.n11 rfl rfl (o_store rfl sz48 rfl rfl rfl) ⟨rfl, rfl, trivial⟩ ?_;refine nl ?_;exact jz ((), IntKind.u64.wrap ((IntKind.u64.wrap ((IntKind.u64.wrap (a0.2.2 * (6364136223846793005 : Int))) + (1442695040888963407 : Int))) + (IntKind.u64.wrap ((IntKind.u64.wrap x3) * (2862933555777941757 : Int))))) h [0]
  ·refine JC.skip (JN.then_n ?_);exact jz ((), IntKind.u64.wrap ((IntKind.u64.wrap (a0.2.2 * (6364136223846793005 : Int))) + (1442695040888963407 : Int))) h [0]
 ·refine sr (mq ?_);refine ja (o_nil_obj rfl) ?_;refine fl fo50_1 ?_;refine lo sz3 ?_;obtain ⟨x4, ex4, h⟩ := b_bind h;refine jb (o_add rfl ex4) ?_;refine ja (o_nil_obj rfl) ?_;refine fl fo50_1 ?_;refine JO.n11 rfl rfl (o_store rfl sz3 rfl rfl rfl) ⟨rfl, rfl, trivial⟩ ?_;refine nt (JC.seq (JC.drawN ?_));refine dm ?_;refine da (o_nil_obj rfl) ?_;refine da (o_field_obj rfl fo50_2) ?_;refine ea 0 (o_load_obj rfl sz48 nfs rfl) ?_;refine dm ?_;refine da (o_nil_obj rfl) ?_;refine da (o_field_obj rfl fo50_2) ?_;refine ea 0 (o_load_obj rfl sz48 nfs rfl) ?_;refine DN.s00 rfl rfl rfl (o_shr rfl (by decide)) ⟨rfl, rfl, trivial⟩ ?_;refine df mixed ?_;refine jb (o_xor rfl) ?_;refine aq (nt (sr ?_));refine mq ?_;refine jb (o_mulk rfl) ?_;refine aq (nt (sr ?_));iterate 2 refine mq ?_
  refine JO.s rfl (o_shr rfl (by decide)) ⟨rfl, rfl, trivial⟩ ?_;refine jb (o_xor rfl) ?_;refine JO.s rfl (o_shr rfl (by decide)) ⟨rfl, rfl, trivial⟩ ?_;refine aq (nt (JC.ret ?_));cases h;exact JN.ret () [_] 1 ⟨rfl, trivial⟩ rfl


def kit_Lots_Upto (k : Nat) (a0 : dLots) (a1 : Int) : Option (Int × dLots) :=
 if a1 < (1 : Int) then (some ((0 : Int), (a0.1, a0.2.1, a0.2.2))) else ((kit_Lots_next k (a0.1, a0.2.1, a0.2.2)).bind fun r1 =>
 (ck (a1 + (1 : Int))).bind fun x2 =>
 (chkP ((IntKind.u64.wrap x2) ≠ 0)).bind fun _ =>
 (ck (Int.tmod r1.1 (IntKind.u64.wrap x2))).bind fun x4 =>
 some (x4, (r1.2.1, r1.2.2.1, r1.2.2.2)))

theorem kit_Lots_Upto_ok (k : Nat) (a0 : dLots) (b_a0 : Nat) (a1 : Int) (r : Int × dLots) (h : kit_Lots_Upto k a0 a1 = some r) :
 Ctr Try.prog 10 [Pt b_a0, I a1] [.obj b_a0 50 (.agg (.pair (Ri a0.1) (.pair (I a0.2.1) (.eq (.int .u64 a0.2.2)))))] (fun _ : Unit => (resA [I r.1], [.obj b_a0 50 (.agg (.pair (Ri r.2.1) (.pair (I r.2.2.1) (.eq (.int .u64 r.2.2.2)))))])) := by
 unfold kit_Lots_Upto at h;replace h := b_top h;refine Ctr.of 14 Try.func10 rfl Try.ntmps10 rfl fun S w0 => ?_;refine sr (cq (nt (JC.seq (sr ?_))));refine mq ?_;refine jb (o_lss rfl) ?_;refine nt (ci h (fun h => ?_) (fun h => ?_))
 ·refine sr (cq (nt (rx ?_)));cases h;exact JN.ret () [_] 1 ⟨rfl, trivial⟩ rfl
 ·refine sk (sr (mq ?_));obtain ⟨r1, er1, h⟩ := b_bind h;refine ka (o_call [.tmp 7] rfl rfl en25 rfl (kit_Lots_next_ok k (a0.1, a0.2.1, a0.2.2) b_a0 r1 er1)) ?_;refine mq ?_;obtain ⟨x2, ex2, h⟩ := b_bind h;refine jb (o_add rfl ex2) ?_;refine ja (o_conv rfl U3 U48) ?_;obtain ⟨u3, eu3, h⟩ := b_bind h;refine jb (o_rem rfl (chkP_some eu3)) ?_;obtain ⟨x4, ex4, h⟩ := b_bind h;refine ja (o_conv64 rfl U48 U3 ex4) ?_;refine aq (nt (JC.ret ?_));cases h;exact JN.ret () [_] 1 ⟨rfl, trivial⟩ rfl


def kit_Lots_In (k : Nat) (a0 : dLots) (a1 : Int) (a2 : Int) : Option (Int × dLots) :=
 (ck (a2 - a1)).bind fun x1 =>
 (kit_Lots_Upto k (a0.1, a0.2.1, a0.2.2) x1).bind fun r2 =>
 (ck (a1 + r2.1)).bind fun x3 =>
 some (x3, (r2.2.1, r2.2.2.1, r2.2.2.2))

theorem kit_Lots_In_ok (k : Nat) (a0 : dLots) (b_a0 : Nat) (a1 : Int) (a2 : Int) (r : Int × dLots) (h : kit_Lots_In k a0 a1 a2 = some r) :
 Ctr Try.prog 11 [Pt b_a0, I a1, I a2] [.obj b_a0 50 (.agg (.pair (Ri a0.1) (.pair (I a0.2.1) (.eq (.int .u64 a0.2.2)))))] (fun _ : Unit => (resA [I r.1], [.obj b_a0 50 (.agg (.pair (Ri r.2.1) (.pair (I r.2.2.1) (.eq (.int .u64 r.2.2.2)))))])) := by
 unfold kit_Lots_In at h;replace h := b_top h;refine Ctr.of 14 Try.func11 rfl Try.ntmps11 rfl fun S w0 => ?_;refine sr (cq (nt (sr ?_)));iterate 4 refine mq ?_
 obtain ⟨x1, ex1, h⟩ := b_bind h;refine jb (o_sub rfl ex1) ?_;obtain ⟨r2, er2, h⟩ := b_bind h;refine kb (o_call [.tmp 8, .tmp 11] rfl rfl en10 rfl (kit_Lots_Upto_ok k (a0.1, a0.2.1, a0.2.2) b_a0 x1 r2 er2)) ?_;obtain ⟨x3, ex3, h⟩ := b_bind h;refine jb (o_add rfl ex3) ?_;refine aq (nt (JC.ret ?_));cases h;exact JN.ret () [_] 1 ⟨rfl, trivial⟩ rfl


def kit_SettingOf_l1 (k : Nat) (a1 : dCostume) : Nat → ((List Int) × Int × Int × (List Int) × Int) → Option ((List Int) × (List Int) × Int × Int)
 | 0, _ => none
 | n + 1, y4 =>
  if y4.2.2.2.2 < (a1.2.2.2.1.length : Int) then ((geti a1.2.2.2.1 y4.2.2.2.2).bind fun x6 =>
  (geti a1.2.2.2.1 y4.2.2.2.2).bind fun x7 =>
  (kit_Lots_In k (y4.1, y4.2.1, y4.2.2.1) x6.1 x7.2.1).bind fun r8 =>
  (chkP (okLen (List.length y4.2.2.2.1 + List.length [r8.1]))).bind fun _ =>
  (ck (y4.2.2.2.2 + (1 : Int))).bind fun x11 =>
  kit_SettingOf_l1 k a1 n (r8.2.1, r8.2.2.1, r8.2.2.2, y4.2.2.2.1 ++ [r8.1], x11)) else (some (y4.2.2.2.1, y4.1, y4.2.1, y4.2.2.1))
def kit_SettingOf (k : Nat) (a0 : dLots) (a1 : dCostume) : Option ((List Int) × dLots) :=
 ((kit_SettingOf_l1 k a1 k (a0.1, a0.2.1, a0.2.2, ([] : (List Int)), (0 : Int))) : Option ((List Int) × (List Int) × Int × Int)).bind fun x2 =>
 some (x2.1, (x2.2.1, x2.2.2.1, x2.2.2.2))

theorem kit_SettingOf_ok (k : Nat) (a0 : dLots) (b_a0 : Nat) (a1 : dCostume) (r : (List Int) × dLots) (h : kit_SettingOf k a0 a1 = some r) :
 Ctr Try.prog 6 [Pt b_a0, .rep tCostume a1] [.obj b_a0 50 (.agg (.pair (Ri a0.1) (.pair (I a0.2.1) (.eq (.int .u64 a0.2.2)))))] (fun _ : Unit => (resA [Ri r.1], [.obj b_a0 50 (.agg (.pair (Ri r.2.1) (.pair (I r.2.2.1) (.eq (.int .u64 r.2.2.2)))))])) := by
 unfold kit_SettingOf at h;replace h := b_top h;refine Ctr.of 32 Try.func6 rfl Try.ntmps6 rfl fun S w0 => ?_;refine sr (bx fun b1 => ?_);refine cq (nt (sr ?_));refine cq (nt ?_);refine JC.cutB (Z := Value) (α := (List Int) × (List Int) × Int × Int) (fun z3 x2 => [(5, .eq z3)]) (fun z3 x2 => [.sl z3 3 (.int .i64) x2.1, .obj b_a0 50 (.agg (.pair (Ri x2.2.1) (.pair (I x2.2.2.1) (.eq (.int .u64 x2.2.2.2)))))]) h (fun K h => ?_) (fun z3 x2 h => ?_)
 ·refine sr (cq (nt (JC.block ?_)));refine JC.se (SE.nil 3 (.int .i64)) ?_;refine JC.loopB (Z := Value) (α := (List Int) × Int × Int × (List Int) × Int) (fun z5 y4 => [(0, Pt b_a0), (3, Pt b1), (5, .eq z5), (6, I y4.2.2.2.2)]) (fun z5 y4 => [.obj b_a0 50 (.agg (.pair (Ri y4.1) (.pair (I y4.2.1) (.eq (.int .u64 y4.2.2.1))))), .obj b1 28 (.rep tCostume a1), .sl z5 3 (.int .i64) y4.2.2.2.1]) (kit_SettingOf_l1 k a1) k (.slice none 0 0) (a0.1, a0.2.1, a0.2.2, ([] : (List Int)), (0 : Int)) (fun _ => rfl) h (SE.fin [2, 1, 0] ⟨rfl, rfl, rfl, rfl, trivial⟩ rfl) (fun n z5 y4 h => ?_);unfold kit_SettingOf_l1 at h;refine JC.seq (sr (mq ?_));refine fl fo28_3 ?_;refine fr 1 ?_;refine lo sz26 ?_;refine ol U26 ?_;refine jb (o_lss rfl) ?_;refine nt (ci h (fun h => ?_) (fun h => ?_))
  ·refine sk (JC.seq (JC.block (JC.drawN ?_)));refine dm ?_;refine dm ?_;refine da (o_field_obj rfl fo28_3) ?_;refine ea 0 (o_load_obj rfl sz26 nfs rfl) ?_;refine dm ?_;obtain ⟨x6, ex6, h⟩ := b_bind h;refine db (o_index (t := tSeam) rfl U26 sz56 ex6) ?_;refine da (o_field_at 1 false rfl fo56_0 rfl) ?_;refine da (o_load_at (t := (.int .i64)) rfl sz3 rfl) ?_;refine da (o_field_obj rfl fo28_3) ?_;refine ea 0 (o_load_obj rfl sz26 nfs rfl) ?_;refine dm ?_;obtain ⟨x7, ex7, h⟩ := b_bind h;refine db (o_index (t := tSeam) rfl U26 sz56 ex7) ?_;refine da (o_field_at 1 false rfl fo56_1 rfl) ?_;refine da (o_load_at (t := (.int .i64)) rfl sz3 rfl) ?_;obtain ⟨r8, er8, h⟩ := b_bind h;refine DN.sMod 1 rfl rfl rfl rfl (o_call [.tmp 15, .tmp 21, .tmp 27] rfl rfl en11 rfl (kit_Lots_In_ok k (y4.1, y4.2.1, y4.2.2.1) b_a0 x6.1 x7.2.1 r8 er8)) ⟨rfl, rfl, rfl, trivial⟩ ?_;refine da (o_litB (t := (.int .i64)) [(.tmp 28, _)] [r8.1] rfl rfl sl22 (.cons rfl .int .nil) rfl rfl) ?_;refine DN.finE (Δ' := [.obj b1 28 (.rep tCostume a1), .sl z5 3 (.int .i64) y4.2.2.2.1, .obj b_a0 50 (.agg (.pair (Ri r8.2.1) (.pair (I r8.2.2.1) (.eq (.int .u64 r8.2.2.2)))))]) (by kernel_rfl) mixed (by kernel_rfl) ?_;obtain ⟨u9, eu9, h⟩ := b_bind h;refine fr 1 ?_;refine JO.s1x rfl rfl rfl (o_append rfl rfl sl22 (chkP_some eu9)) ⟨rfl, rfl, trivial⟩ fun v10 => ?_;refine aq (JO.nil (JN.blk_n (tn (JC.region ?_))));refine mq ?_;obtain ⟨x11, ex11, h⟩ := b_bind h;refine jb (o_add rfl ex11) ?_;refine aq (nl ?_);exact jz (v10, (r8.2.1, r8.2.2.1, r8.2.2.2, y4.2.2.2.1 ++ [r8.1], x11)) h [2, 1, 0]
  ·refine xa ?_;exact jz (z5, (y4.2.2.2.1, y4.1, y4.2.1, y4.2.2.1)) h [2, 1]
 ·refine sr (mq ?_);refine aq (nt (JC.ret ?_));refine JN.se (SE.frz [4, 5, 31] ⟨rfl, rfl, rfl, trivial⟩) ?_;cases h;exact JN.ret () [_] 1 ⟨rfl, trivial⟩ rfl


def kit_Lots_Of (k : Nat) (a0 : dLots) (a1 : (List Int)) : Option (Int × dLots) :=
 (ck ((a1.length : Int) - (1 : Int))).bind fun x1 =>
 (kit_Lots_Upto k (a0.1, a0.2.1, a0.2.2) x1).bind fun r2 =>
 (geti a1 r2.1).bind fun x3 =>
 some (x3, (r2.2.1, r2.2.2.1, r2.2.2.2))

theorem kit_Lots_Of_ok (k : Nat) (a0 : dLots) (b_a0 : Nat) (a1 : (List Int)) (r : Int × dLots) (h : kit_Lots_Of k a0 a1 = some r) :
 Ctr Try.prog 14 [Pt b_a0, Ri a1] [.obj b_a0 50 (.agg (.pair (Ri a0.1) (.pair (I a0.2.1) (.eq (.int .u64 a0.2.2)))))] (fun _ : Unit => (resA [I r.1], [.obj b_a0 50 (.agg (.pair (Ri r.2.1) (.pair (I r.2.2.1) (.eq (.int .u64 r.2.2.2)))))])) := by
 unfold kit_Lots_Of at h;replace h := b_top h;refine Ctr.of 13 Try.func14 rfl Try.ntmps14 rfl fun S w0 => ?_;refine sr (cq (nt (sr ?_)));iterate 3 refine mq ?_
 refine ol U22 ?_;obtain ⟨x1, ex1, h⟩ := b_bind h;refine jb (o_sub rfl ex1) ?_;obtain ⟨r2, er2, h⟩ := b_bind h;refine kb (o_call [.tmp 6, .tmp 9] rfl rfl en10 rfl (kit_Lots_Upto_ok k (a0.1, a0.2.1, a0.2.2) b_a0 x1 r2 er2)) ?_;obtain ⟨x3, ex3, h⟩ := b_bind h;refine jb (o_index (t := (.int .i64)) rfl U22 sz3 ex3) ?_;refine ja (o_load_at (t := (.int .i64)) rfl sz3 rfl) ?_;refine aq (nt (JC.ret ?_));cases h;exact JN.ret () [_] 1 ⟨rfl, trivial⟩ rfl


def kit_Lots_Rare (k : Nat) (a0 : dLots) (a1 : Int) : Option (Bool × dLots) :=
 (ck (a1 - (1 : Int))).bind fun x1 =>
 (kit_Lots_Upto k (a0.1, a0.2.1, a0.2.2) x1).bind fun r2 =>
 some (decide (r2.1 = (0 : Int)), (r2.2.1, r2.2.2.1, r2.2.2.2))

theorem kit_Lots_Rare_ok (k : Nat) (a0 : dLots) (b_a0 : Nat) (a1 : Int) (r : Bool × dLots) (h : kit_Lots_Rare k a0 a1 = some r) :
 Ctr Try.prog 16 [Pt b_a0, I a1] [.obj b_a0 50 (.agg (.pair (Ri a0.1) (.pair (I a0.2.1) (.eq (.int .u64 a0.2.2)))))] (fun _ : Unit => (resA [.eq (.bool r.1)], [.obj b_a0 50 (.agg (.pair (Ri r.2.1) (.pair (I r.2.2.1) (.eq (.int .u64 r.2.2.2)))))])) := by
 unfold kit_Lots_Rare at h;replace h := b_top h;refine Ctr.of 10 Try.func16 rfl Try.ntmps16 rfl fun S w0 => ?_;refine sr (cq (nt (sr ?_)));iterate 2 refine mq ?_
 obtain ⟨x1, ex1, h⟩ := b_bind h;refine jb (o_sub rfl ex1) ?_;obtain ⟨r2, er2, h⟩ := b_bind h;refine kb (o_call [.tmp 5, .tmp 7] rfl rfl en10 rfl (kit_Lots_Upto_ok k (a0.1, a0.2.1, a0.2.2) b_a0 x1 r2 er2)) ?_;refine jb (o_eql rfl) ?_;refine aq (nt (JC.ret ?_));cases h;exact JN.ret () [_] 1 ⟨rfl, trivial⟩ rfl


def kit_SeamOf_l1 (k : Nat) (a2 : Int) : Nat → ((List Int) × Int × Int × (List Int) × Int) → Option ((List Int) × (List Int) × Int × Int)
 | 0, _ => none
 | n + 1, y32 =>
  if y32.2.2.2.2 < a2 then ((((kit_Lots_Rare k (y32.1, y32.2.1, y32.2.2.1) (3 : Int)).bind fun r36 =>
  if r36.1 = true then ((chkP (okLen (List.length y32.2.2.2.1 + List.length [y32.2.2.2.2]))).bind fun _ =>
  some (r36.2.1, r36.2.2.1, r36.2.2.2, y32.2.2.2.1 ++ [y32.2.2.2.2])) else (some (r36.2.1, r36.2.2.1, r36.2.2.2, y32.2.2.2.1))) : Option ((List Int) × Int × Int × (List Int))).bind fun x34 =>
  (ck (y32.2.2.2.2 + (1 : Int))).bind fun x40 =>
  kit_SeamOf_l1 k a2 n (x34.1, x34.2.1, x34.2.2.1, x34.2.2.2, x40)) else (some (y32.2.2.2.1, y32.1, y32.2.1, y32.2.2.1))
def kit_SeamOf (k : Nat) (a0 : dLots) (a1 : Int) (a2 : Int) (a3 : Int) : Option (dSeam × dLots) :=
 (kit_Lots_In k (a0.1, a0.2.1, a0.2.2) (-2 : Int) (1 : Int)).bind fun r2 =>
 (kit_Lots_In k (r2.2.1, r2.2.2.1, r2.2.2.2) (1 : Int) (3 : Int)).bind fun r3 =>
 (ck (r2.1 + r3.1)).bind fun x4 =>
 (kit_Lots_In k (r3.2.1, r3.2.2.1, r3.2.2.2) r2.1 (imin (2 : Int) x4)).bind fun r5 =>
 (ck (a1 - (1 : Int))).bind fun x6 =>
 (kit_Lots_Upto k (r5.2.1, r5.2.2.1, r5.2.2.2) x6).bind fun r7 =>
 (kit_Lots_Of k (r7.2.1, r7.2.2.1, r7.2.2.2) [(1 : Int), (2 : Int), (3 : Int), (-1 : Int), (-2 : Int)]).bind fun r8 =>
 (kit_Lots_Upto k (r8.2.1, r8.2.2.1, r8.2.2.2) (4 : Int)).bind fun r10 =>
 (kit_Lots_Of k (r10.2.1, r10.2.2.1, r10.2.2.2) [(1 : Int), (2 : Int), (4 : Int), r10.1]).bind fun r11 =>
 ((((if (1 : Int) < a1 then ((kit_Lots_Rare k (r11.2.1, r11.2.2.1, r11.2.2.2) (2 : Int)).bind fun r18 =>
 some (r18.2.1, r18.2.2.1, r18.2.2.2, r18.1)) else (some (r11.2.1, r11.2.2.1, r11.2.2.2, false))) : Option ((List Int) × Int × Int × Bool)).bind fun x16 =>
 if x16.2.2.2 = true then ((ck (a1 - (2 : Int))).bind fun x19 =>
 (kit_Lots_Upto k (x16.1, x16.2.1, x16.2.2.1) x19).bind fun r20 =>
 (((geti [(r7.1, r8.1)] (0 : Int)).bind fun x23 =>
 if x23.1 ≤ r20.1 then ((ck (r20.1 + (1 : Int))).bind fun x24 =>
 some x24) else (some r20.1)) : Option (Int)).bind fun x21 =>
 (kit_Lots_Of k (r20.2.1, r20.2.2.1, r20.2.2.2) [(1 : Int), (2 : Int), (-1 : Int), (-4 : Int), (4 : Int)]).bind fun r25 =>
 (chkP (okLen (List.length [(r7.1, r8.1)] + List.length [(x21, r25.1)]))).bind fun _ =>
 some (r25.2.1, r25.2.2.1, r25.2.2.2, [(r7.1, r8.1)] ++ [(x21, r25.1)])) else (some (x16.1, x16.2.1, x16.2.2.1, [(r7.1, r8.1)]))) : Option ((List Int) × Int × Int × (List dBetween))).bind fun x14 =>
 (((ck (a3 + (1 : Int))).bind fun x31 =>
 kit_SeamOf_l1 k a2 k (x14.1, x14.2.1, x14.2.2.1, ([] : (List Int)), x31)) : Option ((List Int) × (List Int) × Int × Int)).bind fun x29 =>
 some ((r2.1, r5.1, x14.2.2.2, x29.1, r11.1), (x29.2.1, x29.2.2.1, x29.2.2.2))

theorem kit_SeamOf_ok (k : Nat) (a0 : dLots) (b_a0 : Nat) (a1 : Int) (a2 : Int) (a3 : Int) (r : dSeam × dLots) (h : kit_SeamOf k a0 a1 a2 a3 = some r) :
 Ctr Try.prog 15 [Pt b_a0, I a1, I a2, I a3] [.obj b_a0 50 (.agg (.pair (Ri a0.1) (.pair (I a0.2.1) (.eq (.int .u64 a0.2.2)))))] (fun _ : Unit => (resA [.rep tSeam r.1], [.obj b_a0 50 (.agg (.pair (Ri r.2.1) (.pair (I r.2.2.1) (.eq (.int .u64 r.2.2.2)))))])) := by
 unfold kit_SeamOf at h;replace h := b_top h;refine Ctr.of 84 Try.func15 rfl Try.ntmps15 rfl fun S w0 => ?_;refine sr (JO.s01 rfl rfl rfl (o_alloc rfl za56 al56) trivial fun b1 => ?_);refine nt (sr (mq ?_));obtain ⟨r2, er2, h⟩ := b_bind h;refine fr 1 ?_;refine kc (o_call [.tmp 13, .const (.int .i64 (-2)), .const (.int .i64 (1))] rfl rfl en11 rfl (kit_Lots_In_ok k (a0.1, a0.2.1, a0.2.2) b_a0 (-2 : Int) (1 : Int) r2 er2)) ?_;refine aq (nt (sr ?_));iterate 5 refine mq ?_
 obtain ⟨r3, er3, h⟩ := b_bind h;refine kc (o_call [.tmp 19, .const (.int .i64 (1)), .const (.int .i64 (3))] rfl rfl en11 rfl (kit_Lots_In_ok k (r2.2.1, r2.2.2.1, r2.2.2.2) b_a0 (1 : Int) (3 : Int) r3 er3)) ?_;obtain ⟨x4, ex4, h⟩ := b_bind h;refine jb (o_add rfl ex4) ?_;refine jb (o_min rfl rfl) ?_;obtain ⟨r5, er5, h⟩ := b_bind h;refine kc (o_call [.tmp 16, .tmp 17, .tmp 22] rfl rfl en11 rfl (kit_Lots_In_ok k (r3.2.1, r3.2.2.1, r3.2.2.2) b_a0 r2.1 (imin (2 : Int) x4) r5 er5)) ?_;iterate 2 refine mq ?_
 obtain ⟨x6, ex6, h⟩ := b_bind h;refine jb (o_sub rfl ex6) ?_;obtain ⟨r7, er7, h⟩ := b_bind h;refine kb (o_call [.tmp 24, .tmp 26] rfl rfl en10 rfl (kit_Lots_Upto_ok k (r5.2.1, r5.2.2.1, r5.2.2.2) b_a0 x6 r7 er7)) ?_;refine mq ?_;refine JO.s rfl (o_litB (t := (.int .i64)) [(.const (.int .i64 (1)), _), (.const (.int .i64 (2)), _), (.const (.int .i64 (3)), _), (.const (.int .i64 (-1)), _), (.const (.int .i64 (-2)), _)] [(1 : Int), (2 : Int), (3 : Int), (-1 : Int), (-2 : Int)] rfl rfl sl22 (.cons rfl .int (.cons rfl .int (.cons rfl .int (.cons rfl .int (.cons rfl .int .nil))))) rfl rfl) ⟨rfl, rfl, rfl, rfl, rfl, trivial⟩ ?_;obtain ⟨r8, er8, h⟩ := b_bind h;refine kb (o_call [.tmp 28, .tmp 29] rfl rfl en14 rfl (kit_Lots_Of_ok k (r7.2.1, r7.2.2.1, r7.2.2.2) b_a0 [(1 : Int), (2 : Int), (3 : Int), (-1 : Int), (-2 : Int)] r8 er8)) ?_;refine jb (o_buildT [(0, .tmp 27, _), (1, .tmp 30, _)] rfl pl87 za87 alb87 (stors ⟨rfl, rfl, trivial⟩) rfl) ?_;refine JO.s01 rfl rfl rfl (o_litB_own (t := tBetween) [(.tmp 31, _)] [(r7.1, r8.1)] rfl rfl sl54 (.cons trivial (.agg (.pair .int .int)) .nil) rfl rfl) ⟨rfl, trivial⟩ fun v9 => ?_;iterate 2 refine mq ?_
 obtain ⟨r10, er10, h⟩ := b_bind h;refine fr 1 ?_;refine kb (o_call [.tmp 34, .const (.int .i64 (4))] rfl rfl en10 rfl (kit_Lots_Upto_ok k (r8.2.1, r8.2.2.1, r8.2.2.2) b_a0 (4 : Int) r10 er10)) ?_;refine JO.s rfl (o_litB (t := (.int .i64)) [(.const (.int .i64 (1)), _), (.const (.int .i64 (2)), _), (.const (.int .i64 (4)), _), (.tmp 35, _)] [(1 : Int), (2 : Int), (4 : Int), r10.1] rfl rfl sl22 (.cons rfl .int (.cons rfl .int (.cons rfl .int (.cons rfl .int .nil)))) rfl rfl) ⟨rfl, rfl, rfl, rfl, trivial⟩ ?_;obtain ⟨r11, er11, h⟩ := b_bind h;refine kb (o_call [.tmp 33, .tmp 36] rfl rfl en14 rfl (kit_Lots_Of_ok k (r10.2.1, r10.2.2.1, r10.2.2.2) b_a0 [(1 : Int), (2 : Int), (4 : Int), r10.1] r11 er11)) ?_;refine fr 1 ?_;refine JO.one fun o12 => ?_;refine JO.s rfl (o_buildT [(0, .tmp 15, _), (1, .tmp 23, _), (2, .tmp 32, _), (4, .tmp 37, _)] rfl pl56 za56 alb56 (stors ⟨rfl, rfl, o12, rfl, trivial⟩) rfl) ⟨rfl, rfl, rfl, rfl, trivial⟩ ?_;refine JO.s01 rfl rfl rfl (o_alloc rfl za56 al56) trivial fun b13 => ?_;refine JO.n11 rfl rfl (o_store rfl sz56 trivial rfl rfl) ⟨rfl, rfl, trivial⟩ ?_;refine nt (JC.cutB (Z := Value) (α := (List Int) × Int × Int × (List dBetween)) (fun z15 x14 => [(0, Pt b_a0), (2, I a2), (3, I a3), (8, Pt b1), (10, Pt b13)]) (fun z15 x14 => [.obj b_a0 50 (.agg (.pair (Ri x14.1) (.pair (I x14.2.1) (.eq (.int .u64 x14.2.2.1))))), .obj b1 56 (.agg (.pair (I (0 : Int)) (.pair (I (0 : Int)) (.pair (.eq (.slice none 0 0)) (.pair (.eq (.slice none 0 0)) (I (0 : Int))))))), .obj b13 56 (.agg (.pair (I r2.1) (.pair (I r5.1) (.pair (.eq z15) (.pair (.eq (.slice none 0 0)) (I r11.1)))))), .sl z15 87 tBetween x14.2.2.2]) h (fun K h => ?_) (fun z15 x14 h => ?_))
 ·refine JC.cutB (Z := Unit) (α := (List Int) × Int × Int × Bool) (fun z17 x16 => [(0, Pt b_a0), (1, I a1), (2, I a2), (3, I a3), (8, Pt b1), (10, Pt b13), (44, .eq (.bool x16.2.2.2))]) (fun z17 x16 => [.obj b_a0 50 (.agg (.pair (Ri x16.1) (.pair (I x16.2.1) (.eq (.int .u64 x16.2.2.1))))), .obj b1 56 (.agg (.pair (I (0 : Int)) (.pair (I (0 : Int)) (.pair (.eq (.slice none 0 0)) (.pair (.eq (.slice none 0 0)) (I (0 : Int))))))), .obj b13 56 (.agg (.pair (I r2.1) (.pair (I r5.1) (.pair (.eq v9) (.pair (.eq (.slice none 0 0)) (I r11.1)))))), .sl v9 87 tBetween [(r7.1, r8.1)]]) h (fun K h => ?_) (fun z17 x16 h => ?_)
  ·refine JC.region (mq ?_);refine jb (o_gtr rfl) ?_;refine mq ?_;refine JO.bool (s := 41) rfl (fun hb => ?_) (fun hb => ?_)
   ·replace h := b_if (d_t hb) h;refine gm ?_;obtain ⟨r18, er18, h⟩ := b_bind h;refine fr 2 ?_;refine JO.g11 rfl rfl rfl rfl rfl rfl (o_call [.tmp 42, .const (.int .i64 (2))] rfl rfl en16 rfl (kit_Lots_Rare_ok k (r11.2.1, r11.2.2.1, r11.2.2.2) b_a0 (2 : Int) r18 er18)) ⟨rfl, rfl, trivial⟩ ?_;refine pt (nl ?_);exact jz ((), (r18.2.1, r18.2.2.1, r18.2.2.2, r18.1)) h [0, 3, 1, 2]
   ·replace h := b_ifn (d_f hb) h;iterate 2 refine gn ?_
    refine pf (nl ?_);exact jz ((), (r11.2.1, r11.2.2.1, r11.2.2.2, false)) h [2, 3, 0, 1]
  ·refine cv h (fun h => ?_) (fun h => ?_)
   ·refine sr ?_;iterate 2 refine mq ?_
    obtain ⟨x19, ex19, h⟩ := b_bind h;refine jb (o_sub rfl ex19) ?_;obtain ⟨r20, er20, h⟩ := b_bind h;refine kb (o_call [.tmp 45, .tmp 47] rfl rfl en10 rfl (kit_Lots_Upto_ok k (x16.1, x16.2.1, x16.2.2.1) b_a0 x19 r20 er20)) ?_;refine aq (nt ?_);refine JC.cutB (Z := Unit) (α := Int) (fun z22 x21 => [(0, Pt b_a0), (2, I a2), (3, I a3), (8, Pt b1), (10, Pt b13), (11, I x21)]) (fun z22 x21 => [.obj b_a0 50 (.agg (.pair (Ri r20.2.1) (.pair (I r20.2.2.1) (.eq (.int .u64 r20.2.2.2))))), .obj b1 56 (.agg (.pair (I (0 : Int)) (.pair (I (0 : Int)) (.pair (.eq (.slice none 0 0)) (.pair (.eq (.slice none 0 0)) (I (0 : Int))))))), .obj b13 56 (.agg (.pair (I r2.1) (.pair (I r5.1) (.pair (.eq v9) (.pair (.eq (.slice none 0 0)) (I r11.1)))))), .sl v9 87 tBetween [(r7.1, r8.1)]]) h (fun K h => ?_) (fun z22 x21 h => ?_)
    ·refine sr (mq ?_);refine fl fo56_2 ?_;refine fr 2 ?_;refine lo sz54 ?_;obtain ⟨x23, ex23, h⟩ := b_bind h;refine fr 3 ?_;refine kb (o_index_own (t := tBetween) rfl U54 sz87 ex23) ?_;refine ka (o_field_el rfl fo87_0 (geti_ne ex23)) ?_;refine ka (o_load_el (i := Int.toNat (0 : Int)) (off := 0) rfl sz3 (fun _ => rfl) rfl (geti_some ex23).2.2 rfl) ?_;refine jb (o_geq rfl) ?_;refine nt (ci h (fun h => ?_) (fun h => ?_))
     ·refine JC.region (mq ?_);obtain ⟨x24, ex24, h⟩ := b_bind h;refine jb (o_add rfl ex24) ?_;refine aq (nl ?_);exact jz ((), x24) h [2, 3, 1, 0]
     ·refine JC.skip (JN.then_n ?_);exact jz ((), r20.1) h [2, 3, 1, 0]
    ·refine JC.drawN ?_;refine da (o_field_obj rfl fo56_2) ?_;refine ea 2 (o_load_obj rfl sz54 nfs rfl) ?_;refine dm ?_;refine dm ?_;refine DN.s00 rfl rfl rfl (o_litB (t := (.int .i64)) [(.const (.int .i64 (1)), _), (.const (.int .i64 (2)), _), (.const (.int .i64 (-1)), _), (.const (.int .i64 (-4)), _), (.const (.int .i64 (4)), _)] [(1 : Int), (2 : Int), (-1 : Int), (-4 : Int), (4 : Int)] rfl rfl sl22 (.cons rfl .int (.cons rfl .int (.cons rfl .int (.cons rfl .int (.cons rfl .int .nil))))) rfl rfl) ⟨rfl, rfl, rfl, rfl, rfl, trivial⟩ ?_;obtain ⟨r25, er25, h⟩ := b_bind h;refine DN.sMod 0 rfl rfl rfl rfl (o_call [.tmp 61, .tmp 62] rfl rfl en14 rfl (kit_Lots_Of_ok k (r20.2.1, r20.2.2.1, r20.2.2.2) b_a0 [(1 : Int), (2 : Int), (-1 : Int), (-4 : Int), (4 : Int)] r25 er25)) ⟨rfl, rfl, trivial⟩ ?_;refine db (o_buildT [(0, .tmp 60, _), (1, .tmp 63, _)] rfl pl87 za87 alb87 (stors ⟨rfl, rfl, trivial⟩) rfl) ?_;refine da (o_litB (t := tBetween) [(.tmp 64, _)] [(x21, r25.1)] rfl rfl sl54 (.cons trivial (.agg (.pair .int .int)) .nil) rfl rfl) ?_;refine DN.finE (Δ' := [.obj b1 56 (.agg (.pair (I (0 : Int)) (.pair (I (0 : Int)) (.pair (.eq (.slice none 0 0)) (.pair (.eq (.slice none 0 0)) (I (0 : Int))))))), .obj b13 56 (.agg (.pair (I r2.1) (.pair (I r5.1) (.pair (.eq v9) (.pair (.eq (.slice none 0 0)) (I r11.1)))))), .sl v9 87 tBetween [(r7.1, r8.1)], .obj b_a0 50 (.agg (.pair (Ri r25.2.1) (.pair (I r25.2.2.1) (.eq (.int .u64 r25.2.2.2)))))]) (by kernel_rfl) mixed (by kernel_rfl) ?_;obtain ⟨u26, eu26, h⟩ := b_bind h;refine fr 2 ?_;refine JO.s1x rfl rfl rfl (o_append rfl rfl sl54 (chkP_some eu26)) ⟨rfl, rfl, trivial⟩ fun v27 => ?_;refine fl fo56_2 ?_;refine JO.one fun o28 => ?_;refine fr 2 ?_;refine JO.n11 rfl rfl (o_store rfl sz54 o28 rfl rfl) ⟨rfl, rfl, trivial⟩ ?_;refine nl ?_;exact jz (v27, (r25.2.1, r25.2.2.1, r25.2.2.2, [(r7.1, r8.1)] ++ [(x21, r25.1)])) h [3, 2, 0, 1]
   ·refine JC.skip (JN.then_n ?_);exact jz (v9, (x16.1, x16.2.1, x16.2.2.1, [(r7.1, r8.1)])) h [0, 1, 2, 3]
 ·refine JC.cutB (Z := Value) (α := (List Int) × (List Int) × Int × Int) (fun z30 x29 => [(8, Pt b1), (10, Pt b13)]) (fun z30 x29 => [.obj b1 56 (.agg (.pair (I (0 : Int)) (.pair (I (0 : Int)) (.pair (.eq (.slice none 0 0)) (.pair (.eq (.slice none 0 0)) (I (0 : Int))))))), .obj b13 56 (.agg (.pair (I r2.1) (.pair (I r5.1) (.pair (.eq z15) (.pair (.eq z30) (I r11.1)))))), .sl z15 87 tBetween x14.2.2.2, .sl z30 3 (.int .i64) x29.1, .obj b_a0 50 (.agg (.pair (Ri x29.2.1) (.pair (I x29.2.2.1) (.eq (.int .u64 x29.2.2.2)))))]) h (fun K h => ?_) (fun z30 x29 h => ?_)
  ·refine sr (mq ?_);obtain ⟨x31, ex31, h⟩ := b_bind h;refine jb (o_add rfl ex31) ?_;refine aq (nt (JC.block ?_));refine JC.se (SE.nil 3 (.int .i64)) ?_;refine JC.loopB (Z := Value) (α := (List Int) × Int × Int × (List Int) × Int) (fun z33 y32 => [(0, Pt b_a0), (2, I a2), (8, Pt b1), (10, Pt b13), (12, I y32.2.2.2.2)]) (fun z33 y32 => [.obj b_a0 50 (.agg (.pair (Ri y32.1) (.pair (I y32.2.1) (.eq (.int .u64 y32.2.2.1))))), .obj b1 56 (.agg (.pair (I (0 : Int)) (.pair (I (0 : Int)) (.pair (.eq (.slice none 0 0)) (.pair (.eq (.slice none 0 0)) (I (0 : Int))))))), .obj b13 56 (.agg (.pair (I r2.1) (.pair (I r5.1) (.pair (.eq z15) (.pair (.eq z33) (I r11.1)))))), .sl z15 87 tBetween x14.2.2.2, .sl z33 3 (.int .i64) y32.2.2.2.1]) (kit_SeamOf_l1 k a2) k (.slice none 0 0) (x14.1, x14.2.1, x14.2.2.1, ([] : (List Int)), x31) (fun _ => rfl) h (SE.fin [1, 2, 3, 4, 0] ⟨rfl, rfl, rfl, rfl, rfl, trivial⟩ rfl) (fun n z33 y32 h => ?_);unfold kit_SeamOf_l1 at h;refine JC.seq (sr ?_);iterate 2 refine mq ?_
   refine jb (o_lss rfl) ?_;refine nt (ci h (fun h => ?_) (fun h => ?_))
   ·refine sk (JC.cutB (Z := Value) (α := (List Int) × Int × Int × (List Int)) (fun z35 x34 => [(0, Pt b_a0), (2, I a2), (8, Pt b1), (10, Pt b13), (12, I y32.2.2.2.2)]) (fun z35 x34 => [.obj b_a0 50 (.agg (.pair (Ri x34.1) (.pair (I x34.2.1) (.eq (.int .u64 x34.2.2.1))))), .obj b1 56 (.agg (.pair (I (0 : Int)) (.pair (I (0 : Int)) (.pair (.eq (.slice none 0 0)) (.pair (.eq (.slice none 0 0)) (I (0 : Int))))))), .obj b13 56 (.agg (.pair (I r2.1) (.pair (I r5.1) (.pair (.eq z15) (.pair (.eq z35) (I r11.1)))))), .sl z15 87 tBetween x14.2.2.2, .sl z35 3 (.int .i64) x34.2.2.2]) h (fun K h => ?_) (fun z35 x34 h => ?_))
    ·refine JC.block (sr (mq ?_));obtain ⟨r36, er36, h⟩ := b_bind h;refine kb (o_call [.tmp 75, .const (.int .i64 (3))] rfl rfl en16 rfl (kit_Lots_Rare_ok k (y32.1, y32.2.1, y32.2.2.1) b_a0 (3 : Int) r36 er36)) ?_;refine nt (cv h (fun h => ?_) (fun h => ?_))
     ·refine JC.region (fl fo56_3 ?_);refine fr 2 ?_;refine lo sz22 ?_;refine mq ?_;refine ja (o_litB (t := (.int .i64)) [(.tmp 79, _)] [y32.2.2.2.2] rfl rfl sl22 (.cons rfl .int .nil) rfl rfl) ?_;obtain ⟨u37, eu37, h⟩ := b_bind h;refine fr 4 ?_;refine JO.s1x rfl rfl rfl (o_append rfl rfl sl22 (chkP_some eu37)) ⟨rfl, rfl, trivial⟩ fun v38 => ?_;refine fl fo56_3 ?_;refine JO.one fun o39 => ?_;refine fr 1 ?_;refine JO.n11 rfl rfl (o_store rfl sz22 o39 rfl rfl) ⟨rfl, rfl, trivial⟩ ?_;refine JO.nil (bn ?_);exact jz (v38, (r36.2.1, r36.2.2.1, r36.2.2.2, y32.2.2.2.1 ++ [y32.2.2.2.2])) h [2, 3, 0, 4, 1]
     ·refine JC.skip (bn ?_);exact jz (z33, (r36.2.1, r36.2.2.1, r36.2.2.2, y32.2.2.2.1)) h [0, 1, 2, 3, 4]
    ·refine JC.region (mq ?_);obtain ⟨x40, ex40, h⟩ := b_bind h;refine jb (o_add rfl ex40) ?_;refine aq (nl ?_);exact jz (z35, (x34.1, x34.2.1, x34.2.2.1, x34.2.2.2, x40)) h [0, 1, 2, 3, 4]
   ·refine xa ?_;exact jz (z33, (y32.2.2.2.1, y32.1, y32.2.1, y32.2.2.1)) h [1, 2, 3, 4, 0]
  ·refine sr (fr 1 ?_);refine fr 2 ?_;refine JO.se (SE.frzBoth (off := 2) [] trivial rfl rfl) ?_;refine fr 2 ?_;refine JO.se (SE.frzBoth (off := 3) [] trivial rfl rfl) ?_;refine lo sz56 ?_;refine fr 1 ?_;refine JO.n11 rfl rfl (o_store rfl sz56 trivial rfl rfl) ⟨rfl, rfl, trivial⟩ ?_;refine nt (JC.ret (JN.se (SE.objE (a := .agg (.pair (I r2.1) (.pair (I r5.1) (.pair (Rs tBetween x14.2.2.2) (.pair (Ri x29.1) (I r11.1)))))) (a' := .rep tSeam (r2.1, r5.1, x14.2.2.2, x29.1, r11.1)) (AE.ent (.agg (.pair .int (.pair .int (.pair .rep (.pair .rep .int))))))) ?_));refine JN.se (SE.fin (Γ' := [(8, _)]) [2, 0, 1] ⟨rfl, trivial⟩ rfl) ?_;cases h;exact JN.ret () [.rep tSeam (r2.1, r5.1, x14.2.2.2, x29.1, r11.1)] 1 ⟨⟨_, _, _, _, _, rfl, (.tail _ (.head _)), sz56, (nfn), rfl⟩, trivial⟩ rfl


def kit_CopyInts (k : Nat) (a0 : (List Int)) : Option (List Int) :=
 (chkP (okLen (List.length ([] : (List Int)) + List.length a0))).bind fun _ =>
 some (([] : (List Int)) ++ a0)

theorem kit_CopyInts_ok (k : Nat) (a0 : (List Int)) (r : (List Int)) (h : kit_CopyInts k a0 = some r) :
 Ctr Try.prog 48 [Ri a0] [] (fun z : Value => (resA [.eq z], [.sl z 3 (.int .i64) r])) := by
 unfold kit_CopyInts at h;replace h := b_top h;refine Ctr.of 6 Try.func48 rfl Try.ntmps48 rfl fun S w0 => ?_;refine sr (cq (nt (sr ?_)));refine JO.s01 rfl rfl rfl (o_litB_own (t := (.int .i64)) [] ([] : (List Int)) rfl rfl sl22 .nil rfl rfl) trivial fun v1 => ?_;refine mq ?_;obtain ⟨u2, eu2, h⟩ := b_bind h;refine JO.s1x rfl rfl rfl (o_append rfl rfl sl22 (chkP_some eu2)) ⟨rfl, rfl, trivial⟩ fun v3 => ?_;refine aq (nt (JC.ret ?_));cases h;exact JN.ret v3 [.eq v3] 1 ⟨rfl, trivial⟩ rfl


def kit_CopySeam (k : Nat) (a0 : dSeam) : Option dSeam :=
 (chkP (okLen (List.length ([] : (List dBetween)) + List.length a0.2.2.1))).bind fun _ =>
 (kit_CopyInts k a0.2.2.2.1).bind fun r6 =>
 some (a0.1, a0.2.1, ([] : (List dBetween)) ++ a0.2.2.1, r6, a0.2.2.2.2)

theorem kit_CopySeam_ok (k : Nat) (a0 : dSeam) (r : dSeam) (h : kit_CopySeam k a0 = some r) :
 Ctr Try.prog 32 [.rep tSeam a0] [] (fun z : Value × Value => (resA [.agg (.pair (I r.1) (.pair (I r.2.1) (.pair (.eq z.1) (.pair (.eq z.2) (I r.2.2.2.2)))))], [.sl z.1 87 tBetween r.2.2.1, .sl z.2 3 (.int .i64) r.2.2.2.1])) := by
 unfold kit_CopySeam at h;replace h := b_top h;refine Ctr.of 13 Try.func32 rfl Try.ntmps32 rfl fun S w0 => ?_;refine sr (bx fun b1 => ?_);refine JO.s01 rfl rfl rfl (o_alloc rfl za56 al56) trivial fun b2 => ?_;refine nt (JC.seq (JC.drawDW [[], [], [], [], [], [], [], [0, 1, 2, 3, 4, 5], [], [], []] [1, 2, 4, 5, 7, 0, 3, 6, 8, 9, 10] (by kernel_rfl) (by kernel_rfl) ?_));refine DW.t00 rfl rfl rfl (o_field_obj rfl fo56_2) ⟨rfl, trivial⟩ ?_;refine DW.t11 1 rfl rfl rfl rfl (o_load_obj rfl sz54 nfs rfl) ⟨rfl, trivial⟩ ?_;refine DW.t00 rfl rfl rfl (o_field_obj rfl fo56_3) ⟨rfl, trivial⟩ ?_;refine DW.t11 1 rfl rfl rfl rfl (o_load_obj rfl sz22 nfs rfl) ⟨rfl, trivial⟩ ?_;refine DW.t00 rfl rfl rfl (o_field_obj rfl fo56_2) ⟨rfl, trivial⟩ ?_;refine DW.tNew (fun v => [.sl v 87 tBetween ([] : (List dBetween))]) (fun _ => rfl) rfl rfl rfl (o_litB_own (t := tBetween) [] ([] : (List dBetween)) rfl rfl sl54 .nil rfl rfl) trivial ?_;refine DW.fin 6 [true, true, false, false, false, true] [6, 9] [1] [.obj b1 56 (.rep tSeam a0)] rfl (by kernel_rfl) (by kernel_rfl) (by kernel_rfl) mixed (fun vs hv hB => ?_);obtain ⟨w0, vs1, rfl, hv1⟩ := len_cons hv;obtain ⟨w1, vs2, rfl, hv2⟩ := len_cons hv1;obtain ⟨w2, vs3, rfl, hv3⟩ := len_cons hv2;obtain ⟨w3, vs4, rfl, hv4⟩ := len_cons hv3;obtain ⟨w4, vs5, rfl, hv5⟩ := len_cons hv4;obtain ⟨v3, vs6, rfl, hv6⟩ := len_cons hv5;obtain rfl := len_nil hv6;refine ⟨[1, 0, 2], [.obj b2 56 (.agg (.pair (I (0 : Int)) (.pair (I (0 : Int)) (.pair (.eq (.slice none 0 0)) (.pair (.eq (.slice none 0 0)) (I (0 : Int))))))), .sl v3 87 tBetween ([] : (List dBetween))], by kernel_rfl, by decide, ?_⟩;obtain ⟨u4, eu4, h⟩ := b_bind h;refine JT.front 1 rfl ?_;refine JT.y1x rfl rfl rfl rfl (o_append rfl rfl sl54 (chkP_some eu4)) ⟨rfl, rfl, trivial⟩ (by kernel_rfl) fun v5 => ?_;obtain ⟨r6, er6, h⟩ := b_bind h;refine JT.y01 rfl rfl rfl rfl (o_call [.tmp 8] rfl rfl en48 rfl (kit_CopyInts_ok k a0.2.2.2.1 r6 er6)) ⟨rfl, trivial⟩ (by kernel_rfl) fun v7 => ?_;refine JT.all (by kernel_rfl) ?_;refine fr 2 ?_;refine JO.one fun o8 => ?_;refine fr 1 ?_;refine JO.n11 rfl rfl (o_store rfl sz54 o8 rfl rfl) ⟨rfl, rfl, trivial⟩ ?_;refine fl fo56_3 ?_;refine fr 2 ?_;refine JO.one fun o9 => ?_;refine fr 1 ?_;refine JO.n11 rfl rfl (o_store rfl sz22 o9 rfl rfl) ⟨rfl, rfl, trivial⟩ ?_;refine nt (sr (lo sz56 ?_));refine fr 3 ?_;refine JO.n11 rfl rfl (o_store rfl sz56 trivial rfl rfl) ⟨rfl, rfl, trivial⟩ ?_;refine nt (JC.ret (JN.se (SE.objE (a := .agg (.pair (.rep (.int .i64) a0.1) (.pair (.rep (.int .i64) a0.2.1) (.pair (.eq v5) (.pair (.eq v7) (.rep (.int .i64) a0.2.2.2.2)))))) (a' := .agg (.pair (I a0.1) (.pair (I a0.2.1) (.pair (.eq v5) (.pair (.eq v7) (I a0.2.2.2.2)))))) (AE.agg (AE.pair AE.int (AE.pair AE.int (AE.pair AE.rfl (AE.pair AE.rfl AE.int)))))) ?_));refine JN.se (SE.fin (Γ' := [(2, _)]) [3, 2, 0, 1] ⟨rfl, trivial⟩ rfl) ?_;cases h;exact JN.ret (v5, v7) [.agg (.pair (I a0.1) (.pair (I a0.2.1) (.pair (.eq v5) (.pair (.eq v7) (I a0.2.2.2.2)))))] 2 ⟨⟨_, _, _, _, _, rfl, (.tail _ (.tail _ (.head _))), sz56, (nfn), rfl⟩, trivial⟩ rfl


def kit_CopySeamF (k : Nat) (a0 : dSeam) : Option dSeam :=
 (chkP (okLen (List.length ([] : (List dBetween)) + List.length a0.2.2.1))).bind fun _ =>
 (kit_CopyInts k a0.2.2.2.1).bind fun r6 =>
 some (a0.1, a0.2.1, ([] : (List dBetween)) ++ a0.2.2.1, r6, a0.2.2.2.2)

theorem kit_CopySeamF_ok (k : Nat) (a0 : dSeam) (r : dSeam) (h : kit_CopySeamF k a0 = some r) :
 Ctr Try.prog 32 [.rep tSeam a0] [] (fun _ : Unit => (resA [.rep tSeam r], [])) := by
 unfold kit_CopySeamF at h;replace h := b_top h;refine Ctr.of 13 Try.func32 rfl Try.ntmps32 rfl fun S w0 => ?_;refine sr (bx fun b1 => ?_);refine JO.s01 rfl rfl rfl (o_alloc rfl za56 al56) trivial fun b2 => ?_;refine nt (JC.seq (JC.drawDW [[], [], [], [], [], [], [], [0, 1, 2, 3, 4, 5], [], [], []] [1, 2, 4, 5, 7, 0, 3, 6, 8, 9, 10] (by kernel_rfl) (by kernel_rfl) ?_));refine DW.t00 rfl rfl rfl (o_field_obj rfl fo56_2) ⟨rfl, trivial⟩ ?_;refine DW.t11 1 rfl rfl rfl rfl (o_load_obj rfl sz54 nfs rfl) ⟨rfl, trivial⟩ ?_;refine DW.t00 rfl rfl rfl (o_field_obj rfl fo56_3) ⟨rfl, trivial⟩ ?_;refine DW.t11 1 rfl rfl rfl rfl (o_load_obj rfl sz22 nfs rfl) ⟨rfl, trivial⟩ ?_;refine DW.t00 rfl rfl rfl (o_field_obj rfl fo56_2) ⟨rfl, trivial⟩ ?_;refine DW.tNew (fun v => [.sl v 87 tBetween ([] : (List dBetween))]) (fun _ => rfl) rfl rfl rfl (o_litB_own (t := tBetween) [] ([] : (List dBetween)) rfl rfl sl54 .nil rfl rfl) trivial ?_;refine DW.fin 6 [true, true, false, false, false, true] [6, 9] [1] [.obj b1 56 (.rep tSeam a0)] rfl (by kernel_rfl) (by kernel_rfl) (by kernel_rfl) mixed (fun vs hv hB => ?_);obtain ⟨w0, vs1, rfl, hv1⟩ := len_cons hv;obtain ⟨w1, vs2, rfl, hv2⟩ := len_cons hv1;obtain ⟨w2, vs3, rfl, hv3⟩ := len_cons hv2;obtain ⟨w3, vs4, rfl, hv4⟩ := len_cons hv3;obtain ⟨w4, vs5, rfl, hv5⟩ := len_cons hv4;obtain ⟨v3, vs6, rfl, hv6⟩ := len_cons hv5;obtain rfl := len_nil hv6;refine ⟨[1, 0, 2], [.obj b2 56 (.agg (.pair (I (0 : Int)) (.pair (I (0 : Int)) (.pair (.eq (.slice none 0 0)) (.pair (.eq (.slice none 0 0)) (I (0 : Int))))))), .sl v3 87 tBetween ([] : (List dBetween))], by kernel_rfl, by decide, ?_⟩;obtain ⟨u4, eu4, h⟩ := b_bind h;refine JT.front 1 rfl ?_;refine JT.y1x rfl rfl rfl rfl (o_append rfl rfl sl54 (chkP_some eu4)) ⟨rfl, rfl, trivial⟩ (by kernel_rfl) fun v5 => ?_;obtain ⟨r6, er6, h⟩ := b_bind h;refine JT.y00 rfl rfl rfl rfl (OpT.frz (o_call [.tmp 8] rfl rfl en48 rfl (kit_CopyInts_ok k a0.2.2.2.1 r6 er6))) ⟨rfl, trivial⟩ (by kernel_rfl) ?_;refine JT.all (by kernel_rfl) ?_;refine fr 1 ?_;refine JO.one fun o7 => ?_;refine fr 1 ?_;refine JO.n11 rfl rfl (o_store rfl sz54 o7 rfl rfl) ⟨rfl, rfl, trivial⟩ ?_;refine fl fo56_3 ?_;refine JO.n11 rfl rfl (o_store rfl sz22 rfl rfl rfl) ⟨rfl, rfl, trivial⟩ ?_;refine nt (sr (fr 1 ?_));refine JO.se (SE.frzBoth (off := 2) [6] ⟨rfl, trivial⟩ rfl rfl) ?_;refine lo sz56 ?_;refine fr 1 ?_;refine JO.n11 rfl rfl (o_store rfl sz56 trivial rfl rfl) ⟨rfl, rfl, trivial⟩ ?_;refine nt (JC.ret (JN.se (SE.objE (a := .agg (.pair (.rep (.int .i64) a0.1) (.pair (.rep (.int .i64) a0.2.1) (.pair (Rs tBetween (([] : (List dBetween)) ++ a0.2.2.1)) (.pair (Ri r6) (.rep (.int .i64) a0.2.2.2.2)))))) (a' := .rep tSeam (a0.1, a0.2.1, ([] : (List dBetween)) ++ a0.2.2.1, r6, a0.2.2.2.2)) (AE.ent (.agg (.pair .rep (.pair .rep (.pair .rep (.pair .rep .rep))))))) ?_));cases h;exact JN.ret () [.rep tSeam (a0.1, a0.2.1, ([] : (List dBetween)) ++ a0.2.2.1, r6, a0.2.2.2.2)] 0 ⟨⟨_, _, _, _, _, rfl, (.head _), sz56, (nfn), rfl⟩, trivial⟩ rfl


def kit_CopyBetweens (k : Nat) (a0 : (List dBetween)) : Option (List dBetween) :=
 (chkP (okLen (List.length ([] : (List dBetween)) + List.length a0))).bind fun _ =>
 some (([] : (List dBetween)) ++ a0)

theorem kit_CopyBetweens_ok (k : Nat) (a0 : (List dBetween)) (r : (List dBetween)) (h : kit_CopyBetweens k a0 = some r) :
 Ctr Try.prog 49 [Rs tBetween a0] [] (fun _ : Unit => (resA [Rs tBetween r], [])) := by
 unfold kit_CopyBetweens at h;replace h := b_top h;refine Ctr.of 6 Try.func49 rfl Try.ntmps49 rfl fun S w0 => ?_;refine sr (cq (nt (sr ?_)));refine JO.s01 rfl rfl rfl (o_litB_own (t := tBetween) [] ([] : (List dBetween)) rfl rfl sl25 .nil rfl rfl) trivial fun v1 => ?_;refine mq ?_;obtain ⟨u2, eu2, h⟩ := b_bind h;refine JO.s1x rfl rfl rfl (o_append rfl rfl sl25 (chkP_some eu2)) ⟨rfl, rfl, trivial⟩ fun v3 => ?_;refine aq (nt (JC.ret ?_));refine JN.se (SE.frz [2, 5] ⟨rfl, rfl, trivial⟩) ?_;cases h;exact ra


def kit_CopyCostume_l1 (k : Nat) (a0 : dCostume) : Nat → ((List dSeam) × Int) → Option (List dSeam)
 | 0, _ => none
 | n + 1, y10 =>
  if y10.2 < (a0.2.2.2.1.length : Int) then ((geti a0.2.2.2.1 y10.2).bind fun x12 =>
  (kit_CopySeamF k x12).bind fun r13 =>
  (chkP (okLen (List.length y10.1 + List.length [r13]))).bind fun _ =>
  (ck (y10.2 + (1 : Int))).bind fun x17 =>
  kit_CopyCostume_l1 k a0 n (y10.1 ++ [r13], x17)) else (some y10.1)
def kit_CopyCostume (k : Nat) (a0 : dCostume) : Option dCostume :=
 (kit_CopyInts k a0.1).bind fun r3 =>
 (kit_CopyBetweens k a0.2.1).bind fun r4 =>
 (kit_CopyInts k a0.2.2.1).bind fun r5 =>
 (kit_CopyInts k a0.2.2.2.2).bind fun r6 =>
 ((kit_CopyCostume_l1 k a0 k (([] : (List dSeam)), (0 : Int))) : Option ((List dSeam))).bind fun x8 =>
 some (r3, r4, r5, x8, r6)

theorem kit_CopyCostume_ok (k : Nat) (a0 : dCostume) (r : dCostume) (h : kit_CopyCostume k a0 = some r) :
 Ctr Try.prog 31 [.rep tCostume a0] [] (fun z : Value => (resA [.agg (.pair (Ri r.1) (.pair (Rs tBetween r.2.1) (.pair (Ri r.2.2.1) (.pair (.eq z) (Ri r.2.2.2.2)))))], [.sl z 56 tSeam r.2.2.2.1])) := by
 unfold kit_CopyCostume at h;replace h := b_top h;refine Ctr.of 37 Try.func31 rfl Try.ntmps31 rfl fun S w0 => ?_;refine sr (bx fun b1 => ?_);refine JO.s01 rfl rfl rfl (o_alloc rfl za28 al28) trivial fun b2 => ?_;refine nt (JC.seq (JC.drawW ?_));refine DW.t00 rfl rfl rfl (o_field_obj rfl fo28_0) ⟨rfl, trivial⟩ ?_;refine DW.t11 1 rfl rfl rfl rfl (o_load_obj rfl sz22 nfs rfl) ⟨rfl, trivial⟩ ?_;obtain ⟨r3, er3, h⟩ := b_bind h;refine DW.t00 rfl rfl rfl (OpT.frz (o_call [.tmp 6] rfl rfl en48 rfl (kit_CopyInts_ok k a0.1 r3 er3))) ⟨rfl, trivial⟩ ?_;refine DW.t00 rfl rfl rfl (o_field_obj rfl fo28_1) ⟨rfl, trivial⟩ ?_;refine DW.t11 1 rfl rfl rfl rfl (o_load_obj rfl sz25 nfs rfl) ⟨rfl, trivial⟩ ?_;obtain ⟨r4, er4, h⟩ := b_bind h;refine DW.t00 rfl rfl rfl (o_call [.tmp 9] rfl rfl en49 rfl (kit_CopyBetweens_ok k a0.2.1 r4 er4)) ⟨rfl, trivial⟩ ?_;refine DW.t00 rfl rfl rfl (o_field_obj rfl fo28_2) ⟨rfl, trivial⟩ ?_;refine DW.t11 1 rfl rfl rfl rfl (o_load_obj rfl sz22 nfs rfl) ⟨rfl, trivial⟩ ?_;obtain ⟨r5, er5, h⟩ := b_bind h;refine DW.t00 rfl rfl rfl (OpT.frz (o_call [.tmp 12] rfl rfl en48 rfl (kit_CopyInts_ok k a0.2.2.1 r5 er5))) ⟨rfl, trivial⟩ ?_;refine DW.t00 rfl rfl rfl (o_field_obj rfl fo28_4) ⟨rfl, trivial⟩ ?_;refine DW.t11 1 rfl rfl rfl rfl (o_load_obj rfl sz22 nfs rfl) ⟨rfl, trivial⟩ ?_;obtain ⟨r6, er6, h⟩ := b_bind h;refine DW.t00 rfl rfl rfl (OpT.frz (o_call [.tmp 15] rfl rfl en48 rfl (kit_CopyInts_ok k a0.2.2.2.2 r6 er6))) ⟨rfl, trivial⟩ ?_;refine DW.t00 rfl rfl rfl (o_buildT [(0, .tmp 7, _), (1, .tmp 10, _), (2, .tmp 13, _), (4, .tmp 16, _)] rfl pl28 za28 alb28 (stors ⟨rfl, rfl, rfl, rfl, trivial⟩) rfl) ⟨rfl, rfl, rfl, rfl, trivial⟩ ?_;refine DW.tNew (ptrD 28 (.agg (.pair (.eq (.slice none 0 0)) (.pair (.eq (.slice none 0 0)) (.pair (.eq (.slice none 0 0)) (.pair (.eq (.slice none 0 0)) (.eq (.slice none 0 0)))))))) (fun _ => rfl) rfl rfl rfl (o_alloc rfl za28 al28) trivial ?_;refine DW.fin 14 [true, true, true, true, true, true, true, true, true, true, true, true, true, true] [] [] [] rfl (by kernel_rfl) (by kernel_rfl) (by kernel_rfl) mixed (fun vs hv hB => ?_);obtain ⟨w0, vs1, rfl, hv1⟩ := len_cons hv;obtain ⟨w1, vs2, rfl, hv2⟩ := len_cons hv1;obtain ⟨w2, vs3, rfl, hv3⟩ := len_cons hv2;obtain ⟨w3, vs4, rfl, hv4⟩ := len_cons hv3;obtain ⟨w4, vs5, rfl, hv5⟩ := len_cons hv4;obtain ⟨w5, vs6, rfl, hv6⟩ := len_cons hv5;obtain ⟨w6, vs7, rfl, hv7⟩ := len_cons hv6;obtain ⟨w7, vs8, rfl, hv8⟩ := len_cons hv7;obtain ⟨w8, vs9, rfl, hv9⟩ := len_cons hv8;obtain ⟨w9, vs10, rfl, hv10⟩ := len_cons hv9;obtain ⟨w10, vs11, rfl, hv11⟩ := len_cons hv10;obtain ⟨w11, vs12, rfl, hv12⟩ := len_cons hv11;obtain ⟨w12, vs13, rfl, hv13⟩ := len_cons hv12;obtain ⟨w13, vs14, rfl, hv14⟩ := len_cons hv13;obtain rfl := len_nil hv14;obtain ⟨b7, rfl⟩ := ptr_of hB.2.2.2.2.2.2.2.2.2.2.2.2.2.1;refine ⟨[0, 1, 2], [.obj b2 28 (.agg (.pair (.eq (.slice none 0 0)) (.pair (.eq (.slice none 0 0)) (.pair (.eq (.slice none 0 0)) (.pair (.eq (.slice none 0 0)) (.eq (.slice none 0 0))))))), .obj b1 28 (.rep tCostume a0), .obj b7 28 (.agg (.pair (.eq (.slice none 0 0)) (.pair (.eq (.slice none 0 0)) (.pair (.eq (.slice none 0 0)) (.pair (.eq (.slice none 0 0)) (.eq (.slice none 0 0)))))))], by kernel_rfl, by decide, ?_⟩;refine JT.front 2 rfl ?_;refine JT.n11 rfl rfl (o_store rfl sz28 trivial rfl rfl) ⟨rfl, rfl, trivial⟩ (by kernel_rfl) ?_;refine JT.nil ?_;refine JN.se (SE.fin (Γ' := [(1, Pt b1), (2, Pt b2), (3, Pt b7)]) (Δ' := [.obj b7 28 (.agg (.pair (Ri r3) (.pair (Rs tBetween r4) (.pair (Ri r5) (.pair (.eq (.slice none 0 0)) (Ri r6)))))), .obj b2 28 (.agg (.pair (.eq (.slice none 0 0)) (.pair (.eq (.slice none 0 0)) (.pair (.eq (.slice none 0 0)) (.pair (.eq (.slice none 0 0)) (.eq (.slice none 0 0))))))), .obj b1 28 (.rep tCostume a0)]) [0, 1, 2] ⟨rfl, rfl, rfl, trivial⟩ rfl) ?_
 refine tn (JC.cutB (Z := Value) (α := (List dSeam)) (fun z9 x8 => [(2, Pt b2), (3, Pt b7)]) (fun z9 x8 => [.obj b2 28 (.agg (.pair (.eq (.slice none 0 0)) (.pair (.eq (.slice none 0 0)) (.pair (.eq (.slice none 0 0)) (.pair (.eq (.slice none 0 0)) (.eq (.slice none 0 0))))))), .obj b7 28 (.agg (.pair (Ri r3) (.pair (Rs tBetween r4) (.pair (Ri r5) (.pair (.eq z9) (Ri r6)))))), .sl z9 56 tSeam x8]) h (fun K h => ?_) (fun z9 x8 h => ?_))
 ·refine sr (cq (nt (JC.block ?_)));refine JC.se (SE.nil 56 tSeam) ?_;refine JC.loopB (Z := Value) (α := (List dSeam) × Int) (fun z11 y10 => [(1, Pt b1), (2, Pt b2), (3, Pt b7), (4, I y10.2)]) (fun z11 y10 => [.obj b1 28 (.rep tCostume a0), .obj b2 28 (.agg (.pair (.eq (.slice none 0 0)) (.pair (.eq (.slice none 0 0)) (.pair (.eq (.slice none 0 0)) (.pair (.eq (.slice none 0 0)) (.eq (.slice none 0 0))))))), .obj b7 28 (.agg (.pair (Ri r3) (.pair (Rs tBetween r4) (.pair (Ri r5) (.pair (.eq z11) (Ri r6)))))), .sl z11 56 tSeam y10.1]) (kit_CopyCostume_l1 k a0) k (.slice none 0 0) (([] : (List dSeam)), (0 : Int)) (fun _ => rfl) h (SE.fin [3, 2, 1, 0] ⟨rfl, rfl, rfl, rfl, trivial⟩ rfl) (fun n z11 y10 h => ?_);unfold kit_CopyCostume_l1 at h;refine JC.seq (sr (mq ?_));refine fl fo28_3 ?_;refine lo sz26 ?_;refine ol U26 ?_;refine jb (o_lss rfl) ?_;refine nt (ci h (fun h => ?_) (fun h => ?_))
  ·refine sk (JC.seq (JC.block (JC.drawN ?_)));refine da (o_field_obj rfl fo28_3) ?_;refine ea 2 (o_load_obj rfl sz26 nfs rfl) ?_;refine da (o_field_obj rfl fo28_3) ?_;refine ea 0 (o_load_obj rfl sz26 nfs rfl) ?_;refine dm ?_;obtain ⟨x12, ex12, h⟩ := b_bind h;refine db (o_index (t := tSeam) rfl U26 sz56 ex12) ?_;refine da (o_load_at (t := tSeam) rfl sz56 rfl) ?_;obtain ⟨r13, er13, h⟩ := b_bind h;refine da (o_call [.tmp 31] rfl rfl en32 rfl (kit_CopySeamF_ok k x12 r13 er13)) ?_;refine da (o_litB (t := tSeam) [(.tmp 32, _)] [r13] rfl rfl sl26 (.cons rfl .rep .nil) rfl rfl) ?_;refine df mixed ?_;obtain ⟨u14, eu14, h⟩ := b_bind h;refine fr 3 ?_;refine JO.s1x rfl rfl rfl (o_append rfl rfl sl26 (chkP_some eu14)) ⟨rfl, rfl, trivial⟩ fun v15 => ?_;refine fl fo28_3 ?_;refine JO.one fun o16 => ?_;refine fr 3 ?_;refine JO.n11 rfl rfl (o_store rfl sz26 o16 rfl rfl) ⟨rfl, rfl, trivial⟩ ?_;refine JO.nil (JN.blk_n (tn (JC.region (mq ?_))));obtain ⟨x17, ex17, h⟩ := b_bind h;refine jb (o_add rfl ex17) ?_;refine aq (nl ?_);exact jz (v15, (y10.1 ++ [r13], x17)) h [2, 3, 0, 1]
  ·refine xa ?_;exact jz (z11, y10.1) h [1, 2, 3]
 ·refine sr (fr 1 ?_);refine lo sz28 ?_;refine fr 1 ?_;refine JO.n11 rfl rfl (o_store rfl sz28 trivial rfl rfl) ⟨rfl, rfl, trivial⟩ ?_;refine nt (JC.ret (JN.se (SE.fin (Γ' := [(2, _)]) [2, 0, 1] ⟨rfl, trivial⟩ rfl) ?_));cases h;exact JN.ret z9 [.agg (.pair (Ri r3) (.pair (Rs tBetween r4) (.pair (Ri r5) (.pair (.eq z9) (Ri r6)))))] 1 ⟨⟨_, _, _, _, _, rfl, (.tail _ (.head _)), sz28, (nfn), rfl⟩, trivial⟩ rfl


def kit_Mirrored_l2 (k : Nat) (a0 : dCostume) (r3 : dCostume) (y8 : (List dSeam) × Int) : Nat → ((List Int) × Int) → Option (List Int)
 | 0, _ => none
 | n + 1, y20 =>
  if y20.2 < (y20.1.length : Int) then ((ck ((r3.2.2.2.1.length : Int) - (1 : Int))).bind fun x22 =>
  (ck ((r3.2.2.2.1.length : Int) - (1 : Int))).bind fun x23 =>
  (ck (x23 - y8.2)).bind fun x24 =>
  (geti a0.2.2.2.1 x24).bind fun x25 =>
  (ck ((y20.1.length : Int) - (1 : Int))).bind fun x26 =>
  (ck (x26 - y20.2)).bind fun x27 =>
  (geti x25.2.2.2.1 x27).bind fun x28 =>
  (ck (x22 - x28)).bind fun x29 =>
  (geti y20.1 y20.2).bind fun x30 =>
  (ck (y20.2 + (1 : Int))).bind fun x31 =>
  kit_Mirrored_l2 k a0 r3 y8 n (List.set y20.1 (Int.toNat y20.2) x29, x31)) else (some y20.1)

def kit_Mirrored_l1 (k : Nat) (a0 : dCostume) (r3 : dCostume) : Nat → ((List dSeam) × Int) → Option (List dSeam)
 | 0, _ => none
 | n + 1, y8 =>
  if y8.2 < (r3.2.2.2.1.length : Int) then ((((ck ((r3.2.2.2.1.length : Int) - (1 : Int))).bind fun x12 =>
  (ck (x12 - y8.2)).bind fun x13 =>
  (geti a0.2.2.2.1 x13).bind fun x14 =>
  (kit_CopySeam k x14).bind fun r15 =>
  ((kit_Mirrored_l2 k a0 r3 y8 k (r15.2.2.2.1, (0 : Int))) : Option ((List Int))).bind fun x18 =>
  (geti y8.1 y8.2).bind fun x32 =>
  some (List.set y8.1 (Int.toNat y8.2) (r15.1, r15.2.1, r15.2.2.1, x18, r15.2.2.2.2))) : Option ((List dSeam))).bind fun x10 =>
  (ck (y8.2 + (1 : Int))).bind fun x33 =>
  kit_Mirrored_l1 k a0 r3 n (x10, x33)) else (some y8.1)

def kit_Mirrored_l3 (k : Nat) (r3 : dCostume) : Nat → Unit → Option Unit
 | 0, _ => none
 | n + 1, y36 =>
  if (0 : Int) < (r3.2.2.2.2.length : Int) then (none) else (some ())
def kit_Mirrored (k : Nat) (a0 : dCostume) : Option dCostume :=
 (kit_CopyCostume k a0).bind fun r3 =>
 ((kit_Mirrored_l1 k a0 r3 k (r3.2.2.2.1, (0 : Int))) : Option ((List dSeam))).bind fun x6 =>
 ((kit_Mirrored_l3 k r3 k ()) : Option (Unit)).bind fun _ =>
 some (r3.1, r3.2.1, r3.2.2.1, x6, r3.2.2.2.2)

theorem kit_Mirrored_ok (k : Nat) (a0 : dCostume) (r : dCostume) (h : kit_Mirrored k a0 = some r) :
 Ctr Try.prog 17 [.rep tCostume a0] [] (fun _ : Unit => (resA [.rep tCostume r], [])) := by
 unfold kit_Mirrored at h;replace h := b_top h;refine Ctr.of 86 Try.func17 rfl Try.ntmps17 rfl fun S w0 => ?_;refine sr (bx fun b1 => ?_);refine JO.s01 rfl rfl rfl (o_alloc rfl za28 al28) trivial fun b2 => ?_;refine nt (sr (fr 1 ?_));refine lo sz28 ?_;obtain ⟨r3, er3, h⟩ := b_bind h;refine JO.s01 rfl rfl rfl (o_call [.tmp 9] rfl rfl en31 rfl (kit_CopyCostume_ok k a0 r3 er3)) ⟨rfl, trivial⟩ fun v4 => ?_;refine JO.s01 rfl rfl rfl (o_alloc rfl za28 al28) trivial fun b5 => ?_;refine JO.n11 rfl rfl (o_store rfl sz28 trivial rfl rfl) ⟨rfl, rfl, trivial⟩ ?_;refine nt (sr (fl fo28_3 ?_));refine lo sz26 ?_;refine fr 1 ?_;refine ka (o_len_own rfl rfl U26) ?_;refine aq (nt ?_);refine JC.cutB (Z := Unit) (α := (List dSeam)) (fun z7 x6 => [(1, Pt b1), (2, Pt b2), (3, Pt b5)]) (fun z7 x6 => [.obj b1 28 (.rep tCostume a0), .obj b2 28 (.agg (.pair (.eq (.slice none 0 0)) (.pair (.eq (.slice none 0 0)) (.pair (.eq (.slice none 0 0)) (.pair (.eq (.slice none 0 0)) (.eq (.slice none 0 0))))))), .obj b5 28 (.agg (.pair (Ri r3.1) (.pair (Rs tBetween r3.2.1) (.pair (Ri r3.2.2.1) (.pair (.eq v4) (Ri r3.2.2.2.2)))))), .sl v4 56 tSeam x6]) h (fun K h => ?_) (fun z7 x6 h => ?_)
 ·refine sr (cq (nt (JC.block ?_)));refine JC.loopB (Z := Unit) (α := (List dSeam) × Int) (fun z9 y8 => [(1, Pt b1), (2, Pt b2), (3, Pt b5), (4, I (r3.2.2.2.1.length : Int)), (5, I y8.2)]) (fun z9 y8 => [.obj b1 28 (.rep tCostume a0), .obj b2 28 (.agg (.pair (.eq (.slice none 0 0)) (.pair (.eq (.slice none 0 0)) (.pair (.eq (.slice none 0 0)) (.pair (.eq (.slice none 0 0)) (.eq (.slice none 0 0))))))), .obj b5 28 (.agg (.pair (Ri r3.1) (.pair (Rs tBetween r3.2.1) (.pair (Ri r3.2.2.1) (.pair (.eq v4) (Ri r3.2.2.2.2)))))), .sl v4 56 tSeam y8.1]) (kit_Mirrored_l1 k a0 r3) k () (r3.2.2.2.1, (0 : Int)) (fun _ => rfl) h (SE.fin [2, 3, 1, 0] ⟨rfl, rfl, rfl, rfl, rfl, trivial⟩ rfl) (fun n z9 y8 h => ?_);unfold kit_Mirrored_l1 at h;refine JC.seq (sr ?_);iterate 2 refine mq ?_
  refine jb (o_lss rfl) ?_;refine nt (ci h (fun h => ?_) (fun h => ?_))
  ·refine sk (JC.cutB (Z := Unit) (α := (List dSeam)) (fun z11 x10 => [(1, Pt b1), (2, Pt b2), (3, Pt b5), (4, I (r3.2.2.2.1.length : Int)), (5, I y8.2)]) (fun z11 x10 => [.obj b1 28 (.rep tCostume a0), .obj b2 28 (.agg (.pair (.eq (.slice none 0 0)) (.pair (.eq (.slice none 0 0)) (.pair (.eq (.slice none 0 0)) (.pair (.eq (.slice none 0 0)) (.eq (.slice none 0 0))))))), .obj b5 28 (.agg (.pair (Ri r3.1) (.pair (Rs tBetween r3.2.1) (.pair (Ri r3.2.2.1) (.pair (.eq v4) (Ri r3.2.2.2.2)))))), .sl v4 56 tSeam x10]) h (fun K h => ?_) (fun z11 x10 h => ?_))
   ·refine JC.block (sr (fl fo28_3 ?_));refine lo sz26 ?_;refine mq ?_;obtain ⟨x12, ex12, h⟩ := b_bind h;refine jb (o_sub rfl ex12) ?_;refine mq ?_;obtain ⟨x13, ex13, h⟩ := b_bind h;refine jb (o_sub rfl ex13) ?_;obtain ⟨x14, ex14, h⟩ := b_bind h;refine jb (o_index (t := tSeam) rfl U26 sz56 ex14) ?_;refine ja (o_load_at (t := tSeam) rfl sz56 rfl) ?_;obtain ⟨r15, er15, h⟩ := b_bind h;refine JO.stepG (Δ := []) (F := _) (fun _ _ _ => wanted_none rfl _) rfl rfl (o_call [.tmp 26] rfl rfl en32 rfl (kit_CopySeam_ok k x14 r15 er15)) ⟨rfl, trivial⟩ fun z16 => ?_;refine JO.s01 rfl rfl rfl (o_alloc rfl za56 al56) trivial fun b17 => ?_;refine JO.n11 rfl rfl (o_store rfl sz56 trivial rfl rfl) ⟨rfl, rfl, trivial⟩ ?_;refine nt (JC.cutB (Z := Unit) (α := (List Int)) (fun z19 x18 => [(1, Pt b1), (2, Pt b2), (3, Pt b5), (4, I (r3.2.2.2.1.length : Int)), (5, I y8.2), (6, Pt b17)]) (fun z19 x18 => [.obj b1 28 (.rep tCostume a0), .obj b2 28 (.agg (.pair (.eq (.slice none 0 0)) (.pair (.eq (.slice none 0 0)) (.pair (.eq (.slice none 0 0)) (.pair (.eq (.slice none 0 0)) (.eq (.slice none 0 0))))))), .obj b5 28 (.agg (.pair (Ri r3.1) (.pair (Rs tBetween r3.2.1) (.pair (Ri r3.2.2.1) (.pair (.eq v4) (Ri r3.2.2.2.2)))))), .sl v4 56 tSeam y8.1, .obj b17 56 (.agg (.pair (I r15.1) (.pair (I r15.2.1) (.pair (.eq z16.1) (.pair (.eq z16.2) (I r15.2.2.2.2)))))), .sl z16.1 87 tBetween r15.2.2.1, .sl z16.2 3 (.int .i64) x18]) h (fun K h => ?_) (fun z19 x18 h => ?_))
    ·refine sr (cq (nt (JC.block ?_)));refine JC.loopB (Z := Unit) (α := (List Int) × Int) (fun z21 y20 => [(1, Pt b1), (2, Pt b2), (3, Pt b5), (4, I (r3.2.2.2.1.length : Int)), (5, I y8.2), (6, Pt b17), (7, I y20.2)]) (fun z21 y20 => [.obj b1 28 (.rep tCostume a0), .obj b2 28 (.agg (.pair (.eq (.slice none 0 0)) (.pair (.eq (.slice none 0 0)) (.pair (.eq (.slice none 0 0)) (.pair (.eq (.slice none 0 0)) (.eq (.slice none 0 0))))))), .obj b5 28 (.agg (.pair (Ri r3.1) (.pair (Rs tBetween r3.2.1) (.pair (Ri r3.2.2.1) (.pair (.eq v4) (Ri r3.2.2.2.2)))))), .sl v4 56 tSeam y8.1, .obj b17 56 (.agg (.pair (I r15.1) (.pair (I r15.2.1) (.pair (.eq z16.1) (.pair (.eq z16.2) (I r15.2.2.2.2)))))), .sl z16.1 87 tBetween r15.2.2.1, .sl z16.2 3 (.int .i64) y20.1]) (kit_Mirrored_l2 k a0 r3 y8) k () (r15.2.2.2.1, (0 : Int)) (fun _ => rfl) h (SE.fin [3, 4, 5, 6, 0, 1, 2] ⟨rfl, rfl, rfl, rfl, rfl, rfl, rfl, trivial⟩ rfl) (fun n z21 y20 h => ?_);unfold kit_Mirrored_l2 at h;refine JC.seq (sr (mq ?_));refine fl fo56_3 ?_;refine fr 4 ?_;refine lo sz22 ?_;refine fr 6 ?_;refine ka (o_len_own rfl rfl U22) ?_;refine jb (o_lss rfl) ?_;refine nt (ci h (fun h => ?_) (fun h => ?_))
     ·refine sk (JC.seq (JC.block (JC.drawN ?_)));refine da (o_field_obj rfl fo56_3) ?_;refine ea 1 (o_load_obj rfl sz22 nfs rfl) ?_;refine dm ?_;refine dm ?_;obtain ⟨x22, ex22, h⟩ := b_bind h;refine db (o_sub rfl ex22) ?_;refine da (o_field_obj rfl fo28_3) ?_;refine ea 2 (o_load_obj rfl sz26 nfs rfl) ?_;refine dm ?_;obtain ⟨x23, ex23, h⟩ := b_bind h;refine db (o_sub rfl ex23) ?_;refine dm ?_;obtain ⟨x24, ex24, h⟩ := b_bind h;refine db (o_sub rfl ex24) ?_;obtain ⟨x25, ex25, h⟩ := b_bind h;refine db (o_index (t := tSeam) rfl U26 sz56 ex25) ?_;refine da (o_field_at 1 false rfl fo56_3 rfl) ?_;refine da (o_load_at (t := (.slice (.int .i64))) rfl sz22 rfl) ?_;refine da (o_field_obj rfl fo56_3) ?_;refine ea 1 (o_load_obj rfl sz22 nfs rfl) ?_;refine ea 0 (o_len_own rfl rfl U22) ?_;obtain ⟨x26, ex26, h⟩ := b_bind h;refine db (o_sub rfl ex26) ?_;refine dm ?_;obtain ⟨x27, ex27, h⟩ := b_bind h;refine db (o_sub rfl ex27) ?_;obtain ⟨x28, ex28, h⟩ := b_bind h;refine db (o_index (t := (.int .i64)) rfl U22 sz3 ex28) ?_;refine da (o_load_at (t := (.int .i64)) rfl sz3 rfl) ?_;obtain ⟨x29, ex29, h⟩ := b_bind h;refine db (o_sub rfl ex29) ?_;refine df mixed ?_;obtain ⟨x30, ex30, h⟩ := b_bind h;refine kb (o_index_own (t := (.int .i64)) rfl U22 sz3 ex30) ?_;refine JO.n11 rfl rfl (o_store_elW (i := Int.toNat y20.2) rfl sz3 rfl (geti_lt ex30) rfl .int rfl) ⟨rfl, rfl, trivial⟩ ?_;refine JO.nil (JN.blk_n (tn (JC.region (mq ?_))));obtain ⟨x31, ex31, h⟩ := b_bind h;refine jb (o_add rfl ex31) ?_;refine aq (nl ?_);exact jz ((), (List.set y20.1 (Int.toNat y20.2) x29, x31)) h [2, 3, 4, 5, 1, 6, 0]
     ·refine xa ?_;exact jz ((), y20.1) h [2, 3, 4, 5, 1, 6, 0]
    ·refine JC.region (fl fo28_3 ?_);refine fr 2 ?_;refine lo sz26 ?_;refine mq ?_;refine fr 4 ?_;refine fr 5 ?_;refine JO.se (SE.frzBoth (off := 2) [] trivial rfl rfl) ?_;refine fr 5 ?_;refine JO.se (SE.frzBoth (off := 3) [] trivial rfl rfl) ?_;refine lo sz56 ?_;obtain ⟨x32, ex32, h⟩ := b_bind h;refine fr 4 ?_;refine kb (o_index_own (t := tSeam) rfl U26 sz56 ex32) ?_;refine JO.n11 rfl rfl (o_store_elW (i := Int.toNat y8.2) rfl sz56 rfl (geti_lt ex32) rfl (.agg (.pair .int (.pair .int (.pair .rep (.pair .rep .int))))) trivial) ⟨rfl, rfl, trivial⟩ ?_;refine JO.nil (bn ?_);exact jz ((), List.set y8.1 (Int.toNat y8.2) (r15.1, r15.2.1, r15.2.2.1, x18, r15.2.2.2.2)) h [3, 4, 2, 0]
   ·refine JC.region (mq ?_);obtain ⟨x33, ex33, h⟩ := b_bind h;refine jb (o_add rfl ex33) ?_;refine aq (nl ?_);exact jz ((), (x10, x33)) h [0, 1, 2, 3]
  ·refine xa ?_;exact jz ((), y8.1) h [0, 1, 2, 3]
 ·refine JC.cutB (Z := Unit) (α := Unit) (fun z35 x34 => [(2, Pt b2), (3, Pt b5)]) (fun z35 x34 => [.obj b2 28 (.agg (.pair (.eq (.slice none 0 0)) (.pair (.eq (.slice none 0 0)) (.pair (.eq (.slice none 0 0)) (.pair (.eq (.slice none 0 0)) (.eq (.slice none 0 0))))))), .obj b5 28 (.agg (.pair (Ri r3.1) (.pair (Rs tBetween r3.2.1) (.pair (Ri r3.2.2.1) (.pair (.eq v4) (Ri r3.2.2.2.2)))))), .sl v4 56 tSeam x6]) h (fun K h => ?_) (fun z35 x34 h => ?_)
  ·refine sr (cq (nt (JC.block ?_)));refine JC.loopB (Z := Unit) (α := Unit) (fun z37 y36 => [(1, Pt b1), (2, Pt b2), (3, Pt b5), (8, I (0 : Int))]) (fun z37 y36 => [.obj b1 28 (.rep tCostume a0), .obj b2 28 (.agg (.pair (.eq (.slice none 0 0)) (.pair (.eq (.slice none 0 0)) (.pair (.eq (.slice none 0 0)) (.pair (.eq (.slice none 0 0)) (.eq (.slice none 0 0))))))), .obj b5 28 (.agg (.pair (Ri r3.1) (.pair (Rs tBetween r3.2.1) (.pair (Ri r3.2.2.1) (.pair (.eq v4) (Ri r3.2.2.2.2)))))), .sl v4 56 tSeam x6]) (kit_Mirrored_l3 k r3) k () () (fun _ => rfl) h (SE.fin [0, 1, 2, 3] ⟨rfl, rfl, rfl, rfl, trivial⟩ rfl) (fun n z37 y36 h => ?_);unfold kit_Mirrored_l3 at h;refine JC.seq (sr (mq ?_));refine fl fo28_4 ?_;refine fr 2 ?_;refine lo sz22 ?_;refine ol U22 ?_;refine jb (o_lss rfl) ?_;refine nt (ci h (fun h => ?_) (fun h => ?_))
   ·cases h
   ·refine xa ?_;exact jz ((), ()) h [2, 0, 3]
  ·refine sr (fr 1 ?_);refine fr 2 ?_;refine JO.se (SE.frzBoth (off := 3) [] trivial rfl rfl) ?_;refine lo sz28 ?_;refine fr 1 ?_;refine JO.n11 rfl rfl (o_store rfl sz28 trivial rfl rfl) ⟨rfl, rfl, trivial⟩ ?_;refine nt (JC.ret (JN.se (SE.objE (a := .agg (.pair (Ri r3.1) (.pair (Rs tBetween r3.2.1) (.pair (Ri r3.2.2.1) (.pair (Rs tSeam x6) (Ri r3.2.2.2.2)))))) (a' := .rep tCostume (r3.1, r3.2.1, r3.2.2.1, x6, r3.2.2.2.2)) (AE.ent (.agg (.pair .rep (.pair .rep (.pair .rep (.pair .rep .rep))))))) ?_));cases h;exact JN.ret () [.rep tCostume (r3.1, r3.2.1, r3.2.2.1, x6, r3.2.2.2.2)] 0 ⟨⟨_, _, _, _, _, rfl, (.head _), sz28, (nfn), rfl⟩, trivial⟩ rfl


def kit_CostumeOf_l1 (k : Nat) : Nat → ((List Int) × Int × Int × (List Int) × (List dBetween) × (List Int) × Int) → Option ((List Int) × Int × Int × (List Int) × (List dBetween) × (List Int))
 | 0, _ => none
 | n + 1, y6 =>
  if (0 : Int) < y6.2.2.2.2.2.2 then ((kit_Lots_In k (y6.1, y6.2.1, y6.2.2.1) (-2 : Int) (1 : Int)).bind fun r8 =>
  (kit_Lots_In k (r8.2.1, r8.2.2.1, r8.2.2.2) (20 : Int) (30 : Int)).bind fun r9 =>
  (chkP (okLen (List.length y6.2.2.2.1 + List.length [r9.1]))).bind fun _ =>
  (kit_Lots_Upto k (r9.2.1, r9.2.2.1, r9.2.2.2) (4 : Int)).bind fun r12 =>
  (ck (r8.1 + r12.1)).bind fun x13 =>
  (chkP (okLen (List.length y6.2.2.2.2.1 + List.length [(r8.1, x13)]))).bind fun _ =>
  (kit_Lots_Upto k (r12.2.1, r12.2.2.1, r12.2.2.2) (5 : Int)).bind fun r16 =>
  (kit_Lots_Of k (r16.2.1, r16.2.2.1, r16.2.2.2) [(0 : Int), (0 : Int), (3 : Int), r16.1]).bind fun r17 =>
  (chkP (okLen (List.length y6.2.2.2.2.2.1 + List.length [r17.1]))).bind fun _ =>
  (ck (y6.2.2.2.2.2.2 - (1 : Int))).bind fun x23 =>
  kit_CostumeOf_l1 k n (r17.2.1, r17.2.2.1, r17.2.2.2, y6.2.2.2.1 ++ [r9.1], y6.2.2.2.2.1 ++ [(r8.1, x13)], y6.2.2.2.2.2.1 ++ [r17.1], x23)) else (some (y6.1, y6.2.1, y6.2.2.1, y6.2.2.2.1, y6.2.2.2.2.1, y6.2.2.2.2.2.1))

def kit_CostumeOf_l2 (k : Nat) (x3 : (List Int) × Int × Int × (List Int) × (List dBetween) × (List Int)) (r24 : Int × dLots) : Nat → ((List Int) × Int × Int × (List dSeam) × Int) → Option ((List Int) × Int × Int × (List dSeam))
 | 0, _ => none
 | n + 1, y27 =>
  if y27.2.2.2.2 < r24.1 then ((kit_SeamOf k (y27.1, y27.2.1, y27.2.2.1) (x3.2.2.2.1.length : Int) r24.1 y27.2.2.2.2).bind fun r29 =>
  (chkP (okLen (List.length y27.2.2.2.1 + List.length [r29.1]))).bind fun _ =>
  (ck (y27.2.2.2.2 + (1 : Int))).bind fun x33 =>
  kit_CostumeOf_l2 k x3 r24 n (r29.2.1, r29.2.2.1, r29.2.2.2, y27.2.2.2.1 ++ [r29.1], x33)) else (some (y27.1, y27.2.1, y27.2.2.1, y27.2.2.2.1))
def kit_CostumeOf (k : Nat) (a0 : dLots) (a1 : Int) : Option (dCostume × dLots) :=
 (((kit_Lots_In k (a0.1, a0.2.1, a0.2.2) (1 : Int) (3 : Int)).bind fun r5 =>
 kit_CostumeOf_l1 k k (r5.2.1, r5.2.2.1, r5.2.2.2, ([] : (List Int)), ([] : (List dBetween)), ([] : (List Int)), r5.1)) : Option ((List Int) × Int × Int × (List Int) × (List dBetween) × (List Int))).bind fun x3 =>
 (kit_Lots_In k (x3.1, x3.2.1, x3.2.2.1) (1 : Int) a1).bind fun r24 =>
 ((kit_CostumeOf_l2 k x3 r24 k (r24.2.1, r24.2.2.1, r24.2.2.2, ([] : (List dSeam)), (0 : Int))) : Option ((List Int) × Int × Int × (List dSeam))).bind fun x25 =>
 (((kit_Lots_Rare k (x25.1, x25.2.1, x25.2.2.1) (2 : Int)).bind fun r36 =>
 if r36.1 = true then ((kit_Mirrored k (x3.2.2.2.1, x3.2.2.2.2.1, x3.2.2.2.2.2, x25.2.2.2, [])).bind fun r37 =>
 some (r36.2.1, r36.2.2.1, r36.2.2.2, r37.1, r37.2.1, r37.2.2.1, r37.2.2.2.1, r37.2.2.2.2)) else (some (r36.2.1, r36.2.2.1, r36.2.2.2, x3.2.2.2.1, x3.2.2.2.2.1, x3.2.2.2.2.2, x25.2.2.2, []))) : Option ((List Int) × Int × Int × (List Int) × (List dBetween) × (List Int) × (List dSeam) × (List Int))).bind fun x34 =>
 (kit_SettingOf k (x34.1, x34.2.1, x34.2.2.1) (x34.2.2.2.1, x34.2.2.2.2.1, x34.2.2.2.2.2.1, x34.2.2.2.2.2.2.1, x34.2.2.2.2.2.2.2)).bind fun r38 =>
 some ((x34.2.2.2.1, x34.2.2.2.2.1, x34.2.2.2.2.2.1, x34.2.2.2.2.2.2.1, r38.1), (r38.2.1, r38.2.2.1, r38.2.2.2))

theorem kit_CostumeOf_ok (k : Nat) (a0 : dLots) (b_a0 : Nat) (a1 : Int) (r : dCostume × dLots) (h : kit_CostumeOf k a0 a1 = some r) :
 Ctr Try.prog 5 [Pt b_a0, I a1] [.obj b_a0 50 (.agg (.pair (Ri a0.1) (.pair (I a0.2.1) (.eq (.int .u64 a0.2.2)))))] (fun _ : Unit => (resA [.rep tCostume r.1], [.obj b_a0 50 (.agg (.pair (Ri r.2.1) (.pair (I r.2.2.1) (.eq (.int .u64 r.2.2.2)))))])) := by
 unfold kit_CostumeOf at h;replace h := b_top h;refine Ctr.of 75 Try.func5 rfl Try.ntmps5 rfl fun S w0 => ?_;refine sr (JO.s01 rfl rfl rfl (o_alloc rfl za28 al28) trivial fun b1 => ?_);refine nt (sr (JO.s01 rfl rfl rfl (o_alloc rfl za28 al28) trivial fun b2 => ?_));refine nt (JC.cutB (Z := Value × Value × Value) (α := (List Int) × Int × Int × (List Int) × (List dBetween) × (List Int)) (fun z4 x3 => [(0, Pt b_a0), (1, I a1), (4, Pt b1), (5, Pt b2)]) (fun z4 x3 => [.obj b_a0 50 (.agg (.pair (Ri x3.1) (.pair (I x3.2.1) (.eq (.int .u64 x3.2.2.1))))), .obj b1 28 (.agg (.pair (.eq (.slice none 0 0)) (.pair (.eq (.slice none 0 0)) (.pair (.eq (.slice none 0 0)) (.pair (.eq (.slice none 0 0)) (.eq (.slice none 0 0))))))), .obj b2 28 (.agg (.pair (.eq z4.1) (.pair (.eq z4.2.1) (.pair (.eq z4.2.2) (.pair (.eq (.slice none 0 0)) (.eq (.slice none 0 0))))))), .sl z4.1 3 (.int .i64) x3.2.2.2.1, .sl z4.2.1 52 tBetween x3.2.2.2.2.1, .sl z4.2.2 3 (.int .i64) x3.2.2.2.2.2]) h (fun K h => ?_) (fun z4 x3 h => ?_))
 ·refine sr (mq ?_);obtain ⟨r5, er5, h⟩ := b_bind h;refine fr 2 ?_;refine kc (o_call [.tmp 10, .const (.int .i64 (1)), .const (.int .i64 (3))] rfl rfl en11 rfl (kit_Lots_In_ok k (a0.1, a0.2.1, a0.2.2) b_a0 (1 : Int) (3 : Int) r5 er5)) ?_;refine aq (nt (JC.block ?_));refine JC.se (SE.nil 3 (.int .i64)) ?_;refine JC.se (SE.nil 52 tBetween) ?_;refine JC.se (SE.nil 3 (.int .i64)) ?_;refine JC.loopB (Z := Value × Value × Value) (α := (List Int) × Int × Int × (List Int) × (List dBetween) × (List Int) × Int) (fun z7 y6 => [(0, Pt b_a0), (1, I a1), (4, Pt b1), (5, Pt b2), (6, I y6.2.2.2.2.2.2)]) (fun z7 y6 => [.obj b_a0 50 (.agg (.pair (Ri y6.1) (.pair (I y6.2.1) (.eq (.int .u64 y6.2.2.1))))), .obj b1 28 (.agg (.pair (.eq (.slice none 0 0)) (.pair (.eq (.slice none 0 0)) (.pair (.eq (.slice none 0 0)) (.pair (.eq (.slice none 0 0)) (.eq (.slice none 0 0))))))), .obj b2 28 (.agg (.pair (.eq z7.1) (.pair (.eq z7.2.1) (.pair (.eq z7.2.2) (.pair (.eq (.slice none 0 0)) (.eq (.slice none 0 0))))))), .sl z7.1 3 (.int .i64) y6.2.2.2.1, .sl z7.2.1 52 tBetween y6.2.2.2.2.1, .sl z7.2.2 3 (.int .i64) y6.2.2.2.2.2.1]) (kit_CostumeOf_l1 k) k ((.slice none 0 0), (.slice none 0 0), (.slice none 0 0)) (r5.2.1, r5.2.2.1, r5.2.2.2, ([] : (List Int)), ([] : (List dBetween)), ([] : (List Int)), r5.1) (fun _ => rfl) h (SE.fin [3, 5, 4, 2, 1, 0] ⟨rfl, rfl, rfl, rfl, rfl, trivial⟩ rfl) (fun n z7 y6 h => ?_);unfold kit_CostumeOf_l1 at h;refine JC.seq (sr (mq ?_));refine jb (o_gtr rfl) ?_;refine nt (ci h (fun h => ?_) (fun h => ?_))
  ·refine sk (JC.seq (JC.block (sr (mq ?_))));obtain ⟨r8, er8, h⟩ := b_bind h;refine kc (o_call [.tmp 16, .const (.int .i64 (-2)), .const (.int .i64 (1))] rfl rfl en11 rfl (kit_Lots_In_ok k (y6.1, y6.2.1, y6.2.2.1) b_a0 (-2 : Int) (1 : Int) r8 er8)) ?_;refine aq (nt ?_);refine JC.drawDW [[], [], [], [], [], [], [], [], [], [], [], [], [], [], [], [], [], [], [], [], [], [], [], [], [], [0, 1, 2, 3, 4, 5, 6, 7, 16, 17], [], [], [], [], []] [0, 1, 6, 7, 8, 9, 10, 16, 17, 18, 19, 25, 2, 3, 4, 5, 11, 12, 13, 14, 15, 20, 21, 22, 23, 24, 26, 27, 28, 29, 30] (by kernel_rfl) (by kernel_rfl) ?_;refine DW.t00 rfl rfl rfl (o_field_obj rfl fo28_0) ⟨rfl, trivial⟩ ?_;refine DW.t11 2 rfl rfl rfl rfl (o_load_obj rfl sz22 nfs rfl) ⟨rfl, trivial⟩ ?_;refine DW.t00 rfl rfl rfl (o_field_obj rfl fo28_1) ⟨rfl, trivial⟩ ?_;refine DW.t11 2 rfl rfl rfl rfl (o_load_obj rfl sz25 nfs rfl) ⟨rfl, trivial⟩ ?_;refine DW.t00 rfl rfl rfl (o_move rfl) ⟨rfl, trivial⟩ ?_;refine DW.t00 rfl rfl rfl (o_move rfl) ⟨rfl, trivial⟩ ?_;refine DW.t00 rfl rfl rfl (o_move rfl) ⟨rfl, trivial⟩ ?_;refine DW.t00 rfl rfl rfl (o_field_obj rfl fo28_2) ⟨rfl, trivial⟩ ?_;refine DW.t11 2 rfl rfl rfl rfl (o_load_obj rfl sz22 nfs rfl) ⟨rfl, trivial⟩ ?_;refine DW.t00 rfl rfl rfl (o_move rfl) ⟨rfl, trivial⟩ ?_;refine DW.t00 rfl rfl rfl (o_move rfl) ⟨rfl, trivial⟩ ?_;refine DW.t00 rfl rfl rfl (o_field_obj rfl fo28_0) ⟨rfl, trivial⟩ ?_;refine DW.t00 rfl rfl rfl (o_move rfl) ⟨rfl, trivial⟩ ?_;refine DW.fin 13 [false, false, false, false, false, false, false, false, false, false, false, false, true] [21, 22, 23, 29, 30, 31, 32, 33, 38, 39, 40, 41, 42] [2] [.obj b2 28 (.agg (.pair (.eq z7.1) (.pair (.eq z7.2.1) (.pair (.eq z7.2.2) (.pair (.eq (.slice none 0 0)) (.eq (.slice none 0 0)))))))] rfl (by kernel_rfl) (by kernel_rfl) (by kernel_rfl) mixed (fun vs hv hB => ?_);obtain ⟨w0, vs1, rfl, hv1⟩ := len_cons hv;obtain ⟨w1, vs2, rfl, hv2⟩ := len_cons hv1;obtain ⟨w2, vs3, rfl, hv3⟩ := len_cons hv2;obtain ⟨w3, vs4, rfl, hv4⟩ := len_cons hv3;obtain ⟨w4, vs5, rfl, hv5⟩ := len_cons hv4;obtain ⟨w5, vs6, rfl, hv6⟩ := len_cons hv5;obtain ⟨w6, vs7, rfl, hv7⟩ := len_cons hv6;obtain ⟨w7, vs8, rfl, hv8⟩ := len_cons hv7;obtain ⟨w8, vs9, rfl, hv9⟩ := len_cons hv8;obtain ⟨w9, vs10, rfl, hv10⟩ := len_cons hv9;obtain ⟨w10, vs11, rfl, hv11⟩ := len_cons hv10;obtain ⟨w11, vs12, rfl, hv12⟩ := len_cons hv11;obtain ⟨w12, vs13, rfl, hv13⟩ := len_cons hv12;obtain rfl := len_nil hv13;refine ⟨[2, 0, 1, 3, 4, 5], [.obj b_a0 50 (.agg (.pair (Ri r8.2.1) (.pair (I r8.2.2.1) (.eq (.int .u64 r8.2.2.2))))), .obj b1 28 (.agg (.pair (.eq (.slice none 0 0)) (.pair (.eq (.slice none 0 0)) (.pair (.eq (.slice none 0 0)) (.pair (.eq (.slice none 0 0)) (.eq (.slice none 0 0))))))), .sl z7.1 3 (.int .i64) y6.2.2.2.1, .sl z7.2.1 52 tBetween y6.2.2.2.2.1, .sl z7.2.2 3 (.int .i64) y6.2.2.2.2.2.1], by kernel_rfl, by decide, ?_⟩;obtain ⟨r9, er9, h⟩ := b_bind h;refine JT.y11 rfl rfl rfl rfl (o_call [.tmp 20, .const (.int .i64 (20)), .const (.int .i64 (30))] rfl rfl en11 rfl (kit_Lots_In_ok k (r8.2.1, r8.2.2.1, r8.2.2.2) b_a0 (20 : Int) (30 : Int) r9 er9)) ⟨rfl, rfl, rfl, trivial⟩ (by kernel_rfl) ?_;refine JT.y00 rfl rfl rfl rfl (o_litB (t := (.int .i64)) [(.tmp 21, _)] [r9.1] rfl rfl sl22 (.cons rfl .int .nil) rfl rfl) ⟨rfl, trivial⟩ (by kernel_rfl) ?_;obtain ⟨u10, eu10, h⟩ := b_bind h;refine JT.front 2 rfl ?_;refine JT.y1x rfl rfl rfl rfl (o_append rfl rfl sl22 (chkP_some eu10)) ⟨rfl, rfl, trivial⟩ (by kernel_rfl) fun v11 => ?_;obtain ⟨r12, er12, h⟩ := b_bind h;refine JT.front 1 rfl ?_;refine JT.y11 rfl rfl rfl rfl (o_call [.tmp 28, .const (.int .i64 (4))] rfl rfl en10 rfl (kit_Lots_Upto_ok k (r9.2.1, r9.2.2.1, r9.2.2.2) b_a0 (4 : Int) r12 er12)) ⟨rfl, rfl, trivial⟩ (by kernel_rfl) ?_;obtain ⟨x13, ex13, h⟩ := b_bind h;refine JT.y00 rfl rfl rfl rfl (o_add rfl ex13) ⟨rfl, rfl, trivial⟩ (by kernel_rfl) ?_;refine JT.y00 rfl rfl rfl rfl (o_buildT [(0, .tmp 26, _), (1, .tmp 30, _)] rfl pl52 za52 alb52 (stors ⟨rfl, rfl, trivial⟩) rfl) ⟨rfl, rfl, trivial⟩ (by kernel_rfl) ?_
   refine JT.y00 rfl rfl rfl rfl (o_litB (t := tBetween) [(.tmp 31, _)] [(r8.1, x13)] rfl rfl sl25 (.cons trivial (.agg (.pair .int .int)) .nil) rfl rfl) ⟨rfl, trivial⟩ (by kernel_rfl) ?_;obtain ⟨u14, eu14, h⟩ := b_bind h;refine JT.front 3 rfl ?_;refine JT.y1x rfl rfl rfl rfl (o_append rfl rfl sl25 (chkP_some eu14)) ⟨rfl, rfl, trivial⟩ (by kernel_rfl) fun v15 => ?_;obtain ⟨r16, er16, h⟩ := b_bind h;refine JT.front 1 rfl ?_;refine JT.y11 rfl rfl rfl rfl (o_call [.tmp 37, .const (.int .i64 (5))] rfl rfl en10 rfl (kit_Lots_Upto_ok k (r12.2.1, r12.2.2.1, r12.2.2.2) b_a0 (5 : Int) r16 er16)) ⟨rfl, rfl, trivial⟩ (by kernel_rfl) ?_;refine JT.y00 rfl rfl rfl rfl (o_litB (t := (.int .i64)) [(.const (.int .i64 (0)), _), (.const (.int .i64 (0)), _), (.const (.int .i64 (3)), _), (.tmp 38, _)] [(0 : Int), (0 : Int), (3 : Int), r16.1] rfl rfl sl22 (.cons rfl .int (.cons rfl .int (.cons rfl .int (.cons rfl .int .nil)))) rfl rfl) ⟨rfl, rfl, rfl, rfl, trivial⟩ (by kernel_rfl) ?_;obtain ⟨r17, er17, h⟩ := b_bind h;refine JT.y11 rfl rfl rfl rfl (o_call [.tmp 36, .tmp 39] rfl rfl en14 rfl (kit_Lots_Of_ok k (r16.2.1, r16.2.2.1, r16.2.2.2) b_a0 [(0 : Int), (0 : Int), (3 : Int), r16.1] r17 er17)) ⟨rfl, rfl, trivial⟩ (by kernel_rfl) ?_;refine JT.y00 rfl rfl rfl rfl (o_litB (t := (.int .i64)) [(.tmp 40, _)] [r17.1] rfl rfl sl22 (.cons rfl .int .nil) rfl rfl) ⟨rfl, trivial⟩ (by kernel_rfl) ?_;obtain ⟨u18, eu18, h⟩ := b_bind h;refine JT.front 4 rfl ?_;refine JT.y1x rfl rfl rfl rfl (o_append rfl rfl sl22 (chkP_some eu18)) ⟨rfl, rfl, trivial⟩ (by kernel_rfl) fun v19 => ?_;refine JT.all (by kernel_rfl) ?_;refine fr 4 ?_;refine JO.one fun o20 => ?_;refine fr 1 ?_;refine JO.n11 rfl rfl (o_store rfl sz22 o20 rfl rfl) ⟨rfl, rfl, trivial⟩ ?_;refine fl fo28_1 ?_;refine fr 4 ?_;refine JO.one fun o21 => ?_;refine fr 1 ?_;refine JO.n11 rfl rfl (o_store rfl sz25 o21 rfl rfl) ⟨rfl, rfl, trivial⟩ ?_;refine fl fo28_2 ?_;refine fr 3 ?_;refine JO.one fun o22 => ?_;refine fr 1 ?_;refine JO.n11 rfl rfl (o_store rfl sz22 o22 rfl rfl) ⟨rfl, rfl, trivial⟩ ?_;refine JO.nil (JN.blk_n (tn (JC.region (mq ?_))));obtain ⟨x23, ex23, h⟩ := b_bind h;refine jb (o_sub rfl ex23) ?_;refine aq (nl ?_);exact jz ((v11, v15, v19), (r17.2.1, r17.2.2.1, r17.2.2.2, y6.2.2.2.1 ++ [r9.1], y6.2.2.2.2.1 ++ [(r8.1, x13)], y6.2.2.2.2.2.1 ++ [r17.1], x23)) h [4, 5, 0, 3, 2, 1]
  ·refine xa ?_;exact jz ((z7.1, z7.2.1, z7.2.2), (y6.1, y6.2.1, y6.2.2.1, y6.2.2.2.1, y6.2.2.2.2.1, y6.2.2.2.2.2.1)) h [0, 1, 2, 3, 4, 5]
 ·refine sr ?_;iterate 2 refine mq ?_
  obtain ⟨r24, er24, h⟩ := b_bind h;refine kc (o_call [.tmp 46, .const (.int .i64 (1)), .tmp 47] rfl rfl en11 rfl (kit_Lots_In_ok k (x3.1, x3.2.1, x3.2.2.1) b_a0 (1 : Int) a1 r24 er24)) ?_;refine aq (nt ?_);refine JC.cutB (Z := Value) (α := (List Int) × Int × Int × (List dSeam)) (fun z26 x25 => [(0, Pt b_a0), (4, Pt b1), (5, Pt b2)]) (fun z26 x25 => [.obj b_a0 50 (.agg (.pair (Ri x25.1) (.pair (I x25.2.1) (.eq (.int .u64 x25.2.2.1))))), .obj b1 28 (.agg (.pair (.eq (.slice none 0 0)) (.pair (.eq (.slice none 0 0)) (.pair (.eq (.slice none 0 0)) (.pair (.eq (.slice none 0 0)) (.eq (.slice none 0 0))))))), .obj b2 28 (.agg (.pair (.eq z4.1) (.pair (.eq z4.2.1) (.pair (.eq z4.2.2) (.pair (.eq z26) (.eq (.slice none 0 0))))))), .sl z4.1 3 (.int .i64) x3.2.2.2.1, .sl z4.2.1 52 tBetween x3.2.2.2.2.1, .sl z4.2.2 3 (.int .i64) x3.2.2.2.2.2, .sl z26 56 tSeam x25.2.2.2]) h (fun K h => ?_) (fun z26 x25 h => ?_)
  ·refine sr (cq (nt (JC.block ?_)));refine JC.se (SE.nil 56 tSeam) ?_;refine JC.loopB (Z := Value) (α := (List Int) × Int × Int × (List dSeam) × Int) (fun z28 y27 => [(0, Pt b_a0), (4, Pt b1), (5, Pt b2), (8, I r24.1), (9, I y27.2.2.2.2)]) (fun z28 y27 => [.obj b_a0 50 (.agg (.pair (Ri y27.1) (.pair (I y27.2.1) (.eq (.int .u64 y27.2.2.1))))), .obj b1 28 (.agg (.pair (.eq (.slice none 0 0)) (.pair (.eq (.slice none 0 0)) (.pair (.eq (.slice none 0 0)) (.pair (.eq (.slice none 0 0)) (.eq (.slice none 0 0))))))), .obj b2 28 (.agg (.pair (.eq z4.1) (.pair (.eq z4.2.1) (.pair (.eq z4.2.2) (.pair (.eq z28) (.eq (.slice none 0 0))))))), .sl z4.1 3 (.int .i64) x3.2.2.2.1, .sl z4.2.1 52 tBetween x3.2.2.2.2.1, .sl z4.2.2 3 (.int .i64) x3.2.2.2.2.2, .sl z28 56 tSeam y27.2.2.2.1]) (kit_CostumeOf_l2 k x3 r24) k (.slice none 0 0) (r24.2.1, r24.2.2.1, r24.2.2.2, ([] : (List dSeam)), (0 : Int)) (fun _ => rfl) h (SE.fin [1, 2, 3, 4, 5, 6, 0] ⟨rfl, rfl, rfl, rfl, rfl, trivial⟩ rfl) (fun n z28 y27 h => ?_);unfold kit_CostumeOf_l2 at h;refine JC.seq (sr ?_);iterate 2 refine mq ?_
   refine jb (o_lss rfl) ?_;refine nt (ci h (fun h => ?_) (fun h => ?_))
   ·refine sk (JC.seq (JC.block (JC.drawN ?_)));refine da (o_field_obj rfl fo28_3) ?_;refine ea 2 (o_load_obj rfl sz26 nfs rfl) ?_;refine dm ?_;refine da (o_field_obj rfl fo28_0) ?_;refine ea 2 (o_load_obj rfl sz22 nfs rfl) ?_;refine ea 3 (o_len_own rfl rfl U22) ?_;refine dm ?_;refine dm ?_;obtain ⟨r29, er29, h⟩ := b_bind h;refine DN.sMod 0 rfl rfl rfl rfl (o_call [.tmp 56, .tmp 59, .tmp 60, .tmp 61] rfl rfl en15 rfl (kit_SeamOf_ok k (y27.1, y27.2.1, y27.2.2.1) b_a0 (x3.2.2.2.1.length : Int) r24.1 y27.2.2.2.2 r29 er29)) ⟨rfl, rfl, rfl, rfl, trivial⟩ ?_;refine da (o_litB (t := tSeam) [(.tmp 62, _)] [r29.1] rfl rfl sl26 (.cons rfl .rep .nil) rfl rfl) ?_;refine DN.finE (Δ' := [.obj b1 28 (.agg (.pair (.eq (.slice none 0 0)) (.pair (.eq (.slice none 0 0)) (.pair (.eq (.slice none 0 0)) (.pair (.eq (.slice none 0 0)) (.eq (.slice none 0 0))))))), .obj b2 28 (.agg (.pair (.eq z4.1) (.pair (.eq z4.2.1) (.pair (.eq z4.2.2) (.pair (.eq z28) (.eq (.slice none 0 0))))))), .sl z4.1 3 (.int .i64) x3.2.2.2.1, .sl z4.2.1 52 tBetween x3.2.2.2.2.1, .sl z4.2.2 3 (.int .i64) x3.2.2.2.2.2, .sl z28 56 tSeam y27.2.2.2.1, .obj b_a0 50 (.agg (.pair (Ri r29.2.1) (.pair (I r29.2.2.1) (.eq (.int .u64 r29.2.2.2)))))]) (by kernel_rfl) mixed (by kernel_rfl) ?_;obtain ⟨u30, eu30, h⟩ := b_bind h;refine fr 5 ?_;refine JO.s1x rfl rfl rfl (o_append rfl rfl sl26 (chkP_some eu30)) ⟨rfl, rfl, trivial⟩ fun v31 => ?_;refine fl fo28_3 ?_;refine JO.one fun o32 => ?_;refine fr 2 ?_;refine JO.n11 rfl rfl (o_store rfl sz26 o32 rfl rfl) ⟨rfl, rfl, trivial⟩ ?_;refine JO.nil (JN.blk_n (tn (JC.region (mq ?_))));obtain ⟨x33, ex33, h⟩ := b_bind h;refine jb (o_add rfl ex33) ?_;refine aq (nl ?_);exact jz (v31, (r29.2.1, r29.2.2.1, r29.2.2.2, y27.2.2.2.1 ++ [r29.1], x33)) h [6, 2, 0, 3, 4, 5, 1]
   ·refine xa ?_;exact jz (z28, (y27.1, y27.2.1, y27.2.2.1, y27.2.2.2.1)) h [0, 1, 2, 3, 4, 5, 6]
  ·refine JC.cutB (Z := Unit) (α := (List Int) × Int × Int × (List Int) × (List dBetween) × (List Int) × (List dSeam) × (List Int)) (fun z35 x34 => [(0, Pt b_a0), (4, Pt b1), (5, Pt b2)]) (fun z35 x34 => [.obj b_a0 50 (.agg (.pair (Ri x34.1) (.pair (I x34.2.1) (.eq (.int .u64 x34.2.2.1))))), .obj b1 28 (.agg (.pair (.eq (.slice none 0 0)) (.pair (.eq (.slice none 0 0)) (.pair (.eq (.slice none 0 0)) (.pair (.eq (.slice none 0 0)) (.eq (.slice none 0 0))))))), .obj b2 28 (.agg (.pair (Ri x34.2.2.2.1) (.pair (Rs tBetween x34.2.2.2.2.1) (.pair (Ri x34.2.2.2.2.2.1) (.pair (Rs tSeam x34.2.2.2.2.2.2.1) (Ri x34.2.2.2.2.2.2.2))))))]) h (fun K h => ?_) (fun z35 x34 h => ?_)
   ·refine sr (mq ?_);obtain ⟨r36, er36, h⟩ := b_bind h;refine kb (o_call [.tmp 66, .const (.int .i64 (2))] rfl rfl en16 rfl (kit_Lots_Rare_ok k (x25.1, x25.2.1, x25.2.2.1) b_a0 (2 : Int) r36 er36)) ?_;refine nt (cv h (fun h => ?_) (fun h => ?_))
    ·refine JC.region (fr 2 ?_);refine fr 3 ?_;refine JO.se (SE.frzBoth (off := 0) [] trivial rfl rfl) ?_;refine fr 3 ?_;refine JO.se (SE.frzBoth (off := 1) [] trivial rfl rfl) ?_;refine fr 3 ?_;refine JO.se (SE.frzBoth (off := 2) [] trivial rfl rfl) ?_;refine fr 3 ?_;refine JO.se (SE.frzBoth (off := 3) [] trivial rfl rfl) ?_;refine lo sz28 ?_;obtain ⟨r37, er37, h⟩ := b_bind h;refine ja (OpT.need (N := [(.tmp 68, .agg (.pair (Ri x3.2.2.2.1) (.pair (Rs tBetween x3.2.2.2.2.1) (.pair (Ri x3.2.2.2.2.2) (.pair (Rs tSeam x25.2.2.2) (.eq (.slice none 0 0)))))))]) (o_call [.tmp 68] rfl rfl en17 rfl (kit_Mirrored_ok k (x3.2.2.2.1, x3.2.2.2.2.1, x3.2.2.2.2.2, x25.2.2.2, []) r37 er37)) fun _ _ _ hn => ⟨(ent_holds (t := tCostume) (x := (x3.2.2.2.1, x3.2.2.2.2.1, x3.2.2.2.2.2, x25.2.2.2, [])) (.agg (.pair .rep (.pair .rep (.pair .rep (.pair .rep .nil))))) trivial rfl hn.1), trivial⟩) ?_;refine JO.n11 rfl rfl (o_store rfl sz28 rfl rfl rfl) ⟨rfl, rfl, trivial⟩ ?_;refine nl (JN.se (SE.objE (a := .rep tCostume r37) (a' := .agg (.pair (Ri r37.1) (.pair (Rs tBetween r37.2.1) (.pair (Ri r37.2.2.1) (.pair (Rs tSeam r37.2.2.2.1) (Ri r37.2.2.2.2)))))) (AE.trans AE.aggR (AE.agg (AE.trans AE.split (AE.pair AE.rfl (AE.trans AE.split (AE.pair AE.rfl (AE.trans AE.split (AE.pair AE.rfl AE.split))))))))) ?_);exact jz ((), (r36.2.1, r36.2.2.1, r36.2.2.2, r37.1, r37.2.1, r37.2.2.1, r37.2.2.2.1, r37.2.2.2.2)) h [1, 2, 0]
    ·refine JC.skip (JN.then_n (JN.front 2 rfl ?_));refine JN.front 3 rfl ?_;refine JN.se (SE.frzBoth (off := 0) [] trivial rfl rfl) ?_;refine JN.front 3 rfl ?_;refine JN.se (SE.frzBoth (off := 1) [] trivial rfl rfl) ?_;refine JN.front 3 rfl ?_;refine JN.se (SE.frzBoth (off := 2) [] trivial rfl rfl) ?_;refine JN.front 3 rfl ?_;refine JN.se (SE.frzBoth (off := 3) [] trivial rfl rfl) ?_;refine JN.se (SE.objE (a := .agg (.pair (Ri x3.2.2.2.1) (.pair (Rs tBetween x3.2.2.2.2.1) (.pair (Ri x3.2.2.2.2.2) (.pair (Rs tSeam x25.2.2.2) (.eq (.slice none 0 0))))))) (a' := .agg (.pair (Ri x3.2.2.2.1) (.pair (Rs tBetween x3.2.2.2.2.1) (.pair (Ri x3.2.2.2.2.2) (.pair (Rs tSeam x25.2.2.2) (Ri [])))))) (AE.agg (AE.pair AE.rfl (AE.pair AE.rfl (AE.pair AE.rfl (AE.pair AE.rfl (AE.ent .nil))))))) ?_;exact jz ((), (r36.2.1, r36.2.2.1, r36.2.2.2, x3.2.2.2.1, x3.2.2.2.2.1, x3.2.2.2.2.2, x25.2.2.2, [])) h [1, 2, 0]
   ·refine sr (mq ?_);refine fr 2 ?_;refine lo sz28 ?_;obtain ⟨r38, er38, h⟩ := b_bind h;refine fr 1 ?_;refine kb (OpT.need (N := [(.tmp 70, Pt b_a0), (.tmp 71, .agg (.pair (Ri x34.2.2.2.1) (.pair (Rs tBetween x34.2.2.2.2.1) (.pair (Ri x34.2.2.2.2.2.1) (.pair (Rs tSeam x34.2.2.2.2.2.2.1) (Ri x34.2.2.2.2.2.2.2))))))]) (o_call [.tmp 70, .tmp 71] rfl rfl en6 rfl (kit_SettingOf_ok k (x34.1, x34.2.1, x34.2.2.1) b_a0 (x34.2.2.2.1, x34.2.2.2.2.1, x34.2.2.2.2.2.1, x34.2.2.2.2.2.2.1, x34.2.2.2.2.2.2.2) r38 er38)) fun _ _ _ hn => ⟨hn.1, (ent_holds (t := tCostume) (x := (x34.2.2.2.1, x34.2.2.2.2.1, x34.2.2.2.2.2.1, x34.2.2.2.2.2.2.1, x34.2.2.2.2.2.2.2)) (.agg (.pair .rep (.pair .rep (.pair .rep (.pair .rep .rep))))) trivial rfl hn.2.1), trivial⟩) ?_;refine fl fo28_4 ?_;refine fr 1 ?_;refine JO.n11 rfl rfl (o_store rfl sz22 rfl rfl rfl) ⟨rfl, rfl, trivial⟩ ?_;refine nt (sr (lo sz28 ?_));refine fr 2 ?_;refine JO.n11 rfl rfl (o_store rfl sz28 trivial rfl rfl) ⟨rfl, rfl, trivial⟩ ?_;refine nt (JC.ret (JN.se (SE.objE (a := .agg (.pair (Ri x34.2.2.2.1) (.pair (Rs tBetween x34.2.2.2.2.1) (.pair (Ri x34.2.2.2.2.2.1) (.pair (Rs tSeam x34.2.2.2.2.2.2.1) (Ri r38.1)))))) (a' := .rep tCostume (x34.2.2.2.1, x34.2.2.2.2.1, x34.2.2.2.2.2.1, x34.2.2.2.2.2.2.1, r38.1)) (AE.ent (.agg (.pair .rep (.pair .rep (.pair .rep (.pair .rep .rep))))))) ?_));refine JN.se (SE.fin (Γ' := [(4, _)]) [2, 0, 1] ⟨rfl, trivial⟩ rfl) ?_;cases h;exact JN.ret () [.rep tCostume (x34.2.2.2.1, x34.2.2.2.2.1, x34.2.2.2.2.2.1, x34.2.2.2.2.2.2.1, r38.1)] 1 ⟨⟨_, _, _, _, _, rfl, (.tail _ (.head _)), sz28, (nfn), rfl⟩, trivial⟩ rfl


def seam_outside (k : Nat) (a0 : Int) (a1 : Int) (a2 : Int) : Option Bool :=
 ((if a0 < a1 then (some true) else (some (decide (a2 < a0)))) : Option (Bool)).bind fun x1 =>
 some x1

theorem seam_outside_ok (k : Nat) (a0 : Int) (a1 : Int) (a2 : Int) (r : Bool) (h : seam_outside k a0 a1 a2 = some r) :
 Ctr Try.prog 65 [I a0, I a1, I a2] [] (fun _ : Unit => (resA [.eq (.bool r)], [])) := by
 unfold seam_outside at h;replace h := b_top h;refine Ctr.of 15 Try.func65 rfl Try.ntmps65 rfl fun S w0 => ?_;refine sr (cq (nt ?_));refine JC.cutB (Z := Unit) (α := Bool) (fun z2 x1 => [(6, .eq (.bool x1))]) (fun z2 x1 => []) h (fun K h => ?_) (fun z2 x1 h => ?_)
 ·refine JC.region ?_;iterate 2 refine mq ?_
  refine jb (o_lss rfl) ?_;refine mq ?_;refine JO.bool (s := 10) rfl (fun hb => ?_) (fun hb => ?_)
  ·replace h := b_if (d_t hb) h;iterate 3 refine gn ?_
   refine pt ?_;refine aq (nl ?_);exact jz ((), true) h []
  ·replace h := b_ifn (d_f hb) h;refine gm ?_;refine gm ?_;refine gb (o_gtr rfl) ?_;refine pf ?_;refine aq (nl ?_);exact jz ((), decide (a2 < a0)) h []
 ·refine JC.ret ?_;cases h;exact ra


def seam_checkSetting_l1 (k : Nat) (a0 : dCostume) (a1 : (List Int)) : Nat → Int → Option (Except Int Unit)
 | 0, _ => none
 | n + 1, y4 =>
  if y4 < (a1.length : Int) then ((geti a1 y4).bind fun x6 =>
  (geti a0.2.2.2.1 y4).bind fun x7 =>
  (geti a0.2.2.2.1 y4).bind fun x8 =>
  (seam_outside k x6 x7.1 x8.2.1).bind fun r9 =>
  if r9 = true then (some (.error (1 : Int))) else ((ck (y4 + (1 : Int))).bind fun x10 =>
  seam_checkSetting_l1 k a0 a1 n x10)) else (some (.ok ()))
def seam_checkSetting (k : Nat) (a0 : dCostume) (a1 : (List Int)) : Option Int :=
 if (a1.length : Int) < (a0.2.2.2.1.length : Int) then (some (7 : Int)) else (if (a0.2.2.2.1.length : Int) < (a1.length : Int) then (some (6 : Int)) else (bE (α := Unit) (seam_checkSetting_l1 k a0 a1 k (0 : Int)) (some) fun _ =>
 some (0 : Int)))

theorem seam_checkSetting_ok (k : Nat) (a0 : dCostume) (a1 : (List Int)) (r : Int) (h : seam_checkSetting k a0 a1 = some r) :
 Ctr Try.prog 51 [.rep tCostume a0, Ri a1] [] (fun _ : Unit => (resA [I r], [])) := by
 unfold seam_checkSetting at h;replace h := b_top h;refine Ctr.of 41 Try.func51 rfl Try.ntmps51 rfl fun S w0 => ?_;refine sr (bx fun b1 => ?_);refine cq (nt (JC.seq (sr ?_)));refine mq ?_;refine ol U22 ?_;refine fl fo28_3 ?_;refine lo sz26 ?_;refine ol U26 ?_;refine jb (o_lss rfl) ?_;refine nt (ci h (fun h => ?_) (fun h => ?_))
 ·refine sr (cq (nt (rx ?_)));cases h;exact ra
 ·refine sk (JC.seq (sr (mq ?_)));refine ol U22 ?_;refine fl fo28_3 ?_;refine lo sz26 ?_;refine ol U26 ?_;refine jb (o_gtr rfl) ?_;refine nt (ci h (fun h => ?_) (fun h => ?_))
  ·refine sr (cq (nt (rx ?_)));cases h;exact ra
  ·refine sk (JC.cutE (Z := Unit) (α := Unit) (fun z3 x2 => []) (fun z3 x2 => []) (fun e => e = r) h (fun e h => Option.some.inj h) (fun K hR h => ?_) (fun z3 x2 h => ?_))
   ·refine sr (mq ?_);refine ol U22 ?_;refine JO.mc rfl ?_;refine nt (JC.block (JC.loopB (Z := Unit) (α := Int) (fun z5 y4 => [(2, Pt b1), (19, Ri a1), (20, I (a1.length : Int)), (21, I y4)]) (fun z5 y4 => [.obj b1 28 (.rep tCostume a0)]) (seam_checkSetting_l1 k a0 a1) k () (0 : Int) (fun _ => rfl) h (SE.fin [0] ⟨rfl, rfl, rfl, rfl, trivial⟩ rfl) (fun n z5 y4 h => ?_)));unfold seam_checkSetting_l1 at h;refine sr (jb (o_lss rfl) ?_);refine nt (JC.seq (ci h (fun h => ?_) (fun h => ?_)))
    ·refine sk (JC.seq (JC.block (sr (mq ?_))));obtain ⟨x6, ex6, h⟩ := b_bind h;refine jb (o_index (t := (.int .i64)) rfl U22 sz3 ex6) ?_;refine ja (o_load_at (t := (.int .i64)) rfl sz3 rfl) ?_;refine aq ?_;refine aq (nt (JC.seq ?_));refine JC.drawN ?_;refine dm ?_;refine da (o_field_obj rfl fo28_3) ?_;refine ea 0 (o_load_obj rfl sz26 nfs rfl) ?_;refine dm ?_;obtain ⟨x7, ex7, h⟩ := b_bind h;refine db (o_index (t := tSeam) rfl U26 sz56 ex7) ?_;refine da (o_field_at 1 false rfl fo56_0 rfl) ?_;refine da (o_load_at (t := (.int .i64)) rfl sz3 rfl) ?_;refine da (o_field_obj rfl fo28_3) ?_;refine ea 0 (o_load_obj rfl sz26 nfs rfl) ?_;refine dm ?_;obtain ⟨x8, ex8, h⟩ := b_bind h;refine db (o_index (t := tSeam) rfl U26 sz56 ex8) ?_;refine da (o_field_at 1 false rfl fo56_1 rfl) ?_;refine da (o_load_at (t := (.int .i64)) rfl sz3 rfl) ?_;refine df mixed ?_;obtain ⟨r9, er9, h⟩ := b_bind h;refine jc (o_call [.tmp 26, .tmp 32, .tmp 38] rfl rfl en65 rfl (seam_outside_ok k x6 x7.1 x8.2.1 r9 er9)) ?_;refine nt (cv h (fun h => ?_) (fun h => ?_))
     ·refine sr (cq (nt (JC.ret (br (JN.blk_r (JN.then_r ?_))))));obtain rfl := hR _ h;exact ra
     ·refine JC.skip (JN.blk_n (tn (JC.region ?_)));obtain ⟨x10, ex10, h⟩ := b_bind h;refine jb (o_add rfl ex10) ?_;refine mq (nl ?_);exact jz ((), x10) h [0]
    ·refine xa ?_;exact jz ((), ()) h []
   ·refine sr (cq (nt (JC.ret ?_)));cases h;exact ra


def seam_sized (k : Nat) (a0 : Int) (a1 : Int) : Option Int :=
 if a0 = (0 : Int) then (some (7 : Int)) else (if a1 < a0 then (some (6 : Int)) else (some (0 : Int)))

theorem seam_sized_ok (k : Nat) (a0 : Int) (a1 : Int) (r : Int) (h : seam_sized k a0 a1 = some r) :
 Ctr Try.prog 62 [I a0, I a1] [] (fun _ : Unit => (resA [I r], [])) := by
 unfold seam_sized at h;replace h := b_top h;refine Ctr.of 12 Try.func62 rfl Try.ntmps62 rfl fun S w0 => ?_;refine sr (cq (nt (JC.seq (JC.block (sr ?_)))));refine mq ?_;refine jb (o_eql rfl) ?_;refine aq (nt ?_);refine ci h (fun h => ?_) (fun h => ?_)
 ·refine sr (cq (nt (JC.ret (JN.blk_r (JN.then_r ?_)))));cases h;exact ra
 ·refine sr ?_;iterate 2 refine mq ?_
  refine jb (o_gtr rfl) ?_;refine aq (nt ?_);refine ci h (fun h => ?_) (fun h => ?_)
  ·refine sr (cq (nt (JC.ret (JN.blk_r (JN.then_r ?_)))));cases h;exact ra
  ·refine JC.skip (JN.blk_n (tn (sr (cq (nt (JC.ret ?_))))));cases h;exact ra


def seam_checkPair (k : Nat) (a0 : dBetween) (a1 : Int) (a2 : Int) : Option Int :=
 (((seam_outside k a0.1 a1 a2).bind fun r4 =>
 if r4 = true then (some true) else ((seam_outside k a0.2 a1 a2).bind fun r5 =>
 some r5)) : Option (Bool)).bind fun x2 =>
 if x2 = true then (some (1 : Int)) else (if a0.2 < a0.1 then (some (5 : Int)) else (some (0 : Int)))

theorem seam_checkPair_ok (k : Nat) (a0 : dBetween) (a1 : Int) (a2 : Int) (r : Int) (h : seam_checkPair k a0 a1 a2 = some r) :
 Ctr Try.prog 67 [.rep tBetween a0, I a1, I a2] [] (fun _ : Unit => (resA [I r], [])) := by
 unfold seam_checkPair at h;replace h := b_top h;refine Ctr.of 24 Try.func67 rfl Try.ntmps67 rfl fun S w0 => ?_;refine sr (bx fun b1 => ?_);refine cq (nt (JC.seq ?_));refine JC.cutB (Z := Unit) (α := Bool) (fun z3 x2 => [(3, Pt b1), (18, .eq (.bool x2))]) (fun z3 x2 => [.obj b1 52 (.rep tBetween a0)]) h (fun K h => ?_) (fun z3 x2 h => ?_)
 ·refine JC.region (fl fo52_0 ?_);refine lo sz3 ?_;iterate 2 refine mq ?_
  obtain ⟨r4, er4, h⟩ := b_bind h;refine jc (o_call [.tmp 8, .tmp 9, .tmp 10] rfl rfl en65 rfl (seam_outside_ok k a0.1 a1 a2 r4 er4)) ?_;refine mq ?_;refine JO.bool (s := 12) rfl (fun hb => ?_) (fun hb => ?_)
  ·replace h := b_if (v_t hb) h;iterate 5 refine gn ?_
   refine pt (nl ?_);exact jz ((), true) h [0]
  ·replace h := b_ifn (v_f hb) h;refine ga (o_field_obj rfl fo52_1) ?_;refine JO.g11 rfl rfl rfl rfl rfl rfl (o_load_obj rfl sz3 nfs rfl) ⟨rfl, trivial⟩ ?_;refine gm ?_;refine gm ?_;obtain ⟨r5, er5, h⟩ := b_bind h;refine gc (o_call [.tmp 14, .tmp 15, .tmp 16] rfl rfl en65 rfl (seam_outside_ok k a0.2 a1 a2 r5 er5)) ?_;refine pf (nl ?_);exact jz ((), r5) h [0]
 ·refine cv h (fun h => ?_) (fun h => ?_)
  ·refine sr (cq (nt (rx ?_)));cases h;exact ra
  ·refine sk (JC.seq (sr (fl fo52_0 ?_)));refine lo sz3 ?_;refine fl fo52_1 ?_;refine lo sz3 ?_;refine jb (o_gtr rfl) ?_;refine nt (ci h (fun h => ?_) (fun h => ?_))
   ·refine sr (cq (nt (rx ?_)));cases h;exact ra
   ·refine sk (sr (cq (nt (JC.ret ?_))));cases h;exact ra


def seam_checkGirths_l1 (k : Nat) (a0 : dCostume) : Nat → Int → Option (Except Int Unit)
 | 0, _ => none
 | n + 1, y5 =>
  if y5 < (a0.1.length : Int) then ((geti a0.1 y5).bind fun x7 =>
  (seam_outside k x7 (1 : Int) (60 : Int)).bind fun r8 =>
  if r8 = true then (some (.error (1 : Int))) else ((ck (y5 + (1 : Int))).bind fun x9 =>
  seam_checkGirths_l1 k a0 n x9)) else (some (.ok ()))

def seam_checkGirths_l2 (k : Nat) (a0 : dCostume) : Nat → Int → Option (Except Int Unit)
 | 0, _ => none
 | n + 1, y12 =>
  if y12 < (a0.2.1.length : Int) then ((geti a0.2.1 y12).bind fun x14 =>
  (seam_checkPair k x14 (-9 : Int) (9 : Int)).bind fun r16 =>
  if ¬ (r16 = (0 : Int)) then (some (.error r16)) else ((ck (y12 + (1 : Int))).bind fun x17 =>
  seam_checkGirths_l2 k a0 n x17)) else (some (.ok ()))

def seam_checkGirths_l3 (k : Nat) (a0 : dCostume) : Nat → Int → Option (Except Int Unit)
 | 0, _ => none
 | n + 1, y20 =>
  if y20 < (a0.2.2.1.length : Int) then ((geti a0.2.2.1 y20).bind fun x22 =>
  (seam_outside k x22 (0 : Int) (5 : Int)).bind fun r23 =>
  if r23 = true then (some (.error (1 : Int))) else ((ck (y20 + (1 : Int))).bind fun x24 =>
  seam_checkGirths_l3 k a0 n x24)) else (some (.ok ()))
def seam_checkGirths (k : Nat) (a0 : dCostume) : Option Int :=
 (seam_sized k (a0.1.length : Int) (3 : Int)).bind fun r2 =>
 if ¬ (r2 = (0 : Int)) then (some r2) else (bE (α := Unit) (seam_checkGirths_l1 k a0 k (0 : Int)) (some) fun _ =>
 if ¬ ((a0.2.1.length : Int) = (a0.1.length : Int)) then (some (9 : Int)) else (bE (α := Unit) (seam_checkGirths_l2 k a0 k (0 : Int)) (some) fun _ =>
 if ¬ ((a0.2.2.1.length : Int) = (a0.1.length : Int)) then (some (9 : Int)) else (bE (α := Unit) (seam_checkGirths_l3 k a0 k (0 : Int)) (some) fun _ =>
 some (0 : Int))))

theorem seam_checkGirths_ok (k : Nat) (a0 : dCostume) (r : Int) (h : seam_checkGirths k a0 = some r) :
 Ctr Try.prog 61 [.rep tCostume a0] [] (fun _ : Unit => (resA [I r], [])) := by
 unfold seam_checkGirths at h;replace h := b_top h;refine Ctr.of 65 Try.func61 rfl Try.ntmps61 rfl fun S w0 => ?_;refine sr (bx fun b1 => ?_);refine cq (nt (JC.seq (sr ?_)));refine fl fo28_0 ?_;refine lo sz22 ?_;refine ol U22 ?_;obtain ⟨r2, er2, h⟩ := b_bind h;refine jb (o_call [.tmp 13, .const (.int .i64 (3))] rfl rfl en62 rfl (seam_sized_ok k (a0.1.length : Int) (3 : Int) r2 er2)) ?_;refine aq (nt (sr ?_));refine mq ?_;refine jb (o_neq rfl) ?_;refine nt (cn h (fun h => ?_) (fun h => ?_))
 ·refine sr (mq ?_);refine aq (nt (rx ?_));cases h;exact ra
 ·refine sk (JC.cutE (Z := Unit) (α := Unit) (fun z4 x3 => [(1, Pt b1)]) (fun z4 x3 => [.obj b1 28 (.rep tCostume a0)]) (fun e => e = r) h (fun e h => Option.some.inj h) (fun K hR h => ?_) (fun z4 x3 h => ?_))
  ·refine sr (fl fo28_0 ?_);refine lo sz22 ?_;refine ol U22 ?_;refine JO.mc rfl ?_;refine nt (JC.block (JC.loopB (Z := Unit) (α := Int) (fun z6 y5 => [(1, Pt b1), (19, Ri a0.1), (20, I (a0.1.length : Int)), (21, I y5)]) (fun z6 y5 => [.obj b1 28 (.rep tCostume a0)]) (seam_checkGirths_l1 k a0) k () (0 : Int) (fun _ => rfl) h (SE.fin [0] ⟨rfl, rfl, rfl, rfl, trivial⟩ rfl) (fun n z6 y5 h => ?_)));unfold seam_checkGirths_l1 at h;refine sr (jb (o_lss rfl) ?_);refine nt (JC.seq (ci h (fun h => ?_) (fun h => ?_)))
   ·refine sk (JC.seq (JC.block (sr ?_)));obtain ⟨x7, ex7, h⟩ := b_bind h;refine jb (o_index (t := (.int .i64)) rfl U22 sz3 ex7) ?_;refine ja (o_load_at (t := (.int .i64)) rfl sz3 rfl) ?_;refine aq (nt (sr ?_));refine mq ?_;obtain ⟨r8, er8, h⟩ := b_bind h;refine jc (o_call [.tmp 25, .const (.int .i64 (1)), .const (.int .i64 (60))] rfl rfl en65 rfl (seam_outside_ok k x7 (1 : Int) (60 : Int) r8 er8)) ?_;refine nt (cv h (fun h => ?_) (fun h => ?_))
    ·refine sr (cq (nt (JC.ret (br (JN.blk_r (JN.then_r ?_))))));obtain rfl := hR _ h;exact ra
    ·refine JC.skip (JN.blk_n (tn (JC.region ?_)));obtain ⟨x9, ex9, h⟩ := b_bind h;refine jb (o_add rfl ex9) ?_;refine mq (nl ?_);exact jz ((), x9) h [0]
   ·refine xa ?_;exact jz ((), ()) h [0]
  ·refine JC.seq (sr (fl fo28_1 ?_));refine lo sz25 ?_;refine ol U25 ?_;refine fl fo28_0 ?_;refine lo sz22 ?_;refine ol U22 ?_;refine jb (o_neq rfl) ?_;refine nt (cn h (fun h => ?_) (fun h => ?_))
   ·refine sr (cq (nt (rx ?_)));cases h;exact ra
   ·refine sk (JC.cutE (Z := Unit) (α := Unit) (fun z11 x10 => [(1, Pt b1)]) (fun z11 x10 => [.obj b1 28 (.rep tCostume a0)]) (fun e => e = r) h (fun e h => Option.some.inj h) (fun K hR h => ?_) (fun z11 x10 h => ?_))
    ·refine sr (fl fo28_1 ?_);refine lo sz25 ?_;refine ol U25 ?_;refine JO.mc rfl ?_;refine nt (JC.block (JC.loopB (Z := Unit) (α := Int) (fun z13 y12 => [(1, Pt b1), (36, Rs tBetween a0.2.1), (37, I (a0.2.1.length : Int)), (38, I y12)]) (fun z13 y12 => [.obj b1 28 (.rep tCostume a0)]) (seam_checkGirths_l2 k a0) k () (0 : Int) (fun _ => rfl) h (SE.fin [0] ⟨rfl, rfl, rfl, rfl, trivial⟩ rfl) (fun n z13 y12 h => ?_)));unfold seam_checkGirths_l2 at h;refine sr (jb (o_lss rfl) ?_);refine nt (JC.seq (ci h (fun h => ?_) (fun h => ?_)))
     ·refine sk (JC.seq (JC.block (sr ?_)));obtain ⟨x14, ex14, h⟩ := b_bind h;refine jb (o_index (t := tBetween) rfl U25 sz52 ex14) ?_;refine ja (o_load_at (t := tBetween) rfl sz52 rfl) ?_;refine JO.s01 rfl rfl rfl (o_alloc rfl za52 al52) trivial fun b15 => ?_;refine JO.n11 rfl rfl (o_store rfl sz52 rfl rfl rfl) ⟨rfl, rfl, trivial⟩ ?_;refine nt (sr (lo sz52 ?_));obtain ⟨r16, er16, h⟩ := b_bind h;refine jc (o_call [.tmp 42, .const (.int .i64 (-9)), .const (.int .i64 (9))] rfl rfl en67 rfl (seam_checkPair_ok k x14 (-9 : Int) (9 : Int) r16 er16)) ?_;refine aq (nt (sr ?_));refine mq ?_;refine jb (o_neq rfl) ?_;refine nt (cn h (fun h => ?_) (fun h => ?_))
      ·refine sr (mq ?_);refine aq (nt (JC.ret (br (JN.blk_r (JN.then_r ?_)))));obtain rfl := hR _ h;exact ra
      ·refine JC.skip (JN.blk_n (tn (JC.region ?_)));obtain ⟨x17, ex17, h⟩ := b_bind h;refine jb (o_add rfl ex17) ?_;refine mq (nl ?_);exact jz ((), x17) h [1]
     ·refine xa ?_;exact jz ((), ()) h [0]
    ·refine JC.seq (sr (fl fo28_2 ?_));refine lo sz22 ?_;refine ol U22 ?_;refine fl fo28_0 ?_;refine lo sz22 ?_;refine ol U22 ?_;refine jb (o_neq rfl) ?_;refine nt (cn h (fun h => ?_) (fun h => ?_))
     ·refine sr (cq (nt (rx ?_)));cases h;exact ra
     ·refine sk (JC.cutE (Z := Unit) (α := Unit) (fun z19 x18 => []) (fun z19 x18 => []) (fun e => e = r) h (fun e h => Option.some.inj h) (fun K hR h => ?_) (fun z19 x18 h => ?_))
      ·refine sr (fl fo28_2 ?_);refine lo sz22 ?_;refine ol U22 ?_;refine JO.mc rfl ?_;refine nt (JC.block (JC.loopB (Z := Unit) (α := Int) (fun z21 y20 => [(56, Ri a0.2.2.1), (57, I (a0.2.2.1.length : Int)), (58, I y20)]) (fun z21 y20 => []) (seam_checkGirths_l3 k a0) k () (0 : Int) (fun _ => rfl) h (SE.fin [] ⟨rfl, rfl, rfl, trivial⟩ rfl) (fun n z21 y20 h => ?_)));unfold seam_checkGirths_l3 at h;refine sr (jb (o_lss rfl) ?_);refine nt (JC.seq (ci h (fun h => ?_) (fun h => ?_)))
       ·refine sk (JC.seq (JC.block (sr ?_)));obtain ⟨x22, ex22, h⟩ := b_bind h;refine jb (o_index (t := (.int .i64)) rfl U22 sz3 ex22) ?_;refine ja (o_load_at (t := (.int .i64)) rfl sz3 rfl) ?_;refine aq (nt (sr ?_));refine mq ?_;obtain ⟨r23, er23, h⟩ := b_bind h;refine jc (o_call [.tmp 62, .const (.int .i64 (0)), .const (.int .i64 (5))] rfl rfl en65 rfl (seam_outside_ok k x22 (0 : Int) (5 : Int) r23 er23)) ?_;refine nt (cv h (fun h => ?_) (fun h => ?_))
        ·refine sr (cq (nt (JC.ret (br (JN.blk_r (JN.then_r ?_))))));obtain rfl := hR _ h;exact ra
        ·refine JC.skip (JN.blk_n (tn (JC.region ?_)));obtain ⟨x24, ex24, h⟩ := b_bind h;refine jb (o_add rfl ex24) ?_;refine mq (nl ?_);exact jz ((), x24) h []
       ·refine xa ?_;exact jz ((), ()) h []
      ·refine sr (cq (nt (JC.ret ?_)));cases h;exact ra


def seam_checkSeam_l1 (k : Nat) (a0 : dCostume) (x2 : dSeam) : Nat → Int → Option (Except Int Unit)
 | 0, _ => none
 | n + 1, y8 =>
  if y8 < (x2.2.2.1.length : Int) then ((geti x2.2.2.1 y8).bind fun x10 =>
  (ck ((a0.1.length : Int) - (1 : Int))).bind fun x12 =>
  (seam_outside k x10.1 (0 : Int) x12).bind fun r13 =>
  if r13 = true then (some (.error (3 : Int))) else (((if x10.2 = (0 : Int) then (some true) else ((seam_outside k x10.2 (-4 : Int) (4 : Int)).bind fun r16 =>
  some r16)) : Option (Bool)).bind fun x14 =>
  if x14 = true then (some (.error (1 : Int))) else (((if (0 : Int) < y8 then ((geti x2.2.2.1 (0 : Int)).bind fun x19 =>
  some (decide (x10.1 = x19.1))) else (some false)) : Option (Bool)).bind fun x17 =>
  if x17 = true then (some (.error (4 : Int))) else ((ck (y8 + (1 : Int))).bind fun x20 =>
  seam_checkSeam_l1 k a0 x2 n x20)))) else (some (.ok ()))

def seam_checkSeam_l2 (k : Nat) (a0 : dCostume) (a1 : Int) (x2 : dSeam) : Nat → Int → Option (Except Int Unit)
 | 0, _ => none
 | n + 1, y23 =>
  if y23 < (x2.2.2.2.1.length : Int) then ((geti x2.2.2.2.1 y23).bind fun x25 =>
  (((ck ((a0.2.2.2.1.length : Int) - (1 : Int))).bind fun x28 =>
  (seam_outside k x25 (0 : Int) x28).bind fun r29 =>
  if r29 = true then (some true) else (some (decide (x25 = a1)))) : Option (Bool)).bind fun x26 =>
  if x26 = true then (some (.error (3 : Int))) else (((if (0 : Int) < y23 then ((ck (y23 - (1 : Int))).bind fun x32 =>
  (geti x2.2.2.2.1 x32).bind fun x33 =>
  some (decide (x25 ≤ x33))) else (some false)) : Option (Bool)).bind fun x30 =>
  if x30 = true then (some (.error (5 : Int))) else ((ck (y23 + (1 : Int))).bind fun x34 =>
  seam_checkSeam_l2 k a0 a1 x2 n x34))) else (some (.ok ()))
def seam_checkSeam (k : Nat) (a0 : dCostume) (a1 : Int) : Option Int :=
 (geti a0.2.2.2.1 a1).bind fun x2 =>
 (seam_checkPair k (x2.1, x2.2.1) (-2 : Int) (2 : Int)).bind fun r4 =>
 if ¬ (r4 = (0 : Int)) then (some r4) else ((seam_sized k (x2.2.2.1.length : Int) (2 : Int)).bind fun r5 =>
 if ¬ (r5 = (0 : Int)) then (some r5) else (bE (α := Unit) (seam_checkSeam_l1 k a0 x2 k (0 : Int)) (some) fun _ =>
 bE (α := Unit) (seam_checkSeam_l2 k a0 a1 x2 k (0 : Int)) (some) fun _ =>
 (seam_outside k x2.2.2.2.2 (0 : Int) (4 : Int)).bind fun r35 =>
 if r35 = true then (some (1 : Int)) else (some (0 : Int))))

theorem seam_checkSeam_ok (k : Nat) (a0 : dCostume) (a1 : Int) (r : Int) (h : seam_checkSeam k a0 a1 = some r) :
 Ctr Try.prog 63 [.rep tCostume a0, I a1] [] (fun _ : Unit => (resA [I r], [])) := by
 unfold seam_checkSeam at h;replace h := b_top h;refine Ctr.of 107 Try.func63 rfl Try.ntmps63 rfl fun S w0 => ?_;refine sr (bx fun b1 => ?_);refine cq (nt (sr ?_));refine fl fo28_3 ?_;refine lo sz26 ?_;refine mq ?_;obtain ⟨x2, ex2, h⟩ := b_bind h;refine jb (o_index (t := tSeam) rfl U26 sz56 ex2) ?_;refine ja (o_load_at (t := tSeam) rfl sz56 rfl) ?_;refine JO.s01 rfl rfl rfl (o_alloc rfl za56 al56) trivial fun b3 => ?_;refine JO.n11 rfl rfl (o_store rfl sz56 rfl rfl rfl) ⟨rfl, rfl, trivial⟩ ?_;refine nt (JC.seq (sr (fl fo56_0 ?_)));refine lo sz3 ?_;refine fl fo56_1 ?_;refine lo sz3 ?_;refine jb (o_buildT [(0, .tmp 18, _), (1, .tmp 20, _)] rfl pl52 za52 alb52 (stors ⟨rfl, rfl, trivial⟩) rfl) ?_;obtain ⟨r4, er4, h⟩ := b_bind h;refine jc (OpT.need (N := [(.tmp 21, .agg (.pair (I x2.1) (I x2.2.1))), (.const (.int .i64 (-2)), I (-2 : Int)), (.const (.int .i64 (2)), I (2 : Int))]) (o_call [.tmp 21, .const (.int .i64 (-2)), .const (.int .i64 (2))] rfl rfl en67 rfl (seam_checkPair_ok k (x2.1, x2.2.1) (-2 : Int) (2 : Int) r4 er4)) fun _ _ _ hn => ⟨(ent_holds (t := tBetween) (x := (x2.1, x2.2.1)) (.agg (.pair .int .int)) trivial rfl hn.1), hn.2.1, hn.2.2.1, trivial⟩) ?_;refine aq (nt (sr ?_));refine mq ?_;refine jb (o_neq rfl) ?_;refine nt (cn h (fun h => ?_) (fun h => ?_))
 ·refine sr (mq ?_);refine aq (nt (rx ?_));cases h;exact ra
 ·refine sk (JC.seq (sr (fl fo56_2 ?_)));refine lo sz54 ?_;refine ol U54 ?_;obtain ⟨r5, er5, h⟩ := b_bind h;refine jb (o_call [.tmp 28, .const (.int .i64 (2))] rfl rfl en62 rfl (seam_sized_ok k (x2.2.2.1.length : Int) (2 : Int) r5 er5)) ?_;refine aq (nt (sr ?_));refine mq ?_;refine jb (o_neq rfl) ?_;refine nt (cn h (fun h => ?_) (fun h => ?_))
  ·refine sr (mq ?_);refine aq (nt (rx ?_));cases h;exact ra
  ·refine sk (JC.cutE (Z := Unit) (α := Unit) (fun z7 x6 => [(1, I a1), (2, Pt b1), (5, Pt b3)]) (fun z7 x6 => [.obj b1 28 (.rep tCostume a0), .obj b3 56 (.rep tSeam x2)]) (fun e => e = r) h (fun e h => Option.some.inj h) (fun K hR h => ?_) (fun z7 x6 h => ?_))
   ·refine sr (fl fo56_2 ?_);refine lo sz54 ?_;refine ol U54 ?_;refine JO.mc rfl ?_;refine nt (JC.block (JC.loopB (Z := Unit) (α := Int) (fun z9 y8 => [(1, I a1), (2, Pt b1), (5, Pt b3), (34, Rs tBetween x2.2.2.1), (35, I (x2.2.2.1.length : Int)), (36, I y8)]) (fun z9 y8 => [.obj b1 28 (.rep tCostume a0), .obj b3 56 (.rep tSeam x2)]) (seam_checkSeam_l1 k a0 x2) k () (0 : Int) (fun _ => rfl) h (SE.fin [1, 0] ⟨rfl, rfl, rfl, rfl, rfl, rfl, trivial⟩ rfl) (fun n z9 y8 h => ?_)));unfold seam_checkSeam_l1 at h;refine sr (jb (o_lss rfl) ?_);refine nt (JC.seq (ci h (fun h => ?_) (fun h => ?_)))
    ·refine sk (JC.seq (JC.block (sr (mq ?_))));obtain ⟨x10, ex10, h⟩ := b_bind h;refine jb (o_index (t := tBetween) rfl U54 sz87 ex10) ?_;refine ja (o_load_at (t := tBetween) rfl sz87 rfl) ?_;refine JO.s01 rfl rfl rfl (o_alloc rfl za87 al87) trivial fun b11 => ?_;refine aq ?_;refine JO.n11 rfl rfl (o_store rfl sz87 rfl rfl rfl) ⟨rfl, rfl, trivial⟩ ?_;refine nt (JC.block (sr (fl fo87_0 ?_)));refine lo sz3 ?_;refine fl fo28_0 ?_;refine fr 1 ?_;refine lo sz22 ?_;refine ol U22 ?_;obtain ⟨x12, ex12, h⟩ := b_bind h;refine jb (o_sub rfl ex12) ?_;obtain ⟨r13, er13, h⟩ := b_bind h;refine jc (o_call [.tmp 43, .const (.int .i64 (0)), .tmp 47] rfl rfl en65 rfl (seam_outside_ok k x10.1 (0 : Int) x12 r13 er13)) ?_;refine aq (nt ?_);refine cv h (fun h => ?_) (fun h => ?_)
     ·refine sr (cq (nt (JC.ret (JN.blk_r (br (JN.blk_r (JN.then_r ?_)))))));obtain rfl := hR _ h;exact ra
     ·refine JC.cutB (Z := Unit) (α := Bool) (fun z15 x14 => [(1, I a1), (2, Pt b1), (5, Pt b3), (8, I y8), (9, Pt b11), (34, Rs tBetween x2.2.2.1), (35, I (x2.2.2.1.length : Int)), (36, I y8), (49, .eq (.bool x14))]) (fun z15 x14 => [.obj b1 28 (.rep tCostume a0), .obj b3 56 (.rep tSeam x2), .obj b11 87 (.rep tBetween x10)]) h (fun K h => ?_) (fun z15 x14 h => ?_)
      ·refine JC.region (fl fo87_1 ?_);refine fr 1 ?_;refine lo sz3 ?_;refine jb (o_eql rfl) ?_;refine mq ?_;refine JO.bool (s := 53) rfl (fun hb => ?_) (fun hb => ?_)
       ·replace h := b_if (d_t hb) h;iterate 3 refine gn ?_
        refine pt ?_;refine aq (nl ?_);exact jz ((), true) h [1, 2, 0]
       ·replace h := b_ifn (d_f hb) h;refine ga (o_field_obj rfl fo87_1) ?_;refine JO.g11 rfl rfl rfl rfl rfl rfl (o_load_obj rfl sz3 nfs rfl) ⟨rfl, trivial⟩ ?_;obtain ⟨r16, er16, h⟩ := b_bind h;refine gc (o_call [.tmp 55, .const (.int .i64 (-4)), .const (.int .i64 (4))] rfl rfl en65 rfl (seam_outside_ok k x10.2 (-4 : Int) (4 : Int) r16 er16)) ?_;refine pf ?_;refine aq (nl ?_);exact jz ((), r16) h [1, 2, 0]
      ·refine cv h (fun h => ?_) (fun h => ?_)
       ·refine sr (cq (nt (JC.ret (JN.blk_r (br (JN.blk_r (JN.then_r ?_)))))));obtain rfl := hR _ h;exact ra
       ·refine JC.cutB (Z := Unit) (α := Bool) (fun z18 x17 => [(1, I a1), (2, Pt b1), (5, Pt b3), (34, Rs tBetween x2.2.2.1), (35, I (x2.2.2.1.length : Int)), (36, I y8), (58, .eq (.bool x17))]) (fun z18 x17 => [.obj b1 28 (.rep tCostume a0), .obj b3 56 (.rep tSeam x2)]) h (fun K h => ?_) (fun z18 x17 h => ?_)
        ·refine JC.drawN ?_;refine dm ?_;refine db (o_gtr rfl) ?_;refine DN.fork rfl rfl rfl (o_move rfl) ⟨rfl, trivial⟩ (fun hb => ?_) (fun hb => ?_)
         ·replace h := b_if (d_t hb) h;refine DN.sg00 rfl rfl rfl rfl rfl (o_field_obj rfl fo87_0) ⟨rfl, rfl, trivial⟩ ?_;refine DN.sg11 2 rfl rfl rfl rfl rfl rfl (o_load_obj rfl sz3 nfs rfl) ⟨rfl, rfl, trivial⟩ ?_;refine DN.sg00 rfl rfl rfl rfl rfl (o_field_obj rfl fo56_2) ⟨rfl, rfl, trivial⟩ ?_;refine DN.sg11 1 rfl rfl rfl rfl rfl rfl (o_load_obj rfl sz54 nfs rfl) ⟨rfl, rfl, trivial⟩ ?_;obtain ⟨x19, ex19, h⟩ := b_bind h;refine DN.sg00 rfl rfl rfl rfl rfl (o_index (t := tBetween) rfl U54 sz87 ex19) ⟨rfl, rfl, rfl, trivial⟩ ?_;refine DN.sg00 rfl rfl rfl rfl rfl (o_field_at 1 false rfl fo87_0 rfl) ⟨rfl, rfl, trivial⟩ ?_;refine DN.sg00 rfl rfl rfl rfl rfl (o_load_at (t := (.int .i64)) rfl sz3 rfl) ⟨rfl, rfl, trivial⟩ ?_;refine df mixed ?_;refine gb (o_eql rfl) ?_;refine pt ?_;refine aq (nl ?_);exact jz ((), decide (x10.1 = x19.1)) h [0, 1]
         ·replace h := b_ifn (d_f hb) h;iterate 7 refine dg ?_
          refine df mixed ?_;refine gn ?_;refine pf ?_;refine aq (nl ?_);exact jz ((), false) h [0, 1]
        ·refine cv h (fun h => ?_) (fun h => ?_)
         ·refine sr (cq (nt (JC.ret (JN.blk_r (br (JN.blk_r (JN.then_r ?_)))))));obtain rfl := hR _ h;exact ra
         ·refine JC.skip (JN.blk_n (JN.blk_n (tn (JC.region ?_))));obtain ⟨x20, ex20, h⟩ := b_bind h;refine jb (o_add rfl ex20) ?_;refine mq (nl ?_);exact jz ((), x20) h [0, 1]
    ·refine xa ?_;exact jz ((), ()) h [0, 1]
   ·refine JC.cutE (Z := Unit) (α := Unit) (fun z22 x21 => [(5, Pt b3)]) (fun z22 x21 => [.obj b3 56 (.rep tSeam x2)]) (fun e => e = r) h (fun e h => Option.some.inj h) (fun K hR h => ?_) (fun z22 x21 h => ?_)
    ·refine sr (fl fo56_3 ?_);refine fr 1 ?_;refine lo sz22 ?_;refine ol U22 ?_;refine JO.mc rfl ?_;refine nt (JC.block (JC.loopB (Z := Unit) (α := Int) (fun z24 y23 => [(1, I a1), (2, Pt b1), (5, Pt b3), (73, Ri x2.2.2.2.1), (74, I (x2.2.2.2.1.length : Int)), (75, I y23)]) (fun z24 y23 => [.obj b1 28 (.rep tCostume a0), .obj b3 56 (.rep tSeam x2)]) (seam_checkSeam_l2 k a0 a1 x2) k () (0 : Int) (fun _ => rfl) h (SE.fin [1, 0] ⟨rfl, rfl, rfl, rfl, rfl, rfl, trivial⟩ rfl) (fun n z24 y23 h => ?_)));unfold seam_checkSeam_l2 at h;refine sr (jb (o_lss rfl) ?_);refine nt (JC.seq (ci h (fun h => ?_) (fun h => ?_)))
     ·refine sk (JC.seq (JC.block (sr (mq ?_))));obtain ⟨x25, ex25, h⟩ := b_bind h;refine jb (o_index (t := (.int .i64)) rfl U22 sz3 ex25) ?_;refine ja (o_load_at (t := (.int .i64)) rfl sz3 rfl) ?_;refine aq ?_;refine aq (nt (JC.seq ?_));refine JC.cutB (Z := Unit) (α := Bool) (fun z27 x26 => [(1, I a1), (2, Pt b1), (5, Pt b3), (10, I y23), (11, I x25), (73, Ri x2.2.2.2.1), (74, I (x2.2.2.2.1.length : Int)), (75, I y23), (90, .eq (.bool x26))]) (fun z27 x26 => [.obj b1 28 (.rep tCostume a0), .obj b3 56 (.rep tSeam x2)]) h (fun K h => ?_) (fun z27 x26 h => ?_)
      ·refine JC.region (mq ?_);refine fl fo28_3 ?_;refine lo sz26 ?_;refine ol U26 ?_;obtain ⟨x28, ex28, h⟩ := b_bind h;refine jb (o_sub rfl ex28) ?_;obtain ⟨r29, er29, h⟩ := b_bind h;refine jc (o_call [.tmp 80, .const (.int .i64 (0)), .tmp 84] rfl rfl en65 rfl (seam_outside_ok k x25 (0 : Int) x28 r29 er29)) ?_;refine mq ?_;refine JO.bool (s := 86) rfl (fun hb => ?_) (fun hb => ?_)
       ·replace h := b_if (v_t hb) h;iterate 3 refine gn ?_
        refine pt (nl ?_);exact jz ((), true) h [0, 1]
       ·replace h := b_ifn (v_f hb) h;refine gm ?_;refine gm ?_;refine gb (o_eql rfl) ?_;refine pf (nl ?_);exact jz ((), decide (x25 = a1)) h [0, 1]
      ·refine cv h (fun h => ?_) (fun h => ?_)
       ·refine sr (cq (nt (rx (br (JN.blk_r (JN.then_r ?_))))));obtain rfl := hR _ h;exact ra
       ·refine sk (JC.cutB (Z := Unit) (α := Bool) (fun z31 x30 => [(1, I a1), (2, Pt b1), (5, Pt b3), (73, Ri x2.2.2.2.1), (74, I (x2.2.2.2.1.length : Int)), (75, I y23), (102, .eq (.bool x30))]) (fun z31 x30 => [.obj b1 28 (.rep tCostume a0), .obj b3 56 (.rep tSeam x2)]) h (fun K h => ?_) (fun z31 x30 h => ?_))
        ·refine JC.region (mq ?_);refine jb (o_gtr rfl) ?_;refine mq ?_;refine JO.bool (s := 93) rfl (fun hb => ?_) (fun hb => ?_)
         ·replace h := b_if (d_t hb) h;refine gm ?_;refine ga (o_field_obj rfl fo56_3) ?_;refine fr 1 ?_;refine JO.g11 rfl rfl rfl rfl rfl rfl (o_load_obj rfl sz22 nfs rfl) ⟨rfl, trivial⟩ ?_;refine gm ?_;obtain ⟨x32, ex32, h⟩ := b_bind h;refine gb (o_sub rfl ex32) ?_;obtain ⟨x33, ex33, h⟩ := b_bind h;refine gb (o_index (t := (.int .i64)) rfl U22 sz3 ex33) ?_;refine ga (o_load_at (t := (.int .i64)) rfl sz3 rfl) ?_;refine gb (o_leq rfl) ?_;refine pt (nl ?_);exact jz ((), decide (x25 ≤ x33)) h [1, 0]
         ·replace h := b_ifn (d_f hb) h;iterate 8 refine gn ?_
          refine pf (nl ?_);exact jz ((), false) h [0, 1]
        ·refine cv h (fun h => ?_) (fun h => ?_)
         ·refine sr (cq (nt (JC.ret (br (JN.blk_r (JN.then_r ?_))))));obtain rfl := hR _ h;exact ra
         ·refine JC.skip (JN.blk_n (tn (JC.region ?_)));obtain ⟨x34, ex34, h⟩ := b_bind h;refine jb (o_add rfl ex34) ?_;refine mq (nl ?_);exact jz ((), x34) h [0, 1]
     ·refine xa ?_;exact jz ((), ()) h [1]
    ·refine JC.seq (sr (fl fo56_4 ?_));refine lo sz3 ?_;obtain ⟨r35, er35, h⟩ := b_bind h;refine jc (o_call [.tmp 105, .const (.int .i64 (0)), .const (.int .i64 (4))] rfl rfl en65 rfl (seam_outside_ok k x2.2.2.2.2 (0 : Int) (4 : Int) r35 er35)) ?_;refine nt (cv h (fun h => ?_) (fun h => ?_))
     ·refine sr (cq (nt (rx ?_)));cases h;exact ra
     ·refine sk (sr (cq (nt (JC.ret ?_))));cases h;exact ra


def seam_set_has (k : Nat) (a0 : Int) (a1 : Int) : Option Bool :=
 (chkP (0 ≤ a1)).bind fun _ =>
 some (decide ((iand .u8 (ishr .u8 a0 a1) (1 : Int)) = (1 : Int)))

theorem seam_set_has_ok (k : Nat) (a0 : Int) (a1 : Int) (r : Bool) (h : seam_set_has k a0 a1 = some r) :
 Ctr Try.prog 20 [.eq (.int .u8 a0), I a1] [] (fun _ : Unit => (resA [.eq (.bool r)], [])) := by
 unfold seam_set_has at h;replace h := b_top h;refine Ctr.of 10 Try.func20 rfl Try.ntmps20 rfl fun S w0 => ?_;refine sr (cq (nt (sr ?_)));iterate 2 refine mq ?_
 obtain ⟨u1, eu1, h⟩ := b_bind h;refine jb (o_shr rfl (chkP_some eu1)) ?_;refine jb (o_and rfl) ?_;refine jb (o_eql rfl) ?_;refine aq (nt (JC.ret ?_));cases h;exact ra


def seam_set_with (k : Nat) (a0 : Int) (a1 : Int) : Option Int :=
 (chkP (0 ≤ a1)).bind fun _ =>
 some (ior .u8 a0 (ishl .u8 (1 : Int) a1))

theorem seam_set_with_ok (k : Nat) (a0 : Int) (a1 : Int) (r : Int) (h : seam_set_with k a0 a1 = some r) :
 Ctr Try.prog 21 [.eq (.int .u8 a0), I a1] [] (fun _ : Unit => (resA [.eq (.int .u8 r)], [])) := by
 unfold seam_set_with at h;replace h := b_top h;refine Ctr.of 9 Try.func21 rfl Try.ntmps21 rfl fun S w0 => ?_;refine sr (cq (nt (sr ?_)));iterate 2 refine mq ?_
 obtain ⟨u1, eu1, h⟩ := b_bind h;refine jb (o_shl rfl (chkP_some eu1)) ?_;refine jb (o_or rfl) ?_;refine aq (nt (JC.ret ?_));cases h;exact ra


def seam_gownOf_l3 (k : Nat) (y10 : (List Int) × Int) (x14 : dSeam) : Nat → ((List Int) × Int) → Option (List Int)
 | 0, _ => none
 | n + 1, y16 =>
  if y16.2 < (x14.2.2.2.1.length : Int) then ((geti x14.2.2.2.1 y16.2).bind fun x18 =>
  (chkP (0 ≤ y10.2 ∧ y10.2 < 3)).bind fun _ =>
  (geti y16.1 y10.2).bind fun x20 =>
  (chkP (0 ≤ x18 ∧ x18 < 3)).bind fun _ =>
  (geti y16.1 x18).bind fun x22 =>
  (seam_set_with k x22 x18).bind fun r23 =>
  (chkP (0 ≤ y10.2 ∧ y10.2 < 3)).bind fun _ =>
  (ck (y16.2 + (1 : Int))).bind fun x25 =>
  seam_gownOf_l3 k y10 x14 n (List.set y16.1 (Int.toNat y10.2) (ior .u8 x20 r23), x25)) else (some y16.1)

def seam_gownOf_l2 (k : Nat) (a0 : dCostume) : Nat → ((List Int) × Int) → Option (List Int)
 | 0, _ => none
 | n + 1, y10 =>
  if y10.2 < (a0.2.2.2.1.length : Int) then ((((geti a0.2.2.2.1 y10.2).bind fun x14 =>
  seam_gownOf_l3 k y10 x14 k (y10.1, (0 : Int))) : Option ((List Int))).bind fun x12 =>
  (ck (y10.2 + (1 : Int))).bind fun x26 =>
  seam_gownOf_l2 k a0 n (x12, x26)) else (some y10.1)

def seam_gownOf_l1 (k : Nat) (a0 : dCostume) : Nat → ((List Int) × Int) → Option (List Int)
 | 0, _ => none
 | n + 1, y6 =>
  if y6.2 < (a0.2.2.2.1.length : Int) then (((seam_gownOf_l2 k a0 k (y6.1, (0 : Int))) : Option ((List Int))).bind fun x8 =>
  (ck (y6.2 + (1 : Int))).bind fun x27 =>
  seam_gownOf_l1 k a0 n (x8, x27)) else (some y6.1)

def seam_gownOf_l4 (k : Nat) (a0 : dCostume) (x4 : (List Int)) : Nat → Int → Option (Except (dgown × Bool) Unit)
 | 0, _ => none
 | n + 1, y30 =>
  if y30 < (a0.2.2.2.1.length : Int) then ((chkP (0 ≤ y30 ∧ y30 < 3)).bind fun _ =>
  (geti x4 y30).bind fun x33 =>
  (seam_set_has k x33 y30).bind fun r34 =>
  if r34 = true then (some (.error ((a0, x4), false))) else ((ck (y30 + (1 : Int))).bind fun x35 =>
  seam_gownOf_l4 k a0 x4 n x35)) else (some (.ok ()))
def seam_gownOf (k : Nat) (a0 : dCostume) : Option (dgown × Bool) :=
 ((seam_gownOf_l1 k a0 k ([(0 : Int), (0 : Int), (0 : Int)], (0 : Int))) : Option ((List Int))).bind fun x4 =>
 bE (α := Unit) (seam_gownOf_l4 k a0 x4 k (0 : Int)) (some) fun _ =>
 some ((a0, x4), true)

theorem seam_gownOf_ok (k : Nat) (a0 : dCostume) (r : dgown × Bool) (h : seam_gownOf k a0 = some r) :
 Ctr Try.prog 64 [.rep tCostume a0] [] (fun _ : Unit => (resA [.rep tgown r.1, .eq (.bool r.2)], [])) := by
 unfold seam_gownOf at h;replace h := b_top h;refine Ctr.of 66 Try.func64 rfl Try.ntmps64 rfl fun S w0 => ?_;refine sr (bx fun b1 => ?_);refine JO.s01 rfl rfl rfl (o_alloc rfl za63 al63) trivial fun b2 => ?_;refine cq (nt (sr ?_));refine fr 1 ?_;refine lo sz28 ?_;refine ja (o_buildT [(0, .tmp 10, _)] rfl pl63 za63 alb63 (stors ⟨rfl, trivial⟩) rfl) ?_;refine JO.s01 rfl rfl rfl (o_alloc rfl za63 al63) trivial fun b3 => ?_;refine JO.n11 rfl rfl (o_store rfl sz63 trivial rfl rfl) ⟨rfl, rfl, trivial⟩ ?_;refine nt (JC.cutB (Z := Unit) (α := (List Int)) (fun z5 x4 => [(2, Pt b2), (4, Pt b3)]) (fun z5 x4 => [.obj b2 63 (.agg (.pair (.agg (.pair (.eq (.slice none 0 0)) (.pair (.eq (.slice none 0 0)) (.pair (.eq (.slice none 0 0)) (.pair (.eq (.slice none 0 0)) (.eq (.slice none 0 0))))))) (.rep (.arr 3 (.int .u8)) [(0 : Int), (0 : Int), (0 : Int)]))), .obj b3 63 (.agg (.pair (.rep tCostume a0) (.rep (.arr 3 (.int .u8)) x4)))]) h (fun K h => ?_) (fun z5 x4 h => ?_))
 ·refine sr (fl fo63_0 ?_);refine fl fo28_3 ?_;refine lo sz26 ?_;refine ol U26 ?_;refine JO.mc rfl ?_;refine nt (JC.block (JC.loopB (Z := Unit) (α := (List Int) × Int) (fun z7 y6 => [(2, Pt b2), (4, Pt b3), (15, I (a0.2.2.2.1.length : Int)), (16, I y6.2)]) (fun z7 y6 => [.obj b2 63 (.agg (.pair (.agg (.pair (.eq (.slice none 0 0)) (.pair (.eq (.slice none 0 0)) (.pair (.eq (.slice none 0 0)) (.pair (.eq (.slice none 0 0)) (.eq (.slice none 0 0))))))) (.rep (.arr 3 (.int .u8)) [(0 : Int), (0 : Int), (0 : Int)]))), .obj b3 63 (.agg (.pair (.rep tCostume a0) (.rep (.arr 3 (.int .u8)) y6.1)))]) (seam_gownOf_l1 k a0) k () ([(0 : Int), (0 : Int), (0 : Int)], (0 : Int)) (fun _ => rfl) h (SE.fin [2, 0] ⟨rfl, rfl, rfl, rfl, trivial⟩ rfl) (fun n z7 y6 h => ?_)));unfold seam_gownOf_l1 at h;refine sr (jb (o_lss rfl) ?_);refine nt (JC.seq (ci h (fun h => ?_) (fun h => ?_)))
  ·refine sk (JC.cutB (Z := Unit) (α := (List Int)) (fun z9 x8 => [(2, Pt b2), (4, Pt b3), (15, I (a0.2.2.2.1.length : Int)), (16, I y6.2)]) (fun z9 x8 => [.obj b2 63 (.agg (.pair (.agg (.pair (.eq (.slice none 0 0)) (.pair (.eq (.slice none 0 0)) (.pair (.eq (.slice none 0 0)) (.pair (.eq (.slice none 0 0)) (.eq (.slice none 0 0))))))) (.rep (.arr 3 (.int .u8)) [(0 : Int), (0 : Int), (0 : Int)]))), .obj b3 63 (.agg (.pair (.rep tCostume a0) (.rep (.arr 3 (.int .u8)) x8)))]) h (fun K h => ?_) (fun z9 x8 h => ?_))
   ·refine JC.block (sr (fl fo63_0 ?_));refine fl fo28_3 ?_;refine fr 1 ?_;refine lo sz26 ?_;refine ol U26 ?_;refine JO.mc rfl ?_;refine nt (JC.block (JC.loopB (Z := Unit) (α := (List Int) × Int) (fun z11 y10 => [(2, Pt b2), (4, Pt b3), (15, I (a0.2.2.2.1.length : Int)), (16, I y6.2), (20, Rs tSeam a0.2.2.2.1), (21, I (a0.2.2.2.1.length : Int)), (22, I y10.2)]) (fun z11 y10 => [.obj b2 63 (.agg (.pair (.agg (.pair (.eq (.slice none 0 0)) (.pair (.eq (.slice none 0 0)) (.pair (.eq (.slice none 0 0)) (.pair (.eq (.slice none 0 0)) (.eq (.slice none 0 0))))))) (.rep (.arr 3 (.int .u8)) [(0 : Int), (0 : Int), (0 : Int)]))), .obj b3 63 (.agg (.pair (.rep tCostume a0) (.rep (.arr 3 (.int .u8)) y10.1)))]) (seam_gownOf_l2 k a0) k () (y6.1, (0 : Int)) (fun _ => rfl) h (SE.fin [1, 0] ⟨rfl, rfl, rfl, rfl, rfl, rfl, rfl, trivial⟩ rfl) (fun n z11 y10 h => ?_)));unfold seam_gownOf_l2 at h;refine sr (jb (o_lss rfl) ?_);refine nt (JC.seq (ci h (fun h => ?_) (fun h => ?_)))
    ·refine sk (JC.cutB (Z := Unit) (α := (List Int)) (fun z13 x12 => [(2, Pt b2), (4, Pt b3), (15, I (a0.2.2.2.1.length : Int)), (16, I y6.2), (20, Rs tSeam a0.2.2.2.1), (21, I (a0.2.2.2.1.length : Int)), (22, I y10.2)]) (fun z13 x12 => [.obj b2 63 (.agg (.pair (.agg (.pair (.eq (.slice none 0 0)) (.pair (.eq (.slice none 0 0)) (.pair (.eq (.slice none 0 0)) (.pair (.eq (.slice none 0 0)) (.eq (.slice none 0 0))))))) (.rep (.arr 3 (.int .u8)) [(0 : Int), (0 : Int), (0 : Int)]))), .obj b3 63 (.agg (.pair (.rep tCostume a0) (.rep (.arr 3 (.int .u8)) x12)))]) h (fun K h => ?_) (fun z13 x12 h => ?_))
     ·refine JC.block (sr (mq ?_));obtain ⟨x14, ex14, h⟩ := b_bind h;refine jb (o_index (t := tSeam) rfl U26 sz56 ex14) ?_;refine ja (o_load_at (t := tSeam) rfl sz56 rfl) ?_;refine JO.s01 rfl rfl rfl (o_alloc rfl za56 al56) trivial fun b15 => ?_;refine aq ?_;refine JO.n11 rfl rfl (o_store rfl sz56 rfl rfl rfl) ⟨rfl, rfl, trivial⟩ ?_;refine nt (sr (fl fo56_3 ?_));refine lo sz22 ?_;refine ol U22 ?_;refine JO.mc rfl ?_;refine nt (JC.block (JC.loopB (Z := Unit) (α := (List Int) × Int) (fun z17 y16 => [(2, Pt b2), (4, Pt b3), (5, I y10.2), (15, I (a0.2.2.2.1.length : Int)), (16, I y6.2), (20, Rs tSeam a0.2.2.2.1), (21, I (a0.2.2.2.1.length : Int)), (22, I y10.2), (28, Ri x14.2.2.2.1), (29, I (x14.2.2.2.1.length : Int)), (30, I y16.2)]) (fun z17 y16 => [.obj b2 63 (.agg (.pair (.agg (.pair (.eq (.slice none 0 0)) (.pair (.eq (.slice none 0 0)) (.pair (.eq (.slice none 0 0)) (.pair (.eq (.slice none 0 0)) (.eq (.slice none 0 0))))))) (.rep (.arr 3 (.int .u8)) [(0 : Int), (0 : Int), (0 : Int)]))), .obj b3 63 (.agg (.pair (.rep tCostume a0) (.rep (.arr 3 (.int .u8)) y16.1)))]) (seam_gownOf_l3 k y10 x14) k () (y10.1, (0 : Int)) (fun _ => rfl) h (SE.fin [1, 2] ⟨rfl, rfl, rfl, rfl, rfl, rfl, rfl, rfl, rfl, rfl, rfl, trivial⟩ rfl) (fun n z17 y16 h => ?_)));unfold seam_gownOf_l3 at h;refine sr (jb (o_lss rfl) ?_);refine nt (JC.seq (ci h (fun h => ?_) (fun h => ?_)))
      ·refine sk (JC.seq (JC.block (sr ?_)));obtain ⟨x18, ex18, h⟩ := b_bind h;refine jb (o_index (t := (.int .i64)) rfl U22 sz3 ex18) ?_;refine ja (o_load_at (t := (.int .i64)) rfl sz3 rfl) ?_;refine aq (nt ?_);refine JC.drawN ?_;refine dm ?_;refine da (o_field_obj rfl fo63_1) ?_;obtain ⟨u19, eu19, h⟩ := b_bind h;refine db (o_index_arr rfl U61 sz60 (chkP_some eu19).1 (chkP_some eu19).2) ?_;obtain ⟨x20, ex20, h⟩ := b_bind h;refine ea 1 (o_load_arr (t := (.int .u8)) (off := 5) (i := y10.2) (N := 3) rfl sz60 (fun _ => rfl) rfl rfl rfl rfl ex20) ?_;refine dm ?_;refine da (o_field_obj rfl fo63_1) ?_;obtain ⟨u21, eu21, h⟩ := b_bind h;refine db (o_index_arr rfl U61 sz60 (chkP_some eu21).1 (chkP_some eu21).2) ?_;obtain ⟨x22, ex22, h⟩ := b_bind h;refine ea 1 (o_load_arr (t := (.int .u8)) (off := 5) (i := x18) (N := 3) rfl sz60 (fun _ => rfl) rfl rfl rfl rfl ex22) ?_;refine dm ?_;obtain ⟨r23, er23, h⟩ := b_bind h;refine db (o_call [.tmp 41, .tmp 42] rfl rfl en21 rfl (seam_set_with_ok k x22 x18 r23 er23)) ?_;refine db (o_or rfl) ?_;refine da (o_field_obj rfl fo63_1) ?_;refine df mixed ?_;obtain ⟨u24, eu24, h⟩ := b_bind h;refine jb (o_index_arr rfl U61 sz60 (chkP_some eu24).1 (chkP_some eu24).2) ?_;refine fr 1 ?_;refine JO.n11 rfl rfl (o_store_arr (t := (.int .u8)) (off := 5) (i := y10.2) (N := 3) rfl sz60 .int rfl rfl rfl rfl (chkP_some eu24).1 (chkP_some eu24).2 rfl) ⟨rfl, rfl, trivial⟩ ?_;refine JO.nil (JN.blk_n (tn (JC.region ?_)));obtain ⟨x25, ex25, h⟩ := b_bind h;refine jb (o_add rfl ex25) ?_;refine mq (nl ?_);exact jz ((), (List.set y16.1 (Int.toNat y10.2) (ior .u8 x20 r23), x25)) h [1, 0]
      ·refine JC.exit (JN.then_x (JN.then_x (JN.blk_hit (bn ?_))));exact jz ((), y16.1) h [0, 1]
     ·refine JC.region ?_;obtain ⟨x26, ex26, h⟩ := b_bind h;refine jb (o_add rfl ex26) ?_;refine mq (nl ?_);exact jz ((), (x12, x26)) h [0, 1]
    ·refine JC.exit (JN.then_x (JN.then_x (JN.blk_hit (bn ?_))));exact jz ((), y10.1) h [0, 1]
   ·refine JC.region ?_;obtain ⟨x27, ex27, h⟩ := b_bind h;refine jb (o_add rfl ex27) ?_;refine mq (nl ?_);exact jz ((), (x8, x27)) h [0, 1]
  ·refine xa ?_;exact jz ((), y6.1) h [0, 1]
 ·refine JC.cutE (Z := Unit) (α := Unit) (fun z29 x28 => [(2, Pt b2), (4, Pt b3)]) (fun z29 x28 => [.obj b2 63 (.agg (.pair (.agg (.pair (.eq (.slice none 0 0)) (.pair (.eq (.slice none 0 0)) (.pair (.eq (.slice none 0 0)) (.pair (.eq (.slice none 0 0)) (.eq (.slice none 0 0))))))) (.rep (.arr 3 (.int .u8)) [(0 : Int), (0 : Int), (0 : Int)]))), .obj b3 63 (.agg (.pair (.rep tCostume a0) (.rep (.arr 3 (.int .u8)) x4)))]) (fun e => e = r) h (fun e h => Option.some.inj h) (fun K hR h => ?_) (fun z29 x28 h => ?_)
  ·refine sr (fl fo63_0 ?_);refine fl fo28_3 ?_;refine fr 1 ?_;refine lo sz26 ?_;refine ol U26 ?_;refine JO.mc rfl ?_;refine nt (JC.block (JC.loopB (Z := Unit) (α := Int) (fun z31 y30 => [(2, Pt b2), (4, Pt b3), (53, I (a0.2.2.2.1.length : Int)), (54, I y30)]) (fun z31 y30 => [.obj b2 63 (.agg (.pair (.agg (.pair (.eq (.slice none 0 0)) (.pair (.eq (.slice none 0 0)) (.pair (.eq (.slice none 0 0)) (.pair (.eq (.slice none 0 0)) (.eq (.slice none 0 0))))))) (.rep (.arr 3 (.int .u8)) [(0 : Int), (0 : Int), (0 : Int)]))), .obj b3 63 (.agg (.pair (.rep tCostume a0) (.rep (.arr 3 (.int .u8)) x4)))]) (seam_gownOf_l4 k a0 x4) k () (0 : Int) (fun _ => rfl) h (SE.fin [1, 0] ⟨rfl, rfl, rfl, rfl, trivial⟩ rfl) (fun n z31 y30 h => ?_)));unfold seam_gownOf_l4 at h;refine sr (jb (o_lss rfl) ?_);refine nt (JC.seq (ci h (fun h => ?_) (fun h => ?_)))
   ·refine sk (JC.seq (JC.block (sr (mq ?_))));refine aq (nt (sr ?_));refine mq ?_;refine fl fo63_1 ?_;obtain ⟨u32, eu32, h⟩ := b_bind h;refine jb (o_index_arr rfl U61 sz60 (chkP_some eu32).1 (chkP_some eu32).2) ?_;obtain ⟨x33, ex33, h⟩ := b_bind h;refine fr 1 ?_;refine ka (o_load_arr (t := (.int .u8)) (off := 5) (i := y30) (N := 3) rfl sz60 (fun _ => rfl) rfl rfl rfl rfl ex33) ?_;refine mq ?_;obtain ⟨r34, er34, h⟩ := b_bind h;refine jb (o_call [.tmp 60, .tmp 61] rfl rfl en20 rfl (seam_set_has_ok k x33 y30 r34 er34)) ?_;refine nt (cv h (fun h => ?_) (fun h => ?_))
    ·refine sr (lo sz63 ?_);refine fr 1 ?_;refine JO.n11 rfl rfl (o_store rfl sz63 trivial rfl rfl) ⟨rfl, rfl, trivial⟩ ?_;refine cq (nt (JC.ret (br (JN.blk_r (JN.then_r ?_)))));refine JN.se (SE.objE (a := .agg (.pair (.rep tCostume a0) (.rep (.arr 3 (.int .u8)) x4))) (a' := .rep tgown (a0, x4)) (AE.ent (.agg (.pair .rep .rep)))) ?_;obtain rfl := hR _ h;exact JN.ret () [.rep tgown (a0, x4), _] 0 ⟨⟨_, _, _, _, _, rfl, (.head _), sz63, (nfn), rfl⟩, rfl, trivial⟩ rfl
    ·refine JC.skip (JN.blk_n (tn (JC.region ?_)));obtain ⟨x35, ex35, h⟩ := b_bind h;refine jb (o_add rfl ex35) ?_;refine mq (nl ?_);exact jz ((), x35) h [1, 0]
   ·refine xa ?_;exact jz ((), ()) h [0, 1]
  ·refine sr (fr 1 ?_);refine lo sz63 ?_;refine fr 1 ?_;refine JO.n11 rfl rfl (o_store rfl sz63 trivial rfl rfl) ⟨rfl, rfl, trivial⟩ ?_;refine cq (nt (JC.ret ?_));refine JN.se (SE.objE (a := .agg (.pair (.rep tCostume a0) (.rep (.arr 3 (.int .u8)) x4))) (a' := .rep tgown (a0, x4)) (AE.ent (.agg (.pair .rep .rep)))) ?_;cases h;exact JN.ret () [.rep tgown (a0, x4), _] 0 ⟨⟨_, _, _, _, _, rfl, (.head _), sz63, (nfn), rfl⟩, rfl, trivial⟩ rfl


def seam_begin_l1 (k : Nat) (a0 : dCostume) : Nat → Int → Option (Except (dgown × Int) Unit)
 | 0, _ => none
 | n + 1, y7 =>
  if y7 < (a0.2.2.2.1.length : Int) then ((seam_checkSeam k a0 y7).bind fun r9 =>
  if ¬ (r9 = (0 : Int)) then (some (.error ((([], [], [], [], []), [(0 : Int), (0 : Int), (0 : Int)]), r9))) else ((ck (y7 + (1 : Int))).bind fun x10 =>
  seam_begin_l1 k a0 n x10)) else (some (.ok ()))
def seam_begin (k : Nat) (a0 : dCostume) : Option (dgown × Int) :=
 (seam_checkGirths k a0).bind fun r3 =>
 if ¬ (r3 = (0 : Int)) then (some ((([], [], [], [], []), [(0 : Int), (0 : Int), (0 : Int)]), r3)) else ((seam_sized k (a0.2.2.2.1.length : Int) (3 : Int)).bind fun r4 =>
 if ¬ (r4 = (0 : Int)) then (some ((([], [], [], [], []), [(0 : Int), (0 : Int), (0 : Int)]), r4)) else (bE (α := Unit) (seam_begin_l1 k a0 k (0 : Int)) (some) fun _ =>
 (seam_gownOf k a0).bind fun r11 =>
 if ¬ (r11.2 = true) then (some ((([], [], [], [], []), [(0 : Int), (0 : Int), (0 : Int)]), (9 : Int))) else ((seam_checkSetting k a0 a0.2.2.2.2).bind fun r13 =>
 some (r11.1, r13))))

theorem seam_begin_ok (k : Nat) (a0 : dCostume) (r : dgown × Int) (h : seam_begin k a0 = some r) :
 Ctr Try.prog 50 [.rep tCostume a0] [] (fun _ : Unit => (resA [.rep tgown r.1, I r.2], [])) := by
 unfold seam_begin at h;replace h := b_top h;refine Ctr.of 51 Try.func50 rfl Try.ntmps50 rfl fun S w0 => ?_;refine sr (bx fun b1 => ?_);refine JO.s01 rfl rfl rfl (o_alloc rfl za63 al63) trivial fun b2 => ?_;refine cq (nt (JC.seq (sr ?_)));refine fr 1 ?_;refine lo sz28 ?_;obtain ⟨r3, er3, h⟩ := b_bind h;refine ja (o_call [.tmp 10] rfl rfl en61 rfl (seam_checkGirths_ok k a0 r3 er3)) ?_;refine aq (nt (sr ?_));refine mq ?_;refine jb (o_neq rfl) ?_;refine nt (cn h (fun h => ?_) (fun h => ?_))
 ·refine sr (JO.s rfl (o_buildT [] rfl pl63 za63 alb63 (stors trivial) rfl) trivial ?_);refine mq ?_;refine fr 1 ?_;refine JO.n11 rfl rfl (o_store rfl sz63 trivial rfl rfl) ⟨rfl, rfl, trivial⟩ ?_;refine aq (nt (rx ?_));refine JN.se (SE.objE (a := .agg (.pair (.agg (.pair (.eq (.slice none 0 0)) (.pair (.eq (.slice none 0 0)) (.pair (.eq (.slice none 0 0)) (.pair (.eq (.slice none 0 0)) (.eq (.slice none 0 0))))))) (.rep (.arr 3 (.int .u8)) [(0 : Int), (0 : Int), (0 : Int)]))) (a' := .rep tgown (([], [], [], [], []), [(0 : Int), (0 : Int), (0 : Int)])) (AE.ent (.agg (.pair (.agg (.pair .nil (.pair .nil (.pair .nil (.pair .nil .nil))))) .rep)))) ?_;cases h;exact JN.ret () [.rep tgown (([], [], [], [], []), [(0 : Int), (0 : Int), (0 : Int)]), _] 0 ⟨⟨_, _, _, _, _, rfl, (.head _), sz63, (nfn), rfl⟩, rfl, trivial⟩ rfl
 ·refine sk (JC.seq (sr (fl fo28_3 ?_)));refine lo sz26 ?_;refine ol U26 ?_;obtain ⟨r4, er4, h⟩ := b_bind h;refine jb (o_call [.tmp 18, .const (.int .i64 (3))] rfl rfl en62 rfl (seam_sized_ok k (a0.2.2.2.1.length : Int) (3 : Int) r4 er4)) ?_;refine aq (nt (sr ?_));refine mq ?_;refine jb (o_neq rfl) ?_;refine nt (cn h (fun h => ?_) (fun h => ?_))
  ·refine sr (JO.s rfl (o_buildT [] rfl pl63 za63 alb63 (stors trivial) rfl) trivial ?_);refine mq ?_;refine fr 1 ?_;refine JO.n11 rfl rfl (o_store rfl sz63 trivial rfl rfl) ⟨rfl, rfl, trivial⟩ ?_;refine aq (nt (rx ?_));refine JN.se (SE.objE (a := .agg (.pair (.agg (.pair (.eq (.slice none 0 0)) (.pair (.eq (.slice none 0 0)) (.pair (.eq (.slice none 0 0)) (.pair (.eq (.slice none 0 0)) (.eq (.slice none 0 0))))))) (.rep (.arr 3 (.int .u8)) [(0 : Int), (0 : Int), (0 : Int)]))) (a' := .rep tgown (([], [], [], [], []), [(0 : Int), (0 : Int), (0 : Int)])) (AE.ent (.agg (.pair (.agg (.pair .nil (.pair .nil (.pair .nil (.pair .nil .nil))))) .rep)))) ?_;cases h;exact JN.ret () [.rep tgown (([], [], [], [], []), [(0 : Int), (0 : Int), (0 : Int)]), _] 0 ⟨⟨_, _, _, _, _, rfl, (.head _), sz63, (nfn), rfl⟩, rfl, trivial⟩ rfl
  ·refine sk (JC.cutE (Z := Unit) (α := Unit) (fun z6 x5 => [(1, Pt b1), (2, Pt b2)]) (fun z6 x5 => [.obj b1 28 (.rep tCostume a0), .obj b2 63 (.agg (.pair (.agg (.pair (.eq (.slice none 0 0)) (.pair (.eq (.slice none 0 0)) (.pair (.eq (.slice none 0 0)) (.pair (.eq (.slice none 0 0)) (.eq (.slice none 0 0))))))) (.rep (.arr 3 (.int .u8)) [(0 : Int), (0 : Int), (0 : Int)])))]) (fun e => e = r) h (fun e h => Option.some.inj h) (fun K hR h => ?_) (fun z6 x5 h => ?_))
   ·refine sr (fl fo28_3 ?_);refine lo sz26 ?_;refine ol U26 ?_;refine JO.mc rfl ?_;refine nt (JC.block (JC.loopB (Z := Unit) (α := Int) (fun z8 y7 => [(1, Pt b1), (2, Pt b2), (26, I (a0.2.2.2.1.length : Int)), (27, I y7)]) (fun z8 y7 => [.obj b1 28 (.rep tCostume a0), .obj b2 63 (.agg (.pair (.agg (.pair (.eq (.slice none 0 0)) (.pair (.eq (.slice none 0 0)) (.pair (.eq (.slice none 0 0)) (.pair (.eq (.slice none 0 0)) (.eq (.slice none 0 0))))))) (.rep (.arr 3 (.int .u8)) [(0 : Int), (0 : Int), (0 : Int)])))]) (seam_begin_l1 k a0) k () (0 : Int) (fun _ => rfl) h (SE.fin [0, 1] ⟨rfl, rfl, rfl, rfl, trivial⟩ rfl) (fun n z8 y7 h => ?_)));unfold seam_begin_l1 at h;refine sr (jb (o_lss rfl) ?_);refine nt (JC.seq (ci h (fun h => ?_) (fun h => ?_)))
    ·refine sk (JC.seq (JC.block (sr (mq ?_))));refine aq (nt (sr ?_));refine lo sz28 ?_;refine mq ?_;obtain ⟨r9, er9, h⟩ := b_bind h;refine jb (o_call [.tmp 30, .tmp 31] rfl rfl en63 rfl (seam_checkSeam_ok k a0 y7 r9 er9)) ?_;refine aq (nt (sr ?_));refine mq ?_;refine jb (o_neq rfl) ?_;refine nt (cn h (fun h => ?_) (fun h => ?_))
     ·refine sr (JO.s rfl (o_buildT [] rfl pl63 za63 alb63 (stors trivial) rfl) trivial ?_);refine mq ?_;refine fr 1 ?_;refine JO.n11 rfl rfl (o_store rfl sz63 trivial rfl rfl) ⟨rfl, rfl, trivial⟩ ?_;refine aq (nt (JC.ret (br (JN.blk_r (JN.then_r ?_)))));refine JN.se (SE.objE (a := .agg (.pair (.agg (.pair (.eq (.slice none 0 0)) (.pair (.eq (.slice none 0 0)) (.pair (.eq (.slice none 0 0)) (.pair (.eq (.slice none 0 0)) (.eq (.slice none 0 0))))))) (.rep (.arr 3 (.int .u8)) [(0 : Int), (0 : Int), (0 : Int)]))) (a' := .rep tgown (([], [], [], [], []), [(0 : Int), (0 : Int), (0 : Int)])) (AE.ent (.agg (.pair (.agg (.pair .nil (.pair .nil (.pair .nil (.pair .nil .nil))))) .rep)))) ?_;obtain rfl := hR _ h;exact JN.ret () [.rep tgown (([], [], [], [], []), [(0 : Int), (0 : Int), (0 : Int)]), _] 0 ⟨⟨_, _, _, _, _, rfl, (.head _), sz63, (nfn), rfl⟩, rfl, trivial⟩ rfl
     ·refine JC.skip (JN.blk_n (tn (JC.region ?_)));obtain ⟨x10, ex10, h⟩ := b_bind h;refine jb (o_add rfl ex10) ?_;refine mq (nl ?_);exact jz ((), x10) h [0, 1]
    ·refine xa ?_;exact jz ((), ()) h [0, 1]
   ·refine sr (lo sz28 ?_);obtain ⟨r11, er11, h⟩ := b_bind h;refine ja (o_call [.tmp 39] rfl rfl en64 rfl (seam_gownOf_ok k a0 r11 er11)) ?_;refine mq ?_;refine xr ?_;refine xr ?_;refine JO.s01 rfl rfl rfl (o_alloc rfl za63 al63) trivial fun b12 => ?_;refine JO.n11 rfl rfl (o_store rfl sz63 rfl rfl rfl) ⟨rfl, rfl, trivial⟩ ?_;refine aq (nt (JC.seq (sr ?_)));refine mq ?_;refine ja (o_not rfl) ?_;refine nt (cw h (fun h => ?_) (fun h => ?_))
    ·refine sr (JO.s rfl (o_buildT [] rfl pl63 za63 alb63 (stors trivial) rfl) trivial ?_);refine fr 2 ?_;refine JO.n11 rfl rfl (o_store rfl sz63 trivial rfl rfl) ⟨rfl, rfl, trivial⟩ ?_;refine cq (nt (rx ?_));refine JN.se (SE.objE (a := .agg (.pair (.agg (.pair (.eq (.slice none 0 0)) (.pair (.eq (.slice none 0 0)) (.pair (.eq (.slice none 0 0)) (.pair (.eq (.slice none 0 0)) (.eq (.slice none 0 0))))))) (.rep (.arr 3 (.int .u8)) [(0 : Int), (0 : Int), (0 : Int)]))) (a' := .rep tgown (([], [], [], [], []), [(0 : Int), (0 : Int), (0 : Int)])) (AE.ent (.agg (.pair (.agg (.pair .nil (.pair .nil (.pair .nil (.pair .nil .nil))))) .rep)))) ?_;cases h;exact JN.ret () [.rep tgown (([], [], [], [], []), [(0 : Int), (0 : Int), (0 : Int)]), _] 0 ⟨⟨_, _, _, _, _, rfl, (.head _), sz63, (nfn), rfl⟩, rfl, trivial⟩ rfl
    ·refine sk (JC.seq (JC.drawN ?_));refine ea 0 (o_load_obj rfl sz63 (nfn) rfl) ?_;refine ea 1 (o_load_obj rfl sz28 (nfn) rfl) ?_;refine da (o_field_obj rfl fo28_4) ?_;refine ea 1 (o_load_obj rfl sz22 nfs rfl) ?_;obtain ⟨r13, er13, h⟩ := b_bind h;refine db (o_call [.tmp 47, .tmp 49] rfl rfl en51 rfl (seam_checkSetting_ok k a0 a0.2.2.2.2 r13 er13)) ?_;refine df mixed ?_;refine fr 2 ?_;refine JO.n11 rfl rfl (o_store rfl sz63 rfl rfl rfl) ⟨rfl, rfl, trivial⟩ ?_;refine aq (nt (JC.ret ?_));cases h;exact JN.ret () [.rep tgown r11.1, _] 0 ⟨⟨_, _, _, _, _, rfl, (.head _), sz63, (nfn), rfl⟩, rfl, trivial⟩ rfl


def seam_asked (k : Nat) (a0 : dCostume) (a1 : (List Int)) : Option (dgown × Int) :=
 (seam_begin k a0).bind fun r3 =>
 if ¬ (r3.2 = (0 : Int)) then (some ((([], [], [], [], []), [(0 : Int), (0 : Int), (0 : Int)]), r3.2)) else ((seam_checkSetting k a0 a1).bind fun r5 =>
 some (r3.1, r5))

theorem seam_asked_ok (k : Nat) (a0 : dCostume) (a1 : (List Int)) (r : dgown × Int) (h : seam_asked k a0 a1 = some r) :
 Ctr Try.prog 33 [.rep tCostume a0, Ri a1] [] (fun _ : Unit => (resA [.rep tgown r.1, I r.2], [])) := by
 unfold seam_asked at h;replace h := b_top h;refine Ctr.of 21 Try.func33 rfl Try.ntmps33 rfl fun S w0 => ?_;refine sr (bx fun b1 => ?_);refine JO.s01 rfl rfl rfl (o_alloc rfl za63 al63) trivial fun b2 => ?_;refine cq (nt (sr ?_));refine fr 1 ?_;refine lo sz28 ?_;obtain ⟨r3, er3, h⟩ := b_bind h;refine ja (o_call [.tmp 9] rfl rfl en50 rfl (seam_begin_ok k a0 r3 er3)) ?_;refine mq ?_;refine xr ?_;refine xr ?_;refine JO.s01 rfl rfl rfl (o_alloc rfl za63 al63) trivial fun b4 => ?_;refine JO.n11 rfl rfl (o_store rfl sz63 rfl rfl rfl) ⟨rfl, rfl, trivial⟩ ?_;refine aq (nt (JC.seq (sr ?_)));refine mq ?_;refine jb (o_neq rfl) ?_;refine nt (cn h (fun h => ?_) (fun h => ?_))
 ·refine sr (JO.s rfl (o_buildT [] rfl pl63 za63 alb63 (stors trivial) rfl) trivial ?_);refine mq ?_;refine fr 2 ?_;refine JO.n11 rfl rfl (o_store rfl sz63 trivial rfl rfl) ⟨rfl, rfl, trivial⟩ ?_;refine aq (nt (rx ?_));refine JN.se (SE.objE (a := .agg (.pair (.agg (.pair (.eq (.slice none 0 0)) (.pair (.eq (.slice none 0 0)) (.pair (.eq (.slice none 0 0)) (.pair (.eq (.slice none 0 0)) (.eq (.slice none 0 0))))))) (.rep (.arr 3 (.int .u8)) [(0 : Int), (0 : Int), (0 : Int)]))) (a' := .rep tgown (([], [], [], [], []), [(0 : Int), (0 : Int), (0 : Int)])) (AE.ent (.agg (.pair (.agg (.pair .nil (.pair .nil (.pair .nil (.pair .nil .nil))))) .rep)))) ?_;cases h;exact JN.ret () [.rep tgown (([], [], [], [], []), [(0 : Int), (0 : Int), (0 : Int)]), _] 0 ⟨⟨_, _, _, _, _, rfl, (.head _), sz63, (nfn), rfl⟩, rfl, trivial⟩ rfl
 ·refine sk (JC.seq (JC.drawN ?_));refine ea 0 (o_load_obj rfl sz63 (nfn) rfl) ?_;refine ea 1 (o_load_obj rfl sz28 (nfn) rfl) ?_;refine dm ?_;obtain ⟨r5, er5, h⟩ := b_bind h;refine db (o_call [.tmp 18, .tmp 19] rfl rfl en51 rfl (seam_checkSetting_ok k a0 a1 r5 er5)) ?_;refine df mixed ?_;refine fr 2 ?_;refine JO.n11 rfl rfl (o_store rfl sz63 rfl rfl rfl) ⟨rfl, rfl, trivial⟩ ?_;refine aq (nt (JC.ret ?_));cases h;exact JN.ret () [.rep tgown r3.1, _] 0 ⟨⟨_, _, _, _, _, rfl, (.head _), sz63, (nfn), rfl⟩, rfl, trivial⟩ rfl


def seam_set_list_l1 (k : Nat) (a0 : Int) : Nat → ((List Int) × Int) → Option (List Int)
 | 0, _ => none
 | n + 1, y3 =>
  if y3.2 < (3 : Int) then ((((seam_set_has k a0 y3.2).bind fun r7 =>
  if r7 = true then ((chkP (okLen (List.length y3.1 + List.length [y3.2]))).bind fun _ =>
  some (y3.1 ++ [y3.2])) else (some y3.1)) : Option ((List Int))).bind fun x5 =>
  (ck (y3.2 + (1 : Int))).bind fun x10 =>
  seam_set_list_l1 k a0 n (x5, x10)) else (some y3.1)
def seam_set_list (k : Nat) (a0 : Int) : Option (List Int) :=
 ((seam_set_list_l1 k a0 k (([] : (List Int)), (0 : Int))) : Option ((List Int))).bind fun x1 =>
 some x1

theorem seam_set_list_ok (k : Nat) (a0 : Int) (r : (List Int)) (h : seam_set_list k a0 = some r) :
 Ctr Try.prog 19 [.eq (.int .u8 a0)] [] (fun _ : Unit => (resA [Ri r], [])) := by
 unfold seam_set_list at h;replace h := b_top h;refine Ctr.of 17 Try.func19 rfl Try.ntmps19 rfl fun S w0 => ?_;refine sr (cq (nt (sr ?_)));refine cq (nt ?_);refine JC.cutB (Z := Value) (α := (List Int)) (fun z2 x1 => [(3, .eq z2)]) (fun z2 x1 => [.sl z2 3 (.int .i64) x1]) h (fun K h => ?_) (fun z2 x1 h => ?_)
 ·refine sr (JO.mc rfl ?_);refine nt (JC.block (JC.se (SE.nil 3 (.int .i64)) ?_));refine JC.loopB (Z := Value) (α := (List Int) × Int) (fun z4 y3 => [(0, .eq (.int .u8 a0)), (3, .eq z4), (5, I y3.2)]) (fun z4 y3 => [.sl z4 3 (.int .i64) y3.1]) (seam_set_list_l1 k a0) k (.slice none 0 0) (([] : (List Int)), (0 : Int)) (fun _ => rfl) h (SE.fin [0] ⟨rfl, rfl, rfl, trivial⟩ rfl) (fun n z4 y3 h => ?_);unfold seam_set_list_l1 at h;refine sr (jb (o_lss rfl) ?_);refine nt (JC.seq (ci h (fun h => ?_) (fun h => ?_)))
  ·refine sk (JC.cutB (Z := Value) (α := (List Int)) (fun z6 x5 => [(0, .eq (.int .u8 a0)), (3, .eq z6), (5, I y3.2)]) (fun z6 x5 => [.sl z6 3 (.int .i64) x5]) h (fun K h => ?_) (fun z6 x5 h => ?_))
   ·refine JC.block (sr (mq ?_));refine aq (nt (sr ?_));iterate 2 refine mq ?_
    obtain ⟨r7, er7, h⟩ := b_bind h;refine jb (o_call [.tmp 8, .tmp 9] rfl rfl en20 rfl (seam_set_has_ok k a0 y3.2 r7 er7)) ?_;refine nt (cv h (fun h => ?_) (fun h => ?_))
    ·refine JC.region ?_;iterate 2 refine mq ?_
     refine ja (o_litB (t := (.int .i64)) [(.tmp 12, _)] [y3.2] rfl rfl sl22 (.cons rfl .int .nil) rfl rfl) ?_;obtain ⟨u8, eu8, h⟩ := b_bind h;refine JO.s1x rfl rfl rfl (o_append rfl rfl sl22 (chkP_some eu8)) ⟨rfl, rfl, trivial⟩ fun v9 => ?_;refine aq (JO.nil (bn ?_));exact jz (v9, y3.1 ++ [y3.2]) h [0]
    ·refine JC.skip (bn ?_);exact jz (z4, y3.1) h [0]
   ·refine JC.region ?_;obtain ⟨x10, ex10, h⟩ := b_bind h;refine jb (o_add rfl ex10) ?_;refine mq (nl ?_);exact jz (z6, (x5, x10)) h [0]
  ·refine xa ?_;exact jz (z4, y3.1) h [0]
 ·refine sr (mq ?_);refine aq (nt (JC.ret ?_));refine JN.se (SE.frz [2, 3, 16] ⟨rfl, rfl, rfl, trivial⟩) ?_;cases h;exact ra


def seam_gown_touched_l1 (k : Nat) (a0 : dgown) (a1 : (List Int)) : Nat → (Int × Int) → Option Int
 | 0, _ => none
 | n + 1, y4 =>
  if y4.2 < (a1.length : Int) then ((((geti a1 y4.2).bind fun x8 =>
  (geti a0.1.2.2.2.2 y4.2).bind fun x9 =>
  if ¬ (x8 = x9) then ((chkP (0 ≤ y4.2 ∧ y4.2 < 3)).bind fun _ =>
  (geti a0.2 y4.2).bind fun x11 =>
  (seam_set_with k x11 y4.2).bind fun r12 =>
  some (ior .u8 y4.1 r12)) else (some y4.1)) : Option (Int)).bind fun x6 =>
  (ck (y4.2 + (1 : Int))).bind fun x13 =>
  seam_gown_touched_l1 k a0 a1 n (x6, x13)) else (some y4.1)
def seam_gown_touched (k : Nat) (a0 : dgown) (a1 : (List Int)) : Option Int :=
 ((seam_gown_touched_l1 k a0 a1 k ((0 : Int), (0 : Int))) : Option (Int)).bind fun x2 =>
 some x2

theorem seam_gown_touched_ok (k : Nat) (a0 : dgown) (a1 : (List Int)) (r : Int) (h : seam_gown_touched k a0 a1 = some r) :
 Ctr Try.prog 52 [.rep tgown a0, Ri a1] [] (fun _ : Unit => (resA [.eq (.int .u8 r)], [])) := by
 unfold seam_gown_touched at h;replace h := b_top h;refine Ctr.of 33 Try.func52 rfl Try.ntmps52 rfl fun S w0 => ?_;refine sr (bx fun b1 => ?_);refine cq (nt (sr ?_));refine cq (nt ?_);refine JC.cutB (Z := Unit) (α := Int) (fun z3 x2 => [(5, .eq (.int .u8 x2))]) (fun z3 x2 => []) h (fun K h => ?_) (fun z3 x2 h => ?_)
 ·refine sr (mq ?_);refine ol U22 ?_;refine JO.mc rfl ?_;refine nt (JC.block (JC.loopB (Z := Unit) (α := Int × Int) (fun z5 y4 => [(2, Pt b1), (5, .eq (.int .u8 y4.1)), (8, Ri a1), (9, I (a1.length : Int)), (10, I y4.2)]) (fun z5 y4 => [.obj b1 63 (.rep tgown a0)]) (seam_gown_touched_l1 k a0 a1) k () ((0 : Int), (0 : Int)) (fun _ => rfl) h (SE.fin [0] ⟨rfl, rfl, rfl, rfl, rfl, trivial⟩ rfl) (fun n z5 y4 h => ?_)));unfold seam_gown_touched_l1 at h;refine sr (jb (o_lss rfl) ?_);refine nt (JC.seq (ci h (fun h => ?_) (fun h => ?_)))
  ·refine sk (JC.cutB (Z := Unit) (α := Int) (fun z7 x6 => [(2, Pt b1), (5, .eq (.int .u8 x6)), (8, Ri a1), (9, I (a1.length : Int)), (10, I y4.2)]) (fun z7 x6 => [.obj b1 63 (.rep tgown a0)]) h (fun K h => ?_) (fun z7 x6 h => ?_))
   ·refine JC.block (sr (mq ?_));obtain ⟨x8, ex8, h⟩ := b_bind h;refine jb (o_index (t := (.int .i64)) rfl U22 sz3 ex8) ?_;refine ja (o_load_at (t := (.int .i64)) rfl sz3 rfl) ?_;refine aq ?_;refine aq (nt (sr ?_));refine mq ?_;refine fl fo63_0 ?_;refine fl fo28_4 ?_;refine lo sz22 ?_;refine mq ?_;obtain ⟨x9, ex9, h⟩ := b_bind h;refine jb (o_index (t := (.int .i64)) rfl U22 sz3 ex9) ?_;refine ja (o_load_at (t := (.int .i64)) rfl sz3 rfl) ?_;refine jb (o_neq rfl) ?_;refine nt (cn h (fun h => ?_) (fun h => ?_))
    ·refine JC.region ?_;iterate 2 refine mq ?_
     refine fl fo63_1 ?_;obtain ⟨u10, eu10, h⟩ := b_bind h;refine jb (o_index_arr rfl U61 sz60 (chkP_some eu10).1 (chkP_some eu10).2) ?_;obtain ⟨x11, ex11, h⟩ := b_bind h;refine ka (o_load_arr (t := (.int .u8)) (off := 5) (i := y4.2) (N := 3) rfl sz60 (fun _ => rfl) rfl rfl rfl rfl ex11) ?_;refine mq ?_;obtain ⟨r12, er12, h⟩ := b_bind h;refine jb (o_call [.tmp 27, .tmp 28] rfl rfl en21 rfl (seam_set_with_ok k x11 y4.2 r12 er12)) ?_;refine jb (o_or rfl) ?_;refine aq (JO.nil (bn ?_));exact jz ((), ior .u8 y4.1 r12) h [0]
    ·refine JC.skip (bn ?_);exact jz ((), y4.1) h [0]
   ·refine JC.region ?_;obtain ⟨x13, ex13, h⟩ := b_bind h;refine jb (o_add rfl ex13) ?_;refine mq (nl ?_);exact jz ((), (x6, x13)) h [0]
  ·refine xa ?_;exact jz ((), y4.1) h []
 ·refine sr (mq ?_);refine aq (nt (JC.ret ?_));cases h;exact ra


def seam_gown_sew_l1 (k : Nat) (a0 : dgown) (r5 : (List Int)) : Nat → Int → Option (Except (Int × Value) Unit)
 | 0, _ => none
 | n + 1, y6 =>
  if y6 < (r5.length : Int) then ((geti r5 y6).bind fun x8 =>
  (geti a0.1.2.2.2.1 x8).bind fun x9 =>
  if x9.2.2.2.2 < (1 : Int) then (some (.error ((0 : Int), (.iface 127 (.agg #[.int .i64 x8]))))) else ((ck (y6 + (1 : Int))).bind fun x10 =>
  seam_gown_sew_l1 k a0 r5 n x10)) else (some (.ok ()))
def seam_gown_sew (k : Nat) (a0 : dgown) (a1 : (List Int)) : Option (Int × Value) :=
 (seam_gown_touched k a0 a1).bind fun r2 =>
 bE (α := Unit) ((seam_set_list k r2).bind fun r5 =>
 seam_gown_sew_l1 k a0 r5 k (0 : Int)) (some) fun _ =>
 some (r2, .nilIface)

theorem seam_gown_sew_ok (k : Nat) (a0 : dgown) (a1 : (List Int)) (r : Int × Value) (h : seam_gown_sew k a0 a1 = some r) :
 Ctr Try.prog 34 [.rep tgown a0, Ri a1] [] (fun _ : Unit => (resA [.eq (.int .u8 r.1), .eq r.2], [])) := by
 unfold seam_gown_sew at h;replace h := b_top h;refine Ctr.of 32 Try.func34 rfl Try.ntmps34 rfl fun S w0 => ?_;refine sr (bx fun b1 => ?_);refine cq ?_;refine cq (nt (sr ?_));refine lo sz63 ?_;refine mq ?_;obtain ⟨r2, er2, h⟩ := b_bind h;refine jb (o_call [.tmp 9, .tmp 10] rfl rfl en52 rfl (seam_gown_touched_ok k a0 a1 r2 er2)) ?_;refine aq (nt ?_);refine JC.cutE (Z := Unit) (α := Unit) (fun z4 x3 => [(6, .eq (.int .u8 r2))]) (fun z4 x3 => []) (fun e => e = r) h (fun e h => Option.some.inj h) (fun K hR h => ?_) (fun z4 x3 h => ?_)
 ·refine sr (mq ?_);obtain ⟨r5, er5, h⟩ := b_bind h;refine ja (o_call [.tmp 12] rfl rfl en19 rfl (seam_set_list_ok k r2 r5 er5)) ?_;refine ol U22 ?_;refine JO.mc rfl ?_;refine nt (JC.block (JC.loopB (Z := Unit) (α := Int) (fun z7 y6 => [(2, Pt b1), (6, .eq (.int .u8 r2)), (13, Ri r5), (14, I (r5.length : Int)), (15, I y6)]) (fun z7 y6 => [.obj b1 63 (.rep tgown a0)]) (seam_gown_sew_l1 k a0 r5) k () (0 : Int) (fun _ => rfl) h (SE.fin [0] ⟨rfl, rfl, rfl, rfl, rfl, trivial⟩ rfl) (fun n z7 y6 h => ?_)));unfold seam_gown_sew_l1 at h;refine sr (jb (o_lss rfl) ?_);refine nt (JC.seq (ci h (fun h => ?_) (fun h => ?_)))
  ·refine sk (JC.seq (JC.block (sr ?_)));obtain ⟨x8, ex8, h⟩ := b_bind h;refine jb (o_index (t := (.int .i64)) rfl U22 sz3 ex8) ?_;refine ja (o_load_at (t := (.int .i64)) rfl sz3 rfl) ?_;refine aq (nt (sr ?_));refine fl fo63_0 ?_;refine fl fo28_3 ?_;refine lo sz26 ?_;refine mq ?_;obtain ⟨x9, ex9, h⟩ := b_bind h;refine jb (o_index (t := tSeam) rfl U26 sz56 ex9) ?_;refine ja (o_field_at 1 false rfl fo56_4 rfl) ?_;refine ja (o_load_at (t := (.int .i64)) rfl sz3 rfl) ?_;refine jb (o_lss rfl) ?_;refine nt (ci h (fun h => ?_) (fun h => ?_))
   ·refine sr (mq ?_);refine ja (o_buildT [(0, .tmp 27, _)] rfl pl127 za127 alb127 (stors ⟨rfl, trivial⟩) rfl) ?_;refine ja (o_ifaceS rfl U127) ?_;refine cq ?_;refine aq (nt (JC.ret (br (JN.blk_r (JN.then_r ?_)))));obtain rfl := hR _ h;exact rb
   ·refine JC.skip (JN.blk_n (tn (JC.region ?_)));obtain ⟨x10, ex10, h⟩ := b_bind h;refine jb (o_add rfl ex10) ?_;refine mq (nl ?_);exact jz ((), x10) h [0]
  ·refine xa ?_;exact jz ((), ()) h []
 ·refine sr (mq ?_);refine aq ?_;refine cq (nt (JC.ret ?_));cases h;exact rb


def seam_ready (k : Nat) (a0 : dCostume) (a1 : (List Int)) : Option (dgown × Int × Int) :=
 (seam_asked k a0 a1).bind fun r3 =>
 if ¬ (r3.2 = (0 : Int)) then (some ((([], [], [], [], []), [(0 : Int), (0 : Int), (0 : Int)]), (0 : Int), r3.2)) else ((seam_gown_sew k r3.1 a1).bind fun r5 =>
 (chkP (isIf r5.2 = true)).bind fun _ =>
 if isErr r5.2 = true then (some ((([], [], [], [], []), [(0 : Int), (0 : Int), (0 : Int)]), (0 : Int), (12 : Int))) else (some (r3.1, r5.1, (0 : Int))))

theorem seam_ready_ok (k : Nat) (a0 : dCostume) (a1 : (List Int)) (r : dgown × Int × Int) (h : seam_ready k a0 a1 = some r) :
 Ctr Try.prog 18 [.rep tCostume a0, Ri a1] [] (fun _ : Unit => (resA [.rep tgown r.1, .eq (.int .u8 r.2.1), I r.2.2], [])) := by
 unfold seam_ready at h;replace h := b_top h;refine Ctr.of 32 Try.func18 rfl Try.ntmps18 rfl fun S w0 => ?_;refine sr (bx fun b1 => ?_);refine JO.s01 rfl rfl rfl (o_alloc rfl za63 al63) trivial fun b2 => ?_;refine cq ?_;refine cq (nt (sr ?_));refine fr 1 ?_;refine lo sz28 ?_;refine mq ?_;obtain ⟨r3, er3, h⟩ := b_bind h;refine jb (o_call [.tmp 12, .tmp 13] rfl rfl en33 rfl (seam_asked_ok k a0 a1 r3 er3)) ?_;refine mq ?_;refine xr ?_;refine xr ?_;refine JO.s01 rfl rfl rfl (o_alloc rfl za63 al63) trivial fun b4 => ?_;refine JO.n11 rfl rfl (o_store rfl sz63 rfl rfl rfl) ⟨rfl, rfl, trivial⟩ ?_;refine aq (nt (JC.seq (sr ?_)));refine mq ?_;refine jb (o_neq rfl) ?_;refine nt (cn h (fun h => ?_) (fun h => ?_))
 ·refine sr (JO.s rfl (o_buildT [] rfl pl63 za63 alb63 (stors trivial) rfl) trivial ?_);refine mq ?_;refine fr 2 ?_;refine JO.n11 rfl rfl (o_store rfl sz63 trivial rfl rfl) ⟨rfl, rfl, trivial⟩ ?_;refine cq ?_;refine aq (nt (rx ?_));refine JN.se (SE.objE (a := .agg (.pair (.agg (.pair (.eq (.slice none 0 0)) (.pair (.eq (.slice none 0 0)) (.pair (.eq (.slice none 0 0)) (.pair (.eq (.slice none 0 0)) (.eq (.slice none 0 0))))))) (.rep (.arr 3 (.int .u8)) [(0 : Int), (0 : Int), (0 : Int)]))) (a' := .rep tgown (([], [], [], [], []), [(0 : Int), (0 : Int), (0 : Int)])) (AE.ent (.agg (.pair (.agg (.pair .nil (.pair .nil (.pair .nil (.pair .nil .nil))))) .rep)))) ?_;cases h;exact JN.ret () [.rep tgown (([], [], [], [], []), [(0 : Int), (0 : Int), (0 : Int)]), _, _] 0 ⟨⟨_, _, _, _, _, rfl, (.head _), sz63, (nfn), rfl⟩, rfl, rfl, trivial⟩ rfl
 ·refine sk (sr (lo sz63 ?_));refine mq ?_;obtain ⟨r5, er5, h⟩ := b_bind h;refine jb (o_call [.tmp 22, .tmp 23] rfl rfl en34 rfl (seam_gown_sew_ok k r3.1 a1 r5 er5)) ?_;refine mq ?_;refine xr ?_;refine xr ?_;refine aq ?_;refine aq (nt (JC.seq (sr ?_)));refine mq ?_;obtain ⟨u6, eu6, h⟩ := b_bind h;refine jb (o_neqNil rfl U92 (chkP_some eu6)) ?_;refine nt (cv h (fun h => ?_) (fun h => ?_))
  ·refine sr (JO.s rfl (o_buildT [] rfl pl63 za63 alb63 (stors trivial) rfl) trivial ?_);refine fr 2 ?_;refine JO.n11 rfl rfl (o_store rfl sz63 trivial rfl rfl) ⟨rfl, rfl, trivial⟩ ?_;refine cq ?_;refine cq (nt (rx ?_));refine JN.se (SE.objE (a := .agg (.pair (.agg (.pair (.eq (.slice none 0 0)) (.pair (.eq (.slice none 0 0)) (.pair (.eq (.slice none 0 0)) (.pair (.eq (.slice none 0 0)) (.eq (.slice none 0 0))))))) (.rep (.arr 3 (.int .u8)) [(0 : Int), (0 : Int), (0 : Int)]))) (a' := .rep tgown (([], [], [], [], []), [(0 : Int), (0 : Int), (0 : Int)])) (AE.ent (.agg (.pair (.agg (.pair .nil (.pair .nil (.pair .nil (.pair .nil .nil))))) .rep)))) ?_;cases h;exact JN.ret () [.rep tgown (([], [], [], [], []), [(0 : Int), (0 : Int), (0 : Int)]), _, _] 0 ⟨⟨_, _, _, _, _, rfl, (.head _), sz63, (nfn), rfl⟩, rfl, rfl, trivial⟩ rfl
  ·refine sk (sr (lo sz63 ?_));refine mq ?_;refine fr 2 ?_;refine JO.n11 rfl rfl (o_store rfl sz63 rfl rfl rfl) ⟨rfl, rfl, trivial⟩ ?_;refine aq ?_;refine cq (nt (JC.ret ?_));cases h;exact JN.ret () [.rep tgown r3.1, _, _] 0 ⟨⟨_, _, _, _, _, rfl, (.head _), sz63, (nfn), rfl⟩, rfl, rfl, trivial⟩ rfl


def seam_Sewn (k : Nat) (a0 : dCostume) (a1 : (List Int)) : Option ((List Int) × Int) :=
 (seam_ready k a0 a1).bind fun r2 =>
 (seam_set_list k r2.2.1).bind fun r4 =>
 some (r4, r2.2.2)

theorem seam_Sewn_ok (k : Nat) (a0 : dCostume) (a1 : (List Int)) (r : (List Int) × Int) (h : seam_Sewn k a0 a1 = some r) :
 Ctr Try.prog 7 [.rep tCostume a0, Ri a1] [] (fun _ : Unit => (resA [Ri r.1, I r.2], [])) := by
 unfold seam_Sewn at h;replace h := b_top h;refine Ctr.of 19 Try.func7 rfl Try.ntmps7 rfl fun S w0 => ?_;refine sr (bx fun b1 => ?_);refine cq ?_;refine cq (nt (sr ?_));refine lo sz28 ?_;refine mq ?_;obtain ⟨r2, er2, h⟩ := b_bind h;refine jb (o_call [.tmp 10, .tmp 11] rfl rfl en18 rfl (seam_ready_ok k a0 a1 r2 er2)) ?_;refine mq ?_;refine xr ?_;refine xr ?_;refine xr ?_;refine JO.s01 rfl rfl rfl (o_alloc rfl za63 al63) trivial fun b3 => ?_;refine JO.n11 rfl rfl (o_store rfl sz63 rfl rfl rfl) ⟨rfl, rfl, trivial⟩ ?_;refine aq ?_;refine aq (nt (sr ?_));refine mq ?_;obtain ⟨r4, er4, h⟩ := b_bind h;refine ja (o_call [.tmp 16] rfl rfl en19 rfl (seam_set_list_ok k r2.2.1 r4 er4)) ?_;refine mq ?_;refine aq ?_;refine aq (nt (JC.ret ?_));cases h;exact rb


theorem b_bE {α β ρ ε : Type} {Y : Option (Except ε α)} {g : ε → Option β} {f : α → Option β} {K : β → Option ρ} {q : ρ} (h : (bE Y g f).bind K = some q) : Y.bind (fun | .error e => (g e).bind K | .ok x => (f x).bind K) = some q := by
 cases Y with
 | none => cases h
 | some x => cases x with
  | error e => exact h
  | ok x => exact h

def seam_Order_l3 (k : Nat) (r2 : dgown × Int × Int) (r4 : (List Int)) (y7 : (List Int) × Int) (x13 : Int) : Nat → Int → Option (Except Unit Unit)
 | 0, _ => none
 | n + 1, y17 =>
  if y17 < (r4.length : Int) then ((geti r4 y17).bind fun x19 =>
  (((chkP (0 ≤ x19 ∧ x19 < 3)).bind fun _ =>
  (geti r2.1.2 x19).bind fun x23 =>
  (seam_set_has k x23 x13).bind fun r24 =>
  if r24 = true then ((seam_set_has k y7.2 x19).bind fun r25 =>
  some (!r25)) else (some false)) : Option (Bool)).bind fun x20 =>
  if x20 = true then (some (.error ())) else ((ck (y17 + (1 : Int))).bind fun x26 =>
  seam_Order_l3 k r2 r4 y7 x13 n x26)) else (some (.ok ()))

def seam_Order_l2 (k : Nat) (r2 : dgown × Int × Int) (r4 : (List Int)) (y7 : (List Int) × Int) : Nat → Int → Option (Except ((List Int) × Int) Unit)
 | 0, _ => none
 | n + 1, y9 =>
  if y9 < (r4.length : Int) then (bE (α := Unit) ((geti r4 y9).bind fun x13 =>
  (seam_set_has k y7.2 x13).bind fun r14 =>
  if r14 = true then (some (.ok ())) else (bE (α := Unit) (seam_Order_l3 k r2 r4 y7 x13 k (0 : Int)) (fun _ => some (.ok ())) fun _ =>
  (chkP (okLen (List.length y7.1 + List.length [x13]))).bind fun _ =>
  (seam_set_with k y7.2 x13).bind fun r29 =>
  some (.error (y7.1 ++ [x13], r29)))) (fun e => some (.error e)) fun _ =>
  (ck (y9 + (1 : Int))).bind fun x30 =>
  seam_Order_l2 k r2 r4 y7 n x30) else (some (.ok ()))

def seam_Order_l1 (k : Nat) (r2 : dgown × Int × Int) (r4 : (List Int)) : Nat → ((List Int) × Int) → Option (List Int)
 | 0, _ => none
 | n + 1, y7 =>
  if (y7.1.length : Int) < (r4.length : Int) then (bE (α := Unit) (seam_Order_l2 k r2 r4 y7 k (0 : Int)) (fun e => seam_Order_l1 k r2 r4 n e) fun _ => seam_Order_l1 k r2 r4 n (y7.1, y7.2)) else (some y7.1)
def seam_Order (k : Nat) (a0 : dCostume) (a1 : (List Int)) : Option ((List Int) × Int) :=
 (seam_ready k a0 a1).bind fun r2 =>
 if ¬ (r2.2.2 = (0 : Int)) then (some ([], r2.2.2)) else ((seam_set_list k r2.2.1).bind fun r4 =>
 ((seam_Order_l1 k r2 r4 k (([] : (List Int)), (0 : Int))) : Option ((List Int))).bind fun x5 =>
 some (x5, (0 : Int)))


theorem seam_Order_ok (k : Nat) (a0 : dCostume) (a1 : (List Int)) (r : (List Int) × Int) (h : seam_Order k a0 a1 = some r) :
 Ctr Try.prog 8 [.rep tCostume a0, Ri a1] [] (fun _ : Unit => (resA [Ri r.1, I r.2], [])) := by
 unfold seam_Order at h;replace h := b_top h;refine Ctr.of 70 Try.func8 rfl Try.ntmps8 rfl fun S w0 => ?_;refine sr (bx fun b1 => ?_);refine cq ?_;refine cq (nt ?_);refine JC.scopeS rfl (fl_miss (by kernel_rfl) (fl_miss (by kernel_rfl) (fl_miss (by kernel_rfl) (fl_miss (by kernel_rfl) (fl_miss (by kernel_rfl) (fl_hit fl_lab)))))) ?_;refine sr (lo sz28 ?_);refine mq ?_;obtain ⟨r2, er2, h⟩ := b_bind h;refine jb (o_call [.tmp 17, .tmp 18] rfl rfl en18 rfl (seam_ready_ok k a0 a1 r2 er2)) ?_;refine mq ?_;refine xr ?_;refine xr ?_;refine xr ?_;refine JO.s01 rfl rfl rfl (o_alloc rfl za63 al63) trivial fun b3 => ?_;refine JO.n11 rfl rfl (o_store rfl sz63 rfl rfl rfl) ⟨rfl, rfl, trivial⟩ ?_;refine aq ?_;refine aq (nt (JC.seq (sr ?_)));refine mq ?_;refine jb (o_neq rfl) ?_;refine nt (cn h (fun h => ?_) (fun h => ?_))
 ·refine sr (mq ?_);refine cq ?_;refine aq (nt (rx ?_));refine JN.jmp_r ?_;refine JN.se (SE.ent (t := (.slice (.int .i64))) (x := []) 4 rfl .nil rfl rfl) ?_;cases h;exact rb
 ·refine sk (sr (cq (nt (sr ?_))));refine cq (nt (sr ?_));refine mq ?_;obtain ⟨r4, er4, h⟩ := b_bind h;refine ja (o_call [.tmp 26] rfl rfl en19 rfl (seam_set_list_ok k r2.2.1 r4 er4)) ?_;refine aq (nt (JC.seq ?_));refine JC.label ?_;refine tn (JC.cutB (Z := Value) (α := (List Int)) (fun z6 x5 => [(9, .eq z6)]) (fun z6 x5 => [.sl z6 3 (.int .i64) x5]) h (fun K1 h => ?_) (fun z6 x5 h => ?_))
  ·refine JC.block (JC.se (SE.nil 3 (.int .i64)) ?_);refine JC.loopB (Z := Value) (α := (List Int) × Int) (fun z8 y7 => [(6, Pt b3), (9, .eq z8), (10, .eq (.int .u8 y7.2)), (11, Ri r4)]) (fun z8 y7 => [.obj b3 63 (.rep tgown r2.1), .sl z8 3 (.int .i64) y7.1]) (seam_Order_l1 k r2 r4) k (.slice none 0 0) (([] : (List Int)), (0 : Int)) (fun _ => rfl) h (SE.fin [1, 0] ⟨rfl, rfl, rfl, rfl, trivial⟩ rfl) (fun n1 z8 y7 h => ?_);unfold seam_Order_l1 at h;refine JC.seq (sr (mq ?_));refine fr 1 ?_;refine ka (o_len_own rfl rfl U22) ?_;refine mq ?_;refine ol U22 ?_;refine jb (o_lss rfl) ?_;refine nt (ci h (fun h => ?_) (fun h => ?_))
   ·replace h := b_bE h;refine sk (JC.block (JC.scopeS rfl (fl_hit fl_lab) ?_));refine JC.seq (JC.label ?_);refine tn (sr (mq ?_));refine ol U22 ?_;refine JO.mc rfl ?_;refine nt (JC.block (JC.loopB (Z := Unit) (α := Int) (fun z10 y9 => [(6, Pt b3), (9, .eq z8), (10, .eq (.int .u8 y7.2)), (11, Ri r4), (33, Ri r4), (34, I (r4.length : Int)), (35, I y9)]) (fun z10 y9 => [.obj b3 63 (.rep tgown r2.1), .sl z8 3 (.int .i64) y7.1]) (seam_Order_l2 k r2 r4 y7) k () (0 : Int) (fun _ => rfl) h (SE.fin [1, 0] ⟨rfl, rfl, rfl, rfl, rfl, rfl, rfl, trivial⟩ rfl) (fun n z10 y9 h => ?_)));unfold seam_Order_l2 at h;refine sr (jb (o_lss rfl) ?_);refine nt (JC.seq (ci h (fun h => ?_) (fun h => ?_)))
    ·refine sk (JC.cutE (Z := Unit) (α := Unit) (fun z12 x11 => [(6, Pt b3), (9, .eq z8), (10, .eq (.int .u8 y7.2)), (11, Ri r4), (33, Ri r4), (34, I (r4.length : Int)), (35, I y9)]) (fun z12 x11 => [.obj b3 63 (.rep tgown r2.1), .sl z8 3 (.int .i64) y7.1]) (fun e => (seam_Order_l1 k r2 r4 n1 e).bind K1 = some r) h (fun e h => h) (fun K2 hR h => ?_) (fun z12 x11 h => ?_))
     ·refine JC.block (sr ?_);obtain ⟨x13, ex13, h⟩ := b_bind h;refine jb (o_index (t := (.int .i64)) rfl U22 sz3 ex13) ?_;refine ja (o_load_at (t := (.int .i64)) rfl sz3 rfl) ?_;refine aq (nt (JC.seq (sr ?_)));iterate 2 refine mq ?_
      obtain ⟨r14, er14, h⟩ := b_bind h;refine jb (o_call [.tmp 39, .tmp 40] rfl rfl en20 rfl (seam_set_has_ok k y7.2 x13 r14 er14)) ?_;refine nt (cv h (fun h => ?_) (fun h => ?_))
      ·refine JC.exit (JN.then_x (JN.blk_hit (JN.then_n ?_)));exact jz ((), ()) h [0, 1]
      ·refine sk (JC.cutE (Z := Unit) (α := Unit) (fun z16 x15 => [(6, Pt b3), (9, .eq z8), (10, .eq (.int .u8 y7.2)), (11, Ri r4), (13, I x13)]) (fun z16 x15 => [.obj b3 63 (.rep tgown r2.1), .sl z8 3 (.int .i64) y7.1]) (fun _ => K2 (.ok ()) = some r) h (fun e h => h) (fun K3 hR3 h => ?_) (fun z16 x15 h => ?_))
       ·refine sr (mq ?_);refine ol U22 ?_;refine JO.mc rfl ?_;refine nt (JC.block (JC.loopB (Z := Unit) (α := Int) (fun z18 y17 => [(6, Pt b3), (9, .eq z8), (10, .eq (.int .u8 y7.2)), (11, Ri r4), (13, I x13), (33, Ri r4), (34, I (r4.length : Int)), (35, I y9), (42, Ri r4), (43, I (r4.length : Int)), (44, I y17)]) (fun z18 y17 => [.obj b3 63 (.rep tgown r2.1), .sl z8 3 (.int .i64) y7.1]) (seam_Order_l3 k r2 r4 y7 x13) k () (0 : Int) (fun _ => rfl) h (SE.fin [0, 1] ⟨rfl, rfl, rfl, rfl, rfl, rfl, rfl, rfl, rfl, rfl, rfl, trivial⟩ rfl) (fun n z18 y17 h => ?_)));unfold seam_Order_l3 at h;refine sr (jb (o_lss rfl) ?_);refine nt (JC.seq (ci h (fun h => ?_) (fun h => ?_)))
        ·refine sk (JC.seq (JC.block (sr ?_)));obtain ⟨x19, ex19, h⟩ := b_bind h;refine jb (o_index (t := (.int .i64)) rfl U22 sz3 ex19) ?_;refine ja (o_load_at (t := (.int .i64)) rfl sz3 rfl) ?_;refine aq (nt ?_);refine JC.cutB (Z := Unit) (α := Bool) (fun z21 x20 => [(6, Pt b3), (9, .eq z8), (10, .eq (.int .u8 y7.2)), (11, Ri r4), (13, I x13), (33, Ri r4), (34, I (r4.length : Int)), (35, I y9), (42, Ri r4), (43, I (r4.length : Int)), (44, I y17), (59, .eq (.bool x20))]) (fun z21 x20 => [.obj b3 63 (.rep tgown r2.1), .sl z8 3 (.int .i64) y7.1]) h (fun K h => ?_) (fun z21 x20 h => ?_)
         ·refine JC.region (mq ?_);refine fl fo63_1 ?_;obtain ⟨u22, eu22, h⟩ := b_bind h;refine jb (o_index_arr rfl U61 sz60 (chkP_some eu22).1 (chkP_some eu22).2) ?_;obtain ⟨x23, ex23, h⟩ := b_bind h;refine ka (o_load_arr (t := (.int .u8)) (off := 5) (i := x19) (N := 3) rfl sz60 (fun _ => rfl) rfl rfl rfl rfl ex23) ?_;refine mq ?_;obtain ⟨r24, er24, h⟩ := b_bind h;refine jb (o_call [.tmp 51, .tmp 52] rfl rfl en20 rfl (seam_set_has_ok k x23 x13 r24 er24)) ?_;refine mq ?_;refine JO.bool (s := 54) rfl (fun hb => ?_) (fun hb => ?_)
          ·replace h := b_if (v_t hb) h;refine gm ?_;refine gm ?_;obtain ⟨r25, er25, h⟩ := b_bind h;refine gb (o_call [.tmp 55, .tmp 56] rfl rfl en20 rfl (seam_set_has_ok k y7.2 x19 r25 er25)) ?_;refine ga (o_not rfl) ?_;refine pt (nl ?_);exact jz ((), !r25) h [0, 1]
          ·replace h := b_ifn (v_f hb) h;iterate 4 refine gn ?_
           refine pf (nl ?_);exact jz ((), false) h [0, 1]
         ·refine cv h (fun h => ?_) (fun h => ?_)
          ·refine JC.exit (JN.blk_miss (eq_false (by decide)) ?_);refine JN.then_x (JN.then_x (JN.blk_miss (eq_false (by decide)) ?_));refine JN.then_x (JN.blk_hit (JN.then_n ?_));exact JN.z ((), ()) (hR3 _ h) (SE.fin [0, 1] ⟨rfl, rfl, rfl, rfl, rfl, rfl, rfl, trivial⟩ rfl)
          ·refine JC.skip (JN.blk_n (tn (JC.region ?_)));obtain ⟨x26, ex26, h⟩ := b_bind h;refine jb (o_add rfl ex26) ?_;refine mq (nl ?_);exact jz ((), x26) h [0, 1]
        ·refine xa ?_;exact jz ((), ()) h [0, 1]
       ·refine sr ?_;iterate 2 refine mq ?_
        refine ja (o_litB (t := (.int .i64)) [(.tmp 62, _)] [x13] rfl rfl sl22 (.cons rfl .int .nil) rfl rfl) ?_;obtain ⟨u27, eu27, h⟩ := b_bind h;refine fr 1 ?_;refine JO.s1x rfl rfl rfl (o_append rfl rfl sl22 (chkP_some eu27)) ⟨rfl, rfl, trivial⟩ fun v28 => ?_;iterate 2 refine mq ?_
        obtain ⟨r29, er29, h⟩ := b_bind h;refine jb (o_call [.tmp 65, .tmp 66] rfl rfl en21 rfl (seam_set_with_ok k y7.2 x13 r29 er29)) ?_;refine aq ?_;refine aq (nt (JC.exit ?_));refine JN.blk_miss (eq_false (by decide)) ?_;refine JN.then_x (JN.then_x (JN.blk_miss (eq_false (by decide)) ?_));refine JN.jmp_x ?_;refine JN.blk_hit (JN.then_n ?_);exact JN.z (v28, (y7.1 ++ [x13], r29)) (hR _ h) (SE.fin [1, 0] ⟨rfl, rfl, rfl, rfl, trivial⟩ rfl)
     ·refine JC.region ?_;obtain ⟨x30, ex30, h⟩ := b_bind h;refine jb (o_add rfl ex30) ?_;refine mq (nl ?_);exact jz ((), x30) h [0, 1]
    ·refine JC.exit (JN.then_x (JN.then_x (JN.blk_hit (JN.jmp_n ?_))));refine bn ?_;exact jz (z8, (y7.1, y7.2)) h [0, 1]
   ·refine xa ?_;exact jz (z8, y7.1) h [0]
  ·refine sr (mq ?_);refine aq ?_;refine cq (nt (JC.ret ?_));refine JN.jmp_r ?_;refine JN.se (SE.frz [4, 9, 69] ⟨rfl, rfl, rfl, trivial⟩) ?_;cases h;exact rb


def chg_of_l1 (k : Nat) (a0 : (List Int)) : Nat → (Int × Int) → Option Int
 | 0, _ => none
 | n + 1, y3 =>
  if y3.2 < (a0.length : Int) then ((geti a0 y3.2).bind fun x5 =>
  (chkP (0 ≤ x5)).bind fun _ =>
  (ck (y3.2 + (1 : Int))).bind fun x7 =>
  chg_of_l1 k a0 n (ior .u8 y3.1 (ishl .u8 (1 : Int) x5), x7)) else (some y3.1)
def chg_of (k : Nat) (a0 : (List Int)) : Option Int :=
 ((chg_of_l1 k a0 k ((0 : Int), (0 : Int))) : Option (Int)).bind fun x1 =>
 some x1

theorem chg_of_ok (k : Nat) (a0 : (List Int)) (r : Int) (h : chg_of k a0 = some r) :
 Ctr Try.prog 37 [Ri a0] [] (fun _ : Unit => (resA [.eq (.int .u8 r)], [])) := by
 unfold chg_of at h;replace h := b_top h;refine Ctr.of 18 Try.func37 rfl Try.ntmps37 rfl fun S w0 => ?_;refine sr (cq (nt (sr ?_)));refine cq (nt ?_);refine JC.cutB (Z := Unit) (α := Int) (fun z2 x1 => [(3, .eq (.int .u8 x1))]) (fun z2 x1 => []) h (fun K h => ?_) (fun z2 x1 h => ?_)
 ·refine sr (mq ?_);refine ol U22 ?_;refine JO.mc rfl ?_;refine nt (JC.block (JC.loopB (Z := Unit) (α := Int × Int) (fun z4 y3 => [(3, .eq (.int .u8 y3.1)), (6, Ri a0), (7, I (a0.length : Int)), (8, I y3.2)]) (fun z4 y3 => []) (chg_of_l1 k a0) k () ((0 : Int), (0 : Int)) (fun _ => rfl) h (SE.fin [] ⟨rfl, rfl, rfl, rfl, trivial⟩ rfl) (fun n z4 y3 h => ?_)));unfold chg_of_l1 at h;refine sr (jb (o_lss rfl) ?_);refine nt (JC.seq (ci h (fun h => ?_) (fun h => ?_)))
  ·refine sk (JC.seq (JC.block (sr ?_)));obtain ⟨x5, ex5, h⟩ := b_bind h;refine jb (o_index (t := (.int .i64)) rfl U22 sz3 ex5) ?_;refine ja (o_load_at (t := (.int .i64)) rfl sz3 rfl) ?_;refine aq (nt (JC.region ?_));iterate 2 refine mq ?_
   obtain ⟨u6, eu6, h⟩ := b_bind h;refine jb (o_shl rfl (chkP_some eu6)) ?_;refine jb (o_or rfl) ?_;refine aq (JO.nil (JN.blk_n (tn (JC.region ?_))));obtain ⟨x7, ex7, h⟩ := b_bind h;refine jb (o_add rfl ex7) ?_;refine mq (nl ?_);exact jz ((), (ior .u8 y3.1 (ishl .u8 (1 : Int) x5), x7)) h []
  ·refine xa ?_;exact jz ((), y3.1) h []
 ·refine sr (mq ?_);refine aq (nt (JC.ret ?_));cases h;exact ra


def chg_set_has (k : Nat) (a0 : Int) (a1 : Int) : Option Bool :=
 (chkP (0 ≤ a1)).bind fun _ =>
 some (decide ((iand .u8 (ishr .u8 a0 a1) (1 : Int)) = (1 : Int)))

theorem chg_set_has_ok (k : Nat) (a0 : Int) (a1 : Int) (r : Bool) (h : chg_set_has k a0 a1 = some r) :
 Ctr Try.prog 43 [.eq (.int .u8 a0), I a1] [] (fun _ : Unit => (resA [.eq (.bool r)], [])) := by
 unfold chg_set_has at h;replace h := b_top h;refine Ctr.of 10 Try.func43 rfl Try.ntmps43 rfl fun S w0 => ?_;refine sr (cq (nt (sr ?_)));iterate 2 refine mq ?_
 obtain ⟨u1, eu1, h⟩ := b_bind h;refine jb (o_shr rfl (chkP_some eu1)) ?_;refine jb (o_and rfl) ?_;refine jb (o_eql rfl) ?_;refine aq (nt (JC.ret ?_));cases h;exact ra


def chg_sized (k : Nat) (a0 : Int) (a1 : Int) : Option Int :=
 if a0 = (0 : Int) then (some (7 : Int)) else (if a1 < a0 then (some (6 : Int)) else (some (0 : Int)))

theorem chg_sized_ok (k : Nat) (a0 : Int) (a1 : Int) (r : Int) (h : chg_sized k a0 a1 = some r) :
 Ctr Try.prog 54 [I a0, I a1] [] (fun _ : Unit => (resA [I r], [])) := by
 unfold chg_sized at h;replace h := b_top h;refine Ctr.of 12 Try.func54 rfl Try.ntmps54 rfl fun S w0 => ?_;refine sr (cq (nt (JC.seq (JC.block (sr ?_)))));refine mq ?_;refine jb (o_eql rfl) ?_;refine aq (nt ?_);refine ci h (fun h => ?_) (fun h => ?_)
 ·refine sr (cq (nt (JC.ret (JN.blk_r (JN.then_r ?_)))));cases h;exact ra
 ·refine sr ?_;iterate 2 refine mq ?_
  refine jb (o_gtr rfl) ?_;refine aq (nt ?_);refine ci h (fun h => ?_) (fun h => ?_)
  ·refine sr (cq (nt (JC.ret (JN.blk_r (JN.then_r ?_)))));cases h;exact ra
  ·refine JC.skip (JN.blk_n (tn (sr (cq (nt (JC.ret ?_))))));cases h;exact ra


def chg_outside (k : Nat) (a0 : Int) (a1 : Int) (a2 : Int) : Option Bool :=
 ((if a0 < a1 then (some true) else (some (decide (a2 < a0)))) : Option (Bool)).bind fun x1 =>
 some x1

theorem chg_outside_ok (k : Nat) (a0 : Int) (a1 : Int) (a2 : Int) (r : Bool) (h : chg_outside k a0 a1 a2 = some r) :
 Ctr Try.prog 56 [I a0, I a1, I a2] [] (fun _ : Unit => (resA [.eq (.bool r)], [])) := by
 unfold chg_outside at h;replace h := b_top h;refine Ctr.of 15 Try.func56 rfl Try.ntmps56 rfl fun S w0 => ?_;refine sr (cq (nt ?_));refine JC.cutB (Z := Unit) (α := Bool) (fun z2 x1 => [(6, .eq (.bool x1))]) (fun z2 x1 => []) h (fun K h => ?_) (fun z2 x1 h => ?_)
 ·refine JC.region ?_;iterate 2 refine mq ?_
  refine jb (o_lss rfl) ?_;refine mq ?_;refine JO.bool (s := 10) rfl (fun hb => ?_) (fun hb => ?_)
  ·replace h := b_if (d_t hb) h;iterate 3 refine gn ?_
   refine pt ?_;refine aq (nl ?_);exact jz ((), true) h []
  ·replace h := b_ifn (d_f hb) h;refine gm ?_;refine gm ?_;refine gb (o_gtr rfl) ?_;refine pf ?_;refine aq (nl ?_);exact jz ((), decide (a2 < a0)) h []
 ·refine JC.ret ?_;cases h;exact ra


def chg_checkList_l1 (k : Nat) (a0 : (List Int)) (a1 : Int) (a2 : Int) : Nat → Int → Option (Except Int Unit)
 | 0, _ => none
 | n + 1, y3 =>
  if y3 < (a0.length : Int) then ((geti a0 y3).bind fun x5 =>
  (((ck (a1 - (1 : Int))).bind fun x8 =>
  (chg_outside k x5 (0 : Int) x8).bind fun r9 =>
  if r9 = true then (some true) else (some (decide (x5 = a2)))) : Option (Bool)).bind fun x6 =>
  if x6 = true then (some (.error (3 : Int))) else (((if (0 : Int) < y3 then ((ck (y3 - (1 : Int))).bind fun x12 =>
  (geti a0 x12).bind fun x13 =>
  some (decide (x5 ≤ x13))) else (some false)) : Option (Bool)).bind fun x10 =>
  if x10 = true then (some (.error (5 : Int))) else ((ck (y3 + (1 : Int))).bind fun x14 =>
  chg_checkList_l1 k a0 a1 a2 n x14))) else (some (.ok ()))
def chg_checkList (k : Nat) (a0 : (List Int)) (a1 : Int) (a2 : Int) : Option Int :=
 bE (α := Unit) (chg_checkList_l1 k a0 a1 a2 k (0 : Int)) (some) fun _ =>
 some (0 : Int)

theorem chg_checkList_ok (k : Nat) (a0 : (List Int)) (a1 : Int) (a2 : Int) (r : Int) (h : chg_checkList k a0 a1 a2 = some r) :
 Ctr Try.prog 55 [Ri a0, I a1, I a2] [] (fun _ : Unit => (resA [I r], [])) := by
 unfold chg_checkList at h;replace h := b_top h;refine Ctr.of 37 Try.func55 rfl Try.ntmps55 rfl fun S w0 => ?_;refine sr (cq (nt ?_));refine JC.cutE (Z := Unit) (α := Unit) (fun z2 x1 => []) (fun z2 x1 => []) (fun e => e = r) h (fun e h => Option.some.inj h) (fun K hR h => ?_) (fun z2 x1 h => ?_)
 ·refine sr (mq ?_);refine ol U22 ?_;refine JO.mc rfl ?_;refine nt (JC.block (JC.loopB (Z := Unit) (α := Int) (fun z4 y3 => [(0, Ri a0), (1, I a1), (2, I a2), (9, Ri a0), (10, I (a0.length : Int)), (11, I y3)]) (fun z4 y3 => []) (chg_checkList_l1 k a0 a1 a2) k () (0 : Int) (fun _ => rfl) h (SE.fin [] ⟨rfl, rfl, rfl, rfl, rfl, rfl, trivial⟩ rfl) (fun n z4 y3 h => ?_)));unfold chg_checkList_l1 at h;refine sr (jb (o_lss rfl) ?_);refine nt (JC.seq (ci h (fun h => ?_) (fun h => ?_)))
  ·refine sk (JC.seq (JC.block (sr (mq ?_))));obtain ⟨x5, ex5, h⟩ := b_bind h;refine jb (o_index (t := (.int .i64)) rfl U22 sz3 ex5) ?_;refine ja (o_load_at (t := (.int .i64)) rfl sz3 rfl) ?_;refine aq ?_;refine aq (nt (JC.seq ?_));refine JC.cutB (Z := Unit) (α := Bool) (fun z7 x6 => [(0, Ri a0), (1, I a1), (2, I a2), (7, I y3), (8, I x5), (9, Ri a0), (10, I (a0.length : Int)), (11, I y3), (24, .eq (.bool x6))]) (fun z7 x6 => []) h (fun K h => ?_) (fun z7 x6 h => ?_)
   ·refine JC.region ?_;iterate 2 refine mq ?_
    obtain ⟨x8, ex8, h⟩ := b_bind h;refine jb (o_sub rfl ex8) ?_;obtain ⟨r9, er9, h⟩ := b_bind h;refine jc (o_call [.tmp 16, .const (.int .i64 (0)), .tmp 18] rfl rfl en56 rfl (chg_outside_ok k x5 (0 : Int) x8 r9 er9)) ?_;refine mq ?_;refine JO.bool (s := 20) rfl (fun hb => ?_) (fun hb => ?_)
    ·replace h := b_if (v_t hb) h;iterate 3 refine gn ?_
     refine pt (nl ?_);exact jz ((), true) h []
    ·replace h := b_ifn (v_f hb) h;refine gm ?_;refine gm ?_;refine gb (o_eql rfl) ?_;refine pf (nl ?_);exact jz ((), decide (x5 = a2)) h []
   ·refine cv h (fun h => ?_) (fun h => ?_)
    ·refine sr (cq (nt (rx (br (JN.blk_r (JN.then_r ?_))))));obtain rfl := hR _ h;exact ra
    ·refine sk (JC.cutB (Z := Unit) (α := Bool) (fun z11 x10 => [(0, Ri a0), (1, I a1), (2, I a2), (9, Ri a0), (10, I (a0.length : Int)), (11, I y3), (35, .eq (.bool x10))]) (fun z11 x10 => []) h (fun K h => ?_) (fun z11 x10 h => ?_))
     ·refine JC.region (mq ?_);refine jb (o_gtr rfl) ?_;refine mq ?_;refine JO.bool (s := 27) rfl (fun hb => ?_) (fun hb => ?_)
      ·replace h := b_if (d_t hb) h;refine gm ?_;refine gm ?_;refine gm ?_;obtain ⟨x12, ex12, h⟩ := b_bind h;refine gb (o_sub rfl ex12) ?_;obtain ⟨x13, ex13, h⟩ := b_bind h;refine gb (o_index (t := (.int .i64)) rfl U22 sz3 ex13) ?_;refine ga (o_load_at (t := (.int .i64)) rfl sz3 rfl) ?_;refine gb (o_leq rfl) ?_;refine pt (nl ?_);exact jz ((), decide (x5 ≤ x13)) h []
      ·replace h := b_ifn (d_f hb) h;iterate 7 refine gn ?_
       refine pf (nl ?_);exact jz ((), false) h []
     ·refine cv h (fun h => ?_) (fun h => ?_)
      ·refine sr (cq (nt (JC.ret (br (JN.blk_r (JN.then_r ?_))))));obtain rfl := hR _ h;exact ra
      ·refine JC.skip (JN.blk_n (tn (JC.region ?_)));obtain ⟨x14, ex14, h⟩ := b_bind h;refine jb (o_add rfl ex14) ?_;refine mq (nl ?_);exact jz ((), x14) h []
  ·refine xa ?_;exact jz ((), ()) h []
 ·refine sr (cq (nt (JC.ret ?_)));cases h;exact ra


def chg_checkThings_l1 (k : Nat) (a0 : dChange) : Nat → Int → Option (Except Int Unit)
 | 0, _ => none
 | n + 1, y5 =>
  if y5 < (a0.1.length : Int) then ((geti a0.1 y5).bind fun x7 =>
  (chg_checkList k x7.1 (a0.1.length : Int) y5).bind fun r9 =>
  if ¬ (r9 = (0 : Int)) then (some (.error r9)) else ((((chg_outside k x7.2.1 (1 : Int) (4 : Int)).bind fun r12 =>
  if r12 = true then (some true) else ((chg_outside k x7.2.2.1 (1 : Int) (4 : Int)).bind fun r13 =>
  some r13)) : Option (Bool)).bind fun x10 =>
  if x10 = true then (some (.error (1 : Int))) else ((chg_outside k x7.2.2.2.1 (0 : Int) (2 : Int)).bind fun r14 =>
  if r14 = true then (some (.error (8 : Int))) else ((chg_outside k x7.2.2.2.2 (0 : Int) (30 : Int)).bind fun r15 =>
  if r15 = true then (some (.error (1 : Int))) else ((ck (y5 + (1 : Int))).bind fun x16 =>
  chg_checkThings_l1 k a0 n x16))))) else (some (.ok ()))

def chg_checkThings_l4 (k : Nat) (y24 : (List Int) × Int) (x28 : dThing) : Nat → ((List Int) × Int) → Option (List Int)
 | 0, _ => none
 | n + 1, y30 =>
  if y30.2 < (x28.1.length : Int) then ((geti x28.1 y30.2).bind fun x32 =>
  (chkP (0 ≤ y24.2 ∧ y24.2 < 4)).bind fun _ =>
  (geti y30.1 y24.2).bind fun x34 =>
  (chkP (0 ≤ x32 ∧ x32 < 4)).bind fun _ =>
  (geti y30.1 x32).bind fun x36 =>
  (chg_of k [x32]).bind fun r37 =>
  (chkP (0 ≤ y24.2 ∧ y24.2 < 4)).bind fun _ =>
  (ck (y30.2 + (1 : Int))).bind fun x39 =>
  chg_checkThings_l4 k y24 x28 n (List.set y30.1 (Int.toNat y24.2) (ior .u8 x34 (ior .u8 x36 r37)), x39)) else (some y30.1)

def chg_checkThings_l3 (k : Nat) (a0 : dChange) : Nat → ((List Int) × Int) → Option (List Int)
 | 0, _ => none
 | n + 1, y24 =>
  if y24.2 < (a0.1.length : Int) then ((((geti a0.1 y24.2).bind fun x28 =>
  chg_checkThings_l4 k y24 x28 k (y24.1, (0 : Int))) : Option ((List Int))).bind fun x26 =>
  (ck (y24.2 + (1 : Int))).bind fun x40 =>
  chg_checkThings_l3 k a0 n (x26, x40)) else (some y24.1)

def chg_checkThings_l2 (k : Nat) (a0 : dChange) : Nat → ((List Int) × Int) → Option (List Int)
 | 0, _ => none
 | n + 1, y20 =>
  if y20.2 < (a0.1.length : Int) then (((chg_checkThings_l3 k a0 k (y20.1, (0 : Int))) : Option ((List Int))).bind fun x22 =>
  (ck (y20.2 + (1 : Int))).bind fun x41 =>
  chg_checkThings_l2 k a0 n (x22, x41)) else (some y20.1)

def chg_checkThings_l5 (k : Nat) (a0 : dChange) (x18 : (List Int)) : Nat → Int → Option (Except Int Unit)
 | 0, _ => none
 | n + 1, y44 =>
  if y44 < (a0.1.length : Int) then ((chkP (0 ≤ y44 ∧ y44 < 4)).bind fun _ =>
  (geti x18 y44).bind fun x47 =>
  (chg_set_has k x47 y44).bind fun r48 =>
  if r48 = true then (some (.error (9 : Int))) else ((ck (y44 + (1 : Int))).bind fun x49 =>
  chg_checkThings_l5 k a0 x18 n x49)) else (some (.ok ()))
def chg_checkThings (k : Nat) (a0 : dChange) : Option Int :=
 (chg_sized k (a0.1.length : Int) (4 : Int)).bind fun r2 =>
 if ¬ (r2 = (0 : Int)) then (some r2) else (bE (α := Unit) (chg_checkThings_l1 k a0 k (0 : Int)) (some) fun _ =>
 ((chg_checkThings_l2 k a0 k ([(0 : Int), (0 : Int), (0 : Int), (0 : Int)], (0 : Int))) : Option ((List Int))).bind fun x18 =>
 bE (α := Unit) (chg_checkThings_l5 k a0 x18 k (0 : Int)) (some) fun _ =>
 some (0 : Int))

theorem chg_checkThings_ok (k : Nat) (a0 : dChange) (r : Int) (h : chg_checkThings k a0 = some r) :
 Ctr Try.prog 53 [.rep tChange a0] [] (fun _ : Unit => (resA [I r], [])) := by
 unfold chg_checkThings at h;replace h := b_top h;refine Ctr.of 103 Try.func53 rfl Try.ntmps53 rfl fun S w0 => ?_;refine sr (bx fun b1 => ?_);refine cq (nt (JC.seq (sr ?_)));refine fl fo43_0 ?_;refine lo sz40 ?_;refine ol U40 ?_;obtain ⟨r2, er2, h⟩ := b_bind h;refine jb (o_call [.tmp 15, .const (.int .i64 (4))] rfl rfl en54 rfl (chg_sized_ok k (a0.1.length : Int) (4 : Int) r2 er2)) ?_;refine aq (nt (sr ?_));refine mq ?_;refine jb (o_neq rfl) ?_;refine nt (cn h (fun h => ?_) (fun h => ?_))
 ·refine sr (mq ?_);refine aq (nt (rx ?_));cases h;exact ra
 ·refine sk (JC.cutE (Z := Unit) (α := Unit) (fun z4 x3 => [(1, Pt b1)]) (fun z4 x3 => [.obj b1 43 (.rep tChange a0)]) (fun e => e = r) h (fun e h => Option.some.inj h) (fun K hR h => ?_) (fun z4 x3 h => ?_))
  ·refine sr (fl fo43_0 ?_);refine lo sz40 ?_;refine ol U40 ?_;refine JO.mc rfl ?_;refine nt (JC.block (JC.loopB (Z := Unit) (α := Int) (fun z6 y5 => [(1, Pt b1), (21, Rs tThing a0.1), (22, I (a0.1.length : Int)), (23, I y5)]) (fun z6 y5 => [.obj b1 43 (.rep tChange a0)]) (chg_checkThings_l1 k a0) k () (0 : Int) (fun _ => rfl) h (SE.fin [0] ⟨rfl, rfl, rfl, rfl, trivial⟩ rfl) (fun n z6 y5 h => ?_)));unfold chg_checkThings_l1 at h;refine sr (jb (o_lss rfl) ?_);refine nt (JC.seq (ci h (fun h => ?_) (fun h => ?_)))
   ·refine sk (JC.seq (JC.block (sr (mq ?_))));obtain ⟨x7, ex7, h⟩ := b_bind h;refine jb (o_index (t := tThing) rfl U40 sz84 ex7) ?_;refine ja (o_load_at (t := tThing) rfl sz84 rfl) ?_;refine JO.s01 rfl rfl rfl (o_alloc rfl za84 al84) trivial fun b8 => ?_;refine aq ?_;refine JO.n11 rfl rfl (o_store rfl sz84 rfl rfl rfl) ⟨rfl, rfl, trivial⟩ ?_;refine nt (JC.seq (sr (fl fo84_0 ?_)));refine lo sz22 ?_;refine fl fo43_0 ?_;refine fr 1 ?_;refine lo sz40 ?_;refine ol U40 ?_;refine mq ?_;obtain ⟨r9, er9, h⟩ := b_bind h;refine jc (o_call [.tmp 29, .tmp 32, .tmp 33] rfl rfl en55 rfl (chg_checkList_ok k x7.1 (a0.1.length : Int) y5 r9 er9)) ?_;refine aq (nt (sr ?_));refine mq ?_;refine jb (o_neq rfl) ?_;refine nt (cn h (fun h => ?_) (fun h => ?_))
    ·refine sr (mq ?_);refine aq (nt (rx (br (JN.blk_r (JN.then_r ?_)))));obtain rfl := hR _ h;exact ra
    ·refine sk (JC.block (JC.cutB (Z := Unit) (α := Bool) (fun z11 x10 => [(1, Pt b1), (5, Pt b8), (21, Rs tThing a0.1), (22, I (a0.1.length : Int)), (23, I y5), (38, .eq (.bool x10))]) (fun z11 x10 => [.obj b1 43 (.rep tChange a0), .obj b8 84 (.rep tThing x7)]) h (fun K h => ?_) (fun z11 x10 h => ?_)))
     ·refine JC.region (fl fo84_1 ?_);refine fr 1 ?_;refine lo sz3 ?_;obtain ⟨r12, er12, h⟩ := b_bind h;refine jc (o_call [.tmp 40, .const (.int .i64 (1)), .const (.int .i64 (4))] rfl rfl en56 rfl (chg_outside_ok k x7.2.1 (1 : Int) (4 : Int) r12 er12)) ?_;refine mq ?_;refine JO.bool (s := 42) rfl (fun hb => ?_) (fun hb => ?_)
      ·replace h := b_if (v_t hb) h;iterate 3 refine gn ?_
       refine pt ?_;refine aq (nl ?_);exact jz ((), true) h [1, 0]
      ·replace h := b_ifn (v_f hb) h;refine ga (o_field_obj rfl fo84_2) ?_;refine JO.g11 rfl rfl rfl rfl rfl rfl (o_load_obj rfl sz3 nfs rfl) ⟨rfl, trivial⟩ ?_;obtain ⟨r13, er13, h⟩ := b_bind h;refine gc (o_call [.tmp 44, .const (.int .i64 (1)), .const (.int .i64 (4))] rfl rfl en56 rfl (chg_outside_ok k x7.2.2.1 (1 : Int) (4 : Int) r13 er13)) ?_;refine pf ?_;refine aq (nl ?_);exact jz ((), r13) h [1, 0]
     ·refine cv h (fun h => ?_) (fun h => ?_)
      ·refine sr (cq (nt (JC.ret (JN.blk_r (br (JN.blk_r (JN.then_r ?_)))))));obtain rfl := hR _ h;exact ra
      ·refine sr (fl fo84_3 ?_);refine fr 1 ?_;refine lo sz3 ?_;obtain ⟨r14, er14, h⟩ := b_bind h;refine jc (o_call [.tmp 49, .const (.int .i64 (0)), .const (.int .i64 (2))] rfl rfl en56 rfl (chg_outside_ok k x7.2.2.2.1 (0 : Int) (2 : Int) r14 er14)) ?_;refine aq (nt ?_);refine cv h (fun h => ?_) (fun h => ?_)
       ·refine sr (cq (nt (JC.ret (JN.blk_r (br (JN.blk_r (JN.then_r ?_)))))));obtain rfl := hR _ h;exact ra
       ·refine sr (fl fo84_4 ?_);refine lo sz3 ?_;obtain ⟨r15, er15, h⟩ := b_bind h;refine jc (o_call [.tmp 53, .const (.int .i64 (0)), .const (.int .i64 (30))] rfl rfl en56 rfl (chg_outside_ok k x7.2.2.2.2 (0 : Int) (30 : Int) r15 er15)) ?_;refine aq (nt ?_);refine cv h (fun h => ?_) (fun h => ?_)
        ·refine sr (cq (nt (JC.ret (JN.blk_r (br (JN.blk_r (JN.then_r ?_)))))));obtain rfl := hR _ h;exact ra
        ·refine JC.skip (JN.blk_n (JN.blk_n (tn (JC.region ?_))));obtain ⟨x16, ex16, h⟩ := b_bind h;refine jb (o_add rfl ex16) ?_;refine mq (nl ?_);exact jz ((), x16) h [1]
   ·refine xa ?_;exact jz ((), ()) h [0]
  ·refine sr (JO.s01 rfl rfl rfl (o_alloc rfl za141 al141) trivial fun b17 => ?_);refine nt (JC.cutB (Z := Unit) (α := (List Int)) (fun z19 x18 => [(1, Pt b1), (7, Pt b17)]) (fun z19 x18 => [.obj b1 43 (.rep tChange a0), .obj b17 141 (.rep (.arr 4 (.int .u8)) x18)]) h (fun K h => ?_) (fun z19 x18 h => ?_))
   ·refine sr (fl fo43_0 ?_);refine fr 1 ?_;refine lo sz40 ?_;refine ol U40 ?_;refine JO.mc rfl ?_;refine nt (JC.block (JC.loopB (Z := Unit) (α := (List Int) × Int) (fun z21 y20 => [(1, Pt b1), (7, Pt b17), (58, I (a0.1.length : Int)), (59, I y20.2)]) (fun z21 y20 => [.obj b1 43 (.rep tChange a0), .obj b17 141 (.rep (.arr 4 (.int .u8)) y20.1)]) (chg_checkThings_l2 k a0) k () ([(0 : Int), (0 : Int), (0 : Int), (0 : Int)], (0 : Int)) (fun _ => rfl) h (SE.fin [0, 1] ⟨rfl, rfl, rfl, rfl, trivial⟩ rfl) (fun n z21 y20 h => ?_)));unfold chg_checkThings_l2 at h;refine sr (jb (o_lss rfl) ?_);refine nt (JC.seq (ci h (fun h => ?_) (fun h => ?_)))
    ·refine sk (JC.cutB (Z := Unit) (α := (List Int)) (fun z23 x22 => [(1, Pt b1), (7, Pt b17), (58, I (a0.1.length : Int)), (59, I y20.2)]) (fun z23 x22 => [.obj b1 43 (.rep tChange a0), .obj b17 141 (.rep (.arr 4 (.int .u8)) x22)]) h (fun K h => ?_) (fun z23 x22 h => ?_))
     ·refine JC.block (sr (fl fo43_0 ?_));refine lo sz40 ?_;refine ol U40 ?_;refine JO.mc rfl ?_;refine nt (JC.block (JC.loopB (Z := Unit) (α := (List Int) × Int) (fun z25 y24 => [(1, Pt b1), (7, Pt b17), (58, I (a0.1.length : Int)), (59, I y20.2), (62, Rs tThing a0.1), (63, I (a0.1.length : Int)), (64, I y24.2)]) (fun z25 y24 => [.obj b1 43 (.rep tChange a0), .obj b17 141 (.rep (.arr 4 (.int .u8)) y24.1)]) (chg_checkThings_l3 k a0) k () (y20.1, (0 : Int)) (fun _ => rfl) h (SE.fin [0, 1] ⟨rfl, rfl, rfl, rfl, rfl, rfl, rfl, trivial⟩ rfl) (fun n z25 y24 h => ?_)));unfold chg_checkThings_l3 at h;refine sr (jb (o_lss rfl) ?_);refine nt (JC.seq (ci h (fun h => ?_) (fun h => ?_)))
      ·refine sk (JC.cutB (Z := Unit) (α := (List Int)) (fun z27 x26 => [(1, Pt b1), (7, Pt b17), (58, I (a0.1.length : Int)), (59, I y20.2), (62, Rs tThing a0.1), (63, I (a0.1.length : Int)), (64, I y24.2)]) (fun z27 x26 => [.obj b1 43 (.rep tChange a0), .obj b17 141 (.rep (.arr 4 (.int .u8)) x26)]) h (fun K h => ?_) (fun z27 x26 h => ?_))
       ·refine JC.block (sr (mq ?_));obtain ⟨x28, ex28, h⟩ := b_bind h;refine jb (o_index (t := tThing) rfl U40 sz84 ex28) ?_;refine ja (o_load_at (t := tThing) rfl sz84 rfl) ?_;refine JO.s01 rfl rfl rfl (o_alloc rfl za84 al84) trivial fun b29 => ?_;refine aq ?_;refine JO.n11 rfl rfl (o_store rfl sz84 rfl rfl rfl) ⟨rfl, rfl, trivial⟩ ?_;refine nt (sr (fl fo84_0 ?_));refine lo sz22 ?_;refine ol U22 ?_;refine JO.mc rfl ?_;refine nt (JC.block (JC.loopB (Z := Unit) (α := (List Int) × Int) (fun z31 y30 => [(1, Pt b1), (7, Pt b17), (8, I y24.2), (58, I (a0.1.length : Int)), (59, I y20.2), (62, Rs tThing a0.1), (63, I (a0.1.length : Int)), (64, I y24.2), (70, Ri x28.1), (71, I (x28.1.length : Int)), (72, I y30.2)]) (fun z31 y30 => [.obj b1 43 (.rep tChange a0), .obj b17 141 (.rep (.arr 4 (.int .u8)) y30.1)]) (chg_checkThings_l4 k y24 x28) k () (y24.1, (0 : Int)) (fun _ => rfl) h (SE.fin [1, 2] ⟨rfl, rfl, rfl, rfl, rfl, rfl, rfl, rfl, rfl, rfl, rfl, trivial⟩ rfl) (fun n z31 y30 h => ?_)));unfold chg_checkThings_l4 at h;refine sr (jb (o_lss rfl) ?_);refine nt (JC.seq (ci h (fun h => ?_) (fun h => ?_)))
        ·refine sk (JC.seq (JC.block (sr ?_)));obtain ⟨x32, ex32, h⟩ := b_bind h;refine jb (o_index (t := (.int .i64)) rfl U22 sz3 ex32) ?_;refine ja (o_load_at (t := (.int .i64)) rfl sz3 rfl) ?_;refine aq (nt ?_);refine JC.drawN ?_;refine dm ?_;obtain ⟨u33, eu33, h⟩ := b_bind h;refine db (o_index_arr rfl U141 sz99 (chkP_some eu33).1 (chkP_some eu33).2) ?_;obtain ⟨x34, ex34, h⟩ := b_bind h;refine ea 1 (o_load_arr (t := (.int .u8)) (off := 0) (i := y24.2) (N := 4) rfl sz99 (fun _ => rfl) rfl rfl rfl rfl ex34) ?_;refine dm ?_;obtain ⟨u35, eu35, h⟩ := b_bind h;refine db (o_index_arr rfl U141 sz99 (chkP_some eu35).1 (chkP_some eu35).2) ?_;obtain ⟨x36, ex36, h⟩ := b_bind h;refine ea 1 (o_load_arr (t := (.int .u8)) (off := 0) (i := x32) (N := 4) rfl sz99 (fun _ => rfl) rfl rfl rfl rfl ex36) ?_;refine dm ?_;refine da (o_litB (t := (.int .i64)) [(.tmp 82, _)] [x32] rfl rfl sl22 (.cons rfl .int .nil) rfl rfl) ?_;obtain ⟨r37, er37, h⟩ := b_bind h;refine da (o_call [.tmp 83] rfl rfl en37 rfl (chg_of_ok k [x32] r37 er37)) ?_;refine db (o_or rfl) ?_;refine df mixed ?_;refine jb (o_or rfl) ?_;obtain ⟨u38, eu38, h⟩ := b_bind h;refine jb (o_index_arr rfl U141 sz99 (chkP_some eu38).1 (chkP_some eu38).2) ?_;refine fr 1 ?_;refine JO.n11 rfl rfl (o_store_arr (t := (.int .u8)) (off := 0) (i := y24.2) (N := 4) rfl sz99 .int rfl rfl rfl rfl (chkP_some eu38).1 (chkP_some eu38).2 rfl) ⟨rfl, rfl, trivial⟩ ?_;refine JO.nil (JN.blk_n (tn (JC.region ?_)));obtain ⟨x39, ex39, h⟩ := b_bind h;refine jb (o_add rfl ex39) ?_;refine mq (nl ?_);exact jz ((), (List.set y30.1 (Int.toNat y24.2) (ior .u8 x34 (ior .u8 x36 r37)), x39)) h [1, 0]
        ·refine JC.exit (JN.then_x (JN.then_x (JN.blk_hit (bn ?_))));exact jz ((), y30.1) h [0, 1]
       ·refine JC.region ?_;obtain ⟨x40, ex40, h⟩ := b_bind h;refine jb (o_add rfl ex40) ?_;refine mq (nl ?_);exact jz ((), (x26, x40)) h [0, 1]
      ·refine JC.exit (JN.then_x (JN.then_x (JN.blk_hit (bn ?_))));exact jz ((), y24.1) h [0, 1]
     ·refine JC.region ?_;obtain ⟨x41, ex41, h⟩ := b_bind h;refine jb (o_add rfl ex41) ?_;refine mq (nl ?_);exact jz ((), (x22, x41)) h [0, 1]
    ·refine xa ?_;exact jz ((), y20.1) h [0, 1]
   ·refine JC.cutE (Z := Unit) (α := Unit) (fun z43 x42 => []) (fun z43 x42 => []) (fun e => e = r) h (fun e h => Option.some.inj h) (fun K hR h => ?_) (fun z43 x42 h => ?_)
    ·refine sr (fl fo43_0 ?_);refine lo sz40 ?_;refine ol U40 ?_;refine JO.mc rfl ?_;refine nt (JC.block (JC.loopB (Z := Unit) (α := Int) (fun z45 y44 => [(7, Pt b17), (93, I (a0.1.length : Int)), (94, I y44)]) (fun z45 y44 => [.obj b17 141 (.rep (.arr 4 (.int .u8)) x18)]) (chg_checkThings_l5 k a0 x18) k () (0 : Int) (fun _ => rfl) h (SE.fin [1] ⟨rfl, rfl, rfl, trivial⟩ rfl) (fun n z45 y44 h => ?_)));unfold chg_checkThings_l5 at h;refine sr (jb (o_lss rfl) ?_);refine nt (JC.seq (ci h (fun h => ?_) (fun h => ?_)))
     ·refine sk (JC.seq (JC.block (sr (mq ?_))));refine aq (nt (sr ?_));refine mq ?_;obtain ⟨u46, eu46, h⟩ := b_bind h;refine jb (o_index_arr rfl U141 sz99 (chkP_some eu46).1 (chkP_some eu46).2) ?_;obtain ⟨x47, ex47, h⟩ := b_bind h;refine ka (o_load_arr (t := (.int .u8)) (off := 0) (i := y44) (N := 4) rfl sz99 (fun _ => rfl) rfl rfl rfl rfl ex47) ?_;refine mq ?_;obtain ⟨r48, er48, h⟩ := b_bind h;refine jb (o_call [.tmp 99, .tmp 100] rfl rfl en43 rfl (chg_set_has_ok k x47 y44 r48 er48)) ?_;refine nt (cv h (fun h => ?_) (fun h => ?_))
      ·refine sr (cq (nt (JC.ret (br (JN.blk_r (JN.then_r ?_))))));obtain rfl := hR _ h;exact ra
      ·refine JC.skip (JN.blk_n (tn (JC.region ?_)));obtain ⟨x49, ex49, h⟩ := b_bind h;refine jb (o_add rfl ex49) ?_;refine mq (nl ?_);exact jz ((), x49) h [0]
     ·refine xa ?_;exact jz ((), ()) h []
    ·refine sr (cq (nt (JC.ret ?_)));cases h;exact ra


def chg_Check_l1 (k : Nat) (a0 : dChange) : Nat → Int → Option (Except Int Unit)
 | 0, _ => none
 | n + 1, y6 =>
  if y6 < (a0.2.1.length : Int) then ((geti a0.2.1 y6).bind fun x8 =>
  (chg_checkList k x8.1 (a0.1.length : Int) (-1 : Int)).bind fun r10 =>
  if ¬ (r10 = (0 : Int)) then (some (.error r10)) else ((chg_outside k x8.2.1 (0 : Int) (2 : Int)).bind fun r11 =>
  if r11 = true then (some (.error (8 : Int))) else ((chg_outside k x8.2.2 (0 : Int) (9 : Int)).bind fun r12 =>
  if r12 = true then (some (.error (1 : Int))) else ((ck (y6 + (1 : Int))).bind fun x13 =>
  chg_Check_l1 k a0 n x13)))) else (some (.ok ()))
def chg_Check (k : Nat) (a0 : dChange) : Option Int :=
 (chg_checkThings k a0).bind fun r2 =>
 if ¬ (r2 = (0 : Int)) then (some r2) else ((chg_sized k (a0.2.1.length : Int) (3 : Int)).bind fun r3 =>
 if ¬ (r3 = (0 : Int)) then (some r3) else (bE (α := Unit) (chg_Check_l1 k a0 k (0 : Int)) (some) fun _ =>
 (chg_checkList k a0.2.2.1 (a0.1.length : Int) (-1 : Int)).bind fun r14 =>
 if ¬ (r14 = (0 : Int)) then (some r14) else ((chg_checkList k a0.2.2.2 (a0.1.length : Int) (-1 : Int)).bind fun r15 =>
 some r15)))

theorem chg_Check_ok (k : Nat) (a0 : dChange) (r : Int) (h : chg_Check k a0 = some r) :
 Ctr Try.prog 35 [.rep tChange a0] [] (fun _ : Unit => (resA [I r], [])) := by
 unfold chg_Check at h;replace h := b_top h;refine Ctr.of 59 Try.func35 rfl Try.ntmps35 rfl fun S w0 => ?_;refine sr (bx fun b1 => ?_);refine cq (nt (JC.seq (sr ?_)));refine lo sz43 ?_;obtain ⟨r2, er2, h⟩ := b_bind h;refine ja (o_call [.tmp 9] rfl rfl en53 rfl (chg_checkThings_ok k a0 r2 er2)) ?_;refine aq (nt (sr ?_));refine mq ?_;refine jb (o_neq rfl) ?_;refine nt (cn h (fun h => ?_) (fun h => ?_))
 ·refine sr (mq ?_);refine aq (nt (rx ?_));cases h;exact ra
 ·refine sk (JC.seq (sr (fl fo43_1 ?_)));refine lo sz41 ?_;refine ol U41 ?_;obtain ⟨r3, er3, h⟩ := b_bind h;refine jb (o_call [.tmp 16, .const (.int .i64 (3))] rfl rfl en54 rfl (chg_sized_ok k (a0.2.1.length : Int) (3 : Int) r3 er3)) ?_;refine aq (nt (sr ?_));refine mq ?_;refine jb (o_neq rfl) ?_;refine nt (cn h (fun h => ?_) (fun h => ?_))
  ·refine sr (mq ?_);refine aq (nt (rx ?_));cases h;exact ra
  ·refine sk (JC.cutE (Z := Unit) (α := Unit) (fun z5 x4 => [(1, Pt b1)]) (fun z5 x4 => [.obj b1 43 (.rep tChange a0)]) (fun e => e = r) h (fun e h => Option.some.inj h) (fun K hR h => ?_) (fun z5 x4 h => ?_))
   ·refine sr (fl fo43_1 ?_);refine lo sz41 ?_;refine ol U41 ?_;refine JO.mc rfl ?_;refine nt (JC.block (JC.loopB (Z := Unit) (α := Int) (fun z7 y6 => [(1, Pt b1), (22, Rs tDresser a0.2.1), (23, I (a0.2.1.length : Int)), (24, I y6)]) (fun z7 y6 => [.obj b1 43 (.rep tChange a0)]) (chg_Check_l1 k a0) k () (0 : Int) (fun _ => rfl) h (SE.fin [0] ⟨rfl, rfl, rfl, rfl, trivial⟩ rfl) (fun n z7 y6 h => ?_)));unfold chg_Check_l1 at h;refine sr (jb (o_lss rfl) ?_);refine nt (JC.seq (ci h (fun h => ?_) (fun h => ?_)))
    ·refine sk (JC.seq (JC.block (sr ?_)));obtain ⟨x8, ex8, h⟩ := b_bind h;refine jb (o_index (t := tDresser) rfl U41 sz82 ex8) ?_;refine ja (o_load_at (t := tDresser) rfl sz82 rfl) ?_;refine JO.s01 rfl rfl rfl (o_alloc rfl za82 al82) trivial fun b9 => ?_;refine JO.n11 rfl rfl (o_store rfl sz82 rfl rfl rfl) ⟨rfl, rfl, trivial⟩ ?_;refine nt (JC.seq (sr (fl fo82_0 ?_)));refine lo sz22 ?_;refine fl fo43_0 ?_;refine fr 1 ?_;refine lo sz40 ?_;refine ol U40 ?_;obtain ⟨r10, er10, h⟩ := b_bind h;refine jc (o_call [.tmp 29, .tmp 32, .const (.int .i64 (-1))] rfl rfl en55 rfl (chg_checkList_ok k x8.1 (a0.1.length : Int) (-1 : Int) r10 er10)) ?_;refine aq (nt (sr ?_));refine mq ?_;refine jb (o_neq rfl) ?_;refine nt (cn h (fun h => ?_) (fun h => ?_))
     ·refine sr (mq ?_);refine aq (nt (rx (br (JN.blk_r (JN.then_r ?_)))));obtain rfl := hR _ h;exact ra
     ·refine sk (JC.seq (sr (fl fo82_1 ?_)));refine fr 1 ?_;refine lo sz3 ?_;obtain ⟨r11, er11, h⟩ := b_bind h;refine jc (o_call [.tmp 38, .const (.int .i64 (0)), .const (.int .i64 (2))] rfl rfl en56 rfl (chg_outside_ok k x8.2.1 (0 : Int) (2 : Int) r11 er11)) ?_;refine nt (cv h (fun h => ?_) (fun h => ?_))
      ·refine sr (cq (nt (rx (br (JN.blk_r (JN.then_r ?_))))));obtain rfl := hR _ h;exact ra
      ·refine sk (sr (fl fo82_2 ?_));refine lo sz3 ?_;obtain ⟨r12, er12, h⟩ := b_bind h;refine jc (o_call [.tmp 41, .const (.int .i64 (0)), .const (.int .i64 (9))] rfl rfl en56 rfl (chg_outside_ok k x8.2.2 (0 : Int) (9 : Int) r12 er12)) ?_;refine nt (cv h (fun h => ?_) (fun h => ?_))
       ·refine sr (cq (nt (JC.ret (br (JN.blk_r (JN.then_r ?_))))));obtain rfl := hR _ h;exact ra
       ·refine JC.skip (JN.blk_n (tn (JC.region ?_)));obtain ⟨x13, ex13, h⟩ := b_bind h;refine jb (o_add rfl ex13) ?_;refine mq (nl ?_);exact jz ((), x13) h [1]
    ·refine xa ?_;exact jz ((), ()) h [0]
   ·refine JC.seq (sr (fl fo43_2 ?_));refine lo sz22 ?_;refine fl fo43_0 ?_;refine lo sz40 ?_;refine ol U40 ?_;obtain ⟨r14, er14, h⟩ := b_bind h;refine jc (o_call [.tmp 45, .tmp 48, .const (.int .i64 (-1))] rfl rfl en55 rfl (chg_checkList_ok k a0.2.2.1 (a0.1.length : Int) (-1 : Int) r14 er14)) ?_;refine aq (nt (sr ?_));refine mq ?_;refine jb (o_neq rfl) ?_;refine nt (cn h (fun h => ?_) (fun h => ?_))
    ·refine sr (mq ?_);refine aq (nt (rx ?_));cases h;exact ra
    ·refine sk (sr (fl fo43_3 ?_));refine lo sz22 ?_;refine fl fo43_0 ?_;refine lo sz40 ?_;refine ol U40 ?_;obtain ⟨r15, er15, h⟩ := b_bind h;refine jc (o_call [.tmp 54, .tmp 57, .const (.int .i64 (-1))] rfl rfl en55 rfl (chg_checkList_ok k a0.2.2.2 (a0.1.length : Int) (-1 : Int) r15 er15)) ?_;refine aq (nt (JC.ret ?_));cases h;exact ra


def chg_changed_l2 (k : Nat) (a0 : dChange) (r2 : Int) (r3 : Int) : Nat → (Int × Int) → Option Int
 | 0, _ => none
 | n + 1, y10 =>
  if y10.2 < (a0.1.length : Int) then ((((geti a0.1 y10.2).bind fun x14 =>
  (chg_set_has k y10.1 y10.2).bind fun r16 =>
  if r16 = true then ((chg_of k x14.1).bind fun r17 =>
  some (ior .u8 y10.1 (iand .u8 (iand .u8 r17 r2) r3))) else (some y10.1)) : Option (Int)).bind fun x12 =>
  (ck (y10.2 + (1 : Int))).bind fun x18 =>
  chg_changed_l2 k a0 r2 r3 n (x12, x18)) else (some y10.1)

def chg_changed_l1 (k : Nat) (a0 : dChange) (r2 : Int) (r3 : Int) : Nat → (Int × Int) → Option Int
 | 0, _ => none
 | n + 1, y6 =>
  if y6.2 < (a0.1.length : Int) then (((chg_changed_l2 k a0 r2 r3 k (y6.1, (0 : Int))) : Option (Int)).bind fun x8 =>
  (ck (y6.2 + (1 : Int))).bind fun x19 =>
  chg_changed_l1 k a0 r2 r3 n (x8, x19)) else (some y6.1)
def chg_changed (k : Nat) (a0 : dChange) : Option Int :=
 (chg_of k a0.2.2.1).bind fun r2 =>
 (chg_of k a0.2.2.2).bind fun r3 =>
 ((chg_changed_l1 k a0 r2 r3 k (ixor .u8 r2 r3, (0 : Int))) : Option (Int)).bind fun x4 =>
 some x4

theorem chg_changed_ok (k : Nat) (a0 : dChange) (r : Int) (h : chg_changed k a0 = some r) :
 Ctr Try.prog 36 [.rep tChange a0] [] (fun _ : Unit => (resA [.eq (.int .u8 r)], [])) := by
 unfold chg_changed at h;replace h := b_top h;refine Ctr.of 45 Try.func36 rfl Try.ntmps36 rfl fun S w0 => ?_;refine sr (bx fun b1 => ?_);refine cq (nt (JC.seq ?_));refine JC.drawN ?_;refine da (o_field_obj rfl fo43_2) ?_;refine ea 0 (o_load_obj rfl sz22 nfs rfl) ?_;obtain ⟨r2, er2, h⟩ := b_bind h;refine da (o_call [.tmp 9] rfl rfl en37 rfl (chg_of_ok k a0.2.2.1 r2 er2)) ?_;refine da (o_field_obj rfl fo43_3) ?_;refine ea 0 (o_load_obj rfl sz22 nfs rfl) ?_;refine df mixed ?_;obtain ⟨r3, er3, h⟩ := b_bind h;refine ja (o_call [.tmp 12] rfl rfl en37 rfl (chg_of_ok k a0.2.2.2 r3 er3)) ?_;refine aq ?_;refine aq (nt (sr ?_));iterate 2 refine mq ?_
 refine jb (o_xor rfl) ?_;refine aq (nt ?_);refine JC.cutB (Z := Unit) (α := Int) (fun z5 x4 => [(5, .eq (.int .u8 x4))]) (fun z5 x4 => []) h (fun K h => ?_) (fun z5 x4 h => ?_)
 ·refine sr (fl fo43_0 ?_);refine lo sz40 ?_;refine ol U40 ?_;refine JO.mc rfl ?_;refine nt (JC.block (JC.loopB (Z := Unit) (α := Int × Int) (fun z7 y6 => [(1, Pt b1), (3, .eq (.int .u8 r2)), (4, .eq (.int .u8 r3)), (5, .eq (.int .u8 y6.1)), (19, I (a0.1.length : Int)), (20, I y6.2)]) (fun z7 y6 => [.obj b1 43 (.rep tChange a0)]) (chg_changed_l1 k a0 r2 r3) k () (ixor .u8 r2 r3, (0 : Int)) (fun _ => rfl) h (SE.fin [0] ⟨rfl, rfl, rfl, rfl, rfl, rfl, trivial⟩ rfl) (fun n z7 y6 h => ?_)));unfold chg_changed_l1 at h;refine sr (jb (o_lss rfl) ?_);refine nt (JC.seq (ci h (fun h => ?_) (fun h => ?_)))
  ·refine sk (JC.cutB (Z := Unit) (α := Int) (fun z9 x8 => [(1, Pt b1), (3, .eq (.int .u8 r2)), (4, .eq (.int .u8 r3)), (5, .eq (.int .u8 x8)), (19, I (a0.1.length : Int)), (20, I y6.2)]) (fun z9 x8 => [.obj b1 43 (.rep tChange a0)]) h (fun K h => ?_) (fun z9 x8 h => ?_))
   ·refine JC.block (sr (fl fo43_0 ?_));refine lo sz40 ?_;refine ol U40 ?_;refine JO.mc rfl ?_;refine nt (JC.block (JC.loopB (Z := Unit) (α := Int × Int) (fun z11 y10 => [(1, Pt b1), (3, .eq (.int .u8 r2)), (4, .eq (.int .u8 r3)), (5, .eq (.int .u8 y10.1)), (19, I (a0.1.length : Int)), (20, I y6.2), (23, Rs tThing a0.1), (24, I (a0.1.length : Int)), (25, I y10.2)]) (fun z11 y10 => [.obj b1 43 (.rep tChange a0)]) (chg_changed_l2 k a0 r2 r3) k () (y6.1, (0 : Int)) (fun _ => rfl) h (SE.fin [0] ⟨rfl, rfl, rfl, rfl, rfl, rfl, rfl, rfl, rfl, trivial⟩ rfl) (fun n z11 y10 h => ?_)));unfold chg_changed_l2 at h;refine sr (jb (o_lss rfl) ?_);refine nt (JC.seq (ci h (fun h => ?_) (fun h => ?_)))
    ·refine sk (JC.cutB (Z := Unit) (α := Int) (fun z13 x12 => [(1, Pt b1), (3, .eq (.int .u8 r2)), (4, .eq (.int .u8 r3)), (5, .eq (.int .u8 x12)), (19, I (a0.1.length : Int)), (20, I y6.2), (23, Rs tThing a0.1), (24, I (a0.1.length : Int)), (25, I y10.2)]) (fun z13 x12 => [.obj b1 43 (.rep tChange a0)]) h (fun K h => ?_) (fun z13 x12 h => ?_))
     ·refine JC.block (sr (mq ?_));obtain ⟨x14, ex14, h⟩ := b_bind h;refine jb (o_index (t := tThing) rfl U40 sz84 ex14) ?_;refine ja (o_load_at (t := tThing) rfl sz84 rfl) ?_;refine JO.s01 rfl rfl rfl (o_alloc rfl za84 al84) trivial fun b15 => ?_;refine aq ?_;refine JO.n11 rfl rfl (o_store rfl sz84 rfl rfl rfl) ⟨rfl, rfl, trivial⟩ ?_;refine nt (sr ?_);iterate 2 refine mq ?_
      obtain ⟨r16, er16, h⟩ := b_bind h;refine jb (o_call [.tmp 30, .tmp 31] rfl rfl en43 rfl (chg_set_has_ok k y10.1 y10.2 r16 er16)) ?_;refine nt (cv h (fun h => ?_) (fun h => ?_))
      ·refine JC.region (mq ?_);refine fl fo84_0 ?_;refine lo sz22 ?_;obtain ⟨r17, er17, h⟩ := b_bind h;refine ja (o_call [.tmp 35] rfl rfl en37 rfl (chg_of_ok k x14.1 r17 er17)) ?_;refine mq ?_;refine jb (o_and rfl) ?_;refine mq ?_;refine jb (o_and rfl) ?_;refine jb (o_or rfl) ?_;refine aq (JO.nil (bn ?_));exact jz ((), ior .u8 y10.1 (iand .u8 (iand .u8 r17 r2) r3)) h [1]
      ·refine JC.skip (bn ?_);exact jz ((), y10.1) h [1]
     ·refine JC.region ?_;obtain ⟨x18, ex18, h⟩ := b_bind h;refine jb (o_add rfl ex18) ?_;refine mq (nl ?_);exact jz ((), (x12, x18)) h [0]
    ·refine JC.exit (JN.then_x (JN.then_x (JN.blk_hit (bn ?_))));exact jz ((), y10.1) h [0]
   ·refine JC.region ?_;obtain ⟨x19, ex19, h⟩ := b_bind h;refine jb (o_add rfl ex19) ?_;refine mq (nl ?_);exact jz ((), (x8, x19)) h [0]
  ·refine xa ?_;exact jz ((), y6.1) h []
 ·refine sr (mq ?_);refine aq (nt (JC.ret ?_));cases h;exact ra


def chg_set_list_l1 (k : Nat) (a0 : Int) : Nat → ((List Int) × Int) → Option (List Int)
 | 0, _ => none
 | n + 1, y3 =>
  if y3.2 < (8 : Int) then ((((chg_set_has k a0 y3.2).bind fun r7 =>
  if r7 = true then ((chkP (okLen (List.length y3.1 + List.length [y3.2]))).bind fun _ =>
  some (y3.1 ++ [y3.2])) else (some y3.1)) : Option ((List Int))).bind fun x5 =>
  (ck (y3.2 + (1 : Int))).bind fun x10 =>
  chg_set_list_l1 k a0 n (x5, x10)) else (some y3.1)
def chg_set_list (k : Nat) (a0 : Int) : Option (List Int) :=
 ((chg_set_list_l1 k a0 k (([] : (List Int)), (0 : Int))) : Option ((List Int))).bind fun x1 =>
 some x1

theorem chg_set_list_ok (k : Nat) (a0 : Int) (r : (List Int)) (h : chg_set_list k a0 = some r) :
 Ctr Try.prog 38 [.eq (.int .u8 a0)] [] (fun _ : Unit => (resA [Ri r], [])) := by
 unfold chg_set_list at h;replace h := b_top h;refine Ctr.of 17 Try.func38 rfl Try.ntmps38 rfl fun S w0 => ?_;refine sr (cq (nt (sr ?_)));refine cq (nt ?_);refine JC.cutB (Z := Value) (α := (List Int)) (fun z2 x1 => [(3, .eq z2)]) (fun z2 x1 => [.sl z2 3 (.int .i64) x1]) h (fun K h => ?_) (fun z2 x1 h => ?_)
 ·refine sr (JO.mc rfl ?_);refine nt (JC.block (JC.se (SE.nil 3 (.int .i64)) ?_));refine JC.loopB (Z := Value) (α := (List Int) × Int) (fun z4 y3 => [(0, .eq (.int .u8 a0)), (3, .eq z4), (5, I y3.2)]) (fun z4 y3 => [.sl z4 3 (.int .i64) y3.1]) (chg_set_list_l1 k a0) k (.slice none 0 0) (([] : (List Int)), (0 : Int)) (fun _ => rfl) h (SE.fin [0] ⟨rfl, rfl, rfl, trivial⟩ rfl) (fun n z4 y3 h => ?_);unfold chg_set_list_l1 at h;refine sr (jb (o_lss rfl) ?_);refine nt (JC.seq (ci h (fun h => ?_) (fun h => ?_)))
  ·refine sk (JC.cutB (Z := Value) (α := (List Int)) (fun z6 x5 => [(0, .eq (.int .u8 a0)), (3, .eq z6), (5, I y3.2)]) (fun z6 x5 => [.sl z6 3 (.int .i64) x5]) h (fun K h => ?_) (fun z6 x5 h => ?_))
   ·refine JC.block (sr (mq ?_));refine aq (nt (sr ?_));iterate 2 refine mq ?_
    obtain ⟨r7, er7, h⟩ := b_bind h;refine jb (o_call [.tmp 8, .tmp 9] rfl rfl en43 rfl (chg_set_has_ok k a0 y3.2 r7 er7)) ?_;refine nt (cv h (fun h => ?_) (fun h => ?_))
    ·refine JC.region ?_;iterate 2 refine mq ?_
     refine ja (o_litB (t := (.int .i64)) [(.tmp 12, _)] [y3.2] rfl rfl sl22 (.cons rfl .int .nil) rfl rfl) ?_;obtain ⟨u8, eu8, h⟩ := b_bind h;refine JO.s1x rfl rfl rfl (o_append rfl rfl sl22 (chkP_some eu8)) ⟨rfl, rfl, trivial⟩ fun v9 => ?_;refine aq (JO.nil (bn ?_));exact jz (v9, y3.1 ++ [y3.2]) h [0]
    ·refine JC.skip (bn ?_);exact jz (z4, y3.1) h [0]
   ·refine JC.region ?_;obtain ⟨x10, ex10, h⟩ := b_bind h;refine jb (o_add rfl ex10) ?_;refine mq (nl ?_);exact jz (z6, (x5, x10)) h [0]
  ·refine xa ?_;exact jz (z4, y3.1) h [0]
 ·refine sr (mq ?_);refine aq (nt (JC.ret ?_));refine JN.se (SE.frz [2, 3, 16] ⟨rfl, rfl, rfl, trivial⟩) ?_;cases h;exact ra


def chg_quick_order_1 (k : Nat) (a0 : Int) (a1 : Int) (a2 : (dChange × (List (Bool × Int)) × (List Int))) : Option (dChange × (List (Bool × Int)) × (List Int)) :=
 ((if (0 : Int) ≤ a0 then (some (decide ((0 : Int) ≤ a1))) else (some false)) : Option (Bool)).bind fun x1 =>
 if x1 = true then ((chkP (0 ≤ a1 ∧ a1 < 8)).bind fun _ =>
 (geti a2.2.2 a1).bind fun x4 =>
 (chg_of k [a0]).bind fun r5 =>
 (chkP (0 ≤ a1 ∧ a1 < 8)).bind fun _ =>
 some ((a2.1.1, a2.1.2.1, a2.1.2.2.1, a2.1.2.2.2), a2.2.1, List.set a2.2.2 (Int.toNat a1) (ior .u8 x4 r5))) else (some ((a2.1.1, a2.1.2.1, a2.1.2.2.1, a2.1.2.2.2), a2.2.1, a2.2.2))

theorem chg_quick_order_1_ok (k : Nat) (a0 : Int) (a1 : Int) (a2 : (dChange × (List (Bool × Int)) × (List Int))) (b_a2 : Nat) (m_a2 : Value) (c_a2 : Nat) (r : (dChange × (List (Bool × Int)) × (List Int))) (h : chg_quick_order_1 k a0 a1 a2 = some r) :
 Ctr Try.prog 57 [I a0, I a1, Pt c_a2] [.obj b_a2 102 (Qq a2 (.eq m_a2)), .obj c_a2 72 (Pt b_a2)] (fun _ : Unit => (resA [], [.obj b_a2 102 (Qq r (.eq m_a2)), .obj c_a2 72 (Pt b_a2)])) := by
 unfold chg_quick_order_1 at h;replace h := b_top h;refine Ctr.of 24 Try.func57 rfl Try.ntmps57 rfl fun S w0 => ?_;refine JC.cutB (Z := Unit) (α := Bool) (fun z2 x1 => [(0, I a0), (1, I a1), (2, Pt c_a2), (10, .eq (.bool x1))]) (fun z2 x1 => [.obj c_a2 72 (Pt b_a2), .obj b_a2 102 (Qq a2 (.eq m_a2))]) h (fun K h => ?_) (fun z2 x1 h => ?_)
 ·refine JC.region (mq ?_);refine jb (o_geq rfl) ?_;refine mq ?_;refine JO.bool (s := 7) rfl (fun hb => ?_) (fun hb => ?_)
  ·replace h := b_if (d_t hb) h;refine gm ?_;refine gb (o_geq rfl) ?_;refine pt (nl ?_);exact jz ((), decide ((0 : Int) ≤ a1)) h [1, 0]
  ·replace h := b_ifn (d_f hb) h;iterate 2 refine gn ?_
   refine pf (nl ?_);exact jz ((), false) h [1, 0]
 ·refine cv h (fun h => ?_) (fun h => ?_)
  ·refine JC.drawN ?_;refine ea 0 (o_load_obj rfl sz72 nfs rfl) ?_;refine dm ?_;refine da (o_nil_obj rfl) ?_;refine da (o_field_obj rfl fo102_2) ?_;obtain ⟨u3, eu3, h⟩ := b_bind h;refine db (o_index_arr rfl U100 sz99 (chkP_some eu3).1 (chkP_some eu3).2) ?_;obtain ⟨x4, ex4, h⟩ := b_bind h;refine ea 1 (o_load_arr (t := (.int .u8)) (off := 5) (i := a1) (N := 8) rfl sz99 (fun _ => rfl) rfl rfl rfl rfl ex4) ?_;refine dm ?_;refine da (o_litB (t := (.int .i64)) [(.tmp 17, _)] [a0] rfl rfl sl22 (.cons rfl .int .nil) rfl rfl) ?_;obtain ⟨r5, er5, h⟩ := b_bind h;refine da (o_call [.tmp 18] rfl rfl en37 rfl (chg_of_ok k [a0] r5 er5)) ?_;refine db (o_or rfl) ?_;refine da (o_nil_obj rfl) ?_;refine da (o_field_obj rfl fo102_2) ?_;refine df mixed ?_;obtain ⟨u6, eu6, h⟩ := b_bind h;refine jb (o_index_arr rfl U100 sz99 (chkP_some eu6).1 (chkP_some eu6).2) ?_;refine fr 1 ?_;refine JO.n11 rfl rfl (o_store_arr (t := (.int .u8)) (off := 5) (i := a1) (N := 8) rfl sz99 .int rfl rfl rfl rfl (chkP_some eu6).1 (chkP_some eu6).2 rfl) ⟨rfl, rfl, trivial⟩ ?_;refine JO.nil (JN.end_n ?_);cases h;exact JN.ret () [] 2 trivial rfl
  ·refine JC.skip (JN.end_n ?_);refine JN.se (SE.fin (Γ' := []) [1, 0] trivial rfl) ?_;cases h;exact JN.ret () [] 2 trivial rfl


def chg_off_thing (k : Nat) (a0 : Int) : Option Int :=
 some a0

theorem chg_off_thing_ok (k : Nat) (a0 : Int) (r : Int) (h : chg_off_thing k a0 = some r) :
 Ctr Try.prog 86 [I a0] [] (fun _ : Unit => (resA [I r], [])) := by
 unfold chg_off_thing at h;replace h := b_top h;refine Ctr.of 4 Try.func86 rfl Try.ntmps86 rfl fun S w0 => ?_;refine sr (cq (nt (sr ?_)));refine mq ?_;refine aq (nt (JC.ret ?_));cases h;exact ra


def chg_on_thing (k : Nat) (a0 : Int) : Option Int :=
 some a0

theorem chg_on_thing_ok (k : Nat) (a0 : Int) (r : Int) (h : chg_on_thing k a0 = some r) :
 Ctr Try.prog 87 [I a0] [] (fun _ : Unit => (resA [I r], [])) := by
 unfold chg_on_thing at h;replace h := b_top h;refine Ctr.of 4 Try.func87 rfl Try.ntmps87 rfl fun S w0 => ?_;refine sr (cq (nt (sr ?_)));refine mq ?_;refine aq (nt (JC.ret ?_));cases h;exact ra


def chg_quick_number_l1 (k : Nat) (a0 : (dChange × (List (Bool × Int)) × (List Int))) (a1 : Int) (a2 : Bool) : Nat → Int → Option (Except Int Unit)
 | 0, _ => none
 | n + 1, y3 =>
  if y3 < (a0.2.1.length : Int) then (bE (α := Unit) ((geti a0.2.1 y3).bind fun x7 =>
  if ¬ (x7.1 = true) then (((if ¬ (a2 = true) then ((cond x7.1 (chg_on_thing k x7.2) (chg_off_thing k x7.2)).bind fun r10 =>
  some (decide (r10 = a1))) else (some false)) : Option (Bool)).bind fun x8 =>
  if x8 = true then (some (.error y3)) else (some (.ok ()))) else (if x7.1 = true then (((if a2 = true then ((cond x7.1 (chg_on_thing k x7.2) (chg_off_thing k x7.2)).bind fun r13 =>
  some (decide (r13 = a1))) else (some false)) : Option (Bool)).bind fun x11 =>
  if x11 = true then (some (.error y3)) else (some (.ok ()))) else (some (.ok ())))) (fun e => some (.error e)) fun _ =>
  (ck (y3 + (1 : Int))).bind fun x14 =>
  chg_quick_number_l1 k a0 a1 a2 n x14) else (some (.ok ()))
def chg_quick_number (k : Nat) (a0 : (dChange × (List (Bool × Int)) × (List Int))) (a1 : Int) (a2 : Bool) : Option Int :=
 bE (α := Unit) (chg_quick_number_l1 k a0 a1 a2 k (0 : Int)) (some) fun _ =>
 some (-1 : Int)

theorem chg_quick_number_ok (k : Nat) (a0 : (dChange × (List (Bool × Int)) × (List Int))) (b_a0 : Nat) (m_a0 : Value) (a1 : Int) (a2 : Bool) (r : Int) (h : chg_quick_number k a0 a1 a2 = some r) :
 Ctr Try.prog 58 [Pt b_a0, I a1, .eq (.bool a2)] [.obj b_a0 102 (Qq a0 (.eq m_a0))] (fun _ : Unit => (resA [I r], [.obj b_a0 102 (Qq a0 (.eq m_a0))])) := by
 unfold chg_quick_number at h;replace h := b_top h;refine Ctr.of 44 Try.func58 rfl Try.ntmps58 rfl fun S w0 => ?_;refine sr (cq (nt ?_));refine JC.cutE (Z := Unit) (α := Unit) (fun z2 x1 => []) (fun z2 x1 => [.obj b_a0 102 (Qq a0 (.eq m_a0))]) (fun e => e = r) h (fun e h => Option.some.inj h) (fun K hR h => ?_) (fun z2 x1 h => ?_)
 ·refine sr (mq ?_);refine ja (o_nil_obj rfl) ?_;refine fl fo102_1 ?_;refine lo sz98 ?_;refine ol U98 ?_;refine JO.mc rfl ?_;refine nt (JC.block (JC.loopB (Z := Unit) (α := Int) (fun z4 y3 => [(1, I a1), (2, .eq (.bool a2)), (12, .rep (.slice (.tag 105 106)) a0.2.1), (13, I (a0.2.1.length : Int)), (14, I y3)]) (fun z4 y3 => [.obj b_a0 102 (Qq a0 (.eq m_a0))]) (chg_quick_number_l1 k a0 a1 a2) k () (0 : Int) (fun _ => rfl) h (SE.fin [0] ⟨rfl, rfl, rfl, rfl, rfl, trivial⟩ rfl) (fun n z4 y3 h => ?_)));unfold chg_quick_number_l1 at h;refine sr (jb (o_lss rfl) ?_);refine nt (JC.seq (ci h (fun h => ?_) (fun h => ?_)))
  ·refine sk (JC.cutE (Z := Unit) (α := Unit) (fun z6 x5 => [(1, I a1), (2, .eq (.bool a2)), (12, .rep (.slice (.tag 105 106)) a0.2.1), (13, I (a0.2.1.length : Int)), (14, I y3)]) (fun z6 x5 => [.obj b_a0 102 (Qq a0 (.eq m_a0))]) (fun e => e = r) h (fun e h => hR e h) (fun K hR h => ?_) (fun z6 x5 h => ?_))
   ·refine JC.block (sr (mq ?_));obtain ⟨x7, ex7, h⟩ := b_bind h;refine jb (o_index (t := (.tag 105 106)) rfl U98 sz111 ex7) ?_;refine ja (o_load_at (t := (.tag 105 106)) rfl sz111 rfl) ?_;refine aq ?_;refine aq (nt (sr ?_));refine mq (nt (JC.block (sr ?_)));refine JO.s rfl (o_as0 rfl ta105 (by decide)) ⟨rfl, trivial⟩ ?_;refine xr ?_;refine xr ?_;refine nt (cw h (fun h => ?_) (fun h => ?_))
    ·refine JC.cutB (Z := Unit) (α := Bool) (fun z9 x8 => [(1, I a1), (2, .eq (.bool a2)), (7, I y3), (12, .rep (.slice (.tag 105 106)) a0.2.1), (13, I (a0.2.1.length : Int)), (14, I y3), (30, .eq (.bool x8))]) (fun z9 x8 => [.obj b_a0 102 (Qq a0 (.eq m_a0))]) h (fun K h => ?_) (fun z9 x8 h => ?_)
     ·refine JC.region (mq ?_);refine ja (o_not rfl) ?_;refine mq ?_;refine JO.bool (s := 25) rfl (fun hb => ?_) (fun hb => ?_)
      ·replace h := b_if (nv_t hb) h;refine gm ?_;obtain ⟨r10, er10, h⟩ := b_bind h;refine JO.g00 rfl rfl rfl rfl rfl rfl (o_invoke rfl rfl mt105_thing mt106_thing (ctr_cond (fun hb => chg_off_thing_ok k x7.2 r10 (by simpa [hb] using er10)) (fun hb => chg_on_thing_ok k x7.2 r10 (by simpa [hb] using er10)))) ⟨rfl, trivial⟩ ?_;refine gm ?_;refine gb (o_eql rfl) ?_;refine pt (nl ?_);exact jz ((), decide (r10 = a1)) h [0]
      ·replace h := b_ifn (nv_fn hb) h;iterate 4 refine gn ?_
       refine pf (nl ?_);exact jz ((), false) h [0]
     ·refine cv h (fun h => ?_) (fun h => ?_)
      ·refine sr (mq ?_);refine aq (nt (JC.ret (JN.blk_r (br (JN.blk_r (JN.then_r ?_))))));obtain rfl := hR _ h;exact JN.ret () [_] 1 ⟨rfl, trivial⟩ rfl
      ·refine JC.skip (JN.blk_n (bn ?_));exact jz ((), ()) h [0]
    ·refine sr (JO.s rfl (o_as1 rfl ta106 (by decide)) ⟨rfl, trivial⟩ ?_);refine xr ?_;refine xr ?_;refine nt (cv h (fun h => ?_) (fun h => ?_))
     ·refine JC.cutB (Z := Unit) (α := Bool) (fun z12 x11 => [(1, I a1), (2, .eq (.bool a2)), (7, I y3), (12, .rep (.slice (.tag 105 106)) a0.2.1), (13, I (a0.2.1.length : Int)), (14, I y3), (41, .eq (.bool x11))]) (fun z12 x11 => [.obj b_a0 102 (Qq a0 (.eq m_a0))]) h (fun K h => ?_) (fun z12 x11 h => ?_)
      ·refine JC.region ?_;iterate 2 refine mq ?_
       refine JO.bool (s := 36) rfl (fun hb => ?_) (fun hb => ?_)
       ·replace h := b_if (v_t hb) h;refine gm ?_;obtain ⟨r13, er13, h⟩ := b_bind h;refine JO.g00 rfl rfl rfl rfl rfl rfl (o_invoke rfl rfl mt105_thing mt106_thing (ctr_cond (fun hb => chg_off_thing_ok k x7.2 r13 (by simpa [hb] using er13)) (fun hb => chg_on_thing_ok k x7.2 r13 (by simpa [hb] using er13)))) ⟨rfl, trivial⟩ ?_;refine gm ?_;refine gb (o_eql rfl) ?_;refine pt (nl ?_);exact jz ((), decide (r13 = a1)) h [0]
       ·replace h := b_ifn (v_f hb) h;iterate 4 refine gn ?_
        refine pf (nl ?_);exact jz ((), false) h [0]
      ·refine cv h (fun h => ?_) (fun h => ?_)
       ·refine sr (mq ?_);refine aq (nt (JC.ret (JN.blk_r (br (JN.blk_r (JN.then_r ?_))))));obtain rfl := hR _ h;exact JN.ret () [_] 1 ⟨rfl, trivial⟩ rfl
       ·refine JC.skip (JN.blk_n (bn ?_));exact jz ((), ()) h [0]
     ·refine JC.skip (JN.blk_n (bn ?_));exact jz ((), ()) h [0]
   ·refine JC.region ?_;obtain ⟨x14, ex14, h⟩ := b_bind h;refine jb (o_add rfl ex14) ?_;refine mq (nl ?_);exact jz ((), x14) h [0]
  ·refine xa ?_;exact jz ((), ()) h [0]
 ·refine sr (cq (nt (JC.ret ?_)));cases h;exact JN.ret () [_] 1 ⟨rfl, trivial⟩ rfl


def chg_quick_order_l2 (k : Nat) (y2 : (List dThing) × (List dDresser) × (List Int) × (List Int) × (List (Bool × Int)) × (List Int) × Int) (x6 : dThing) : Nat → ((List dThing) × (List dDresser) × (List Int) × (List Int) × (List (Bool × Int)) × (List Int) × Int) → Option ((List dThing) × (List dDresser) × (List Int) × (List Int) × (List (Bool × Int)) × (List Int))
 | 0, _ => none
 | n + 1, y11 =>
  if y11.2.2.2.2.2.2 < (x6.1.length : Int) then ((geti x6.1 y11.2.2.2.2.2.2).bind fun x13 =>
  (chg_quick_number k ((y11.1, y11.2.1, y11.2.2.1, y11.2.2.2.1), y11.2.2.2.2.1, y11.2.2.2.2.2.1) x13 false).bind fun r14 =>
  (chg_quick_number k ((y11.1, y11.2.1, y11.2.2.1, y11.2.2.2.1), y11.2.2.2.2.1, y11.2.2.2.2.2.1) y2.2.2.2.2.2.2 false).bind fun r15 =>
  (chg_quick_order_1 k r14 r15 ((y11.1, y11.2.1, y11.2.2.1, y11.2.2.2.1), y11.2.2.2.2.1, y11.2.2.2.2.2.1)).bind fun r16 =>
  (chg_quick_number k ((r16.1.1, r16.1.2.1, r16.1.2.2.1, r16.1.2.2.2), r16.2.1, r16.2.2) x13 false).bind fun r17 =>
  (chg_quick_number k ((r16.1.1, r16.1.2.1, r16.1.2.2.1, r16.1.2.2.2), r16.2.1, r16.2.2) y2.2.2.2.2.2.2 true).bind fun r18 =>
  (chg_quick_order_1 k r17 r18 ((r16.1.1, r16.1.2.1, r16.1.2.2.1, r16.1.2.2.2), r16.2.1, r16.2.2)).bind fun r19 =>
  (chg_quick_number k ((r19.1.1, r19.1.2.1, r19.1.2.2.1, r19.1.2.2.2), r19.2.1, r19.2.2) y2.2.2.2.2.2.2 false).bind fun r20 =>
  (chg_quick_number k ((r19.1.1, r19.1.2.1, r19.1.2.2.1, r19.1.2.2.2), r19.2.1, r19.2.2) x13 true).bind fun r21 =>
  (chg_quick_order_1 k r20 r21 ((r19.1.1, r19.1.2.1, r19.1.2.2.1, r19.1.2.2.2), r19.2.1, r19.2.2)).bind fun r22 =>
  (chg_quick_number k ((r22.1.1, r22.1.2.1, r22.1.2.2.1, r22.1.2.2.2), r22.2.1, r22.2.2) y2.2.2.2.2.2.2 true).bind fun r23 =>
  (chg_quick_number k ((r22.1.1, r22.1.2.1, r22.1.2.2.1, r22.1.2.2.2), r22.2.1, r22.2.2) x13 true).bind fun r24 =>
  (chg_quick_order_1 k r23 r24 ((r22.1.1, r22.1.2.1, r22.1.2.2.1, r22.1.2.2.2), r22.2.1, r22.2.2)).bind fun r25 =>
  (ck (y11.2.2.2.2.2.2 + (1 : Int))).bind fun x26 =>
  chg_quick_order_l2 k y2 x6 n (r25.1.1, r25.1.2.1, r25.1.2.2.1, r25.1.2.2.2, r25.2.1, r25.2.2, x26)) else (some (y11.1, y11.2.1, y11.2.2.1, y11.2.2.2.1, y11.2.2.2.2.1, y11.2.2.2.2.2.1))

def chg_quick_order_l1 (k : Nat) (a0 : (dChange × (List (Bool × Int)) × (List Int))) : Nat → ((List dThing) × (List dDresser) × (List Int) × (List Int) × (List (Bool × Int)) × (List Int) × Int) → Option (dChange × (List (Bool × Int)) × (List Int))
 | 0, _ => none
 | n + 1, y2 =>
  if y2.2.2.2.2.2.2 < (a0.1.1.length : Int) then ((((geti a0.1.1 y2.2.2.2.2.2.2).bind fun x6 =>
  (chg_quick_number k ((y2.1, y2.2.1, y2.2.2.1, y2.2.2.2.1), y2.2.2.2.2.1, y2.2.2.2.2.2.1) y2.2.2.2.2.2.2 false).bind fun r8 =>
  (chg_quick_number k ((y2.1, y2.2.1, y2.2.2.1, y2.2.2.2.1), y2.2.2.2.2.1, y2.2.2.2.2.2.1) y2.2.2.2.2.2.2 true).bind fun r9 =>
  (chg_quick_order_1 k r8 r9 ((y2.1, y2.2.1, y2.2.2.1, y2.2.2.2.1), y2.2.2.2.2.1, y2.2.2.2.2.2.1)).bind fun r10 =>
  chg_quick_order_l2 k y2 x6 k (r10.1.1, r10.1.2.1, r10.1.2.2.1, r10.1.2.2.2, r10.2.1, r10.2.2, (0 : Int))) : Option ((List dThing) × (List dDresser) × (List Int) × (List Int) × (List (Bool × Int)) × (List Int))).bind fun x4 =>
  (ck (y2.2.2.2.2.2.2 + (1 : Int))).bind fun x27 =>
  chg_quick_order_l1 k a0 n (x4.1, x4.2.1, x4.2.2.1, x4.2.2.2.1, x4.2.2.2.2.1, x4.2.2.2.2.2, x27)) else (some ((y2.1, y2.2.1, y2.2.2.1, y2.2.2.2.1), y2.2.2.2.2.1, y2.2.2.2.2.2.1))
def chg_quick_order (k : Nat) (a0 : (dChange × (List (Bool × Int)) × (List Int))) : Option (dChange × (List (Bool × Int)) × (List Int)) :=
 chg_quick_order_l1 k a0 k (a0.1.1, a0.1.2.1, a0.1.2.2.1, a0.1.2.2.2, a0.2.1, a0.2.2, (0 : Int))

theorem chg_quick_order_ok (k : Nat) (a0 : (dChange × (List (Bool × Int)) × (List Int))) (b_a0 : Nat) (m_a0 : Value) (r : (dChange × (List (Bool × Int)) × (List Int))) (h : chg_quick_order k a0 = some r) :
 Ctr Try.prog 39 [Pt b_a0] [.obj b_a0 102 (Qq a0 (.eq m_a0))] (fun _ : Unit => (resA [], [.obj b_a0 102 (Qq r (.eq m_a0))])) := by
 unfold chg_quick_order at h;replace h := b_top h;refine Ctr.of 68 Try.func39 rfl Try.ntmps39 rfl fun S w0 => ?_;refine sr (bx fun b1 => ?_);refine nt (sr (ja (o_mkfn [] [.tmp 1] [] [(Pv b1)] rfl rfl rfl) ?_));refine aq (nt (sr ?_));refine lo sz72 ?_;refine ja (o_nil_obj rfl) ?_;refine fl fo102_0 ?_;refine fl fo43_0 ?_;refine fr 1 ?_;refine lo sz40 ?_;refine ol U40 ?_;refine JO.mc rfl ?_;refine nt (JC.block (JC.loopB (Z := Unit) (α := (List dThing) × (List dDresser) × (List Int) × (List Int) × (List (Bool × Int)) × (List Int) × Int) (fun z3 y2 => [(1, Pt b1), (2, .eq (.func (.func 57) #[] #[(Pv b1)])), (12, Rs tThing a0.1.1), (13, I (a0.1.1.length : Int)), (14, I y2.2.2.2.2.2.2)]) (fun z3 y2 => [.obj b1 72 (Pt b_a0), .obj b_a0 102 (.agg (.pair (.agg (.pair (Rs tThing y2.1) (.pair (Rs tDresser y2.2.1) (.pair (Ri y2.2.2.1) (Ri y2.2.2.2.1))))) (.pair (.rep (.slice (.tag 105 106)) y2.2.2.2.2.1) (.pair (.rep (.arr 8 (.int .u8)) y2.2.2.2.2.2.1) (.eq m_a0)))))]) (chg_quick_order_l1 k a0) k () (a0.1.1, a0.1.2.1, a0.1.2.2.1, a0.1.2.2.2, a0.2.1, a0.2.2, (0 : Int)) (fun _ => rfl) h (SE.fin [1, 0] ⟨rfl, rfl, rfl, rfl, rfl, trivial⟩ rfl) (fun n z3 y2 h => ?_)));unfold chg_quick_order_l1 at h;refine sr (jb (o_lss rfl) ?_);refine nt (JC.seq (ci h (fun h => ?_) (fun h => ?_)))
 ·refine sk (JC.cutB (Z := Unit) (α := (List dThing) × (List dDresser) × (List Int) × (List Int) × (List (Bool × Int)) × (List Int)) (fun z5 x4 => [(1, Pt b1), (2, .eq (.func (.func 57) #[] #[(Pv b1)])), (12, Rs tThing a0.1.1), (13, I (a0.1.1.length : Int)), (14, I y2.2.2.2.2.2.2)]) (fun z5 x4 => [.obj b1 72 (Pt b_a0), .obj b_a0 102 (.agg (.pair (.agg (.pair (Rs tThing x4.1) (.pair (Rs tDresser x4.2.1) (.pair (Ri x4.2.2.1) (Ri x4.2.2.2.1))))) (.pair (.rep (.slice (.tag 105 106)) x4.2.2.2.2.1) (.pair (.rep (.arr 8 (.int .u8)) x4.2.2.2.2.2) (.eq m_a0)))))]) h (fun K h => ?_) (fun z5 x4 h => ?_))
  ·refine JC.block (sr (mq ?_));obtain ⟨x6, ex6, h⟩ := b_bind h;refine jb (o_index (t := tThing) rfl U40 sz84 ex6) ?_;refine ja (o_load_at (t := tThing) rfl sz84 rfl) ?_;refine JO.s01 rfl rfl rfl (o_alloc rfl za84 al84) trivial fun b7 => ?_;refine aq ?_;refine JO.n11 rfl rfl (o_store rfl sz84 rfl rfl rfl) ⟨rfl, rfl, trivial⟩ ?_;refine nt (JC.seq (JC.drawN ?_));refine dm ?_;refine ea 1 (o_load_obj rfl sz72 nfs rfl) ?_;refine dm ?_;obtain ⟨r8, er8, h⟩ := b_bind h;refine ec 2 (o_call [.tmp 20, .tmp 21, .const (.bool false)] rfl rfl en58 rfl (chg_quick_number_ok k ((y2.1, y2.2.1, y2.2.2.1, y2.2.2.2.1), y2.2.2.2.2.1, y2.2.2.2.2.2.1) b_a0 m_a0 y2.2.2.2.2.2.2 false r8 er8)) ?_;refine ea 1 (o_load_obj rfl sz72 nfs rfl) ?_;refine dm ?_;obtain ⟨r9, er9, h⟩ := b_bind h;refine ec 2 (o_call [.tmp 23, .tmp 24, .const (.bool true)] rfl rfl en58 rfl (chg_quick_number_ok k ((y2.1, y2.2.1, y2.2.2.1, y2.2.2.2.1), y2.2.2.2.2.1, y2.2.2.2.2.2.1) b_a0 m_a0 y2.2.2.2.2.2.2 true r9 er9)) ?_;refine df mixed ?_;obtain ⟨r10, er10, h⟩ := b_bind h;refine fr 1 ?_;refine fr 2 ?_;refine JO.stepG (Δ := [_, _]) (F := _) (fun _ _ _ => wanted_none rfl _) rfl rfl (o_callv (fs := []) (cs := [(Pv b1)]) (ags := [I r8, I r9]) [.tmp 22, .tmp 25] rfl rfl en57 rfl (chg_quick_order_1_ok k r8 r9 ((y2.1, y2.2.1, y2.2.2.1, y2.2.2.2.1), y2.2.2.2.2.1, y2.2.2.2.2.2.1) b_a0 m_a0 b1 r10 er10)) ⟨rfl, rfl, rfl, trivial⟩ fun _ => ?_;refine nt (sr (fl fo84_0 ?_));refine fr 2 ?_;refine lo sz22 ?_;refine ol U22 ?_;refine JO.mc rfl ?_;refine nt (JC.block (JC.loopB (Z := Unit) (α := (List dThing) × (List dDresser) × (List Int) × (List Int) × (List (Bool × Int)) × (List Int) × Int) (fun z12 y11 => [(1, Pt b1), (2, .eq (.func (.func 57) #[] #[(Pv b1)])), (3, I y2.2.2.2.2.2.2), (12, Rs tThing a0.1.1), (13, I (a0.1.1.length : Int)), (14, I y2.2.2.2.2.2.2), (28, Ri x6.1), (29, I (x6.1.length : Int)), (30, I y11.2.2.2.2.2.2)]) (fun z12 y11 => [.obj b1 72 (Pt b_a0), .obj b_a0 102 (.agg (.pair (.agg (.pair (Rs tThing y11.1) (.pair (Rs tDresser y11.2.1) (.pair (Ri y11.2.2.1) (Ri y11.2.2.2.1))))) (.pair (.rep (.slice (.tag 105 106)) y11.2.2.2.2.1) (.pair (.rep (.arr 8 (.int .u8)) y11.2.2.2.2.2.1) (.eq m_a0)))))]) (chg_quick_order_l2 k y2 x6) k () (r10.1.1, r10.1.2.1, r10.1.2.2.1, r10.1.2.2.2, r10.2.1, r10.2.2, (0 : Int)) (fun _ => rfl) h (SE.fin [2, 1] ⟨rfl, rfl, rfl, rfl, rfl, rfl, rfl, rfl, rfl, trivial⟩ rfl) (fun n z12 y11 h => ?_)));unfold chg_quick_order_l2 at h;refine sr (jb (o_lss rfl) ?_);refine nt (JC.seq (ci h (fun h => ?_) (fun h => ?_)))
   ·refine sk (JC.seq (JC.block (sr ?_)));obtain ⟨x13, ex13, h⟩ := b_bind h;refine jb (o_index (t := (.int .i64)) rfl U22 sz3 ex13) ?_;refine ja (o_load_at (t := (.int .i64)) rfl sz3 rfl) ?_;refine aq (nt (JC.seq ?_));refine JC.drawN ?_;refine dm ?_;refine ea 0 (o_load_obj rfl sz72 nfs rfl) ?_;refine dm ?_;obtain ⟨r14, er14, h⟩ := b_bind h;refine ec 1 (o_call [.tmp 35, .tmp 36, .const (.bool false)] rfl rfl en58 rfl (chg_quick_number_ok k ((y11.1, y11.2.1, y11.2.2.1, y11.2.2.2.1), y11.2.2.2.2.1, y11.2.2.2.2.2.1) b_a0 m_a0 x13 false r14 er14)) ?_;refine ea 0 (o_load_obj rfl sz72 nfs rfl) ?_;refine dm ?_;obtain ⟨r15, er15, h⟩ := b_bind h;refine ec 1 (o_call [.tmp 38, .tmp 39, .const (.bool false)] rfl rfl en58 rfl (chg_quick_number_ok k ((y11.1, y11.2.1, y11.2.2.1, y11.2.2.2.1), y11.2.2.2.2.1, y11.2.2.2.2.2.1) b_a0 m_a0 y2.2.2.2.2.2.2 false r15 er15)) ?_;refine df mixed ?_;obtain ⟨r16, er16, h⟩ := b_bind h;refine fr 1 ?_;refine JO.stepG (Δ := [_, _]) (F := _) (fun _ _ _ => wanted_none rfl _) rfl rfl (o_callv (fs := []) (cs := [(Pv b1)]) (ags := [I r14, I r15]) [.tmp 37, .tmp 40] rfl rfl en57 rfl (chg_quick_order_1_ok k r14 r15 ((y11.1, y11.2.1, y11.2.2.1, y11.2.2.2.1), y11.2.2.2.2.1, y11.2.2.2.2.2.1) b_a0 m_a0 b1 r16 er16)) ⟨rfl, rfl, rfl, trivial⟩ fun _ => ?_;refine nt (JC.seq (JC.drawN ?_));refine dm ?_;refine ea 1 (o_load_obj rfl sz72 nfs rfl) ?_;refine dm ?_;obtain ⟨r17, er17, h⟩ := b_bind h;refine ec 0 (o_call [.tmp 43, .tmp 44, .const (.bool false)] rfl rfl en58 rfl (chg_quick_number_ok k ((r16.1.1, r16.1.2.1, r16.1.2.2.1, r16.1.2.2.2), r16.2.1, r16.2.2) b_a0 m_a0 x13 false r17 er17)) ?_;refine ea 1 (o_load_obj rfl sz72 nfs rfl) ?_;refine dm ?_;obtain ⟨r18, er18, h⟩ := b_bind h;refine ec 0 (o_call [.tmp 46, .tmp 47, .const (.bool true)] rfl rfl en58 rfl (chg_quick_number_ok k ((r16.1.1, r16.1.2.1, r16.1.2.2.1, r16.1.2.2.2), r16.2.1, r16.2.2) b_a0 m_a0 y2.2.2.2.2.2.2 true r18 er18)) ?_;refine df mixed ?_;obtain ⟨r19, er19, h⟩ := b_bind h;refine fr 1 ?_;refine fr 1 ?_;refine JO.stepG (Δ := [_, _]) (F := _) (fun _ _ _ => wanted_none rfl _) rfl rfl (o_callv (fs := []) (cs := [(Pv b1)]) (ags := [I r17, I r18]) [.tmp 45, .tmp 48] rfl rfl en57 rfl (chg_quick_order_1_ok k r17 r18 ((r16.1.1, r16.1.2.1, r16.1.2.2.1, r16.1.2.2.2), r16.2.1, r16.2.2) b_a0 m_a0 b1 r19 er19)) ⟨rfl, rfl, rfl, trivial⟩ fun _ => ?_;refine nt (JC.seq (JC.drawN ?_));refine dm ?_;refine ea 1 (o_load_obj rfl sz72 nfs rfl) ?_;refine dm ?_;obtain ⟨r20, er20, h⟩ := b_bind h;refine ec 0 (o_call [.tmp 51, .tmp 52, .const (.bool false)] rfl rfl en58 rfl (chg_quick_number_ok k ((r19.1.1, r19.1.2.1, r19.1.2.2.1, r19.1.2.2.2), r19.2.1, r19.2.2) b_a0 m_a0 y2.2.2.2.2.2.2 false r20 er20)) ?_;refine ea 1 (o_load_obj rfl sz72 nfs rfl) ?_;refine dm ?_;obtain ⟨r21, er21, h⟩ := b_bind h;refine ec 0 (o_call [.tmp 54, .tmp 55, .const (.bool true)] rfl rfl en58 rfl (chg_quick_number_ok k ((r19.1.1, r19.1.2.1, r19.1.2.2.1, r19.1.2.2.2), r19.2.1, r19.2.2) b_a0 m_a0 x13 true r21 er21)) ?_;refine df mixed ?_;obtain ⟨r22, er22, h⟩ := b_bind h;refine fr 1 ?_;refine fr 1 ?_;refine JO.stepG (Δ := [_, _]) (F := _) (fun _ _ _ => wanted_none rfl _) rfl rfl (o_callv (fs := []) (cs := [(Pv b1)]) (ags := [I r20, I r21]) [.tmp 53, .tmp 56] rfl rfl en57 rfl (chg_quick_order_1_ok k r20 r21 ((r19.1.1, r19.1.2.1, r19.1.2.2.1, r19.1.2.2.2), r19.2.1, r19.2.2) b_a0 m_a0 b1 r22 er22)) ⟨rfl, rfl, rfl, trivial⟩ fun _ => ?_;refine nt (JC.drawN ?_);refine dm ?_;refine ea 1 (o_load_obj rfl sz72 nfs rfl) ?_;refine dm ?_;obtain ⟨r23, er23, h⟩ := b_bind h;have cr23 := chg_quick_number_ok k ((r22.1.1, r22.1.2.1, r22.1.2.2.1, r22.1.2.2.2), r22.2.1, r22.2.2) b_a0 m_a0 y2.2.2.2.2.2.2 true r23 er23
    refine ec 0 (o_call [.tmp 59, .tmp 60, .const (.bool true)] rfl rfl en58 rfl cr23) ?_;refine ea 1 (o_load_obj rfl sz72 nfs rfl) ?_;refine dm ?_;obtain ⟨r24, er24, h⟩ := b_bind h;refine ec 0 (o_call [.tmp 62, .tmp 63, .const (.bool true)] rfl rfl en58 rfl (chg_quick_number_ok k ((r22.1.1, r22.1.2.1, r22.1.2.2.1, r22.1.2.2.2), r22.2.1, r22.2.2) b_a0 m_a0 x13 true r24 er24)) ?_;refine df mixed ?_;obtain ⟨r25, er25, h⟩ := b_bind h;refine fr 1 ?_;refine fr 1 ?_;refine JO.stepG (Δ := [_, _]) (F := _) (fun _ _ _ => wanted_none rfl _) rfl rfl (o_callv (fs := []) (cs := [(Pv b1)]) (ags := [I r23, I r24]) [.tmp 61, .tmp 64] rfl rfl en57 rfl (chg_quick_order_1_ok k r23 r24 ((r22.1.1, r22.1.2.1, r22.1.2.2.1, r22.1.2.2.2), r22.2.1, r22.2.2) b_a0 m_a0 b1 r25 er25)) ⟨rfl, rfl, rfl, trivial⟩ fun _ => ?_;refine JO.nil (JN.blk_n (tn (JC.region ?_)));obtain ⟨x26, ex26, h⟩ := b_bind h;refine jb (o_add rfl ex26) ?_;refine mq (nl ?_);exact jz ((), (r25.1.1, r25.1.2.1, r25.1.2.2.1, r25.1.2.2.2, r25.2.1, r25.2.2, x26)) h [1, 0]
   ·refine JC.exit (JN.then_x (JN.then_x (JN.blk_hit (bn ?_))));exact jz ((), (y11.1, y11.2.1, y11.2.2.1, y11.2.2.2.1, y11.2.2.2.2.1, y11.2.2.2.2.2.1)) h [0, 1]
  ·refine JC.region ?_;obtain ⟨x27, ex27, h⟩ := b_bind h;refine jb (o_add rfl ex27) ?_;refine mq (nl ?_);exact jz ((), (x4.1, x4.2.1, x4.2.2.1, x4.2.2.2.1, x4.2.2.2.2.1, x4.2.2.2.2.2, x27)) h [0, 1]
 ·refine JC.exit (JN.then_x (JN.then_x (JN.blk_hit (JN.end_n ?_))));refine JN.se (SE.fin (Γ' := []) [1, 0] trivial rfl) ?_;cases h;exact JN.ret () [] 1 trivial rfl


def chg_begin_l1 (k : Nat) (r9 : (List Int)) : Nat → ((List (Bool × Int)) × Int) → Option (List (Bool × Int))
 | 0, _ => none
 | n + 1, y10 =>
  if y10.2 < (r9.length : Int) then ((geti r9 y10.2).bind fun x12 =>
  (chkP (okLen (List.length y10.1 + List.length [(false, x12)]))).bind fun _ =>
  (ck (y10.2 + (1 : Int))).bind fun x16 =>
  chg_begin_l1 k r9 n (y10.1 ++ [(false, x12)], x16)) else (some y10.1)

def chg_begin_l2 (k : Nat) (r20 : (List Int)) : Nat → ((List (Bool × Int)) × Int) → Option (List (Bool × Int))
 | 0, _ => none
 | n + 1, y21 =>
  if y21.2 < (r20.length : Int) then ((geti r20 y21.2).bind fun x23 =>
  (chkP (okLen (List.length y21.1 + List.length [(true, x23)]))).bind fun _ =>
  (ck (y21.2 + (1 : Int))).bind fun x27 =>
  chg_begin_l2 k r20 n (y21.1 ++ [(true, x23)], x27)) else (some y21.1)
def chg_begin (k : Nat) (a0 : dChange) : Option ((Option (dChange × (List (Bool × Int)) × (List Int))) × Int) :=
 (chg_Check k a0).bind fun r2 =>
 if ¬ (r2 = (0 : Int)) then (some (none, r2)) else ((chg_changed k a0).bind fun r5 =>
 (((chg_of k a0.2.2.1).bind fun r8 =>
 (chg_set_list k (iand .u8 r5 r8)).bind fun r9 =>
 chg_begin_l1 k r9 k (([] : (List (Bool × Int))), (0 : Int))) : Option ((List (Bool × Int)))).bind fun x6 =>
 (((chg_of k a0.2.2.2).bind fun r19 =>
 (chg_set_list k (iand .u8 r5 r19)).bind fun r20 =>
 chg_begin_l2 k r20 k (x6, (0 : Int))) : Option ((List (Bool × Int)))).bind fun x17 =>
 if (4 : Int) < (x17.length : Int) then (some (none, (6 : Int))) else ((chg_quick_order k (a0, x17, [(0 : Int), (0 : Int), (0 : Int), (0 : Int), (0 : Int), (0 : Int), (0 : Int), (0 : Int)])).bind fun r28 =>
 some (some ((r28.1.1, r28.1.2.1, r28.1.2.2.1, r28.1.2.2.2), r28.2.1, r28.2.2), (0 : Int))))

theorem chg_begin_ok (k : Nat) (a0 : dChange) (r : (Option (dChange × (List (Bool × Int)) × (List Int))) × Int) (h : chg_begin k a0 = some r) :
 Ctr Try.prog 26 [.rep tChange a0] [] (fun z : Nat × Nat => (resA [optA r.1 z.1, I r.2], optD r.1 fun q => [.obj z.1 102 (Qq q (.eq (.map (some z.2)))), .raw z.2 (.map #[] 0)])) := by
 unfold chg_begin at h;replace h := b_top h;refine Ctr.of 77 Try.func26 rfl Try.ntmps26 rfl fun S w0 => ?_;refine sr (bx fun b1 => ?_);refine cq ?_;refine cq (nt (JC.seq (sr ?_)));refine lo sz43 ?_;obtain ⟨r2, er2, h⟩ := b_bind h;refine ja (o_call [.tmp 11] rfl rfl en35 rfl (chg_Check_ok k a0 r2 er2)) ?_;refine aq (nt (sr ?_));refine mq ?_;refine jb (o_neq rfl) ?_;refine nt (cn h (fun h => ?_) (fun h => ?_))
 ·refine sr (mq ?_);refine cq ?_;refine aq (nt (rx ?_));cases h;exact JN.ret (0, 0) [.eq (.pointer none), _] 0 ⟨rfl, rfl, trivial⟩ rfl
 ·refine sk (sr (lo sz43 ?_));refine JO.s01 rfl rfl rfl (o_makeMap rfl) trivial fun z3 => ?_;refine jb (o_buildT [(0, .tmp 16, _), (3, .tmp 17, _)] rfl pl102 za102 alb102 (stors ⟨rfl, rfl, trivial⟩) rfl) ?_;refine JO.s01 rfl rfl rfl (o_box rfl trivial) ⟨rfl, trivial⟩ fun b4 => ?_;refine aq (nt (sr ?_));refine fr 2 ?_;refine lo sz43 ?_;obtain ⟨r5, er5, h⟩ := b_bind h;refine ja (o_call [.tmp 20] rfl rfl en36 rfl (chg_changed_ok k a0 r5 er5)) ?_;refine aq (nt ?_);refine JC.cutB (Z := Value) (α := (List (Bool × Int))) (fun z7 x6 => [(1, Pt b1), (5, Pt b4), (6, .eq (.int .u8 r5))]) (fun z7 x6 => [.obj b1 43 (.rep tChange a0), .obj b4 102 (.agg (.pair (.rep tChange a0) (.pair (.eq z7) (.pair (.rep (.arr 8 (.int .u8)) [(0 : Int), (0 : Int), (0 : Int), (0 : Int), (0 : Int), (0 : Int), (0 : Int), (0 : Int)]) (.eq (.map (some z3))))))), .sl z7 111 (.tag 105 106) x6, .raw z3 (.map #[] 0)]) h (fun K h => ?_) (fun z7 x6 h => ?_)
  ·refine sr (mq ?_);refine fl fo43_2 ?_;refine lo sz22 ?_;obtain ⟨r8, er8, h⟩ := b_bind h;refine ja (o_call [.tmp 24] rfl rfl en37 rfl (chg_of_ok k a0.2.2.1 r8 er8)) ?_;refine jb (o_and rfl) ?_;obtain ⟨r9, er9, h⟩ := b_bind h;refine ja (o_call [.tmp 26] rfl rfl en38 rfl (chg_set_list_ok k (iand .u8 r5 r8) r9 er9)) ?_;refine ol U22 ?_;refine JO.mc rfl ?_;refine nt (JC.block (JC.se (SE.nil 111 (.tag 105 106)) ?_));refine JC.loopB (Z := Value) (α := (List (Bool × Int)) × Int) (fun z11 y10 => [(1, Pt b1), (5, Pt b4), (6, .eq (.int .u8 r5)), (27, Ri r9), (28, I (r9.length : Int)), (29, I y10.2)]) (fun z11 y10 => [.obj b1 43 (.rep tChange a0), .obj b4 102 (.agg (.pair (.rep tChange a0) (.pair (.eq z11) (.pair (.rep (.arr 8 (.int .u8)) [(0 : Int), (0 : Int), (0 : Int), (0 : Int), (0 : Int), (0 : Int), (0 : Int), (0 : Int)]) (.eq (.map (some z3))))))), .sl z11 111 (.tag 105 106) y10.1, .raw z3 (.map #[] 0)]) (chg_begin_l1 k r9) k (.slice none 0 0) (([] : (List (Bool × Int))), (0 : Int)) (fun _ => rfl) h (SE.fin [1, 2, 0, 3] ⟨rfl, rfl, rfl, rfl, rfl, rfl, trivial⟩ rfl) (fun n z11 y10 h => ?_);unfold chg_begin_l1 at h;refine sr (jb (o_lss rfl) ?_);refine nt (JC.seq (ci h (fun h => ?_) (fun h => ?_)))
   ·refine sk (JC.seq (JC.block (sr ?_)));obtain ⟨x12, ex12, h⟩ := b_bind h;refine jb (o_index (t := (.int .i64)) rfl U22 sz3 ex12) ?_;refine ja (o_load_at (t := (.int .i64)) rfl sz3 rfl) ?_;refine aq (nt (JC.region ?_));iterate 2 refine mq ?_
    refine ja (o_nil_obj rfl) ?_;refine fl fo102_1 ?_;refine fr 1 ?_;refine lo sz98 ?_;refine mq ?_;refine ja (o_iface rfl U105) ?_;refine ja (o_litB (t := (.tag 105 106)) [(.tmp 39, _)] [(false, x12)] rfl rfl sl98 (.cons rfl .tag0 .nil) rfl rfl) ?_;obtain ⟨u13, eu13, h⟩ := b_bind h;refine fr 2 ?_;refine JO.s1x rfl rfl rfl (o_append rfl rfl sl98 (chkP_some eu13)) ⟨rfl, rfl, trivial⟩ fun v14 => ?_;refine ja (o_nil_obj rfl) ?_;refine fl fo102_1 ?_;refine JO.one fun o15 => ?_;refine fr 1 ?_;refine JO.n11 rfl rfl (o_store rfl sz98 o15 rfl rfl) ⟨rfl, rfl, trivial⟩ ?_;refine JO.nil (JN.blk_n (tn (JC.region ?_)));obtain ⟨x16, ex16, h⟩ := b_bind h;refine jb (o_add rfl ex16) ?_;refine mq (nl ?_);exact jz (v14, (y10.1 ++ [(false, x12)], x16)) h [2, 0, 1, 3]
   ·refine xa ?_;exact jz (z11, y10.1) h [0, 1, 2, 3]
  ·refine JC.cutB (Z := Value) (α := (List (Bool × Int))) (fun z18 x17 => [(5, Pt b4)]) (fun z18 x17 => [.obj b4 102 (.agg (.pair (.rep tChange a0) (.pair (.eq z18) (.pair (.rep (.arr 8 (.int .u8)) [(0 : Int), (0 : Int), (0 : Int), (0 : Int), (0 : Int), (0 : Int), (0 : Int), (0 : Int)]) (.eq (.map (some z3))))))), .sl z18 111 (.tag 105 106) x17, .raw z3 (.map #[] 0)]) h (fun K h => ?_) (fun z18 x17 h => ?_)
   ·refine sr (mq ?_);refine fl fo43_3 ?_;refine lo sz22 ?_;obtain ⟨r19, er19, h⟩ := b_bind h;refine ja (o_call [.tmp 47] rfl rfl en37 rfl (chg_of_ok k a0.2.2.2 r19 er19)) ?_;refine jb (o_and rfl) ?_;obtain ⟨r20, er20, h⟩ := b_bind h;refine ja (o_call [.tmp 49] rfl rfl en38 rfl (chg_set_list_ok k (iand .u8 r5 r19) r20 er20)) ?_;refine ol U22 ?_;refine JO.mc rfl ?_;refine nt (JC.block (JC.loopB (Z := Value) (α := (List (Bool × Int)) × Int) (fun z22 y21 => [(5, Pt b4), (50, Ri r20), (51, I (r20.length : Int)), (52, I y21.2)]) (fun z22 y21 => [.obj b4 102 (.agg (.pair (.rep tChange a0) (.pair (.eq z22) (.pair (.rep (.arr 8 (.int .u8)) [(0 : Int), (0 : Int), (0 : Int), (0 : Int), (0 : Int), (0 : Int), (0 : Int), (0 : Int)]) (.eq (.map (some z3))))))), .sl z22 111 (.tag 105 106) y21.1, .raw z3 (.map #[] 0)]) (chg_begin_l2 k r20) k z7 (x6, (0 : Int)) (fun _ => rfl) h (SE.fin [1, 2, 3] ⟨rfl, rfl, rfl, rfl, trivial⟩ rfl) (fun n z22 y21 h => ?_)));unfold chg_begin_l2 at h;refine sr (jb (o_lss rfl) ?_);refine nt (JC.seq (ci h (fun h => ?_) (fun h => ?_)))
    ·refine sk (JC.seq (JC.block (sr ?_)));obtain ⟨x23, ex23, h⟩ := b_bind h;refine jb (o_index (t := (.int .i64)) rfl U22 sz3 ex23) ?_;refine ja (o_load_at (t := (.int .i64)) rfl sz3 rfl) ?_;refine aq (nt (JC.region ?_));iterate 2 refine mq ?_
     refine ja (o_nil_obj rfl) ?_;refine fl fo102_1 ?_;refine lo sz98 ?_;refine mq ?_;refine ja (o_iface rfl U106) ?_;refine ja (o_litB (t := (.tag 105 106)) [(.tmp 62, _)] [(true, x23)] rfl rfl sl98 (.cons rfl .tag1 .nil) rfl rfl) ?_;obtain ⟨u24, eu24, h⟩ := b_bind h;refine fr 1 ?_;refine JO.s1x rfl rfl rfl (o_append rfl rfl sl98 (chkP_some eu24)) ⟨rfl, rfl, trivial⟩ fun v25 => ?_;refine ja (o_nil_obj rfl) ?_;refine fl fo102_1 ?_;refine JO.one fun o26 => ?_;refine fr 1 ?_;refine JO.n11 rfl rfl (o_store rfl sz98 o26 rfl rfl) ⟨rfl, rfl, trivial⟩ ?_;refine JO.nil (JN.blk_n (tn (JC.region ?_)));obtain ⟨x27, ex27, h⟩ := b_bind h;refine jb (o_add rfl ex27) ?_;refine mq (nl ?_);exact jz (v25, (y21.1 ++ [(true, x23)], x27)) h [0, 1, 2]
    ·refine xa ?_;exact jz (z22, y21.1) h [0, 1, 2]
   ·refine JC.seq (sr (mq ?_));refine ja (o_nil_obj rfl) ?_;refine fl fo102_1 ?_;refine lo sz98 ?_;refine fr 1 ?_;refine ka (o_len_own rfl rfl U98) ?_;refine jb (o_gtr rfl) ?_;refine nt (ci h (fun h => ?_) (fun h => ?_))
    ·refine sr (cq ?_);refine cq (nt (rx ?_));cases h;exact JN.ret (0, 0) [.eq (.pointer none), _] 0 ⟨rfl, rfl, trivial⟩ rfl
    ·refine sk (sr (mq ?_));refine fr 1 ?_;refine fr 1 ?_;refine JO.se (SE.frzBoth (off := 4) [71] ⟨rfl, trivial⟩ rfl rfl) ?_;refine JO.se (SE.objE (a := .agg (.pair (.rep tChange a0) (.pair (.rep (.slice (.tag 105 106)) x17) (.pair (.rep (.arr 8 (.int .u8)) [(0 : Int), (0 : Int), (0 : Int), (0 : Int), (0 : Int), (0 : Int), (0 : Int), (0 : Int)]) (.eq (.map (some z3))))))) (a' := .agg (.pair (Qc a0) (.pair (.rep (.slice (.tag 105 106)) x17) (.pair (.rep (.arr 8 (.int .u8)) [(0 : Int), (0 : Int), (0 : Int), (0 : Int), (0 : Int), (0 : Int), (0 : Int), (0 : Int)]) (.eq (.map (some z3))))))) (AE.agg (AE.pair (AE.trans AE.aggR (AE.agg (AE.trans AE.split (AE.pair AE.rfl (AE.trans AE.split (AE.pair AE.rfl AE.split)))))) AE.rfl))) ?_;obtain ⟨r28, er28, h⟩ := b_bind h;refine ka (o_call [.tmp 74] rfl rfl en39 rfl (chg_quick_order_ok k (a0, x17, [(0 : Int), (0 : Int), (0 : Int), (0 : Int), (0 : Int), (0 : Int), (0 : Int), (0 : Int)]) b4 (.map (some z3)) r28 er28)) ?_;refine nt (sr (mq ?_));refine aq ?_;refine cq (nt (JC.ret ?_));cases h;exact JN.ret (b4, z3) [Pt b4, _] 2 ⟨rfl, rfl, trivial⟩ rfl


def slc_Clone_Step (k : Nat) (a0 : List dBetween) : Option (List dBetween) :=
 (chkP (okLen (List.length a0))).bind fun _ => some a0

theorem slc_Clone_Step_ok (k : Nat) (a0 : List dBetween) (r : List dBetween) (h : slc_Clone_Step k a0 = some r) :
 Ctr Try.prog 42 [Rs tBetween a0] [] (fun z : Value => (resA [.eq z], [.sl z 46 tBetween r])) := by
 unfold slc_Clone_Step at h;replace h := b_top h;refine Ctr.of 8 Try.func42 rfl Try.ntmps42 rfl fun S w0 => ?_;obtain ⟨u1, eu1, h⟩ := b_bind h;cases h;refine sr (cq (nt (JC.seq (sr ?_))));refine mq ?_;refine JO.stepG (Δ := []) (F := _) (fun _ _ _ => wanted_none rfl _) rfl rfl (o_eqnil rfl U37) ⟨rfl, rfl, trivial⟩ fun b => ?_;refine nt (JC.cond rfl (fun hb => ?_) (fun hb => ?_))
 ·refine sr (cq (nt (rx ?_)));obtain rfl := b.2 hb;refine JN.se (SE.nil 46 tBetween) ?_;exact JN.ret (.slice none 0 0) [.eq (.slice none 0 0)] 1 ⟨rfl, trivial⟩ rfl
 ·refine sk (sr (JO.s01 rfl rfl rfl (o_litB_own (t := tBetween) [] [] rfl rfl sl37 .nil rfl rfl) trivial fun v1 => ?_));refine mq ?_;refine JO.s1x rfl rfl rfl (o_append rfl rfl sl37 (by simpa using chkP_some eu1)) ⟨rfl, rfl, trivial⟩ fun v2 => ?_;refine aq (nt (JC.ret ?_));exact JN.ret v2 [.eq v2] 1 ⟨rfl, trivial⟩ rfl


def slc_Index_int_l1 (k : Nat) (a0 : (List Int)) (a1 : Int) : Nat → Int → Option (Except Int Unit)
 | 0, _ => none
 | n + 1, y3 =>
  if y3 < (a0.length : Int) then ((geti a0 y3).bind fun x5 =>
  if a1 = x5 then (some (.error y3)) else ((ck (y3 + (1 : Int))).bind fun x6 =>
  slc_Index_int_l1 k a0 a1 n x6)) else (some (.ok ()))
def slc_Index_int (k : Nat) (a0 : (List Int)) (a1 : Int) : Option Int :=
 bE (α := Unit) (slc_Index_int_l1 k a0 a1 k (0 : Int)) (some) fun _ =>
 some (-1 : Int)

theorem slc_Index_int_ok (k : Nat) (a0 : (List Int)) (a1 : Int) (r : Int) (h : slc_Index_int k a0 a1 = some r) :
 Ctr Try.prog 66 [Ri a0, I a1] [] (fun _ : Unit => (resA [I r], [])) := by
 unfold slc_Index_int at h;replace h := b_top h;refine Ctr.of 19 Try.func66 rfl Try.ntmps66 rfl fun S w0 => ?_;refine sr (cq (nt ?_));refine JC.cutE (Z := Unit) (α := Unit) (fun z2 x1 => []) (fun z2 x1 => []) (fun e => e = r) h (fun e h => Option.some.inj h) (fun K hR h => ?_) (fun z2 x1 h => ?_)
 ·refine sr (mq ?_);refine ol U22 ?_;refine JO.mc rfl ?_;refine nt (JC.block (JC.loopB (Z := Unit) (α := Int) (fun z4 y3 => [(0, Ri a0), (1, I a1), (7, I (a0.length : Int)), (8, I y3)]) (fun z4 y3 => []) (slc_Index_int_l1 k a0 a1) k () (0 : Int) (fun _ => rfl) h (SE.fin [] ⟨rfl, rfl, rfl, rfl, trivial⟩ rfl) (fun n z4 y3 h => ?_)));unfold slc_Index_int_l1 at h;refine sr (jb (o_lss rfl) ?_);refine nt (JC.seq (ci h (fun h => ?_) (fun h => ?_)))
  ·refine sk (JC.seq (JC.block (sr (mq ?_))));refine aq (nt (sr ?_));iterate 3 refine mq ?_
   obtain ⟨x5, ex5, h⟩ := b_bind h;refine jb (o_index (t := (.int .i64)) rfl U22 sz3 ex5) ?_;refine ja (o_load_at (t := (.int .i64)) rfl sz3 rfl) ?_;refine jb (o_eql rfl) ?_;refine nt (ci h (fun h => ?_) (fun h => ?_))
   ·refine sr (mq ?_);refine aq (nt (JC.ret (br (JN.blk_r (JN.then_r ?_)))));obtain rfl := hR _ h;exact ra
   ·refine JC.skip (JN.blk_n (tn (JC.region ?_)));obtain ⟨x6, ex6, h⟩ := b_bind h;refine jb (o_add rfl ex6) ?_;refine mq (nl ?_);exact jz ((), x6) h []
  ·refine xa ?_;exact jz ((), ()) h []
 ·refine sr (cq (nt (JC.ret ?_)));cases h;exact ra


def slc_Contains_int (k : Nat) (a0 : (List Int)) (a1 : Int) : Option Bool :=
 (slc_Index_int k a0 a1).bind fun r1 =>
 some (decide ((0 : Int) ≤ r1))

theorem slc_Contains_int_ok (k : Nat) (a0 : (List Int)) (a1 : Int) (r : Bool) (h : slc_Contains_int k a0 a1 = some r) :
 Ctr Try.prog 59 [Ri a0, I a1] [] (fun _ : Unit => (resA [.eq (.bool r)], [])) := by
 unfold slc_Contains_int at h;replace h := b_top h;refine Ctr.of 9 Try.func59 rfl Try.ntmps59 rfl fun S w0 => ?_;refine sr (cq (nt (sr ?_)));iterate 2 refine mq ?_
 obtain ⟨r1, er1, h⟩ := b_bind h;refine jb (o_call [.tmp 5, .tmp 6] rfl rfl en66 rfl (slc_Index_int_ok k a0 a1 r1 er1)) ?_;refine jb (o_geq rfl) ?_;refine aq (nt (JC.ret ?_));cases h;exact ra


def chg_quick_can (k : Nat) (a0 : (dChange × (List (Bool × Int)) × (List Int))) (a1 : Int) (a2 : (Bool × Int)) : Option Bool :=
 (geti a0.1.2.1 a1).bind fun x1 =>
 (cond a2.1 (chg_on_thing k a2.2) (chg_off_thing k a2.2)).bind fun r2 =>
 (geti a0.1.1 r2).bind fun x3 =>
 (((cond a2.1 (chg_on_thing k a2.2) (chg_off_thing k a2.2)).bind fun r8 =>
 (slc_Contains_int k x1.1 r8).bind fun r9 =>
 if r9 = true then (if x3.2.2.2.1 = (0 : Int) then (some true) else (if x1.2.1 = (0 : Int) then (some true) else (some (decide (x1.2.1 = x3.2.2.2.1))))) else (some false)) : Option (Bool)).bind fun x6 =>
 some x6

theorem chg_quick_can_ok (k : Nat) (a0 : (dChange × (List (Bool × Int)) × (List Int))) (b_a0 : Nat) (m_a0 : Value) (a1 : Int) (a2 : (Bool × Int)) (r : Bool) (h : chg_quick_can k a0 a1 a2 = some r) :
 Ctr Try.prog 44 [Pt b_a0, I a1, .rep (.tag 105 106) a2] [.obj b_a0 102 (Qq a0 (.eq m_a0))] (fun _ : Unit => (resA [.eq (.bool r)], [.obj b_a0 102 (Qq a0 (.eq m_a0))])) := by
 unfold chg_quick_can at h;replace h := b_top h;refine Ctr.of 48 Try.func44 rfl Try.ntmps44 rfl fun S w0 => ?_;refine sr (cq (nt (JC.seq ?_)));refine JC.drawW ?_;refine DW.t00 rfl rfl rfl (o_move rfl) ⟨rfl, trivial⟩ ?_;refine DW.t00 rfl rfl rfl (o_nil_obj rfl) ⟨rfl, trivial⟩ ?_;refine DW.t00 rfl rfl rfl (o_field_obj rfl fo102_0) ⟨rfl, trivial⟩ ?_;refine DW.t00 rfl rfl rfl (o_field_obj rfl fo43_1) ⟨rfl, trivial⟩ ?_;refine DW.t11 0 rfl rfl rfl rfl (o_load_obj rfl sz41 nfs rfl) ⟨rfl, trivial⟩ ?_;refine DW.t00 rfl rfl rfl (o_move rfl) ⟨rfl, trivial⟩ ?_;obtain ⟨x1, ex1, h⟩ := b_bind h;refine DW.t00 rfl rfl rfl (o_index (t := tDresser) rfl U41 sz82 ex1) ⟨rfl, rfl, trivial⟩ ?_;refine DW.t00 rfl rfl rfl (o_load_at (t := tDresser) rfl sz82 rfl) ⟨rfl, trivial⟩ ?_;refine DW.t00 rfl rfl rfl (o_move rfl) ⟨rfl, trivial⟩ ?_;refine DW.t00 rfl rfl rfl (o_nil_obj rfl) ⟨rfl, trivial⟩ ?_;refine DW.t00 rfl rfl rfl (o_field_obj rfl fo102_0) ⟨rfl, trivial⟩ ?_;refine DW.t00 rfl rfl rfl (o_field_obj rfl fo43_0) ⟨rfl, trivial⟩ ?_;refine DW.t11 0 rfl rfl rfl rfl (o_load_obj rfl sz40 nfs rfl) ⟨rfl, trivial⟩ ?_;refine DW.t00 rfl rfl rfl (o_move rfl) ⟨rfl, trivial⟩ ?_;obtain ⟨r2, er2, h⟩ := b_bind h;refine DW.t00 rfl rfl rfl (o_invoke rfl rfl mt105_thing mt106_thing (ctr_cond (fun hb => chg_off_thing_ok k a2.2 r2 (by simpa [hb] using er2)) (fun hb => chg_on_thing_ok k a2.2 r2 (by simpa [hb] using er2)))) ⟨rfl, trivial⟩ ?_;obtain ⟨x3, ex3, h⟩ := b_bind h;refine DW.t00 rfl rfl rfl (o_index (t := tThing) rfl U40 sz84 ex3) ⟨rfl, rfl, trivial⟩ ?_;refine DW.t00 rfl rfl rfl (o_load_at (t := tThing) rfl sz84 rfl) ⟨rfl, trivial⟩ ?_;refine DW.tNew (ptrD 82 (.agg (.pair (.eq (.slice none 0 0)) (.pair (I (0 : Int)) (I (0 : Int)))))) (fun _ => rfl) rfl rfl rfl (o_alloc rfl za82 al82) trivial ?_;refine DW.tNew (ptrD 84 (.agg (.pair (.eq (.slice none 0 0)) (.pair (I (0 : Int)) (.pair (I (0 : Int)) (.pair (I (0 : Int)) (I (0 : Int)))))))) (fun _ => rfl) rfl rfl rfl (o_alloc rfl za84 al84) trivial ?_;refine DW.fin 19 [true, true, true, true, true, true, true, true, false, false, false, false, false, true, true, false, false, true, true] [] [0] [.obj b_a0 102 (Qq a0 (.eq m_a0))] rfl (by kernel_rfl) (by kernel_rfl) (by kernel_rfl) mixed (fun vs hv hB => ?_);obtain ⟨w0, vs1, rfl, hv1⟩ := len_cons hv;obtain ⟨w1, vs2, rfl, hv2⟩ := len_cons hv1;obtain ⟨w2, vs3, rfl, hv3⟩ := len_cons hv2;obtain ⟨w3, vs4, rfl, hv4⟩ := len_cons hv3;obtain ⟨w4, vs5, rfl, hv5⟩ := len_cons hv4;obtain ⟨w5, vs6, rfl, hv6⟩ := len_cons hv5;obtain ⟨w6, vs7, rfl, hv7⟩ := len_cons hv6;obtain ⟨w7, vs8, rfl, hv8⟩ := len_cons hv7;obtain ⟨w8, vs9, rfl, hv9⟩ := len_cons hv8;obtain ⟨w9, vs10, rfl, hv10⟩ := len_cons hv9;obtain ⟨w10, vs11, rfl, hv11⟩ := len_cons hv10;obtain ⟨w11, vs12, rfl, hv12⟩ := len_cons hv11;obtain ⟨w12, vs13, rfl, hv13⟩ := len_cons hv12;obtain ⟨w13, vs14, rfl, hv14⟩ := len_cons hv13;obtain ⟨w14, vs15, rfl, hv15⟩ := len_cons hv14;obtain ⟨w15, vs16, rfl, hv16⟩ := len_cons hv15;obtain ⟨w16, vs17, rfl, hv17⟩ := len_cons hv16;obtain ⟨w17, vs18, rfl, hv18⟩ := len_cons hv17;obtain ⟨w18, vs19, rfl, hv19⟩ := len_cons hv18;obtain rfl := len_nil hv19;obtain ⟨b4, rfl⟩ := ptr_of hB.2.2.2.2.2.2.2.2.2.2.2.2.2.2.2.2.2.1;obtain ⟨b5, rfl⟩ := ptr_of hB.2.2.2.2.2.2.2.2.2.2.2.2.2.2.2.2.2.2.1;refine ⟨[0, 1, 2], [.obj b4 82 (.agg (.pair (.eq (.slice none 0 0)) (.pair (I (0 : Int)) (I (0 : Int))))), .obj b5 84 (.agg (.pair (.eq (.slice none 0 0)) (.pair (I (0 : Int)) (.pair (I (0 : Int)) (.pair (I (0 : Int)) (I (0 : Int)))))))], by kernel_rfl, by decide, ?_⟩;refine JT.n11 rfl rfl (o_store rfl sz82 rfl rfl rfl) ⟨rfl, rfl, trivial⟩ (by kernel_rfl) ?_
 refine JT.all (by kernel_rfl) ?_;refine fr 2 ?_;refine JO.n11 rfl rfl (o_store rfl sz84 rfl rfl rfl) ⟨rfl, rfl, trivial⟩ ?_;refine nt (JC.cutB (Z := Unit) (α := Bool) (fun z7 x6 => [(6, .eq (.bool x6))]) (fun z7 x6 => [.obj b_a0 102 (Qq a0 (.eq m_a0))]) h (fun K h => ?_) (fun z7 x6 h => ?_))
 ·refine JC.drawN ?_;refine da (o_field_obj rfl fo82_0) ?_;refine ea 2 (o_load_obj rfl sz22 nfs rfl) ?_;refine dm ?_;obtain ⟨r8, er8, h⟩ := b_bind h;refine DN.s00 rfl rfl rfl (o_invoke rfl rfl mt105_thing mt106_thing (ctr_cond (fun hb => chg_off_thing_ok k a2.2 r8 (by simpa [hb] using er8)) (fun hb => chg_on_thing_ok k a2.2 r8 (by simpa [hb] using er8)))) ⟨rfl, trivial⟩ ?_;obtain ⟨r9, er9, h⟩ := b_bind h;refine db (o_call [.tmp 27, .tmp 29] rfl rfl en59 rfl (slc_Contains_int_ok k x1.1 r8 r9 er9)) ?_;refine DN.fork rfl rfl rfl (o_move rfl) ⟨rfl, trivial⟩ (fun hb => ?_) (fun hb => ?_)
  ·replace h := b_if (v_t hb) h;refine DN.sg00 rfl rfl rfl rfl rfl (o_field_obj rfl fo84_3) ⟨rfl, rfl, trivial⟩ ?_;refine DN.sg11 0 rfl rfl rfl rfl rfl rfl (o_load_obj rfl sz3 nfs rfl) ⟨rfl, rfl, trivial⟩ ?_;refine DN.sg00 rfl rfl rfl rfl rfl (o_eql rfl) ⟨rfl, rfl, rfl, trivial⟩ ?_;refine DN.forkg rfl rfl rfl rfl rfl (o_move rfl) ⟨rfl, rfl, trivial⟩ (fun hb => ?_) (fun hb => ?_)
   ·replace h := b_if (d_t hb) h;iterate 3 refine dg ?_
    refine DN.sg00 rfl rfl rfl rfl rfl (o_pick_t rfl) ⟨rfl, rfl, rfl, trivial⟩ ?_;refine DN.sg00 rfl rfl rfl rfl rfl (o_move rfl) ⟨rfl, rfl, trivial⟩ ?_;iterate 4 refine dg ?_
    refine df mixed ?_;refine gn ?_;refine gb (o_pick_t rfl) ?_;refine pt ?_;refine aq (nl ?_);exact jz ((), true) h [1]
   ·replace h := b_ifn (d_f hb) h;refine DN.sg00 rfl rfl rfl rfl rfl (o_field_obj rfl fo82_1) ⟨rfl, rfl, trivial⟩ ?_;refine DN.sg11 2 rfl rfl rfl rfl rfl rfl (o_load_obj rfl sz3 nfs rfl) ⟨rfl, rfl, trivial⟩ ?_;refine DN.sg00 rfl rfl rfl rfl rfl (o_eql rfl) ⟨rfl, rfl, rfl, trivial⟩ ?_;refine DN.sg00 rfl rfl rfl rfl rfl (o_pick_f rfl) ⟨rfl, rfl, rfl, trivial⟩ ?_;refine DN.forkg rfl rfl rfl rfl rfl (o_move rfl) ⟨rfl, rfl, trivial⟩ (fun hb => ?_) (fun hb => ?_)
    ·replace h := b_if (d_t hb) h;iterate 4 refine dg ?_
     refine df mixed ?_;refine gn ?_;refine gb (o_pick_t rfl) ?_;refine pt ?_;refine aq (nl ?_);exact jz ((), true) h [1]
    ·replace h := b_ifn (d_f hb) h;refine DN.sg00 rfl rfl rfl rfl rfl (o_field_obj rfl fo82_1) ⟨rfl, rfl, trivial⟩ ?_;refine DN.sg11 2 rfl rfl rfl rfl rfl rfl (o_load_obj rfl sz3 nfs rfl) ⟨rfl, rfl, trivial⟩ ?_;refine DN.sg00 rfl rfl rfl rfl rfl (o_field_obj rfl fo84_3) ⟨rfl, rfl, trivial⟩ ?_;refine DN.sg11 0 rfl rfl rfl rfl rfl rfl (o_load_obj rfl sz3 nfs rfl) ⟨rfl, rfl, trivial⟩ ?_;refine df mixed ?_;refine gb (o_eql rfl) ?_;refine gb (o_pick_f rfl) ?_;refine pt ?_;refine aq (nl ?_);exact jz ((), decide (x1.2.1 = x3.2.2.2.1)) h [1]
  ·replace h := b_ifn (v_f hb) h;iterate 4 refine dg ?_
   refine du ?_;refine du ?_;refine du ?_;iterate 2 refine dg ?_
   refine du ?_;refine du ?_;refine du ?_;refine du ?_;refine df mixed ?_;refine gu ?_;refine gn ?_;refine pf ?_;refine aq (nl ?_);exact jz ((), false) h [1]
 ·refine JC.ret ?_;cases h;exact JN.ret () [_] 1 ⟨rfl, trivial⟩ rfl


def chg_quick_plans_1_1_l2 {σ : Type} (k : Nat) (a0 : Int) (a2 : (dChange × (List (Bool × Int)) × (List Int))) (self : Int → (List dBetween) → σ → Option (Bool × (List dBetween) × σ)) (y6 : (List dBetween) × Int × σ) (x10 : (Bool × Int)) : Nat → ((List dBetween) × Int × σ) → Option (Except (Bool × (List dBetween) × σ) ((List dBetween) × σ))
 | 0, _ => none
 | n + 1, y16 =>
  if y16.2.1 < (a2.1.2.1.length : Int) then (bE (α := (List dBetween) × σ) ((chg_quick_can k ((a2.1.1, a2.1.2.1, a2.1.2.2.1, a2.1.2.2.2), a2.2.1, a2.2.2) y16.2.1 x10).bind fun r20 =>
  if ¬ (r20 = true) then (some (.ok (y16.1, y16.2.2))) else ((chkP (okLen (List.length y16.1 + List.length [(y6.2.1, y16.2.1)]))).bind fun _ =>
  (chg_of k [y6.2.1]).bind fun r24 =>
  (self (ior .u8 a0 r24) (y16.1 ++ [(y6.2.1, y16.2.1)]) y16.2.2).bind fun r25 =>
  (ck ((r25.2.1.length : Int) - (1 : Int))).bind fun x27 =>
  (chkP (0 ≤ x27 ∧ x27 ≤ (r25.2.1.length : Int))).bind fun _ =>
  if ¬ (r25.1 = true) then (some (.error (false, List.take (Int.toNat x27) r25.2.1, r25.2.2))) else (some (.ok (List.take (Int.toNat x27) r25.2.1, r25.2.2))))) (fun e => some (.error e)) fun x18 =>
  (ck (y16.2.1 + (1 : Int))).bind fun x31 =>
  chg_quick_plans_1_1_l2 k a0 a2 self y6 x10 n (x18.1, x31, x18.2)) else (some (.ok (y16.1, y16.2.2)))

def chg_quick_plans_1_1_l1 {σ : Type} (k : Nat) (a0 : Int) (a2 : (dChange × (List (Bool × Int)) × (List Int))) (self : Int → (List dBetween) → σ → Option (Bool × (List dBetween) × σ)) : Nat → ((List dBetween) × Int × σ) → Option (Except (Bool × (List dBetween) × σ) ((List dBetween) × σ))
 | 0, _ => none
 | n + 1, y6 =>
  if y6.2.1 < (a2.2.1.length : Int) then (bE (α := (List dBetween) × σ) ((geti a2.2.1 y6.2.1).bind fun x10 =>
  (((chg_set_has k a0 y6.2.1).bind fun r13 =>
  if r13 = true then (some (true, y6.2.2)) else ((chkP (0 ≤ y6.2.1 ∧ y6.2.1 < 8)).bind fun _ =>
  (geti a2.2.2 y6.2.1).bind fun x15 =>
  some (!decide ((iandn .u8 x15 a0) = (0 : Int)), y6.2.2))) : Option (Bool × σ)).bind fun x11 =>
  if x11.1 = true then (some (.ok (y6.1, x11.2))) else (chg_quick_plans_1_1_l2 k a0 a2 self y6 x10 k (y6.1, (0 : Int), x11.2))) (fun e => some (.error e)) fun x8 =>
  (ck (y6.2.1 + (1 : Int))).bind fun x32 =>
  chg_quick_plans_1_1_l1 k a0 a2 self n (x8.1, x32, x8.2)) else (some (.ok (y6.1, y6.2.2)))
def chg_quick_plans_1_1 {σ : Type} (k : Nat) (Y : σ → (List dBetween) → Option (σ × Bool)) (a2 : (dChange × (List (Bool × Int)) × (List Int))) : Nat → Int → (List dBetween) → σ → Option (Bool × (List dBetween) × σ)
 | 0, _, _, _ => none
 | m0 + 1, a0, a1, s0 =>
  if (a1.length : Int) = (a2.2.1.length : Int) then ((slc_Clone_Step k a1).bind fun r1 =>
  (Y s0 r1).bind fun r2 =>
  some (r2.2, a1, r2.1)) else (bE (α := (List dBetween) × σ) (chg_quick_plans_1_1_l1 k a0 a2 (chg_quick_plans_1_1 k Y a2 m0) k (a1, (0 : Int), s0)) (some) fun x4 =>
  some (true, x4.1, x4.2))

theorem chg_quick_plans_1_1_ok {σ Z : Type} (E : Z → σ → List D) (l : Nat) (Y : σ → (List dBetween) → Option (σ × Bool)) (k : Nat) (c_a1 : Nat) (a2 : (dChange × (List (Bool × Int)) × (List Int))) (b_a2 : Nat) (m_a2 : Value) (c_a2 : Nat) (c_a3 : Nat) (c_a4 : Nat) (hY : ∀ z s p r, Y s p = some r → YT Try.prog l [Rs tBetween p] ([.obj b_a2 102 (Qq a2 (.eq m_a2))] ++ E z s) (fun z' : Z => (.eq (.bool r.2), [.obj b_a2 102 (Qq a2 (.eq m_a2))] ++ E z' r.1))) :
 ∀ (n : Nat) (a0 : Int) (a1 : (List dBetween)) (v_a1 : Value) (z0 : Z) (s0 : σ) (r : Bool × (List dBetween) × σ), chg_quick_plans_1_1 k Y a2 n a0 a1 s0 = some r → Ctr Try.prog 41 [.eq (.int .u8 a0), Pt c_a1, Pt c_a2, Pt c_a3, Pt c_a4] ([.sl v_a1 46 tBetween a1, .obj c_a1 37 (.eq v_a1), .obj c_a2 72 (Pt b_a2), .obj c_a3 107 (.eq (.func (.yield l) #[] #[])), .obj c_a4 108 (.eq (.func (.func 41) #[] #[(Pv c_a1), (Pv c_a2), (Pv c_a3), (Pv c_a4)])), .obj b_a2 102 (Qq a2 (.eq m_a2))] ++ E z0 s0) (fun z : Value × Z => (resA [.eq (.bool r.1)], [.sl z.1 46 tBetween r.2.1, .obj c_a1 37 (.eq z.1), .obj c_a2 72 (Pt b_a2), .obj c_a3 107 (.eq (.func (.yield l) #[] #[])), .obj c_a4 108 (.eq (.func (.func 41) #[] #[(Pv c_a1), (Pv c_a2), (Pv c_a3), (Pv c_a4)])), .obj b_a2 102 (Qq a2 (.eq m_a2))] ++ E z.2 r.2.2)) := by
 intro n
 induction n with
 | zero => intro a0 a1 v_a1 z0 s0 r h; cases h
 | succ m0 ih =>
  intro a0 a1 v_a1 z0 s0 r h;rw [chg_quick_plans_1_1] at h;replace h := b_top h;refine Ctr.of 83 Try.func41 rfl Try.ntmps41 rfl fun S w0 => ?_;refine sr (cq (nt (JC.seq (JC.seq ?_))));refine JC.drawN ?_;refine ea 1 (o_load_obj rfl sz37 nfs rfl) ?_;refine ea 0 (o_len_own rfl rfl U37) ?_;refine ea 2 (o_load_obj rfl sz72 nfs rfl) ?_;refine da (o_nil_obj rfl) ?_;refine da (o_field_obj rfl fo102_1) ?_;refine ea 5 (o_load_obj rfl sz98 nfs rfl) ?_;refine da (o_len rfl rfl U98) ?_;refine df mixed ?_;refine jb (o_eql rfl) ?_;refine nt (ci h (fun h => ?_) (fun h => ?_))
  ·refine JC.seq (JC.drawN ?_);refine ea 3 (o_load_obj rfl sz107 nfs rfl) ?_;refine ea 1 (o_load_obj rfl sz37 nfs rfl) ?_;obtain ⟨r1, er1, h⟩ := b_bind h;refine DN.s11 0 rfl rfl rfl rfl (OpT.frzB (OpT.borrow (N := [(.tmp 20, .eq v_a1)]) (o_call [.tmp 20] rfl rfl en42 rfl (slc_Clone_Step_ok k a1 r1 er1)) (fun _ _ _ hv hn => ⟨(lend hn.1 hv), trivial⟩) (fun _ => ⟨rfl, flat_all (by simp [D.flat, A.flat, Ty.flat])⟩))) ⟨rfl, trivial⟩ ?_;refine df mixed ?_;obtain ⟨r2, er2, h⟩ := b_bind h;refine fr 4 ?_;refine fr 4 ?_;refine fr 4 ?_;refine fr 4 ?_;refine fr 4 ?_;refine JO.stepT [.sl v_a1 46 tBetween a1, .obj c_a1 37 (.eq v_a1), .obj c_a2 72 (Pt b_a2), .obj c_a3 107 (.eq (.func (.yield l) #[] #[])), .obj c_a4 108 (.eq (.func (.func 41) #[] #[(Pv c_a1), (Pv c_a2), (Pv c_a3), (Pv c_a4)]))] rfl rfl rfl (o_yield [.tmp 21] rfl rfl rfl (hY z0 s0 r1 r2 er2)) ⟨rfl, rfl, trivial⟩ fun z3 => ?_;refine aq (nt (rx ?_));cases h;exact JN.retA (v_a1, z3) [_] ⟨rfl, trivial⟩ rfl
  ·refine sk (JC.cutE (Z := Value × Z) (α := (List dBetween) × σ) (fun z5 x4 => []) (fun z5 x4 => [.obj c_a1 37 (.eq z5.1), .sl z5.1 46 tBetween x4.1, .obj c_a2 72 (Pt b_a2), .obj b_a2 102 (Qq a2 (.eq m_a2)), .obj c_a3 107 (.eq (.func (.yield l) #[] #[])), .obj c_a4 108 (.eq (.func (.func 41) #[] #[(Pv c_a1), (Pv c_a2), (Pv c_a3), (Pv c_a4)]))] ++ E z5.2 x4.2) (fun e => e = r) h (fun e h => Option.some.inj h) (fun K hR h => ?_) (fun z5 x4 h => ?_))
   ·refine sr (fr 2 ?_);refine lo sz72 ?_;refine ja (o_nil_obj rfl) ?_;refine fl fo102_1 ?_;refine fr 5 ?_;refine lo sz98 ?_;refine ol U98 ?_;refine JO.mc rfl ?_;refine nt (JC.block (JC.loopB (Z := Value × Z) (α := (List dBetween) × Int × σ) (fun z7 y6 => [(0, .eq (.int .u8 a0)), (1, Pt c_a1), (2, Pt c_a2), (4, Pt c_a4), (26, .rep (.slice (.tag 105 106)) a2.2.1), (27, I (a2.2.1.length : Int)), (28, I y6.2.1)]) (fun z7 y6 => [.obj c_a1 37 (.eq z7.1), .sl z7.1 46 tBetween y6.1, .obj c_a2 72 (Pt b_a2), .obj b_a2 102 (Qq a2 (.eq m_a2)), .obj c_a4 108 (.eq (.func (.func 41) #[] #[(Pv c_a1), (Pv c_a2), (Pv c_a3), (Pv c_a4)])), .obj c_a3 107 (.eq (.func (.yield l) #[] #[]))] ++ E z7.2 y6.2.2) (chg_quick_plans_1_1_l1 k a0 a2 (chg_quick_plans_1_1 k Y a2 m0)) k (v_a1, z0) (a1, (0 : Int), s0) (fun _ => rfl) h (SE.finT [.obj b_a2 102 (Qq a2 (.eq m_a2)), .obj c_a2 72 (Pt b_a2), .sl v_a1 46 tBetween a1, .obj c_a1 37 (.eq v_a1), .obj c_a3 107 (.eq (.func (.yield l) #[] #[])), .obj c_a4 108 (.eq (.func (.func 41) #[] #[(Pv c_a1), (Pv c_a2), (Pv c_a3), (Pv c_a4)]))] (E z0 s0) [3, 2, 1, 0, 5, 4] ⟨rfl, rfl, rfl, rfl, rfl, rfl, rfl, trivial⟩ rfl) (fun n z7 y6 h => ?_)));unfold chg_quick_plans_1_1_l1 at h;refine sr (jb (o_lss rfl) ?_);refine nt (JC.seq (ci h (fun h => ?_) (fun h => ?_)))
    ·refine sk (JC.cutE (Z := Value × Z) (α := (List dBetween) × σ) (fun z9 x8 => [(0, .eq (.int .u8 a0)), (1, Pt c_a1), (2, Pt c_a2), (4, Pt c_a4), (26, .rep (.slice (.tag 105 106)) a2.2.1), (27, I (a2.2.1.length : Int)), (28, I y6.2.1)]) (fun z9 x8 => [.obj c_a1 37 (.eq z9.1), .sl z9.1 46 tBetween x8.1, .obj c_a2 72 (Pt b_a2), .obj b_a2 102 (Qq a2 (.eq m_a2)), .obj c_a4 108 (.eq (.func (.func 41) #[] #[(Pv c_a1), (Pv c_a2), (Pv c_a3), (Pv c_a4)])), .obj c_a3 107 (.eq (.func (.yield l) #[] #[]))] ++ E z9.2 x8.2) (fun e => e = r) h (fun e h => hR e h) (fun K hR h => ?_) (fun z9 x8 h => ?_))
     ·refine JC.block (sr (mq ?_));obtain ⟨x10, ex10, h⟩ := b_bind h;refine jb (o_index (t := (.tag 105 106)) rfl U98 sz111 ex10) ?_;refine ja (o_load_at (t := (.tag 105 106)) rfl sz111 rfl) ?_;refine aq ?_;refine aq (nt (JC.seq ?_));refine JC.cutB (Z := Z) (α := Bool × σ) (fun z12 x11 => [(0, .eq (.int .u8 a0)), (1, Pt c_a1), (2, Pt c_a2), (4, Pt c_a4), (7, I y6.2.1), (8, .rep (.tag 105 106) x10), (26, .rep (.slice (.tag 105 106)) a2.2.1), (27, I (a2.2.1.length : Int)), (28, I y6.2.1), (46, .eq (.bool x11.1))]) (fun z12 x11 => [.obj c_a1 37 (.eq z7.1), .sl z7.1 46 tBetween y6.1, .obj c_a2 72 (Pt b_a2), .obj b_a2 102 (Qq a2 (.eq m_a2)), .obj c_a4 108 (.eq (.func (.func 41) #[] #[(Pv c_a1), (Pv c_a2), (Pv c_a3), (Pv c_a4)])), .obj c_a3 107 (.eq (.func (.yield l) #[] #[]))] ++ E z12 x11.2) h (fun K h => ?_) (fun z12 x11 h => ?_)
      ·refine JC.region ?_;iterate 2 refine mq ?_
       obtain ⟨r13, er13, h⟩ := b_bind h;refine jb (o_call [.tmp 33, .tmp 34] rfl rfl en43 rfl (chg_set_has_ok k a0 y6.2.1 r13 er13)) ?_;refine mq ?_;refine JO.bool (s := 36) rfl (fun hb => ?_) (fun hb => ?_)
       ·replace h := b_if (v_t hb) h;iterate 9 refine gn ?_
        refine pt (nl ?_);exact JN.z (z7.2, (true, y6.2.2)) h (SE.finT [.obj c_a1 37 (.eq z7.1), .sl z7.1 46 tBetween y6.1, .obj c_a2 72 (Pt b_a2), .obj b_a2 102 (Qq a2 (.eq m_a2)), .obj c_a4 108 (.eq (.func (.func 41) #[] #[(Pv c_a1), (Pv c_a2), (Pv c_a3), (Pv c_a4)])), .obj c_a3 107 (.eq (.func (.yield l) #[] #[]))] (E z7.2 y6.2.2) [0, 1, 2, 3, 4, 5] ⟨rfl, rfl, rfl, rfl, rfl, rfl, rfl, rfl, rfl, rfl, trivial⟩ rfl)
       ·replace h := b_ifn (v_f hb) h;refine fr 2 ?_;refine JO.g11 rfl rfl rfl rfl rfl rfl (o_load_obj rfl sz72 nfs rfl) ⟨rfl, trivial⟩ ?_;refine gm ?_;refine ga (o_nil_obj rfl) ?_;refine ga (o_field_obj rfl fo102_2) ?_;obtain ⟨u14, eu14, h⟩ := b_bind h;refine gb (o_index_arr rfl U100 sz99 (chkP_some eu14).1 (chkP_some eu14).2) ?_;obtain ⟨x15, ex15, h⟩ := b_bind h;refine fr 3 ?_;refine JO.g11 rfl rfl rfl rfl rfl rfl (o_load_arr (t := (.int .u8)) (off := 5) (i := y6.2.1) (N := 8) rfl sz99 (fun _ => rfl) rfl rfl rfl rfl ex15) ⟨rfl, trivial⟩ ?_;refine gm ?_;refine gb (o_andn rfl) ?_;refine gb (o_neq rfl) ?_;refine pf (nl ?_);exact JN.z (z7.2, (!decide ((iandn .u8 x15 a0) = (0 : Int)), y6.2.2)) h (SE.finT [.obj b_a2 102 (Qq a2 (.eq m_a2)), .obj c_a2 72 (Pt b_a2), .obj c_a1 37 (.eq z7.1), .sl z7.1 46 tBetween y6.1, .obj c_a4 108 (.eq (.func (.func 41) #[] #[(Pv c_a1), (Pv c_a2), (Pv c_a3), (Pv c_a4)])), .obj c_a3 107 (.eq (.func (.yield l) #[] #[]))] (E z7.2 y6.2.2) [2, 3, 1, 0, 4, 5] ⟨rfl, rfl, rfl, rfl, rfl, rfl, rfl, rfl, rfl, rfl, trivial⟩ rfl)
      ·refine cv h (fun h => ?_) (fun h => ?_)
       ·refine JC.exit (JN.then_x (JN.blk_hit (JN.then_n ?_)));exact JN.z ((z7.1, z12), (y6.1, x11.2)) h (SE.finT [.obj c_a1 37 (.eq z7.1), .sl z7.1 46 tBetween y6.1, .obj c_a2 72 (Pt b_a2), .obj b_a2 102 (Qq a2 (.eq m_a2)), .obj c_a4 108 (.eq (.func (.func 41) #[] #[(Pv c_a1), (Pv c_a2), (Pv c_a3), (Pv c_a4)])), .obj c_a3 107 (.eq (.func (.yield l) #[] #[]))] (E z12 x11.2) [0, 1, 2, 3, 4, 5] ⟨rfl, rfl, rfl, rfl, rfl, rfl, rfl, trivial⟩ rfl)
       ·refine sk (sr (fr 2 ?_));refine lo sz72 ?_;refine ja (o_nil_obj rfl) ?_;refine fl fo102_0 ?_;refine fl fo43_1 ?_;refine fr 3 ?_;refine lo sz41 ?_;refine ol U41 ?_;refine JO.mc rfl ?_;refine nt (JC.block (JC.loopB (Z := Value × Z) (α := (List dBetween) × Int × σ) (fun z17 y16 => [(0, .eq (.int .u8 a0)), (1, Pt c_a1), (2, Pt c_a2), (4, Pt c_a4), (7, I y6.2.1), (8, .rep (.tag 105 106) x10), (26, .rep (.slice (.tag 105 106)) a2.2.1), (27, I (a2.2.1.length : Int)), (28, I y6.2.1), (52, I (a2.1.2.1.length : Int)), (53, I y16.2.1)]) (fun z17 y16 => [.obj c_a1 37 (.eq z17.1), .sl z17.1 46 tBetween y16.1, .obj c_a2 72 (Pt b_a2), .obj b_a2 102 (Qq a2 (.eq m_a2)), .obj c_a4 108 (.eq (.func (.func 41) #[] #[(Pv c_a1), (Pv c_a2), (Pv c_a3), (Pv c_a4)])), .obj c_a3 107 (.eq (.func (.yield l) #[] #[]))] ++ E z17.2 y16.2.2) (chg_quick_plans_1_1_l2 k a0 a2 (chg_quick_plans_1_1 k Y a2 m0) y6 x10) k (z7.1, z12) (y6.1, (0 : Int), x11.2) (fun _ => rfl) h (SE.finT [.obj b_a2 102 (Qq a2 (.eq m_a2)), .obj c_a2 72 (Pt b_a2), .obj c_a1 37 (.eq z7.1), .sl z7.1 46 tBetween y6.1, .obj c_a4 108 (.eq (.func (.func 41) #[] #[(Pv c_a1), (Pv c_a2), (Pv c_a3), (Pv c_a4)])), .obj c_a3 107 (.eq (.func (.yield l) #[] #[]))] (E z12 x11.2) [2, 3, 1, 0, 4, 5] ⟨rfl, rfl, rfl, rfl, rfl, rfl, rfl, rfl, rfl, rfl, rfl, trivial⟩ rfl) (fun n z17 y16 h => ?_)));unfold chg_quick_plans_1_1_l2 at h;refine sr (jb (o_lss rfl) ?_);refine nt (JC.seq (ci h (fun h => ?_) (fun h => ?_)))
        ·refine sk (JC.cutE (Z := Value × Z) (α := (List dBetween) × σ) (fun z19 x18 => [(0, .eq (.int .u8 a0)), (1, Pt c_a1), (2, Pt c_a2), (4, Pt c_a4), (7, I y6.2.1), (8, .rep (.tag 105 106) x10), (26, .rep (.slice (.tag 105 106)) a2.2.1), (27, I (a2.2.1.length : Int)), (28, I y6.2.1), (52, I (a2.1.2.1.length : Int)), (53, I y16.2.1)]) (fun z19 x18 => [.obj c_a1 37 (.eq z19.1), .sl z19.1 46 tBetween x18.1, .obj c_a2 72 (Pt b_a2), .obj b_a2 102 (Qq a2 (.eq m_a2)), .obj c_a4 108 (.eq (.func (.func 41) #[] #[(Pv c_a1), (Pv c_a2), (Pv c_a3), (Pv c_a4)])), .obj c_a3 107 (.eq (.func (.yield l) #[] #[]))] ++ E z19.2 x18.2) (fun e => e = r) h (fun e h => hR e h) (fun K hR h => ?_) (fun z19 x18 h => ?_))
         ·refine JC.block (sr (mq ?_));refine aq (nt (JC.seq (sr ?_)));refine fr 2 ?_;refine lo sz72 ?_;iterate 2 refine mq ?_
          obtain ⟨r20, er20, h⟩ := b_bind h;refine fr 3 ?_;refine kc (o_call [.tmp 56, .tmp 57, .tmp 58] rfl rfl en44 rfl (chg_quick_can_ok k ((a2.1.1, a2.1.2.1, a2.1.2.2.1, a2.1.2.2.2), a2.2.1, a2.2.2) b_a2 m_a2 y16.2.1 x10 r20 er20)) ?_;refine ja (o_not rfl) ?_;refine nt (cw h (fun h => ?_) (fun h => ?_))
          ·refine JC.exit (JN.then_x (JN.blk_hit (JN.then_n ?_)));exact JN.z ((z17.1, z17.2), (y16.1, y16.2.2)) h (SE.finT [.obj b_a2 102 (Qq a2 (.eq m_a2)), .obj c_a2 72 (Pt b_a2), .obj c_a1 37 (.eq z17.1), .sl z17.1 46 tBetween y16.1, .obj c_a4 108 (.eq (.func (.func 41) #[] #[(Pv c_a1), (Pv c_a2), (Pv c_a3), (Pv c_a4)])), .obj c_a3 107 (.eq (.func (.yield l) #[] #[]))] (E z17.2 y16.2.2) [2, 3, 1, 0, 4, 5] ⟨rfl, rfl, rfl, rfl, rfl, rfl, rfl, rfl, rfl, rfl, rfl, trivial⟩ rfl)
          ·refine sk (sr (fr 2 ?_));refine lo sz37 ?_;iterate 2 refine mq ?_
           refine jb (o_buildT [(0, .tmp 62, _), (1, .tmp 63, _)] rfl pl46 za46 alb46 (stors ⟨rfl, rfl, trivial⟩) rfl) ?_;refine ja (o_litB (t := tBetween) [(.tmp 64, _)] [(y6.2.1, y16.2.1)] rfl rfl sl37 (.cons trivial (.agg (.pair .int .int)) .nil) rfl rfl) ?_;obtain ⟨u21, eu21, h⟩ := b_bind h;refine fr 3 ?_;refine JO.s1x rfl rfl rfl (o_append rfl rfl sl37 (chkP_some eu21)) ⟨rfl, rfl, trivial⟩ fun v22 => ?_;refine JO.one fun o23 => ?_;refine fr 1 ?_;refine JO.n11 rfl rfl (o_store rfl sz37 o23 rfl rfl) ⟨rfl, rfl, trivial⟩ ?_;refine nt (JC.seq (JC.drawN ?_));refine ea 4 (o_load_obj rfl sz108 nfs rfl) ?_;refine dm ?_;refine dm ?_;refine da (o_litB (t := (.int .i64)) [(.tmp 69, _)] [y6.2.1] rfl rfl sl22 (.cons rfl .int .nil) rfl rfl) ?_;obtain ⟨r24, er24, h⟩ := b_bind h;refine da (o_call [.tmp 70] rfl rfl en37 rfl (chg_of_ok k [y6.2.1] r24 er24)) ?_;refine db (o_or rfl) ?_;refine df mixed ?_;obtain ⟨r25, er25, h⟩ := b_bind h;refine fr 2 ?_;refine fr 4 ?_;refine fr 5 ?_;refine fr 5 ?_;refine fr 4 ?_;refine fr 5 ?_;refine JO.stepA rfl rfl rfl (o_callv (fs := []) (cs := [(Pv c_a1), (Pv c_a2), (Pv c_a3), (Pv c_a4)]) (ags := [.eq (.int .u8 (ior .u8 a0 r24))]) [.tmp 72] rfl rfl en41 rfl (ih (ior .u8 a0 r24) (y16.1 ++ [(y6.2.1, y16.2.1)]) v22 z17.2 y16.2.2 r25 er25)) ⟨rfl, rfl, trivial⟩ fun z26 => ?_;refine aq (nt (sr ?_));refine fr 1 ?_;refine lo sz37 ?_;refine lo sz37 ?_;refine fr 1 ?_;refine ka (o_len_own rfl rfl U37) ?_;obtain ⟨x27, ex27, h⟩ := b_bind h;refine jb (o_sub rfl ex27) ?_;obtain ⟨u28, eu28, h⟩ := b_bind h;refine JO.s1x rfl rfl rfl (o_slice_own (t := tBetween) rfl U37 sz46 (chkP_some eu28).1 (chkP_some eu28).2) ⟨rfl, rfl, trivial⟩ fun v29 => ?_;refine JO.one fun o30 => ?_;refine fr 1 ?_;refine JO.n11 rfl rfl (o_store rfl sz37 o30 rfl rfl) ⟨rfl, rfl, trivial⟩ ?_;refine nt (sr (mq ?_));refine ja (o_not rfl) ?_;refine nt (cw h (fun h => ?_) (fun h => ?_))
           ·refine sr (cq (nt (JC.ret (br (JN.blk_r (br (JN.blk_r (JN.then_r ?_))))))));refine JN.se (SE.finT (Γ' := [(6, _)]) [.obj c_a1 37 (.eq v29), .sl v29 46 tBetween (List.take (Int.toNat x27) r25.2.1), .obj c_a2 72 (Pt b_a2), .obj c_a3 107 (.eq (.func (.yield l) #[] #[])), .obj c_a4 108 (.eq (.func (.func 41) #[] #[(Pv c_a1), (Pv c_a2), (Pv c_a3), (Pv c_a4)])), .obj b_a2 102 (Qq a2 (.eq m_a2))] (E z26.2 r25.2.2) [1, 0, 2, 3, 4, 5] ⟨rfl, trivial⟩ rfl) ?_;obtain rfl := hR _ h;exact JN.retA (v29, z26.2) [_] ⟨rfl, trivial⟩ rfl
           ·refine JC.skip (bn ?_);exact JN.z ((v29, z26.2), (List.take (Int.toNat x27) r25.2.1, r25.2.2)) h (SE.finT [.obj c_a1 37 (.eq v29), .sl v29 46 tBetween (List.take (Int.toNat x27) r25.2.1), .obj c_a2 72 (Pt b_a2), .obj c_a3 107 (.eq (.func (.yield l) #[] #[])), .obj c_a4 108 (.eq (.func (.func 41) #[] #[(Pv c_a1), (Pv c_a2), (Pv c_a3), (Pv c_a4)])), .obj b_a2 102 (Qq a2 (.eq m_a2))] (E z26.2 r25.2.2) [0, 1, 2, 5, 4, 3] ⟨rfl, rfl, rfl, rfl, rfl, rfl, rfl, rfl, rfl, rfl, rfl, trivial⟩ rfl)
         ·refine JC.region ?_;obtain ⟨x31, ex31, h⟩ := b_bind h;refine jb (o_add rfl ex31) ?_;refine mq (nl ?_);exact JN.z ((z19.1, z19.2), (x18.1, x31, x18.2)) h (SE.finT [.obj c_a1 37 (.eq z19.1), .sl z19.1 46 tBetween x18.1, .obj c_a2 72 (Pt b_a2), .obj b_a2 102 (Qq a2 (.eq m_a2)), .obj c_a4 108 (.eq (.func (.func 41) #[] #[(Pv c_a1), (Pv c_a2), (Pv c_a3), (Pv c_a4)])), .obj c_a3 107 (.eq (.func (.yield l) #[] #[]))] (E z19.2 x18.2) [0, 1, 2, 3, 4, 5] ⟨rfl, rfl, rfl, rfl, rfl, rfl, rfl, rfl, rfl, rfl, rfl, trivial⟩ rfl)
        ·refine JC.exit (JN.then_x (JN.then_x (JN.blk_hit (bn ?_))));exact JN.z ((z17.1, z17.2), (y16.1, y16.2.2)) h (SE.finT [.obj c_a1 37 (.eq z17.1), .sl z17.1 46 tBetween y16.1, .obj c_a2 72 (Pt b_a2), .obj b_a2 102 (Qq a2 (.eq m_a2)), .obj c_a4 108 (.eq (.func (.func 41) #[] #[(Pv c_a1), (Pv c_a2), (Pv c_a3), (Pv c_a4)])), .obj c_a3 107 (.eq (.func (.yield l) #[] #[]))] (E z17.2 y16.2.2) [0, 1, 2, 3, 4, 5] ⟨rfl, rfl, rfl, rfl, rfl, rfl, rfl, trivial⟩ rfl)
     ·refine JC.region ?_;obtain ⟨x32, ex32, h⟩ := b_bind h;refine jb (o_add rfl ex32) ?_;refine mq (nl ?_);exact JN.z ((z9.1, z9.2), (x8.1, x32, x8.2)) h (SE.finT [.obj c_a1 37 (.eq z9.1), .sl z9.1 46 tBetween x8.1, .obj c_a2 72 (Pt b_a2), .obj b_a2 102 (Qq a2 (.eq m_a2)), .obj c_a4 108 (.eq (.func (.func 41) #[] #[(Pv c_a1), (Pv c_a2), (Pv c_a3), (Pv c_a4)])), .obj c_a3 107 (.eq (.func (.yield l) #[] #[]))] (E z9.2 x8.2) [0, 1, 2, 3, 4, 5] ⟨rfl, rfl, rfl, rfl, rfl, rfl, rfl, trivial⟩ rfl)
    ·refine xa ?_;exact JN.z ((z7.1, z7.2), (y6.1, y6.2.2)) h (SE.finT [.obj c_a1 37 (.eq z7.1), .sl z7.1 46 tBetween y6.1, .obj c_a2 72 (Pt b_a2), .obj b_a2 102 (Qq a2 (.eq m_a2)), .obj c_a4 108 (.eq (.func (.func 41) #[] #[(Pv c_a1), (Pv c_a2), (Pv c_a3), (Pv c_a4)])), .obj c_a3 107 (.eq (.func (.yield l) #[] #[]))] (E z7.2 y6.2.2) [0, 1, 2, 3, 5, 4] trivial rfl)
   ·refine sr (cq (nt (JC.ret ?_)));refine JN.se (SE.finT (Γ' := [(6, _)]) [.obj c_a1 37 (.eq z5.1), .sl z5.1 46 tBetween x4.1, .obj c_a2 72 (Pt b_a2), .obj b_a2 102 (Qq a2 (.eq m_a2)), .obj c_a3 107 (.eq (.func (.yield l) #[] #[])), .obj c_a4 108 (.eq (.func (.func 41) #[] #[(Pv c_a1), (Pv c_a2), (Pv c_a3), (Pv c_a4)]))] (E z5.2 x4.2) [1, 0, 2, 4, 5, 3] ⟨rfl, trivial⟩ rfl) ?_;cases h;exact JN.retA (z5.1, z5.2) [_] ⟨rfl, trivial⟩ rfl


end Go.Proofs.Ytomnkjcklkcnhaa
