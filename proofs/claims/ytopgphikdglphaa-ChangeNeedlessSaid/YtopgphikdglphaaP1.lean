/- The program's functions, part 1: what each computes, and that the code computes it. Printed by a program of this proof's own. -/
import Derived.Test.YtopgphikdglphaaFacts
import Derived.Test.YtopgphikdglphaaB5
set_option linter.unusedVariables false
set_option maxRecDepth 4000
namespace Go.Proofs.Ytopgphikdglphaa
open K Go Go.Proofs
def kit_Lots_next (k : Nat) (a0 : dLots) : Option (Int × dLots) :=
 ((if a0.2.1 < (a0.1.length : Int) then ((geti a0.1 a0.2.1).bind fun x3 =>
 some (IntKind.u64.wrap ((IntKind.u64.wrap ((IntKind.u64.wrap (a0.2.2 * (6364136223846793005 : Int))) + (1442695040888963407 : Int))) + (IntKind.u64.wrap ((IntKind.u64.wrap x3) * (2862933555777941757 : Int)))))) else (some (IntKind.u64.wrap ((IntKind.u64.wrap (a0.2.2 * (6364136223846793005 : Int))) + (1442695040888963407 : Int))))) : Option (Int)).bind fun x1 =>
 (ck (a0.2.1 + (1 : Int))).bind fun x4 =>
 some (ishr .u64 (ixor .u64 (IntKind.u64.wrap ((ixor .u64 x1 (ishr .u64 x1 (29 : Int))) * (2685821657736338717 : Int))) (ishr .u64 (IntKind.u64.wrap ((ixor .u64 x1 (ishr .u64 x1 (29 : Int))) * (2685821657736338717 : Int))) (32 : Int))) (8 : Int), (a0.1, x4, x1))

theorem kit_Lots_next_ok (k : Nat) (a0 : dLots) (b_a0 : Nat) (r : Int × dLots) (h : kit_Lots_next k a0 = some r) :
 Ctr Try.prog 60 [Pt b_a0] [.obj b_a0 82 (.agg (.pair (Ri a0.1) (.pair (I a0.2.1) (.eq (.int .u64 a0.2.2)))))] (fun _ : Unit => (resA [.eq (.int .u64 r.1)], [.obj b_a0 82 (.agg (.pair (Ri r.2.1) (.pair (I r.2.2.1) (.eq (.int .u64 r.2.2.2)))))])) := by
 unfold kit_Lots_next at h
 replace h := b_top h
 refine Ctr.of 67 Try.func60 rfl Try.ntmps60 rfl fun S w0 => ?_
 refine sr ?_
 refine cq ?_
 refine nt ?_
 refine sr ?_
 iterate 2 refine mq ?_
 refine ja (o_nil_obj rfl) ?_
 refine fl fo82_2 ?_
 refine lo sz80 ?_
 refine jb (o_mulk rfl) ?_
 refine jb (o_addk rfl) ?_
 refine ja (o_nil_obj rfl) ?_
 refine fl fo82_2 ?_
 refine JO.n11 rfl rfl (o_store rfl sz80 rfl rfl rfl) ⟨rfl, rfl, trivial⟩ ?_
 refine nt ?_
 refine JC.cutB (Z := Unit) (α := Int) (fun z2 x1 => [(0, Pt b_a0)]) (fun z2 x1 => [.obj b_a0 82 (.agg (.pair (Ri a0.1) (.pair (I a0.2.1) (.eq (.int .u64 x1)))))]) h (fun K h => ?_) (fun z2 x1 h => ?_)
 ·
  refine JC.seq (JC.drawN ?_);refine dm ?_;refine da (o_nil_obj rfl) ?_;refine da (o_field_obj rfl fo82_1) ?_;refine ea 0 (o_load_obj rfl sz3 nfs rfl) ?_;refine dm ?_;refine da (o_nil_obj rfl) ?_;refine da (o_field_obj rfl fo82_0) ?_;refine ea 0 (o_load_obj rfl sz22 nfs rfl) ?_;refine da (o_len rfl rfl U22) ?_;refine df mixed ?_;refine jb (o_lss rfl) ?_;refine nt (ci h (fun h => ?_) (fun h => ?_))
  ·refine JC.drawN ?_;refine dm ?_;refine dm ?_;refine da (o_nil_obj rfl) ?_;refine da (o_field_obj rfl fo82_2) ?_;refine ea 0 (o_load_obj rfl sz80 nfs rfl) ?_;refine dm ?_;refine da (o_nil_obj rfl) ?_;refine da (o_field_obj rfl fo82_0) ?_;refine ea 0 (o_load_obj rfl sz22 nfs rfl) ?_;refine dm ?_;refine da (o_nil_obj rfl) ?_;refine da (o_field_obj rfl fo82_1) ?_;refine ea 0 (o_load_obj rfl sz3 nfs rfl) ?_;obtain ⟨x3, ex3, h⟩ := b_bind h;refine db (o_index (t := (.int .i64)) rfl U22 sz3 ex3) ?_;refine da (o_load_at (t := (.int .i64)) rfl sz3 rfl) ?_;refine da (o_conv rfl U3 U80) ?_;refine db (o_mulk rfl) ?_;refine db (o_addk rfl) ?_;refine df mixed ?_;refine ja (o_nil_obj rfl) ?_;refine fl fo82_2 ?_;refine JO.n11 rfl rfl (o_store rfl sz80 rfl rfl rfl) ⟨rfl, rfl, trivial⟩ ?_;refine nl ?_;exact jz ((), IntKind.u64.wrap ((IntKind.u64.wrap ((IntKind.u64.wrap (a0.2.2 * (6364136223846793005 : Int))) + (1442695040888963407 : Int))) + (IntKind.u64.wrap ((IntKind.u64.wrap x3) * (2862933555777941757 : Int))))) h [0]
  ·refine JC.skip (JN.then_n ?_);exact jz ((), IntKind.u64.wrap ((IntKind.u64.wrap (a0.2.2 * (6364136223846793005 : Int))) + (1442695040888963407 : Int))) h [0]
 ·
  refine sr (mq ?_);refine ja (o_nil_obj rfl) ?_;refine fl fo82_1 ?_;refine lo sz3 ?_;obtain ⟨x4, ex4, h⟩ := b_bind h;refine jb (o_add rfl ex4) ?_;refine ja (o_nil_obj rfl) ?_;refine fl fo82_1 ?_;refine JO.n11 rfl rfl (o_store rfl sz3 rfl rfl rfl) ⟨rfl, rfl, trivial⟩ ?_;refine nt (JC.seq (JC.drawN ?_));refine dm ?_;refine da (o_nil_obj rfl) ?_;refine da (o_field_obj rfl fo82_2) ?_;refine ea 0 (o_load_obj rfl sz80 nfs rfl) ?_;refine dm ?_;refine da (o_nil_obj rfl) ?_;refine da (o_field_obj rfl fo82_2) ?_;refine ea 0 (o_load_obj rfl sz80 nfs rfl) ?_;refine DN.s00 rfl rfl rfl (o_shr rfl (by decide)) ⟨rfl, rfl, trivial⟩ ?_;refine df mixed ?_;refine jb (o_xor rfl) ?_;refine aq (nt (sr ?_));refine mq ?_;refine jb (o_mulk rfl) ?_;refine aq (nt (sr ?_));iterate 2 refine mq ?_
  refine JO.s rfl (o_shr rfl (by decide)) ⟨rfl, rfl, trivial⟩ ?_;refine jb (o_xor rfl) ?_;refine JO.s rfl (o_shr rfl (by decide)) ⟨rfl, rfl, trivial⟩ ?_;refine aq (nt (JC.ret ?_));cases h;exact JN.ret () [_] 1 ⟨rfl, trivial⟩ rfl


def kit_Lots_Upto (k : Nat) (a0 : dLots) (a1 : Int) : Option (Int × dLots) :=
 if a1 < (1 : Int) then (some ((0 : Int), (a0.1, a0.2.1, a0.2.2))) else ((kit_Lots_next k (a0.1, a0.2.1, a0.2.2)).bind fun r1 =>
 (ck (a1 + (1 : Int))).bind fun x2 =>
 (chkP ((IntKind.u64.wrap x2) ≠ 0)).bind fun _ =>
 (ck (Int.tmod r1.1 (IntKind.u64.wrap x2))).bind fun x4 =>
 some (x4, (r1.2.1, r1.2.2.1, r1.2.2.2)))

theorem kit_Lots_Upto_ok (k : Nat) (a0 : dLots) (b_a0 : Nat) (a1 : Int) (r : Int × dLots) (h : kit_Lots_Upto k a0 a1 = some r) :
 Ctr Try.prog 32 [Pt b_a0, I a1] [.obj b_a0 82 (.agg (.pair (Ri a0.1) (.pair (I a0.2.1) (.eq (.int .u64 a0.2.2)))))] (fun _ : Unit => (resA [I r.1], [.obj b_a0 82 (.agg (.pair (Ri r.2.1) (.pair (I r.2.2.1) (.eq (.int .u64 r.2.2.2)))))])) := by
 unfold kit_Lots_Upto at h
 replace h := b_top h
 refine Ctr.of 14 Try.func32 rfl Try.ntmps32 rfl fun S w0 => ?_
 refine sr ?_
 refine cq ?_
 refine nt ?_
 refine JC.seq ?_
 refine sr ?_
 refine mq ?_
 refine jb (o_lss rfl) ?_
 refine nt ?_
 refine ci h (fun h => ?_) (fun h => ?_)
 ·
  refine sr (cq (nt (rx ?_)));cases h;exact JN.ret () [_] 1 ⟨rfl, trivial⟩ rfl
 ·
  refine sk (sr (mq ?_));obtain ⟨r1, er1, h⟩ := b_bind h;refine ka (o_call [.tmp 7] rfl rfl en60 rfl (kit_Lots_next_ok k (a0.1, a0.2.1, a0.2.2) b_a0 r1 er1)) ?_;refine mq ?_;obtain ⟨x2, ex2, h⟩ := b_bind h;refine jb (o_add rfl ex2) ?_;refine ja (o_conv rfl U3 U80) ?_;obtain ⟨u3, eu3, h⟩ := b_bind h;refine jb (o_rem rfl (chkP_some eu3)) ?_;obtain ⟨x4, ex4, h⟩ := b_bind h;refine ja (o_conv64 rfl U80 U3 ex4) ?_;refine aq (nt (JC.ret ?_));cases h;exact JN.ret () [_] 1 ⟨rfl, trivial⟩ rfl


def kit_Lots_In (k : Nat) (a0 : dLots) (a1 : Int) (a2 : Int) : Option (Int × dLots) :=
 (ck (a2 - a1)).bind fun x1 =>
 (kit_Lots_Upto k (a0.1, a0.2.1, a0.2.2) x1).bind fun r2 =>
 (ck (a1 + r2.1)).bind fun x3 =>
 some (x3, (r2.2.1, r2.2.2.1, r2.2.2.2))

theorem kit_Lots_In_ok (k : Nat) (a0 : dLots) (b_a0 : Nat) (a1 : Int) (a2 : Int) (r : Int × dLots) (h : kit_Lots_In k a0 a1 a2 = some r) :
 Ctr Try.prog 29 [Pt b_a0, I a1, I a2] [.obj b_a0 82 (.agg (.pair (Ri a0.1) (.pair (I a0.2.1) (.eq (.int .u64 a0.2.2)))))] (fun _ : Unit => (resA [I r.1], [.obj b_a0 82 (.agg (.pair (Ri r.2.1) (.pair (I r.2.2.1) (.eq (.int .u64 r.2.2.2)))))])) := by
 unfold kit_Lots_In at h
 replace h := b_top h
 refine Ctr.of 14 Try.func29 rfl Try.ntmps29 rfl fun S w0 => ?_
 refine sr ?_
 refine cq ?_
 refine nt ?_
 refine sr ?_
 iterate 4 refine mq ?_
 obtain ⟨x1, ex1, h⟩ := b_bind h
 refine jb (o_sub rfl ex1) ?_
 obtain ⟨r2, er2, h⟩ := b_bind h
 have cr2 := kit_Lots_Upto_ok k (a0.1, a0.2.1, a0.2.2) b_a0 x1 r2 er2
 refine kb (o_call [.tmp 8, .tmp 11] rfl rfl en32 rfl cr2) ?_
 obtain ⟨x3, ex3, h⟩ := b_bind h
 refine jb (o_add rfl ex3) ?_
 refine aq ?_
 refine nt ?_
 refine JC.ret ?_
 cases h
 exact JN.ret () [_] 1 ⟨rfl, trivial⟩ rfl


def kit_Lots_Rare (k : Nat) (a0 : dLots) (a1 : Int) : Option (Bool × dLots) :=
 (ck (a1 - (1 : Int))).bind fun x1 =>
 (kit_Lots_Upto k (a0.1, a0.2.1, a0.2.2) x1).bind fun r2 =>
 some (decide (r2.1 = (0 : Int)), (r2.2.1, r2.2.2.1, r2.2.2.2))

theorem kit_Lots_Rare_ok (k : Nat) (a0 : dLots) (b_a0 : Nat) (a1 : Int) (r : Bool × dLots) (h : kit_Lots_Rare k a0 a1 = some r) :
 Ctr Try.prog 30 [Pt b_a0, I a1] [.obj b_a0 82 (.agg (.pair (Ri a0.1) (.pair (I a0.2.1) (.eq (.int .u64 a0.2.2)))))] (fun _ : Unit => (resA [.eq (.bool r.1)], [.obj b_a0 82 (.agg (.pair (Ri r.2.1) (.pair (I r.2.2.1) (.eq (.int .u64 r.2.2.2)))))])) := by
 unfold kit_Lots_Rare at h
 replace h := b_top h
 refine Ctr.of 10 Try.func30 rfl Try.ntmps30 rfl fun S w0 => ?_
 refine sr ?_
 refine cq ?_
 refine nt ?_
 refine sr ?_
 iterate 2 refine mq ?_
 obtain ⟨x1, ex1, h⟩ := b_bind h
 refine jb (o_sub rfl ex1) ?_
 obtain ⟨r2, er2, h⟩ := b_bind h
 have cr2 := kit_Lots_Upto_ok k (a0.1, a0.2.1, a0.2.2) b_a0 x1 r2 er2
 refine kb (o_call [.tmp 5, .tmp 7] rfl rfl en32 rfl cr2) ?_
 refine jb (o_eql rfl) ?_
 refine aq ?_
 refine nt ?_
 refine JC.ret ?_
 cases h
 exact JN.ret () [_] 1 ⟨rfl, trivial⟩ rfl


def kit_Lots_Of (k : Nat) (a0 : dLots) (a1 : (List Int)) : Option (Int × dLots) :=
 (ck ((a1.length : Int) - (1 : Int))).bind fun x1 =>
 (kit_Lots_Upto k (a0.1, a0.2.1, a0.2.2) x1).bind fun r2 =>
 (geti a1 r2.1).bind fun x3 =>
 some (x3, (r2.2.1, r2.2.2.1, r2.2.2.2))

theorem kit_Lots_Of_ok (k : Nat) (a0 : dLots) (b_a0 : Nat) (a1 : (List Int)) (r : Int × dLots) (h : kit_Lots_Of k a0 a1 = some r) :
 Ctr Try.prog 31 [Pt b_a0, Ri a1] [.obj b_a0 82 (.agg (.pair (Ri a0.1) (.pair (I a0.2.1) (.eq (.int .u64 a0.2.2)))))] (fun _ : Unit => (resA [I r.1], [.obj b_a0 82 (.agg (.pair (Ri r.2.1) (.pair (I r.2.2.1) (.eq (.int .u64 r.2.2.2)))))])) := by
 unfold kit_Lots_Of at h
 replace h := b_top h
 refine Ctr.of 13 Try.func31 rfl Try.ntmps31 rfl fun S w0 => ?_
 refine sr ?_
 refine cq ?_
 refine nt ?_
 refine sr ?_
 iterate 3 refine mq ?_
 refine ol U22 ?_
 obtain ⟨x1, ex1, h⟩ := b_bind h
 refine jb (o_sub rfl ex1) ?_
 obtain ⟨r2, er2, h⟩ := b_bind h
 have cr2 := kit_Lots_Upto_ok k (a0.1, a0.2.1, a0.2.2) b_a0 x1 r2 er2
 refine kb (o_call [.tmp 6, .tmp 9] rfl rfl en32 rfl cr2) ?_
 obtain ⟨x3, ex3, h⟩ := b_bind h
 refine jb (o_index (t := (.int .i64)) rfl U22 sz3 ex3) ?_
 refine ja (o_load_at (t := (.int .i64)) rfl sz3 rfl) ?_
 refine aq ?_
 refine nt ?_
 refine JC.ret ?_
 cases h
 exact JN.ret () [_] 1 ⟨rfl, trivial⟩ rfl


def kit_At_l1 (k : Nat) (a0 : (List Int)) (a1 : Int) : Nat → Int → Option (Except Int Unit)
 | 0, _ => none
 | n + 1, y3 =>
  if y3 < (a0.length : Int) then ((geti a0 y3).bind fun x5 =>
  if x5 = a1 then (some (.error y3)) else ((ck (y3 + (1 : Int))).bind fun x6 =>
  kit_At_l1 k a0 a1 n x6)) else (some (.ok ()))
def kit_At (k : Nat) (a0 : (List Int)) (a1 : Int) : Option Int :=
 bE (α := Unit) (kit_At_l1 k a0 a1 k (0 : Int)) (some) fun _ =>
 some (-1 : Int)

theorem kit_At_ok (k : Nat) (a0 : (List Int)) (a1 : Int) (r : Int) (h : kit_At k a0 a1 = some r) :
 Ctr Try.prog 61 [Ri a0, I a1] [] (fun _ : Unit => (resA [I r], [])) := by
 unfold kit_At at h
 replace h := b_top h
 refine Ctr.of 19 Try.func61 rfl Try.ntmps61 rfl fun S w0 => ?_
 refine sr ?_
 refine cq ?_
 refine nt ?_
 refine JC.cutE (Z := Unit) (α := Unit) (fun z2 x1 => []) (fun z2 x1 => []) (fun e => e = r) h (fun e h => Option.some.inj h) (fun K hR h => ?_) (fun z2 x1 h => ?_)
 ·
  refine sr (cq (nt (JC.block ?_)));refine JC.loopB (Z := Unit) (α := Int) (fun z4 y3 => [(0, Ri a0), (1, I a1), (5, I y3)]) (fun z4 y3 => []) (kit_At_l1 k a0 a1) k () (0 : Int) (fun _ => rfl) h (SE.fin [] ⟨rfl, rfl, rfl, trivial⟩ rfl) (fun n z4 y3 h => ?_);unfold kit_At_l1 at h;refine JC.seq (sr ?_);iterate 2 refine mq ?_
  refine ol U22 ?_;refine jb (o_lss rfl) ?_;refine nt (ci h (fun h => ?_) (fun h => ?_))
  ·refine sk (JC.seq (JC.block (sr ?_)));iterate 2 refine mq ?_
   obtain ⟨x5, ex5, h⟩ := b_bind h;refine jb (o_index (t := (.int .i64)) rfl U22 sz3 ex5) ?_;refine ja (o_load_at (t := (.int .i64)) rfl sz3 rfl) ?_;refine mq ?_;refine jb (o_eql rfl) ?_;refine nt (ci h (fun h => ?_) (fun h => ?_))
   ·refine sr (mq ?_);refine aq (nt (JC.ret (br (JN.blk_r (JN.then_r ?_)))));obtain rfl := hR _ h;exact ra
   ·refine JC.skip (JN.blk_n (tn (JC.region (mq ?_))));obtain ⟨x6, ex6, h⟩ := b_bind h;refine jb (o_add rfl ex6) ?_;refine aq (nl ?_);exact jz ((), x6) h []
  ·refine xa ?_;exact jz ((), ()) h []
 ·
  refine sr (cq (nt (JC.ret ?_)));cases h;exact ra


def kit_TasksOf_l3 (k : Nat) (a0 : dChange) (y10 : (List Bool) × Bool × Int) : Nat → (Bool × Int) → Option Bool
 | 0, _ => none
 | n + 1, y18 =>
  ((if y18.2 < (a0.1.length : Int) then ((kit_At k a0.2.2.1 y10.2.2).bind fun r22 =>
  if (0 : Int) ≤ r22 then ((kit_At k a0.2.2.2 y10.2.2).bind fun r23 =>
  some (decide ((0 : Int) ≤ r23))) else (some false)) else (some false)) : Option (Bool)).bind fun x20 =>
  if x20 = true then (((if y18.1 = true then (some true) else ((geti y10.1 y18.2).bind fun x26 =>
  if x26 = true then ((geti a0.1 y18.2).bind fun x27 =>
  (kit_At k x27.1 y10.2.2).bind fun r28 =>
  some (decide ((0 : Int) ≤ r28))) else (some false))) : Option (Bool)).bind fun x24 =>
  (ck (y18.2 + (1 : Int))).bind fun x29 =>
  kit_TasksOf_l3 k a0 y10 n (x24, x29)) else (some y18.1)

def kit_TasksOf_l2 (k : Nat) (a0 : dChange) : Nat → ((List Bool) × Bool × Int) → Option ((List Bool) × Bool)
 | 0, _ => none
 | n + 1, y10 =>
  if y10.2.2 < (a0.1.length : Int) then ((((kit_At k a0.2.2.1 y10.2.2).bind fun r14 =>
  (kit_At k a0.2.2.2 y10.2.2).bind fun r15 =>
  ((kit_TasksOf_l3 k a0 y10 k (!decide ((decide ((0 : Int) ≤ r14)) = (decide ((0 : Int) ≤ r15))), (0 : Int))) : Option (Bool)).bind fun x16 =>
  ((if x16 = true then ((geti y10.1 y10.2.2).bind fun x32 =>
  some (!x32)) else (some false)) : Option (Bool)).bind fun x30 =>
  if x30 = true then ((geti y10.1 y10.2.2).bind fun x33 =>
  some (List.set y10.1 (Int.toNat y10.2.2) true, true)) else (some (y10.1, y10.2.1))) : Option ((List Bool) × Bool)).bind fun x12 =>
  (ck (y10.2.2 + (1 : Int))).bind fun x34 =>
  kit_TasksOf_l2 k a0 n (x12.1, x12.2, x34)) else (some (y10.1, y10.2.1))

def kit_TasksOf_l1 (k : Nat) (a0 : dChange) : Nat → ((List Bool) × Bool) → Option (List Bool)
 | 0, _ => none
 | n + 1, y6 =>
  if y6.2 = true then (((kit_TasksOf_l2 k a0 k (y6.1, false, (0 : Int))) : Option ((List Bool) × Bool)).bind fun x8 =>
  kit_TasksOf_l1 k a0 n (x8.1, x8.2)) else (some y6.1)

def kit_TasksOf_l5 (k : Nat) (a0 : dChange) (x4 : (List Bool)) (y37 : (List dTask) × Int) : Nat → ((List dTask) × Int) → Option (List dTask)
 | 0, _ => none
 | n + 1, y41 =>
  if y41.2 < (x4.length : Int) then ((((((geti x4 y41.2).bind fun x47 =>
  if x47 = true then (if y37.2 = (0 : Int) then ((kit_At k a0.2.2.1 y41.2).bind fun r48 =>
  if (0 : Int) ≤ r48 then (some true) else (if y37.2 = (1 : Int) then ((kit_At k a0.2.2.2 y41.2).bind fun r49 =>
  some (decide ((0 : Int) ≤ r49))) else (some false))) else (if y37.2 = (1 : Int) then ((kit_At k a0.2.2.2 y41.2).bind fun r50 =>
  some (decide ((0 : Int) ≤ r50))) else (some false))) else (some false)) : Option (Bool)).bind fun x45 =>
  if x45 = true then ((chkP (okLen (List.length y41.1 + List.length [(y41.2, decide (y37.2 = (1 : Int)))]))).bind fun _ =>
  some (y41.1 ++ [(y41.2, decide (y37.2 = (1 : Int)))])) else (some y41.1)) : Option ((List dTask))).bind fun x43 =>
  (ck (y41.2 + (1 : Int))).bind fun x53 =>
  kit_TasksOf_l5 k a0 x4 y37 n (x43, x53)) else (some y41.1)

def kit_TasksOf_l4 (k : Nat) (a0 : dChange) (x4 : (List Bool)) : Nat → ((List dTask) × Int) → Option (List dTask)
 | 0, _ => none
 | n + 1, y37 =>
  if y37.2 < (2 : Int) then (((kit_TasksOf_l5 k a0 x4 y37 k (y37.1, (0 : Int))) : Option ((List dTask))).bind fun x39 =>
  (ck (y37.2 + (1 : Int))).bind fun x54 =>
  kit_TasksOf_l4 k a0 x4 n (x39, x54)) else (some y37.1)
def kit_TasksOf (k : Nat) (a0 : dChange) : Option (List dTask) :=
 (chkP (0 ≤ (a0.1.length : Int) ∧ okLen (Int.toNat (a0.1.length : Int)))).bind fun _ =>
 ((kit_TasksOf_l1 k a0 k (List.replicate (Int.toNat (a0.1.length : Int)) false, true)) : Option ((List Bool))).bind fun x4 =>
 ((kit_TasksOf_l4 k a0 x4 k (([] : (List dTask)), (0 : Int))) : Option ((List dTask))).bind fun x35 =>
 some x35

theorem kit_TasksOf_ok (k : Nat) (a0 : dChange) (r : (List dTask)) (h : kit_TasksOf k a0 = some r) :
 Ctr Try.prog 33 [.rep tChange a0] [] (fun _ : Unit => (resA [Rs tTask r], [])) := by
 unfold kit_TasksOf at h
 replace h := b_top h
 refine Ctr.of 128 Try.func33 rfl Try.ntmps33 rfl fun S w0 => ?_
 refine sr ?_
 refine bx fun b1 => ?_
 refine cq ?_
 refine nt ?_
 refine sr ?_
 refine cq ?_
 refine nt ?_
 refine sr ?_
 refine fl fo26_0 ?_
 refine lo sz23 ?_
 refine ol U23 ?_
 obtain ⟨u2, eu2, h⟩ := b_bind h
 refine JO.s01 rfl rfl rfl (o_make (t := .bool) (d := false) rfl sl130 zr4 (chkP_some eu2).1 (chkP_some eu2).2) ⟨rfl, rfl, trivial⟩ fun v3 => ?_
 refine aq ?_
 refine nt ?_
 refine JC.cutB (Z := Unit) (α := (List Bool)) (fun z5 x4 => [(1, Pt b1), (3, .eq (.slice none 0 0)), (4, .eq v3)]) (fun z5 x4 => [.obj b1 26 (.rep tChange a0), .sl v3 4 .bool x4]) h (fun K h => ?_) (fun z5 x4 h => ?_)
 ·
  refine sr (cq (nt (JC.block ?_)));refine JC.loopB (Z := Unit) (α := (List Bool) × Bool) (fun z7 y6 => [(1, Pt b1), (3, .eq (.slice none 0 0)), (4, .eq v3), (5, .eq (.bool y6.2))]) (fun z7 y6 => [.obj b1 26 (.rep tChange a0), .sl v3 4 .bool y6.1]) (kit_TasksOf_l1 k a0) k () (List.replicate (Int.toNat (a0.1.length : Int)) false, true) (fun _ => rfl) h (SE.fin [1, 0] ⟨rfl, rfl, rfl, rfl, trivial⟩ rfl) (fun n z7 y6 h => ?_);unfold kit_TasksOf_l1 at h;refine JC.seq (sr (mq (nt ?_)));refine cv h (fun h => ?_) (fun h => ?_)
  ·refine sk (JC.cutBN (Z := Unit) (α := (List Bool) × Bool) (fun z9 x8 => [(1, Pt b1), (3, .eq (.slice none 0 0)), (4, .eq v3), (5, .eq (.bool x8.2))]) (fun z9 x8 => [.obj b1 26 (.rep tChange a0), .sl v3 4 .bool x8.1]) h (fun K h => ?_) (fun z9 x8 h => ?_))
   ·refine JC.block (sr (cq (nt (sr ?_))));refine cq (nt (JC.block ?_));refine JC.loopB (Z := Unit) (α := (List Bool) × Bool × Int) (fun z11 y10 => [(1, Pt b1), (3, .eq (.slice none 0 0)), (4, .eq v3), (5, .eq (.bool y10.2.1)), (6, I y10.2.2)]) (fun z11 y10 => [.obj b1 26 (.rep tChange a0), .sl v3 4 .bool y10.1]) (kit_TasksOf_l2 k a0) k () (y6.1, false, (0 : Int)) (fun _ => rfl) h (SE.fin [0, 1] ⟨rfl, rfl, rfl, rfl, rfl, trivial⟩ rfl) (fun n z11 y10 h => ?_);unfold kit_TasksOf_l2 at h;refine JC.seq (sr (mq ?_));refine fl fo26_0 ?_;refine lo sz23 ?_;refine ol U23 ?_;refine jb (o_lss rfl) ?_;refine nt (ci h (fun h => ?_) (fun h => ?_))
    ·refine sk (JC.cutB (Z := Unit) (α := (List Bool) × Bool) (fun z13 x12 => [(1, Pt b1), (3, .eq (.slice none 0 0)), (4, .eq v3), (5, .eq (.bool x12.2)), (6, I y10.2.2)]) (fun z13 x12 => [.obj b1 26 (.rep tChange a0), .sl v3 4 .bool x12.1]) h (fun K h => ?_) (fun z13 x12 h => ?_))
     ·refine JC.block (JC.seq (JC.drawN ?_));refine da (o_field_obj rfl fo26_2) ?_;refine ea 0 (o_load_obj rfl sz22 nfs rfl) ?_;refine dm ?_;obtain ⟨r14, er14, h⟩ := b_bind h;refine db (o_call [.tmp 24, .tmp 25] rfl rfl en61 rfl (kit_At_ok k a0.2.2.1 y10.2.2 r14 er14)) ?_;refine db (o_geq rfl) ?_;refine da (o_field_obj rfl fo26_3) ?_;refine ea 0 (o_load_obj rfl sz22 nfs rfl) ?_;refine dm ?_;obtain ⟨r15, er15, h⟩ := b_bind h;refine db (o_call [.tmp 29, .tmp 30] rfl rfl en61 rfl (kit_At_ok k a0.2.2.2 y10.2.2 r15 er15)) ?_;refine db (o_geq rfl) ?_;refine df mixed ?_;refine jb (o_neqb rfl U4) ?_;refine aq (nt ?_);refine JC.cutB (Z := Unit) (α := Bool) (fun z17 x16 => [(1, Pt b1), (3, .eq (.slice none 0 0)), (4, .eq v3), (5, .eq (.bool y10.2.1)), (6, I y10.2.2), (7, .eq (.bool x16))]) (fun z17 x16 => [.obj b1 26 (.rep tChange a0), .sl v3 4 .bool y10.1]) h (fun K h => ?_) (fun z17 x16 h => ?_)
      ·refine sr (cq (nt (JC.block ?_)));refine JC.loopB (Z := Unit) (α := Bool × Int) (fun z19 y18 => [(1, Pt b1), (3, .eq (.slice none 0 0)), (4, .eq v3), (5, .eq (.bool y10.2.1)), (6, I y10.2.2), (7, .eq (.bool y18.1)), (8, I y18.2)]) (fun z19 y18 => [.obj b1 26 (.rep tChange a0), .sl v3 4 .bool y10.1]) (kit_TasksOf_l3 k a0 y10) k () (!decide ((decide ((0 : Int) ≤ r14)) = (decide ((0 : Int) ≤ r15))), (0 : Int)) (fun _ => rfl) h (SE.fin [0, 1] ⟨rfl, rfl, rfl, rfl, rfl, rfl, rfl, trivial⟩ rfl) (fun n z19 y18 h => ?_);unfold kit_TasksOf_l3 at h;refine JC.seq (JC.cutB (Z := Unit) (α := Bool) (fun z21 x20 => [(1, Pt b1), (3, .eq (.slice none 0 0)), (4, .eq v3), (5, .eq (.bool y10.2.1)), (6, I y10.2.2), (7, .eq (.bool y18.1)), (8, I y18.2), (52, .eq (.bool x20))]) (fun z21 x20 => [.obj b1 26 (.rep tChange a0), .sl v3 4 .bool y10.1]) h (fun K h => ?_) (fun z21 x20 h => ?_))
       ·refine JC.region (mq ?_);refine fl fo26_0 ?_;refine lo sz23 ?_;refine ol U23 ?_;refine jb (o_lss rfl) ?_;refine mq ?_;refine JO.bool (s := 39) rfl (fun hb => ?_) (fun hb => ?_)
        ·replace h := b_if (d_t hb) h;refine ga (o_field_obj rfl fo26_2) ?_;refine JO.g11 rfl rfl rfl rfl rfl rfl (o_load_obj rfl sz22 nfs rfl) ⟨rfl, trivial⟩ ?_;refine gm ?_;obtain ⟨r22, er22, h⟩ := b_bind h;refine gb (o_call [.tmp 41, .tmp 42] rfl rfl en61 rfl (kit_At_ok k a0.2.2.1 y10.2.2 r22 er22)) ?_;refine gb (o_geq rfl) ?_;refine pt ?_;refine mq ?_;refine JO.bool (s := 46) rfl (fun hb => ?_) (fun hb => ?_)
         ·replace h := b_if (d_t hb) h;refine ga (o_field_obj rfl fo26_3) ?_;refine JO.g11 rfl rfl rfl rfl rfl rfl (o_load_obj rfl sz22 nfs rfl) ⟨rfl, trivial⟩ ?_;refine gm ?_;obtain ⟨r23, er23, h⟩ := b_bind h;refine gb (o_call [.tmp 48, .tmp 49] rfl rfl en61 rfl (kit_At_ok k a0.2.2.2 y10.2.2 r23 er23)) ?_;refine gb (o_geq rfl) ?_;refine pt (nl ?_);exact jz ((), decide ((0 : Int) ≤ r23)) h [0, 1]
         ·replace h := b_ifn (d_f hb) h;iterate 5 refine gn ?_
          refine pf (nl ?_);exact jz ((), false) h [0, 1]
        ·replace h := b_ifn (d_f hb) h;iterate 5 refine gn ?_
         refine pf ?_;refine mq ?_;iterate 5 refine gn ?_
         refine pf (nl ?_);exact jz ((), false) h [0, 1]
       ·refine cv h (fun h => ?_) (fun h => ?_)
        ·refine sk (JC.cutB (Z := Unit) (α := Bool) (fun z25 x24 => [(1, Pt b1), (3, .eq (.slice none 0 0)), (4, .eq v3), (5, .eq (.bool y10.2.1)), (6, I y10.2.2), (7, .eq (.bool x24)), (8, I y18.2)]) (fun z25 x24 => [.obj b1 26 (.rep tChange a0), .sl v3 4 .bool y10.1]) h (fun K h => ?_) (fun z25 x24 h => ?_))
         ·refine JC.block (JC.region ?_);iterate 2 refine mq ?_
          refine JO.bool (s := 56) rfl (fun hb => ?_) (fun hb => ?_)
          ·replace h := b_if (v_t hb) h;iterate 5 refine gn ?_
           refine gu ?_;refine gu ?_;refine gu ?_;refine gu ?_;refine gu ?_;refine gu ?_;refine gu ?_;refine gu ?_;refine gu ?_;refine gn ?_;refine pt ?_;refine aq (JO.nil (bn ?_));exact jz ((), true) h [0, 1]
          ·replace h := b_ifn (v_f hb) h;refine gm ?_;refine gm ?_;obtain ⟨x26, ex26, h⟩ := b_bind h;refine fr 1 ?_;refine JO.g11 rfl rfl rfl rfl rfl rfl (o_index_own (t := .bool) rfl U130 sz4 ex26) ⟨rfl, rfl, trivial⟩ ?_;refine JO.g11 rfl rfl rfl rfl rfl rfl (o_load_el (i := Int.toNat y18.2) (off := 0) rfl sz4 (fun _ => rfl) rfl (geti_some ex26).2.2 rfl) ⟨rfl, trivial⟩ ?_;refine gm ?_;refine JO.bool (s := 61) rfl (fun hb => ?_) (fun hb => ?_)
           ·replace h := b_if (v_t hb) h;refine ga (o_field_obj rfl fo26_0) ?_;refine fr 1 ?_;refine JO.g11 rfl rfl rfl rfl rfl rfl (o_load_obj rfl sz23 nfs rfl) ⟨rfl, trivial⟩ ?_;refine gm ?_;obtain ⟨x27, ex27, h⟩ := b_bind h;refine gb (o_index (t := tThing) rfl U23 sz43 ex27) ?_;refine ga (o_field_at 1 false rfl fo43_0 rfl) ?_;refine ga (o_load_at (t := (.slice (.int .i64))) rfl sz22 rfl) ?_;refine gm ?_;obtain ⟨r28, er28, h⟩ := b_bind h;refine gb (o_call [.tmp 67, .tmp 68] rfl rfl en61 rfl (kit_At_ok k x27.1 y10.2.2 r28 er28)) ?_;refine gb (o_geq rfl) ?_;refine gb (o_pick_t rfl) ?_;refine pf ?_;refine aq (JO.nil (bn ?_));exact jz ((), decide ((0 : Int) ≤ r28)) h [0, 1]
           ·replace h := b_ifn (v_f hb) h;iterate 9 refine gn ?_
            refine gb (o_pick_f rfl) ?_;refine pf ?_;refine aq (JO.nil (bn ?_));exact jz ((), false) h [1, 0]
         ·refine JC.region (mq ?_);obtain ⟨x29, ex29, h⟩ := b_bind h;refine jb (o_add rfl ex29) ?_;refine aq (nl ?_);exact jz ((), (x24, x29)) h [0, 1]
        ·refine xa ?_;exact jz ((), y18.1) h [0, 1]
      ·refine JC.cutB (Z := Unit) (α := Bool) (fun z31 x30 => [(1, Pt b1), (3, .eq (.slice none 0 0)), (4, .eq v3), (5, .eq (.bool y10.2.1)), (6, I y10.2.2), (80, .eq (.bool x30))]) (fun z31 x30 => [.obj b1 26 (.rep tChange a0), .sl v3 4 .bool y10.1]) h (fun K h => ?_) (fun z31 x30 h => ?_)
       ·refine JC.region ?_;iterate 2 refine mq ?_
        refine JO.bool (s := 74) rfl (fun hb => ?_) (fun hb => ?_)
        ·replace h := b_if (v_t hb) h;refine gm ?_;refine gm ?_;obtain ⟨x32, ex32, h⟩ := b_bind h;refine fr 1 ?_;refine JO.g11 rfl rfl rfl rfl rfl rfl (o_index_own (t := .bool) rfl U130 sz4 ex32) ⟨rfl, rfl, trivial⟩ ?_;refine JO.g11 rfl rfl rfl rfl rfl rfl (o_load_el (i := Int.toNat y10.2.2) (off := 0) rfl sz4 (fun _ => rfl) rfl (geti_some ex32).2.2 rfl) ⟨rfl, trivial⟩ ?_;refine ga (o_not rfl) ?_;refine pt (nl ?_);exact jz ((), !x32) h [1, 0]
        ·replace h := b_ifn (v_f hb) h;iterate 5 refine gn ?_
         refine pf (nl ?_);exact jz ((), false) h [0, 1]
       ·refine cv h (fun h => ?_) (fun h => ?_)
        ·refine JC.region ?_;iterate 2 refine mq ?_
         obtain ⟨x33, ex33, h⟩ := b_bind h;refine fr 1 ?_;refine kb (o_index_own (t := .bool) rfl U130 sz4 ex33) ?_;refine JO.n11 rfl rfl (o_store_elW (i := Int.toNat y10.2.2) rfl sz4 rfl (geti_lt ex33) rfl .bool rfl) ⟨rfl, rfl, trivial⟩ ?_;refine cq (JO.nil (bn ?_));exact jz ((), (List.set y10.1 (Int.toNat y10.2.2) true, true)) h [1, 0]
        ·refine JC.skip (bn ?_);exact jz ((), (y10.1, y10.2.1)) h [0, 1]
     ·refine JC.region (mq ?_);obtain ⟨x34, ex34, h⟩ := b_bind h;refine jb (o_add rfl ex34) ?_;refine aq (nl ?_);exact jz ((), (x12.1, x12.2, x34)) h [0, 1]
    ·refine JC.exit (JN.then_x (JN.then_x (JN.blk_hit (bn ?_))));exact jz ((), (y10.1, y10.2.1)) h [0, 1]
   ·refine JN.then_n ?_;exact jz ((), (x8.1, x8.2)) h [0, 1]
  ·refine xa ?_;exact jz ((), y6.1) h [0, 1]
 ·
  refine JC.cutB (Z := Value) (α := (List dTask)) (fun z36 x35 => [(3, .eq z36)]) (fun z36 x35 => [.sl z36 56 tTask x35]) h (fun K h => ?_) (fun z36 x35 h => ?_)
  ·refine sr (cq (nt (JC.block ?_)));refine JC.se (SE.nil 56 tTask) ?_;refine JC.loopB (Z := Value) (α := (List dTask) × Int) (fun z38 y37 => [(1, Pt b1), (3, .eq z38), (4, .eq v3), (9, I y37.2)]) (fun z38 y37 => [.obj b1 26 (.rep tChange a0), .sl z38 56 tTask y37.1, .sl v3 4 .bool x4]) (kit_TasksOf_l4 k a0 x4) k (.slice none 0 0) (([] : (List dTask)), (0 : Int)) (fun _ => rfl) h (SE.fin [1, 0, 2] ⟨rfl, rfl, rfl, rfl, trivial⟩ rfl) (fun n z38 y37 h => ?_);unfold kit_TasksOf_l4 at h;refine JC.seq (sr (mq ?_));refine jb (o_lss rfl) ?_;refine nt (ci h (fun h => ?_) (fun h => ?_))
   ·refine sk (JC.cutB (Z := Value) (α := (List dTask)) (fun z40 x39 => [(1, Pt b1), (3, .eq z40), (4, .eq v3), (9, I y37.2)]) (fun z40 x39 => [.obj b1 26 (.rep tChange a0), .sl z40 56 tTask x39, .sl v3 4 .bool x4]) h (fun K h => ?_) (fun z40 x39 h => ?_))
    ·refine JC.block (sr (cq (nt (JC.block ?_))));refine JC.loopB (Z := Value) (α := (List dTask) × Int) (fun z42 y41 => [(1, Pt b1), (3, .eq z42), (4, .eq v3), (9, I y37.2), (10, I y41.2)]) (fun z42 y41 => [.obj b1 26 (.rep tChange a0), .sl z42 56 tTask y41.1, .sl v3 4 .bool x4]) (kit_TasksOf_l5 k a0 x4 y37) k z38 (y37.1, (0 : Int)) (fun _ => rfl) h (SE.fin [0, 1, 2] ⟨rfl, rfl, rfl, rfl, rfl, trivial⟩ rfl) (fun n z42 y41 h => ?_);unfold kit_TasksOf_l5 at h;refine JC.seq (sr ?_);iterate 2 refine mq ?_
     refine fr 2 ?_;refine ka (o_len_own rfl rfl U130) ?_;refine jb (o_lss rfl) ?_;refine nt (ci h (fun h => ?_) (fun h => ?_))
     ·refine sk (JC.cutB (Z := Value) (α := (List dTask)) (fun z44 x43 => [(1, Pt b1), (3, .eq z44), (4, .eq v3), (9, I y37.2), (10, I y41.2)]) (fun z44 x43 => [.obj b1 26 (.rep tChange a0), .sl z44 56 tTask x43, .sl v3 4 .bool x4]) h (fun K h => ?_) (fun z44 x43 h => ?_))
      ·refine JC.block (JC.cutB (Z := Unit) (α := Bool) (fun z46 x45 => [(1, Pt b1), (3, .eq z42), (4, .eq v3), (9, I y37.2), (10, I y41.2), (119, .eq (.bool x45))]) (fun z46 x45 => [.obj b1 26 (.rep tChange a0), .sl z42 56 tTask y41.1, .sl v3 4 .bool x4]) h (fun K h => ?_) (fun z46 x45 h => ?_))
       ·refine JC.region ?_;iterate 2 refine mq ?_
        obtain ⟨x47, ex47, h⟩ := b_bind h;refine kb (o_index_own (t := .bool) rfl U130 sz4 ex47) ?_;refine ka (o_load_el (i := Int.toNat y41.2) (off := 0) rfl sz4 (fun _ => rfl) rfl (geti_some ex47).2.2 rfl) ?_;refine mq ?_;refine JO.bool (s := 98) rfl (fun hb => ?_) (fun hb => ?_)
        ·replace h := b_if (v_t hb) h;refine gm ?_;refine gb (o_eql rfl) ?_;refine gm ?_;refine JO.bool (s := 101) rfl (fun hb => ?_) (fun hb => ?_)
         ·replace h := b_if (d_t hb) h;refine ga (o_field_obj rfl fo26_2) ?_;refine fr 1 ?_;refine JO.g11 rfl rfl rfl rfl rfl rfl (o_load_obj rfl sz22 nfs rfl) ⟨rfl, trivial⟩ ?_;refine gm ?_;obtain ⟨r48, er48, h⟩ := b_bind h;refine gb (o_call [.tmp 103, .tmp 104] rfl rfl en61 rfl (kit_At_ok k a0.2.2.1 y41.2 r48 er48)) ?_;refine gb (o_geq rfl) ?_;refine gb (o_pick_t rfl) ?_;refine gm ?_;refine JO.bool (s := 108) rfl (fun hb => ?_) (fun hb => ?_)
          ·replace h := b_if (d_t hb) h;iterate 3 refine gn ?_
           refine gu ?_;refine gu ?_;refine gu ?_;refine gu ?_;refine gu ?_;refine gn ?_;refine gb (o_pick_t rfl) ?_;refine pt (nl ?_);exact jz ((), true) h [0, 2, 1]
          ·replace h := b_ifn (d_f hb) h;refine gm ?_;refine gb (o_eql rfl) ?_;refine gm ?_;refine JO.bool (s := 111) rfl (fun hb => ?_) (fun hb => ?_)
           ·replace h := b_if (d_t hb) h;refine ga (o_field_obj rfl fo26_3) ?_;refine JO.g11 rfl rfl rfl rfl rfl rfl (o_load_obj rfl sz22 nfs rfl) ⟨rfl, trivial⟩ ?_;refine gm ?_;obtain ⟨r49, er49, h⟩ := b_bind h;refine gb (o_call [.tmp 113, .tmp 114] rfl rfl en61 rfl (kit_At_ok k a0.2.2.2 y41.2 r49 er49)) ?_;refine gb (o_geq rfl) ?_;refine gb (o_pick_t rfl) ?_;refine gb (o_pick_f rfl) ?_;refine pt (nl ?_);exact jz ((), decide ((0 : Int) ≤ r49)) h [0, 2, 1]
           ·replace h := b_ifn (d_f hb) h;iterate 5 refine gn ?_
            refine gb (o_pick_f rfl) ?_;refine gb (o_pick_f rfl) ?_;refine pt (nl ?_);exact jz ((), false) h [0, 2, 1]
         ·replace h := b_ifn (d_f hb) h;iterate 5 refine gn ?_
          refine gb (o_pick_f rfl) ?_;refine gm ?_;refine gm ?_;refine gb (o_eql rfl) ?_;refine gm ?_;refine JO.bool (s := 111) rfl (fun hb => ?_) (fun hb => ?_)
          ·replace h := b_if (d_t hb) h;refine ga (o_field_obj rfl fo26_3) ?_;refine fr 1 ?_;refine JO.g11 rfl rfl rfl rfl rfl rfl (o_load_obj rfl sz22 nfs rfl) ⟨rfl, trivial⟩ ?_;refine gm ?_;obtain ⟨r50, er50, h⟩ := b_bind h;refine gb (o_call [.tmp 113, .tmp 114] rfl rfl en61 rfl (kit_At_ok k a0.2.2.2 y41.2 r50 er50)) ?_;refine gb (o_geq rfl) ?_;refine gb (o_pick_t rfl) ?_;refine gb (o_pick_f rfl) ?_;refine pt (nl ?_);exact jz ((), decide ((0 : Int) ≤ r50)) h [0, 2, 1]
          ·replace h := b_ifn (d_f hb) h;iterate 5 refine gn ?_
           refine gb (o_pick_f rfl) ?_;refine gb (o_pick_f rfl) ?_;refine pt (nl ?_);exact jz ((), false) h [1, 2, 0]
        ·replace h := b_ifn (v_f hb) h;iterate 3 refine gn ?_
         refine gu ?_;refine gu ?_;refine gu ?_;refine gu ?_;refine gu ?_;iterate 2 refine gn ?_
         refine gu ?_;refine gu ?_;refine gu ?_;refine gu ?_;refine gu ?_;refine gu ?_;refine gu ?_;refine gu ?_;refine gu ?_;refine gn ?_;refine pf (nl ?_);exact jz ((), false) h [1, 2, 0]
       ·refine cv h (fun h => ?_) (fun h => ?_)
        ·refine JC.region ?_;iterate 3 refine mq ?_
         refine jb (o_eql rfl) ?_;refine jb (o_buildT [(0, .tmp 121, _), (1, .tmp 123, _)] rfl pl56 za56 alb56 (stors ⟨rfl, rfl, trivial⟩) rfl) ?_;refine ja (o_litB (t := tTask) [(.tmp 124, _)] [(y41.2, decide (y37.2 = (1 : Int)))] rfl rfl sl45 (.cons trivial (.agg (.pair .int .bool)) .nil) rfl rfl) ?_;obtain ⟨u51, eu51, h⟩ := b_bind h;refine fr 1 ?_;refine JO.s1x rfl rfl rfl (o_append rfl rfl sl45 (chkP_some eu51)) ⟨rfl, rfl, trivial⟩ fun v52 => ?_;refine aq (JO.nil (bn ?_));exact jz (v52, y41.1 ++ [(y41.2, decide (y37.2 = (1 : Int)))]) h [1, 0, 2]
        ·refine JC.skip (bn ?_);exact jz (z42, y41.1) h [0, 1, 2]
      ·refine JC.region (mq ?_);obtain ⟨x53, ex53, h⟩ := b_bind h;refine jb (o_add rfl ex53) ?_;refine aq (nl ?_);exact jz (z44, (x43, x53)) h [0, 1, 2]
     ·refine JC.exit (JN.then_x (JN.then_x (JN.blk_hit (bn ?_))));exact jz (z42, y41.1) h [1, 2, 0]
    ·refine JC.region (mq ?_);obtain ⟨x54, ex54, h⟩ := b_bind h;refine jb (o_add rfl ex54) ?_;refine aq (nl ?_);exact jz (z40, (x39, x54)) h [0, 1, 2]
   ·refine xa ?_;exact jz (z38, y37.1) h [1]
  ·refine sr (mq ?_);refine aq (nt (JC.ret ?_));refine JN.se (SE.frz [2, 3, 127] ⟨rfl, rfl, rfl, trivial⟩) ?_;cases h;exact ra


def kit_ChangeOf_l2 (k : Nat) (r3 : Int × dLots) (r4 : Bool × dLots) (y7 : (List Int) × Int × Int × (List dThing) × (List Int) × (List Int) × Int) : Nat → ((List Int) × Int × Int × (List Int) × Int) → Option ((List Int) × Int × Int × (List Int))
 | 0, _ => none
 | n + 1, y22 =>
  if y22.2.2.2.2 < r3.1 then (((((if (decide (y7.2.2.2.2.2.2 < y22.2.2.2.2)) = r4.1 then (if ¬ (y22.2.2.2.2 = y7.2.2.2.2.2.2) then ((kit_Lots_Rare k (y22.1, y22.2.1, y22.2.2.1) (3 : Int)).bind fun r28 =>
  some (r28.2.1, r28.2.2.1, r28.2.2.2, r28.1)) else (some (y22.1, y22.2.1, y22.2.2.1, false))) else (some (y22.1, y22.2.1, y22.2.2.1, false))) : Option ((List Int) × Int × Int × Bool)).bind fun x26 =>
  if x26.2.2.2 = true then ((chkP (okLen (List.length y22.2.2.2.1 + List.length [y22.2.2.2.2]))).bind fun _ =>
  some (x26.1, x26.2.1, x26.2.2.1, y22.2.2.2.1 ++ [y22.2.2.2.2])) else (some (x26.1, x26.2.1, x26.2.2.1, y22.2.2.2.1))) : Option ((List Int) × Int × Int × (List Int))).bind fun x24 =>
  (ck (y22.2.2.2.2 + (1 : Int))).bind fun x32 =>
  kit_ChangeOf_l2 k r3 r4 y7 n (x24.1, x24.2.1, x24.2.2.1, x24.2.2.2, x32)) else (some (y22.1, y22.2.1, y22.2.2.1, y22.2.2.2.1))

def kit_ChangeOf_l1 (k : Nat) (r3 : Int × dLots) (r4 : Bool × dLots) : Nat → ((List Int) × Int × Int × (List dThing) × (List Int) × (List Int) × Int) → Option ((List Int) × Int × Int × (List dThing) × (List Int) × (List Int))
 | 0, _ => none
 | n + 1, y7 =>
  if y7.2.2.2.2.2.2 < r3.1 then ((((kit_Lots_In k (y7.1, y7.2.1, y7.2.2.1) (1 : Int) (4 : Int)).bind fun r11 =>
  (kit_Lots_Of k (r11.2.1, r11.2.2.1, r11.2.2.2) [(1 : Int), (1 : Int), (2 : Int), r11.1]).bind fun r12 =>
  (kit_Lots_In k (r12.2.1, r12.2.2.1, r12.2.2.2) (1 : Int) (4 : Int)).bind fun r13 =>
  (kit_Lots_Of k (r13.2.1, r13.2.2.1, r13.2.2.2) [(1 : Int), (2 : Int), (2 : Int), r13.1]).bind fun r14 =>
  (kit_Lots_Of k (r14.2.1, r14.2.2.1, r14.2.2.2) [(0 : Int), (0 : Int), (1 : Int), (2 : Int)]).bind fun r15 =>
  (kit_Lots_In k (r15.2.1, r15.2.2.1, r15.2.2.2) (1 : Int) (6 : Int)).bind fun r16 =>
  (kit_Lots_In k (r16.2.1, r16.2.2.1, r16.2.2.2) (3 : Int) (12 : Int)).bind fun r17 =>
  (kit_Lots_Of k (r17.2.1, r17.2.2.1, r17.2.2.2) [(0 : Int), (0 : Int), r16.1, r17.1]).bind fun r18 =>
  ((kit_ChangeOf_l2 k r3 r4 y7 k (r18.2.1, r18.2.2.1, r18.2.2.2, ([] : (List Int)), (0 : Int))) : Option ((List Int) × Int × Int × (List Int))).bind fun x20 =>
  (chkP (okLen (List.length y7.2.2.2.1 + List.length [(x20.2.2.2, r12.1, r14.1, r15.1, r18.1)]))).bind fun _ =>
  (kit_Lots_Upto k (x20.1, x20.2.1, x20.2.2.1) (5 : Int)).bind fun r36 =>
  if r36.1 = (0 : Int) then (some (r36.2.1, r36.2.2.1, r36.2.2.2, y7.2.2.2.1 ++ [(x20.2.2.2, r12.1, r14.1, r15.1, r18.1)], y7.2.2.2.2.1, y7.2.2.2.2.2.1)) else (((if r36.1 = (1 : Int) then (some (decide (r36.1 = (1 : Int)))) else (some (decide (r36.1 = (2 : Int))))) : Option (Bool)).bind fun x37 =>
  if x37 = true then ((chkP (okLen (List.length y7.2.2.2.2.1 + List.length [y7.2.2.2.2.2.2]))).bind fun _ =>
  some (r36.2.1, r36.2.2.1, r36.2.2.2, y7.2.2.2.1 ++ [(x20.2.2.2, r12.1, r14.1, r15.1, r18.1)], y7.2.2.2.2.1 ++ [y7.2.2.2.2.2.2], y7.2.2.2.2.2.1)) else (if r36.1 = (3 : Int) then ((chkP (okLen (List.length y7.2.2.2.2.2.1 + List.length [y7.2.2.2.2.2.2]))).bind fun _ =>
  some (r36.2.1, r36.2.2.1, r36.2.2.2, y7.2.2.2.1 ++ [(x20.2.2.2, r12.1, r14.1, r15.1, r18.1)], y7.2.2.2.2.1, y7.2.2.2.2.2.1 ++ [y7.2.2.2.2.2.2])) else ((chkP (okLen (List.length y7.2.2.2.2.1 + List.length [y7.2.2.2.2.2.2]))).bind fun _ =>
  (chkP (okLen (List.length y7.2.2.2.2.2.1 + List.length [y7.2.2.2.2.2.2]))).bind fun _ =>
  some (r36.2.1, r36.2.2.1, r36.2.2.2, y7.2.2.2.1 ++ [(x20.2.2.2, r12.1, r14.1, r15.1, r18.1)], y7.2.2.2.2.1 ++ [y7.2.2.2.2.2.2], y7.2.2.2.2.2.1 ++ [y7.2.2.2.2.2.2]))))) : Option ((List Int) × Int × Int × (List dThing) × (List Int) × (List Int))).bind fun x9 =>
  (ck (y7.2.2.2.2.2.2 + (1 : Int))).bind fun x51 =>
  kit_ChangeOf_l1 k r3 r4 n (x9.1, x9.2.1, x9.2.2.1, x9.2.2.2.1, x9.2.2.2.2.1, x9.2.2.2.2.2, x51)) else (some (y7.1, y7.2.1, y7.2.2.1, y7.2.2.2.1, y7.2.2.2.2.1, y7.2.2.2.2.2.1))

def kit_ChangeOf_l4 (k : Nat) (r3 : Int × dLots) : Nat → ((List Int) × Int × Int × (List Int) × Int) → Option ((List Int) × Int × Int × (List Int))
 | 0, _ => none
 | n + 1, y65 =>
  if y65.2.2.2.2 < r3.1 then ((((kit_Lots_Rare k (y65.1, y65.2.1, y65.2.2.1) (4 : Int)).bind fun r69 =>
  if ¬ (r69.1 = true) then ((chkP (okLen (List.length y65.2.2.2.1 + List.length [y65.2.2.2.2]))).bind fun _ =>
  some (r69.2.1, r69.2.2.1, r69.2.2.2, y65.2.2.2.1 ++ [y65.2.2.2.2])) else (some (r69.2.1, r69.2.2.1, r69.2.2.2, y65.2.2.2.1))) : Option ((List Int) × Int × Int × (List Int))).bind fun x67 =>
  (ck (y65.2.2.2.2 + (1 : Int))).bind fun x73 =>
  kit_ChangeOf_l4 k r3 n (x67.1, x67.2.1, x67.2.2.1, x67.2.2.2, x73)) else (some (y65.1, y65.2.1, y65.2.2.1, y65.2.2.2.1))

def kit_ChangeOf_l3 (k : Nat) (r3 : Int × dLots) : Nat → ((List Int) × Int × Int × (List dDresser) × Int) → Option ((List Int) × Int × Int × (List dDresser))
 | 0, _ => none
 | n + 1, y55 =>
  if (0 : Int) < y55.2.2.2.2 then ((((kit_Lots_Of k (y55.1, y55.2.1, y55.2.2.1) [(0 : Int), (0 : Int), (1 : Int), (2 : Int)]).bind fun r59 =>
  (kit_Lots_Upto k (r59.2.1, r59.2.2.1, r59.2.2.2) (4 : Int)).bind fun r60 =>
  (kit_Lots_Of k (r60.2.1, r60.2.2.1, r60.2.2.2) [(0 : Int), (0 : Int), (1 : Int), r60.1]).bind fun r61 =>
  ((kit_ChangeOf_l4 k r3 k (r61.2.1, r61.2.2.1, r61.2.2.2, ([] : (List Int)), (0 : Int))) : Option ((List Int) × Int × Int × (List Int))).bind fun x63 =>
  (chkP (okLen (List.length y55.2.2.2.1 + List.length [(x63.2.2.2, r59.1, r61.1)]))).bind fun _ =>
  some (x63.1, x63.2.1, x63.2.2.1, y55.2.2.2.1 ++ [(x63.2.2.2, r59.1, r61.1)])) : Option ((List Int) × Int × Int × (List dDresser))).bind fun x57 =>
  (ck (y55.2.2.2.2 - (1 : Int))).bind fun x77 =>
  kit_ChangeOf_l3 k r3 n (x57.1, x57.2.1, x57.2.2.1, x57.2.2.2, x77)) else (some (y55.1, y55.2.1, y55.2.2.1, y55.2.2.2.1))

def kit_ChangeOf_l5 (k : Nat) : Nat → ((List Int) × Int × Int × (List dThing) × (List dDresser) × (List Int) × (List Int)) → Option ((List dThing) × (List dDresser) × (List Int) × (List Int) × (List Int) × Int × Int)
 | 0, _ => none
 | n + 1, y80 =>
  (kit_TasksOf k (y80.2.2.2.1, y80.2.2.2.2.1, y80.2.2.2.2.2.1, y80.2.2.2.2.2.2)).bind fun r82 =>
  if (4 : Int) < (r82.length : Int) then (((if (0 : Int) < (y80.2.2.2.2.2.2.length : Int) then ((kit_Lots_Rare k (y80.1, y80.2.1, y80.2.2.1) (2 : Int)).bind fun r85 =>
  some (r85.2.1, r85.2.2.1, r85.2.2.2, r85.1)) else (some (y80.1, y80.2.1, y80.2.2.1, false))) : Option ((List Int) × Int × Int × Bool)).bind fun x83 =>
  if x83.2.2.2 = true then ((ck ((y80.2.2.2.2.2.2.length : Int) - (1 : Int))).bind fun x86 =>
  (chkP (0 ≤ x86 ∧ x86 ≤ (y80.2.2.2.2.2.2.length : Int))).bind fun _ =>
  kit_ChangeOf_l5 k n (x83.1, x83.2.1, x83.2.2.1, y80.2.2.2.1, y80.2.2.2.2.1, y80.2.2.2.2.2.1, List.take (Int.toNat x86) y80.2.2.2.2.2.2)) else (if (0 : Int) < (y80.2.2.2.2.2.1.length : Int) then ((ck ((y80.2.2.2.2.2.1.length : Int) - (1 : Int))).bind fun x88 =>
  (chkP (0 ≤ x88 ∧ x88 ≤ (y80.2.2.2.2.2.1.length : Int))).bind fun _ =>
  kit_ChangeOf_l5 k n (x83.1, x83.2.1, x83.2.2.1, y80.2.2.2.1, y80.2.2.2.2.1, List.take (Int.toNat x88) y80.2.2.2.2.2.1, y80.2.2.2.2.2.2)) else (kit_ChangeOf_l5 k n (x83.1, x83.2.1, x83.2.2.1, y80.2.2.2.1, y80.2.2.2.2.1, y80.2.2.2.2.2.1, [])))) else (some (y80.2.2.2.1, y80.2.2.2.2.1, y80.2.2.2.2.2.1, y80.2.2.2.2.2.2, y80.1, y80.2.1, y80.2.2.1))
def kit_ChangeOf (k : Nat) (a0 : dLots) : Option (dChange × dLots) :=
 (kit_Lots_In k (a0.1, a0.2.1, a0.2.2) (1 : Int) (4 : Int)).bind fun r3 =>
 (kit_Lots_Rare k (r3.2.1, r3.2.2.1, r3.2.2.2) (2 : Int)).bind fun r4 =>
 ((kit_ChangeOf_l1 k r3 r4 k (r4.2.1, r4.2.2.1, r4.2.2.2, ([] : (List dThing)), ([] : (List Int)), ([] : (List Int)), (0 : Int))) : Option ((List Int) × Int × Int × (List dThing) × (List Int) × (List Int))).bind fun x5 =>
 (((kit_Lots_In k (x5.1, x5.2.1, x5.2.2.1) (1 : Int) (3 : Int)).bind fun r54 =>
 kit_ChangeOf_l3 k r3 k (r54.2.1, r54.2.2.1, r54.2.2.2, ([] : (List dDresser)), r54.1)) : Option ((List Int) × Int × Int × (List dDresser))).bind fun x52 =>
 ((kit_ChangeOf_l5 k k (x52.1, x52.2.1, x52.2.2.1, x5.2.2.2.1, x52.2.2.2, x5.2.2.2.2.1, x5.2.2.2.2.2)) : Option ((List dThing) × (List dDresser) × (List Int) × (List Int) × (List Int) × Int × Int)).bind fun x78 =>
 some ((x78.1, x78.2.1, x78.2.2.1, x78.2.2.2.1), (x78.2.2.2.2.1, x78.2.2.2.2.2.1, x78.2.2.2.2.2.2))

theorem kit_ChangeOf_ok (k : Nat) (a0 : dLots) (b_a0 : Nat) (r : dChange × dLots) (h : kit_ChangeOf k a0 = some r) :
 Ctr Try.prog 5 [Pt b_a0] [.obj b_a0 82 (.agg (.pair (Ri a0.1) (.pair (I a0.2.1) (.eq (.int .u64 a0.2.2)))))] (fun _ : Unit => (resA [.rep tChange r.1], [.obj b_a0 82 (.agg (.pair (Ri r.2.1) (.pair (I r.2.2.1) (.eq (.int .u64 r.2.2.2)))))])) := by
 unfold kit_ChangeOf at h
 replace h := b_top h
 refine Ctr.of 175 Try.func5 rfl Try.ntmps5 rfl fun S w0 => ?_
 refine sr ?_
 refine JO.s01 rfl rfl rfl (o_alloc rfl za26 al26) trivial fun b1 => ?_
 refine nt ?_
 refine sr ?_
 refine JO.s01 rfl rfl rfl (o_alloc rfl za26 al26) trivial fun b2 => ?_
 refine nt ?_
 refine sr ?_
 refine mq ?_
 obtain ⟨r3, er3, h⟩ := b_bind h
 have cr3 := kit_Lots_In_ok k (a0.1, a0.2.1, a0.2.2) b_a0 (1 : Int) (4 : Int) r3 er3
 refine fr 2 ?_
 refine kc (o_call [.tmp 12, .const (.int .i64 (1)), .const (.int .i64 (4))] rfl rfl en29 rfl cr3) ?_
 refine aq ?_
 refine nt ?_
 refine sr ?_
 refine mq ?_
 obtain ⟨r4, er4, h⟩ := b_bind h
 have cr4 := kit_Lots_Rare_ok k (r3.2.1, r3.2.2.1, r3.2.2.2) b_a0 (2 : Int) r4 er4
 refine kb (o_call [.tmp 14, .const (.int .i64 (2))] rfl rfl en30 rfl cr4) ?_
 refine aq ?_
 refine nt ?_
 refine JC.cutB (Z := Value × Value × Value) (α := (List Int) × Int × Int × (List dThing) × (List Int) × (List Int)) (fun z6 x5 => [(0, Pt b_a0), (2, Pt b1), (3, Pt b2), (4, I r3.1)]) (fun z6 x5 => [.obj b_a0 82 (.agg (.pair (Ri x5.1) (.pair (I x5.2.1) (.eq (.int .u64 x5.2.2.1))))), .obj b1 26 N4, .obj b2 26 (.agg (.pair (.eq z6.1) (.pair (.eq (.slice none 0 0)) (.pair (.eq z6.2.1) (.eq z6.2.2))))), .sl z6.1 43 tThing x5.2.2.2.1, .sl z6.2.1 3 (.int .i64) x5.2.2.2.2.1, .sl z6.2.2 3 (.int .i64) x5.2.2.2.2.2]) h (fun K h => ?_) (fun z6 x5 h => ?_)
 ·
  refine sr (cq (nt (JC.block ?_)));refine JC.se (SE.nil 43 tThing) ?_;refine JC.se (SE.nil 3 (.int .i64)) ?_;refine JC.se (SE.nil 3 (.int .i64)) ?_;refine JC.loopB (Z := Value × Value × Value) (α := (List Int) × Int × Int × (List dThing) × (List Int) × (List Int) × Int) (fun z8 y7 => [(0, Pt b_a0), (2, Pt b1), (3, Pt b2), (4, I r3.1), (5, .eq (.bool r4.1)), (6, I y7.2.2.2.2.2.2)]) (fun z8 y7 => [.obj b_a0 82 (.agg (.pair (Ri y7.1) (.pair (I y7.2.1) (.eq (.int .u64 y7.2.2.1))))), .obj b1 26 N4, .obj b2 26 (.agg (.pair (.eq z8.1) (.pair (.eq (.slice none 0 0)) (.pair (.eq z8.2.1) (.eq z8.2.2))))), .sl z8.1 43 tThing y7.2.2.2.1, .sl z8.2.1 3 (.int .i64) y7.2.2.2.2.1, .sl z8.2.2 3 (.int .i64) y7.2.2.2.2.2.1]) (kit_ChangeOf_l1 k r3 r4) k ((.slice none 0 0), (.slice none 0 0), (.slice none 0 0)) (r4.2.1, r4.2.2.1, r4.2.2.2, ([] : (List dThing)), ([] : (List Int)), ([] : (List Int)), (0 : Int)) (fun _ => rfl) h (SE.fin [3, 5, 4, 2, 1, 0] ⟨rfl, rfl, rfl, rfl, rfl, rfl, trivial⟩ rfl) (fun n z8 y7 h => ?_);unfold kit_ChangeOf_l1 at h;refine JC.seq (sr ?_);iterate 2 refine mq ?_
  refine jb (o_lss rfl) ?_;refine nt (ci h (fun h => ?_) (fun h => ?_))
  ·refine sk (JC.cutB (Z := Value × Value × Value) (α := (List Int) × Int × Int × (List dThing) × (List Int) × (List Int)) (fun z10 x9 => [(0, Pt b_a0), (2, Pt b1), (3, Pt b2), (4, I r3.1), (5, .eq (.bool r4.1)), (6, I y7.2.2.2.2.2.2)]) (fun z10 x9 => [.obj b_a0 82 (.agg (.pair (Ri x9.1) (.pair (I x9.2.1) (.eq (.int .u64 x9.2.2.1))))), .obj b1 26 N4, .obj b2 26 (.agg (.pair (.eq z10.1) (.pair (.eq (.slice none 0 0)) (.pair (.eq z10.2.1) (.eq z10.2.2))))), .sl z10.1 43 tThing x9.2.2.2.1, .sl z10.2.1 3 (.int .i64) x9.2.2.2.2.1, .sl z10.2.2 3 (.int .i64) x9.2.2.2.2.2]) h (fun K h => ?_) (fun z10 x9 h => ?_))
   ·refine JC.block (sr ?_);iterate 2 refine mq ?_
    obtain ⟨r11, er11, h⟩ := b_bind h;refine kc (o_call [.tmp 22, .const (.int .i64 (1)), .const (.int .i64 (4))] rfl rfl en29 rfl (kit_Lots_In_ok k (y7.1, y7.2.1, y7.2.2.1) b_a0 (1 : Int) (4 : Int) r11 er11)) ?_;refine JO.s rfl (o_litB (t := (.int .i64)) [(.const (.int .i64 (1)), _), (.const (.int .i64 (1)), _), (.const (.int .i64 (2)), _), (.tmp 23, _)] [(1 : Int), (1 : Int), (2 : Int), r11.1] rfl rfl sl22 (.cons rfl .int (.cons rfl .int (.cons rfl .int (.cons rfl .int .nil)))) rfl rfl) ⟨rfl, rfl, rfl, rfl, trivial⟩ ?_;obtain ⟨r12, er12, h⟩ := b_bind h;refine kb (o_call [.tmp 21, .tmp 24] rfl rfl en31 rfl (kit_Lots_Of_ok k (r11.2.1, r11.2.2.1, r11.2.2.2) b_a0 [(1 : Int), (1 : Int), (2 : Int), r11.1] r12 er12)) ?_;iterate 2 refine mq ?_
    obtain ⟨r13, er13, h⟩ := b_bind h;refine kc (o_call [.tmp 27, .const (.int .i64 (1)), .const (.int .i64 (4))] rfl rfl en29 rfl (kit_Lots_In_ok k (r12.2.1, r12.2.2.1, r12.2.2.2) b_a0 (1 : Int) (4 : Int) r13 er13)) ?_;refine JO.s rfl (o_litB (t := (.int .i64)) [(.const (.int .i64 (1)), _), (.const (.int .i64 (2)), _), (.const (.int .i64 (2)), _), (.tmp 28, _)] [(1 : Int), (2 : Int), (2 : Int), r13.1] rfl rfl sl22 (.cons rfl .int (.cons rfl .int (.cons rfl .int (.cons rfl .int .nil)))) rfl rfl) ⟨rfl, rfl, rfl, rfl, trivial⟩ ?_;obtain ⟨r14, er14, h⟩ := b_bind h;refine kb (o_call [.tmp 26, .tmp 29] rfl rfl en31 rfl (kit_Lots_Of_ok k (r13.2.1, r13.2.2.1, r13.2.2.2) b_a0 [(1 : Int), (2 : Int), (2 : Int), r13.1] r14 er14)) ?_;refine mq ?_;refine JO.s rfl (o_litB (t := (.int .i64)) [(.const (.int .i64 (0)), _), (.const (.int .i64 (0)), _), (.const (.int .i64 (1)), _), (.const (.int .i64 (2)), _)] [(0 : Int), (0 : Int), (1 : Int), (2 : Int)] rfl rfl sl22 (.cons rfl .int (.cons rfl .int (.cons rfl .int (.cons rfl .int .nil)))) rfl rfl) ⟨rfl, rfl, rfl, rfl, trivial⟩ ?_;obtain ⟨r15, er15, h⟩ := b_bind h;refine kb (o_call [.tmp 31, .tmp 32] rfl rfl en31 rfl (kit_Lots_Of_ok k (r14.2.1, r14.2.2.1, r14.2.2.2) b_a0 [(0 : Int), (0 : Int), (1 : Int), (2 : Int)] r15 er15)) ?_;iterate 2 refine mq ?_
    obtain ⟨r16, er16, h⟩ := b_bind h;refine kc (o_call [.tmp 35, .const (.int .i64 (1)), .const (.int .i64 (6))] rfl rfl en29 rfl (kit_Lots_In_ok k (r15.2.1, r15.2.2.1, r15.2.2.2) b_a0 (1 : Int) (6 : Int) r16 er16)) ?_;refine mq ?_;obtain ⟨r17, er17, h⟩ := b_bind h;refine kc (o_call [.tmp 37, .const (.int .i64 (3)), .const (.int .i64 (12))] rfl rfl en29 rfl (kit_Lots_In_ok k (r16.2.1, r16.2.2.1, r16.2.2.2) b_a0 (3 : Int) (12 : Int) r17 er17)) ?_;refine JO.s rfl (o_litB (t := (.int .i64)) [(.const (.int .i64 (0)), _), (.const (.int .i64 (0)), _), (.tmp 36, _), (.tmp 38, _)] [(0 : Int), (0 : Int), r16.1, r17.1] rfl rfl sl22 (.cons rfl .int (.cons rfl .int (.cons rfl .int (.cons rfl .int .nil)))) rfl rfl) ⟨rfl, rfl, rfl, rfl, trivial⟩ ?_;obtain ⟨r18, er18, h⟩ := b_bind h;refine kb (o_call [.tmp 34, .tmp 39] rfl rfl en31 rfl (kit_Lots_Of_ok k (r17.2.1, r17.2.2.1, r17.2.2.2) b_a0 [(0 : Int), (0 : Int), r16.1, r17.1] r18 er18)) ?_;refine JO.s rfl (o_buildT [(1, .tmp 25, _), (2, .tmp 30, _), (3, .tmp 33, _), (4, .tmp 40, _)] rfl pl43 za43 alb43 (stors ⟨rfl, rfl, rfl, rfl, trivial⟩) rfl) ⟨rfl, rfl, rfl, rfl, trivial⟩ ?_;refine JO.s01 rfl rfl rfl (o_alloc rfl za43 al43) trivial fun b19 => ?_;refine JO.n11 rfl rfl (o_store rfl sz43 trivial rfl rfl) ⟨rfl, rfl, trivial⟩ ?_;refine nt (JC.cutB (Z := Value) (α := (List Int) × Int × Int × (List Int)) (fun z21 x20 => [(0, Pt b_a0), (2, Pt b1), (3, Pt b2), (4, I r3.1), (5, .eq (.bool r4.1)), (6, I y7.2.2.2.2.2.2), (7, Pt b19)]) (fun z21 x20 => [.obj b_a0 82 (.agg (.pair (Ri x20.1) (.pair (I x20.2.1) (.eq (.int .u64 x20.2.2.1))))), .obj b1 26 N4, .obj b2 26 (.agg (.pair (.eq z8.1) (.pair (.eq (.slice none 0 0)) (.pair (.eq z8.2.1) (.eq z8.2.2))))), .sl z8.1 43 tThing y7.2.2.2.1, .sl z8.2.1 3 (.int .i64) y7.2.2.2.2.1, .sl z8.2.2 3 (.int .i64) y7.2.2.2.2.2.1, .obj b19 43 (.agg (.pair (.eq z21) (.pair (I r12.1) (.pair (I r14.1) (.pair (I r15.1) (I r18.1)))))), .sl z21 3 (.int .i64) x20.2.2.2]) h (fun K h => ?_) (fun z21 x20 h => ?_))
    ·refine sr (cq (nt (JC.block ?_)));refine JC.se (SE.nil 3 (.int .i64)) ?_;refine JC.loopB (Z := Value) (α := (List Int) × Int × Int × (List Int) × Int) (fun z23 y22 => [(0, Pt b_a0), (2, Pt b1), (3, Pt b2), (4, I r3.1), (5, .eq (.bool r4.1)), (6, I y7.2.2.2.2.2.2), (7, Pt b19), (8, I y22.2.2.2.2)]) (fun z23 y22 => [.obj b_a0 82 (.agg (.pair (Ri y22.1) (.pair (I y22.2.1) (.eq (.int .u64 y22.2.2.1))))), .obj b1 26 N4, .obj b2 26 (.agg (.pair (.eq z8.1) (.pair (.eq (.slice none 0 0)) (.pair (.eq z8.2.1) (.eq z8.2.2))))), .sl z8.1 43 tThing y7.2.2.2.1, .sl z8.2.1 3 (.int .i64) y7.2.2.2.2.1, .sl z8.2.2 3 (.int .i64) y7.2.2.2.2.2.1, .obj b19 43 (.agg (.pair (.eq z23) (.pair (I r12.1) (.pair (I r14.1) (.pair (I r15.1) (I r18.1)))))), .sl z23 3 (.int .i64) y22.2.2.2.1]) (kit_ChangeOf_l2 k r3 r4 y7) k (.slice none 0 0) (r18.2.1, r18.2.2.1, r18.2.2.2, ([] : (List Int)), (0 : Int)) (fun _ => rfl) h (SE.fin [2, 3, 4, 5, 6, 7, 1, 0] ⟨rfl, rfl, rfl, rfl, rfl, rfl, rfl, rfl, trivial⟩ rfl) (fun n z23 y22 h => ?_);unfold kit_ChangeOf_l2 at h;refine JC.seq (sr ?_);iterate 2 refine mq ?_
     refine jb (o_lss rfl) ?_;refine nt (ci h (fun h => ?_) (fun h => ?_))
     ·refine sk (JC.cutB (Z := Value) (α := (List Int) × Int × Int × (List Int)) (fun z25 x24 => [(0, Pt b_a0), (2, Pt b1), (3, Pt b2), (4, I r3.1), (5, .eq (.bool r4.1)), (6, I y7.2.2.2.2.2.2), (7, Pt b19), (8, I y22.2.2.2.2)]) (fun z25 x24 => [.obj b_a0 82 (.agg (.pair (Ri x24.1) (.pair (I x24.2.1) (.eq (.int .u64 x24.2.2.1))))), .obj b1 26 N4, .obj b2 26 (.agg (.pair (.eq z8.1) (.pair (.eq (.slice none 0 0)) (.pair (.eq z8.2.1) (.eq z8.2.2))))), .sl z8.1 43 tThing y7.2.2.2.1, .sl z8.2.1 3 (.int .i64) y7.2.2.2.2.1, .sl z8.2.2 3 (.int .i64) y7.2.2.2.2.2.1, .obj b19 43 (.agg (.pair (.eq z25) (.pair (I r12.1) (.pair (I r14.1) (.pair (I r15.1) (I r18.1)))))), .sl z25 3 (.int .i64) x24.2.2.2]) h (fun K h => ?_) (fun z25 x24 h => ?_))
      ·refine JC.block (JC.cutB (Z := Unit) (α := (List Int) × Int × Int × Bool) (fun z27 x26 => [(0, Pt b_a0), (2, Pt b1), (3, Pt b2), (4, I r3.1), (5, .eq (.bool r4.1)), (6, I y7.2.2.2.2.2.2), (7, Pt b19), (8, I y22.2.2.2.2), (60, .eq (.bool x26.2.2.2))]) (fun z27 x26 => [.obj b_a0 82 (.agg (.pair (Ri x26.1) (.pair (I x26.2.1) (.eq (.int .u64 x26.2.2.1))))), .obj b1 26 N4, .obj b2 26 (.agg (.pair (.eq z8.1) (.pair (.eq (.slice none 0 0)) (.pair (.eq z8.2.1) (.eq z8.2.2))))), .sl z8.1 43 tThing y7.2.2.2.1, .sl z8.2.1 3 (.int .i64) y7.2.2.2.2.1, .sl z8.2.2 3 (.int .i64) y7.2.2.2.2.2.1, .obj b19 43 (.agg (.pair (.eq z23) (.pair (I r12.1) (.pair (I r14.1) (.pair (I r15.1) (I r18.1)))))), .sl z23 3 (.int .i64) y22.2.2.2.1]) h (fun K h => ?_) (fun z27 x26 h => ?_))
       ·refine JC.region ?_;iterate 2 refine mq ?_
        refine jb (o_gtr rfl) ?_;refine mq ?_;refine jb (o_eqlb rfl U4) ?_;refine mq ?_;refine JO.bool (s := 52) rfl (fun hb => ?_) (fun hb => ?_)
        ·replace h := b_if (d_t hb) h;refine gm ?_;refine gm ?_;refine gb (o_neq rfl) ?_;refine pt ?_;refine mq ?_;refine JO.bool (s := 57) rfl (fun hb => ?_) (fun hb => ?_)
         ·replace h := b_if (n_t hb) h;refine gm ?_;obtain ⟨r28, er28, h⟩ := b_bind h;refine JO.g11 rfl rfl rfl rfl rfl rfl (o_call [.tmp 58, .const (.int .i64 (3))] rfl rfl en30 rfl (kit_Lots_Rare_ok k (y22.1, y22.2.1, y22.2.2.1) b_a0 (3 : Int) r28 er28)) ⟨rfl, rfl, trivial⟩ ?_;refine pt (nl ?_);exact jz ((), (r28.2.1, r28.2.2.1, r28.2.2.2, r28.1)) h [0, 1, 2, 3, 4, 5, 6, 7]
         ·replace h := b_ifn (n_fn hb) h;iterate 2 refine gn ?_
          refine pf (nl ?_);exact jz ((), (y22.1, y22.2.1, y22.2.2.1, false)) h [0, 1, 2, 3, 4, 5, 6, 7]
        ·replace h := b_ifn (d_f hb) h;iterate 3 refine gn ?_
         refine pf ?_;refine mq ?_;iterate 2 refine gn ?_
         refine pf (nl ?_);exact jz ((), (y22.1, y22.2.1, y22.2.2.1, false)) h [0, 1, 2, 3, 4, 5, 6, 7]
       ·refine cv h (fun h => ?_) (fun h => ?_)
        ·refine JC.region (fl fo43_0 ?_);refine fr 6 ?_;refine lo sz22 ?_;refine mq ?_;refine ja (o_litB (t := (.int .i64)) [(.tmp 63, _)] [y22.2.2.2.2] rfl rfl sl22 (.cons rfl .int .nil) rfl rfl) ?_;obtain ⟨u29, eu29, h⟩ := b_bind h;refine fr 7 ?_;refine JO.s1x rfl rfl rfl (o_append rfl rfl sl22 (chkP_some eu29)) ⟨rfl, rfl, trivial⟩ fun v30 => ?_;refine fl fo43_0 ?_;refine JO.one fun o31 => ?_;refine fr 1 ?_;refine JO.n11 rfl rfl (o_store rfl sz22 o31 rfl rfl) ⟨rfl, rfl, trivial⟩ ?_;refine JO.nil (bn ?_);exact jz (v30, (x26.1, x26.2.1, x26.2.2.1, y22.2.2.2.1 ++ [y22.2.2.2.2])) h [2, 3, 4, 5, 6, 7, 0, 1]
        ·refine JC.skip (bn ?_);exact jz (z23, (x26.1, x26.2.1, x26.2.2.1, y22.2.2.2.1)) h [0, 1, 2, 3, 4, 5, 6, 7]
      ·refine JC.region (mq ?_);obtain ⟨x32, ex32, h⟩ := b_bind h;refine jb (o_add rfl ex32) ?_;refine aq (nl ?_);exact jz (z25, (x24.1, x24.2.1, x24.2.2.1, x24.2.2.2, x32)) h [0, 1, 2, 3, 4, 5, 6, 7]
     ·refine xa ?_;exact jz (z23, (y22.1, y22.2.1, y22.2.2.1, y22.2.2.2.1)) h [0, 1, 2, 3, 4, 5, 6, 7]
    ·refine sr (fl fo26_0 ?_);refine fr 2 ?_;refine lo sz23 ?_;refine fr 6 ?_;refine fr 7 ?_;refine JO.se (SE.frzBoth (off := 0) [] trivial rfl rfl) ?_;refine lo sz43 ?_;refine ja (o_litB (t := tThing) [(.tmp 69, _)] [(x20.2.2.2, r12.1, r14.1, r15.1, r18.1)] rfl rfl sl23 (.cons trivial (.agg (.pair .rep (.pair .int (.pair .int (.pair .int .int))))) .nil) rfl rfl) ?_;obtain ⟨u33, eu33, h⟩ := b_bind h;refine fr 4 ?_;refine JO.s1x rfl rfl rfl (o_append rfl rfl sl23 (chkP_some eu33)) ⟨rfl, rfl, trivial⟩ fun v34 => ?_;refine fl fo26_0 ?_;refine JO.one fun o35 => ?_;refine fr 2 ?_;refine JO.n11 rfl rfl (o_store rfl sz23 o35 rfl rfl) ⟨rfl, rfl, trivial⟩ ?_;refine nt (sr (mq ?_));obtain ⟨r36, er36, h⟩ := b_bind h;refine fr 3 ?_;refine kb (o_call [.tmp 73, .const (.int .i64 (5))] rfl rfl en32 rfl (kit_Lots_Upto_ok k (x20.1, x20.2.1, x20.2.2.1) b_a0 (5 : Int) r36 er36)) ?_;refine nt (JC.block (sr (jb (o_eql rfl) ?_)));refine aq (nt ?_);refine ci h (fun h => ?_) (fun h => ?_)
     ·refine JC.skip (JN.blk_n (bn ?_));exact jz ((v34, z8.2.1, z8.2.2), (r36.2.1, r36.2.2.1, r36.2.2.2, y7.2.2.2.1 ++ [(x20.2.2.2, r12.1, r14.1, r15.1, r18.1)], y7.2.2.2.2.1, y7.2.2.2.2.2.1)) h [0, 4, 1, 2, 5, 6]
     ·refine JC.cutB (Z := Unit) (α := Bool) (fun z38 x37 => [(0, Pt b_a0), (2, Pt b1), (3, Pt b2), (4, I r3.1), (5, .eq (.bool r4.1)), (6, I y7.2.2.2.2.2.2), (74, I r36.1), (89, .eq (.bool x37))]) (fun z38 x37 => [.obj b_a0 82 (.agg (.pair (Ri r36.2.1) (.pair (I r36.2.2.1) (.eq (.int .u64 r36.2.2.2))))), .obj b1 26 N4, .obj b2 26 (.agg (.pair (.eq v34) (.pair (.eq (.slice none 0 0)) (.pair (.eq z8.2.1) (.eq z8.2.2))))), .sl v34 43 tThing (y7.2.2.2.1 ++ [(x20.2.2.2, r12.1, r14.1, r15.1, r18.1)]), .sl z8.2.1 3 (.int .i64) y7.2.2.2.2.1, .sl z8.2.2 3 (.int .i64) y7.2.2.2.2.2.1]) h (fun K h => ?_) (fun z38 x37 h => ?_)
      ·refine sr (jb (o_eql rfl) ?_);refine aq (nt ?_);refine ci h (fun h => ?_) (fun h => ?_)
       ·refine JC.skip (JN.then_n ?_);exact jz ((), decide (r36.1 = (1 : Int))) h [0, 4, 1, 2, 5, 6]
       ·refine JC.region (jb (o_eql rfl) ?_);refine aq (nl ?_);exact jz ((), decide (r36.1 = (2 : Int))) h [0, 4, 1, 2, 5, 6]
      ·refine cv h (fun h => ?_) (fun h => ?_)
       ·refine JC.region (fl fo26_2 ?_);refine fr 2 ?_;refine lo sz22 ?_;refine mq ?_;refine ja (o_litB (t := (.int .i64)) [(.tmp 94, _)] [y7.2.2.2.2.2.2] rfl rfl sl22 (.cons rfl .int .nil) rfl rfl) ?_;obtain ⟨u39, eu39, h⟩ := b_bind h;refine fr 4 ?_;refine JO.s1x rfl rfl rfl (o_append rfl rfl sl22 (chkP_some eu39)) ⟨rfl, rfl, trivial⟩ fun v40 => ?_;refine fl fo26_2 ?_;refine JO.one fun o41 => ?_;refine fr 1 ?_;refine JO.n11 rfl rfl (o_store rfl sz22 o41 rfl rfl) ⟨rfl, rfl, trivial⟩ ?_;refine JO.nil (JN.blk_n (bn ?_));exact jz ((v34, v40, z8.2.2), (r36.2.1, r36.2.2.1, r36.2.2.2, y7.2.2.2.1 ++ [(x20.2.2.2, r12.1, r14.1, r15.1, r18.1)], y7.2.2.2.2.1 ++ [y7.2.2.2.2.2.2], y7.2.2.2.2.2.1)) h [2, 3, 0, 4, 1, 5]
       ·refine sr (jb (o_eql rfl) ?_);refine aq (nt ?_);refine ci h (fun h => ?_) (fun h => ?_)
        ·refine JC.region (fl fo26_3 ?_);refine fr 2 ?_;refine lo sz22 ?_;refine mq ?_;refine ja (o_litB (t := (.int .i64)) [(.tmp 102, _)] [y7.2.2.2.2.2.2] rfl rfl sl22 (.cons rfl .int .nil) rfl rfl) ?_;obtain ⟨u42, eu42, h⟩ := b_bind h;refine fr 5 ?_;refine JO.s1x rfl rfl rfl (o_append rfl rfl sl22 (chkP_some eu42)) ⟨rfl, rfl, trivial⟩ fun v43 => ?_;refine fl fo26_3 ?_;refine JO.one fun o44 => ?_;refine fr 1 ?_;refine JO.n11 rfl rfl (o_store rfl sz22 o44 rfl rfl) ⟨rfl, rfl, trivial⟩ ?_;refine JO.nil (JN.blk_n (bn ?_));exact jz ((v34, z8.2.1, v43), (r36.2.1, r36.2.2.1, r36.2.2.2, y7.2.2.2.1 ++ [(x20.2.2.2, r12.1, r14.1, r15.1, r18.1)], y7.2.2.2.2.1, y7.2.2.2.2.2.1 ++ [y7.2.2.2.2.2.2])) h [2, 3, 0, 4, 5, 1]
        ·refine JC.drawW ?_;refine DW.t00 rfl rfl rfl (o_field_obj rfl fo26_2) ⟨rfl, trivial⟩ ?_;refine DW.t11 2 rfl rfl rfl rfl (o_load_obj rfl sz22 nfs rfl) ⟨rfl, trivial⟩ ?_;refine DW.t00 rfl rfl rfl (o_move rfl) ⟨rfl, trivial⟩ ?_;refine DW.t00 rfl rfl rfl (o_litB (t := (.int .i64)) [(.tmp 77, _)] [y7.2.2.2.2.2.2] rfl rfl sl22 (.cons rfl .int .nil) rfl rfl) ⟨rfl, trivial⟩ ?_;obtain ⟨u45, eu45, h⟩ := b_bind h;refine DW.tTurn 4 rfl (fun v => [.sl v 3 (.int .i64) (y7.2.2.2.2.1 ++ [y7.2.2.2.2.2.2])]) (fun _ => rfl) rfl rfl rfl (o_append rfl rfl sl22 (chkP_some eu45)) ⟨rfl, rfl, trivial⟩ ?_;refine DW.t00 rfl rfl rfl (o_field_obj rfl fo26_3) ⟨rfl, trivial⟩ ?_;refine DW.t11 2 rfl rfl rfl rfl (o_load_obj rfl sz22 nfs rfl) ⟨rfl, trivial⟩ ?_;refine DW.t00 rfl rfl rfl (o_move rfl) ⟨rfl, trivial⟩ ?_;refine DW.t00 rfl rfl rfl (o_litB (t := (.int .i64)) [(.tmp 82, _)] [y7.2.2.2.2.2.2] rfl rfl sl22 (.cons rfl .int .nil) rfl rfl) ⟨rfl, trivial⟩ ?_;obtain ⟨u47, eu47, h⟩ := b_bind h;refine DW.tTurn 5 rfl (fun v => [.sl v 3 (.int .i64) (y7.2.2.2.2.2.1 ++ [y7.2.2.2.2.2.2])]) (fun _ => rfl) rfl rfl rfl (o_append rfl rfl sl22 (chkP_some eu47)) ⟨rfl, rfl, trivial⟩ ?_;refine DW.t00 rfl rfl rfl (o_field_obj rfl fo26_2) ⟨rfl, trivial⟩ ?_;refine DW.fin 11 [true, true, true, true, true, true, true, true, true, true, true] [86] [] [] rfl (by kernel_rfl) (by kernel_rfl) (by kernel_rfl) mixed (fun vs hv hB => ?_);obtain ⟨w0, vs1, rfl, hv1⟩ := len_cons hv;obtain ⟨w1, vs2, rfl, hv2⟩ := len_cons hv1;obtain ⟨w2, vs3, rfl, hv3⟩ := len_cons hv2;obtain ⟨w3, vs4, rfl, hv4⟩ := len_cons hv3;obtain ⟨v46, vs5, rfl, hv5⟩ := len_cons hv4;obtain ⟨w5, vs6, rfl, hv6⟩ := len_cons hv5;obtain ⟨w6, vs7, rfl, hv7⟩ := len_cons hv6;obtain ⟨w7, vs8, rfl, hv8⟩ := len_cons hv7;obtain ⟨w8, vs9, rfl, hv9⟩ := len_cons hv8;obtain ⟨v48, vs10, rfl, hv10⟩ := len_cons hv9;obtain ⟨w10, vs11, rfl, hv11⟩ := len_cons hv10;obtain rfl := len_nil hv11;refine ⟨[0, 1, 2, 3, 4, 5], [.obj b_a0 82 (.agg (.pair (Ri r36.2.1) (.pair (I r36.2.2.1) (.eq (.int .u64 r36.2.2.2))))), .obj b1 26 N4, .obj b2 26 (.agg (.pair (.eq v34) (.pair (.eq (.slice none 0 0)) (.pair (.eq z8.2.1) (.eq z8.2.2))))), .sl v34 43 tThing (y7.2.2.2.1 ++ [(x20.2.2.2, r12.1, r14.1, r15.1, r18.1)]), .sl v46 3 (.int .i64) (y7.2.2.2.2.1 ++ [y7.2.2.2.2.2.2]), .sl v48 3 (.int .i64) (y7.2.2.2.2.2.1 ++ [y7.2.2.2.2.2.2])], by kernel_rfl, by decide, ?_⟩;refine JT.front 4 rfl ?_;refine JT.one fun o49 => ?_;refine JT.front 3 rfl ?_;refine JT.n11 rfl rfl (o_store rfl sz22 o49 rfl rfl) ⟨rfl, rfl, trivial⟩ (by kernel_rfl) ?_;refine JT.y00 rfl rfl rfl rfl (o_field_obj rfl fo26_3) ⟨rfl, trivial⟩ (by kernel_rfl) ?_;refine JT.front 5 rfl ?_;refine JT.one fun o50 => ?_;refine JT.front 1 rfl ?_;refine JT.n11 rfl rfl (o_store rfl sz22 o50 rfl rfl) ⟨rfl, rfl, trivial⟩ (by kernel_rfl) ?_;refine JT.nil ?_;refine JN.se (SE.fin (Γ' := [(0, Pt b_a0), (2, Pt b1), (3, Pt b2), (4, I r3.1), (5, .eq (.bool r4.1)), (6, I y7.2.2.2.2.2.2)]) (Δ' := [.obj b2 26 (.agg (.pair (.eq v34) (.pair (.eq (.slice none 0 0)) (.pair (.eq v46) (.eq v48))))), .sl v48 3 (.int .i64) (y7.2.2.2.2.2.1 ++ [y7.2.2.2.2.2.2]), .sl v46 3 (.int .i64) (y7.2.2.2.2.1 ++ [y7.2.2.2.2.2.2]), .obj b_a0 82 (.agg (.pair (Ri r36.2.1) (.pair (I r36.2.2.1) (.eq (.int .u64 r36.2.2.2))))), .obj b1 26 N4, .sl v34 43 tThing (y7.2.2.2.1 ++ [(x20.2.2.2, r12.1, r14.1, r15.1, r18.1)])]) [0, 1, 2, 3, 4, 5] ⟨rfl, rfl, rfl, rfl, rfl, rfl, trivial⟩ rfl) ?_;refine JN.blk_n (bn ?_);exact jz ((v34, v46, v48), (r36.2.1, r36.2.2.1, r36.2.2.2, y7.2.2.2.1 ++ [(x20.2.2.2, r12.1, r14.1, r15.1, r18.1)], y7.2.2.2.2.1 ++ [y7.2.2.2.2.2.2], y7.2.2.2.2.2.1 ++ [y7.2.2.2.2.2.2])) h [3, 4, 0, 5, 2, 1]
   ·refine JC.region (mq ?_);obtain ⟨x51, ex51, h⟩ := b_bind h;refine jb (o_add rfl ex51) ?_;refine aq (nl ?_);exact jz ((z10.1, z10.2.1, z10.2.2), (x9.1, x9.2.1, x9.2.2.1, x9.2.2.2.1, x9.2.2.2.2.1, x9.2.2.2.2.2, x51)) h [0, 1, 2, 3, 4, 5]
  ·refine xa ?_;exact jz ((z8.1, z8.2.1, z8.2.2), (y7.1, y7.2.1, y7.2.2.1, y7.2.2.2.1, y7.2.2.2.2.1, y7.2.2.2.2.2.1)) h [0, 1, 2, 3, 4, 5]
 ·
  refine JC.cutB (Z := Value) (α := (List Int) × Int × Int × (List dDresser)) (fun z53 x52 => [(0, Pt b_a0), (2, Pt b1), (3, Pt b2)]) (fun z53 x52 => [.obj b_a0 82 (.agg (.pair (Ri x52.1) (.pair (I x52.2.1) (.eq (.int .u64 x52.2.2.1))))), .obj b1 26 N4, .obj b2 26 (.agg (.pair (.eq z6.1) (.pair (.eq z53) (.pair (.eq z6.2.1) (.eq z6.2.2))))), .sl z6.1 43 tThing x5.2.2.2.1, .sl z53 38 tDresser x52.2.2.2, .sl z6.2.1 3 (.int .i64) x5.2.2.2.2.1, .sl z6.2.2 3 (.int .i64) x5.2.2.2.2.2]) h (fun K h => ?_) (fun z53 x52 h => ?_)
  ·refine sr (mq ?_);obtain ⟨r54, er54, h⟩ := b_bind h;refine kc (o_call [.tmp 106, .const (.int .i64 (1)), .const (.int .i64 (3))] rfl rfl en29 rfl (kit_Lots_In_ok k (x5.1, x5.2.1, x5.2.2.1) b_a0 (1 : Int) (3 : Int) r54 er54)) ?_;refine aq (nt (JC.block ?_));refine JC.se (SE.nil 38 tDresser) ?_;refine JC.loopB (Z := Value) (α := (List Int) × Int × Int × (List dDresser) × Int) (fun z56 y55 => [(0, Pt b_a0), (2, Pt b1), (3, Pt b2), (4, I r3.1), (9, I y55.2.2.2.2)]) (fun z56 y55 => [.obj b_a0 82 (.agg (.pair (Ri y55.1) (.pair (I y55.2.1) (.eq (.int .u64 y55.2.2.1))))), .obj b1 26 N4, .obj b2 26 (.agg (.pair (.eq z6.1) (.pair (.eq z56) (.pair (.eq z6.2.1) (.eq z6.2.2))))), .sl z6.1 43 tThing x5.2.2.2.1, .sl z56 38 tDresser y55.2.2.2.1, .sl z6.2.1 3 (.int .i64) x5.2.2.2.2.1, .sl z6.2.2 3 (.int .i64) x5.2.2.2.2.2]) (kit_ChangeOf_l3 k r3) k (.slice none 0 0) (r54.2.1, r54.2.2.1, r54.2.2.2, ([] : (List dDresser)), r54.1) (fun _ => rfl) h (SE.fin [1, 2, 3, 4, 0, 5, 6] ⟨rfl, rfl, rfl, rfl, rfl, trivial⟩ rfl) (fun n z56 y55 h => ?_);unfold kit_ChangeOf_l3 at h;refine JC.seq (sr (mq ?_));refine jb (o_gtr rfl) ?_;refine nt (ci h (fun h => ?_) (fun h => ?_))
   ·refine sk (JC.cutB (Z := Value) (α := (List Int) × Int × Int × (List dDresser)) (fun z58 x57 => [(0, Pt b_a0), (2, Pt b1), (3, Pt b2), (4, I r3.1), (9, I y55.2.2.2.2)]) (fun z58 x57 => [.obj b_a0 82 (.agg (.pair (Ri x57.1) (.pair (I x57.2.1) (.eq (.int .u64 x57.2.2.1))))), .obj b1 26 N4, .obj b2 26 (.agg (.pair (.eq z6.1) (.pair (.eq z58) (.pair (.eq z6.2.1) (.eq z6.2.2))))), .sl z6.1 43 tThing x5.2.2.2.1, .sl z58 38 tDresser x57.2.2.2, .sl z6.2.1 3 (.int .i64) x5.2.2.2.2.1, .sl z6.2.2 3 (.int .i64) x5.2.2.2.2.2]) h (fun K h => ?_) (fun z58 x57 h => ?_))
    ·refine JC.block (sr (mq ?_));refine JO.s rfl (o_litB (t := (.int .i64)) [(.const (.int .i64 (0)), _), (.const (.int .i64 (0)), _), (.const (.int .i64 (1)), _), (.const (.int .i64 (2)), _)] [(0 : Int), (0 : Int), (1 : Int), (2 : Int)] rfl rfl sl22 (.cons rfl .int (.cons rfl .int (.cons rfl .int (.cons rfl .int .nil)))) rfl rfl) ⟨rfl, rfl, rfl, rfl, trivial⟩ ?_;obtain ⟨r59, er59, h⟩ := b_bind h;refine kb (o_call [.tmp 112, .tmp 113] rfl rfl en31 rfl (kit_Lots_Of_ok k (y55.1, y55.2.1, y55.2.2.1) b_a0 [(0 : Int), (0 : Int), (1 : Int), (2 : Int)] r59 er59)) ?_;iterate 2 refine mq ?_
     obtain ⟨r60, er60, h⟩ := b_bind h;refine kb (o_call [.tmp 116, .const (.int .i64 (4))] rfl rfl en32 rfl (kit_Lots_Upto_ok k (r59.2.1, r59.2.2.1, r59.2.2.2) b_a0 (4 : Int) r60 er60)) ?_;refine JO.s rfl (o_litB (t := (.int .i64)) [(.const (.int .i64 (0)), _), (.const (.int .i64 (0)), _), (.const (.int .i64 (1)), _), (.tmp 117, _)] [(0 : Int), (0 : Int), (1 : Int), r60.1] rfl rfl sl22 (.cons rfl .int (.cons rfl .int (.cons rfl .int (.cons rfl .int .nil)))) rfl rfl) ⟨rfl, rfl, rfl, rfl, trivial⟩ ?_;obtain ⟨r61, er61, h⟩ := b_bind h;refine kb (o_call [.tmp 115, .tmp 118] rfl rfl en31 rfl (kit_Lots_Of_ok k (r60.2.1, r60.2.2.1, r60.2.2.2) b_a0 [(0 : Int), (0 : Int), (1 : Int), r60.1] r61 er61)) ?_;refine jb (o_buildT [(1, .tmp 114, _), (2, .tmp 119, _)] rfl pl38 za38 alb38 (stors ⟨rfl, rfl, trivial⟩) rfl) ?_;refine JO.s01 rfl rfl rfl (o_alloc rfl za38 al38) trivial fun b62 => ?_;refine JO.n11 rfl rfl (o_store rfl sz38 trivial rfl rfl) ⟨rfl, rfl, trivial⟩ ?_;refine nt (JC.cutB (Z := Value) (α := (List Int) × Int × Int × (List Int)) (fun z64 x63 => [(0, Pt b_a0), (2, Pt b1), (3, Pt b2), (4, I r3.1), (9, I y55.2.2.2.2), (10, Pt b62)]) (fun z64 x63 => [.obj b_a0 82 (.agg (.pair (Ri x63.1) (.pair (I x63.2.1) (.eq (.int .u64 x63.2.2.1))))), .obj b1 26 N4, .obj b2 26 (.agg (.pair (.eq z6.1) (.pair (.eq z56) (.pair (.eq z6.2.1) (.eq z6.2.2))))), .sl z6.1 43 tThing x5.2.2.2.1, .sl z56 38 tDresser y55.2.2.2.1, .sl z6.2.1 3 (.int .i64) x5.2.2.2.2.1, .sl z6.2.2 3 (.int .i64) x5.2.2.2.2.2, .obj b62 38 (.agg (.pair (.eq z64) (.pair (I r59.1) (I r61.1)))), .sl z64 3 (.int .i64) x63.2.2.2]) h (fun K h => ?_) (fun z64 x63 h => ?_))
     ·refine sr (cq (nt (JC.block ?_)));refine JC.se (SE.nil 3 (.int .i64)) ?_;refine JC.loopB (Z := Value) (α := (List Int) × Int × Int × (List Int) × Int) (fun z66 y65 => [(0, Pt b_a0), (2, Pt b1), (3, Pt b2), (4, I r3.1), (9, I y55.2.2.2.2), (10, Pt b62), (11, I y65.2.2.2.2)]) (fun z66 y65 => [.obj b_a0 82 (.agg (.pair (Ri y65.1) (.pair (I y65.2.1) (.eq (.int .u64 y65.2.2.1))))), .obj b1 26 N4, .obj b2 26 (.agg (.pair (.eq z6.1) (.pair (.eq z56) (.pair (.eq z6.2.1) (.eq z6.2.2))))), .sl z6.1 43 tThing x5.2.2.2.1, .sl z56 38 tDresser y55.2.2.2.1, .sl z6.2.1 3 (.int .i64) x5.2.2.2.2.1, .sl z6.2.2 3 (.int .i64) x5.2.2.2.2.2, .obj b62 38 (.agg (.pair (.eq z66) (.pair (I r59.1) (I r61.1)))), .sl z66 3 (.int .i64) y65.2.2.2.1]) (kit_ChangeOf_l4 k r3) k (.slice none 0 0) (r61.2.1, r61.2.2.1, r61.2.2.2, ([] : (List Int)), (0 : Int)) (fun _ => rfl) h (SE.fin [2, 3, 4, 5, 6, 7, 8, 1, 0] ⟨rfl, rfl, rfl, rfl, rfl, rfl, rfl, trivial⟩ rfl) (fun n z66 y65 h => ?_);unfold kit_ChangeOf_l4 at h;refine JC.seq (sr ?_);iterate 2 refine mq ?_
      refine jb (o_lss rfl) ?_;refine nt (ci h (fun h => ?_) (fun h => ?_))
      ·refine sk (JC.cutB (Z := Value) (α := (List Int) × Int × Int × (List Int)) (fun z68 x67 => [(0, Pt b_a0), (2, Pt b1), (3, Pt b2), (4, I r3.1), (9, I y55.2.2.2.2), (10, Pt b62), (11, I y65.2.2.2.2)]) (fun z68 x67 => [.obj b_a0 82 (.agg (.pair (Ri x67.1) (.pair (I x67.2.1) (.eq (.int .u64 x67.2.2.1))))), .obj b1 26 N4, .obj b2 26 (.agg (.pair (.eq z6.1) (.pair (.eq z56) (.pair (.eq z6.2.1) (.eq z6.2.2))))), .sl z6.1 43 tThing x5.2.2.2.1, .sl z56 38 tDresser y55.2.2.2.1, .sl z6.2.1 3 (.int .i64) x5.2.2.2.2.1, .sl z6.2.2 3 (.int .i64) x5.2.2.2.2.2, .obj b62 38 (.agg (.pair (.eq z68) (.pair (I r59.1) (I r61.1)))), .sl z68 3 (.int .i64) x67.2.2.2]) h (fun K h => ?_) (fun z68 x67 h => ?_))
       ·refine JC.block (sr (mq ?_));obtain ⟨r69, er69, h⟩ := b_bind h;refine kb (o_call [.tmp 126, .const (.int .i64 (4))] rfl rfl en30 rfl (kit_Lots_Rare_ok k (y65.1, y65.2.1, y65.2.2.1) b_a0 (4 : Int) r69 er69)) ?_;refine ja (o_not rfl) ?_;refine nt (cw h (fun h => ?_) (fun h => ?_))
        ·refine JC.region (fl fo38_0 ?_);refine fr 7 ?_;refine lo sz22 ?_;refine mq ?_;refine ja (o_litB (t := (.int .i64)) [(.tmp 131, _)] [y65.2.2.2.2] rfl rfl sl22 (.cons rfl .int .nil) rfl rfl) ?_;obtain ⟨u70, eu70, h⟩ := b_bind h;refine fr 8 ?_;refine JO.s1x rfl rfl rfl (o_append rfl rfl sl22 (chkP_some eu70)) ⟨rfl, rfl, trivial⟩ fun v71 => ?_;refine fl fo38_0 ?_;refine JO.one fun o72 => ?_;refine fr 1 ?_;refine JO.n11 rfl rfl (o_store rfl sz22 o72 rfl rfl) ⟨rfl, rfl, trivial⟩ ?_;refine JO.nil (bn ?_);exact jz (v71, (r69.2.1, r69.2.2.1, r69.2.2.2, y65.2.2.2.1 ++ [y65.2.2.2.2])) h [2, 3, 4, 5, 6, 7, 8, 0, 1]
        ·refine JC.skip (bn ?_);exact jz (z66, (r69.2.1, r69.2.2.1, r69.2.2.2, y65.2.2.2.1)) h [0, 1, 2, 3, 4, 5, 6, 7, 8]
       ·refine JC.region (mq ?_);obtain ⟨x73, ex73, h⟩ := b_bind h;refine jb (o_add rfl ex73) ?_;refine aq (nl ?_);exact jz (z68, (x67.1, x67.2.1, x67.2.2.1, x67.2.2.2, x73)) h [0, 1, 2, 3, 4, 5, 6, 7, 8]
      ·refine xa ?_;exact jz (z66, (y65.1, y65.2.1, y65.2.2.1, y65.2.2.2.1)) h [0, 1, 2, 3, 4, 5, 6, 7, 8]
     ·refine JC.region (fl fo26_1 ?_);refine fr 2 ?_;refine lo sz24 ?_;refine fr 7 ?_;refine fr 8 ?_;refine JO.se (SE.frzBoth (off := 0) [] trivial rfl rfl) ?_;refine lo sz38 ?_;refine ja (o_litB (t := tDresser) [(.tmp 137, _)] [(x63.2.2.2, r59.1, r61.1)] rfl rfl sl24 (.cons trivial (.agg (.pair .rep (.pair .int .int))) .nil) rfl rfl) ?_;obtain ⟨u74, eu74, h⟩ := b_bind h;refine fr 5 ?_;refine JO.s1x rfl rfl rfl (o_append rfl rfl sl24 (chkP_some eu74)) ⟨rfl, rfl, trivial⟩ fun v75 => ?_;refine fl fo26_1 ?_;refine JO.one fun o76 => ?_;refine fr 2 ?_;refine JO.n11 rfl rfl (o_store rfl sz24 o76 rfl rfl) ⟨rfl, rfl, trivial⟩ ?_;refine JO.nil (bn ?_);exact jz (v75, (x63.1, x63.2.1, x63.2.2.1, y55.2.2.2.1 ++ [(x63.2.2.2, r59.1, r61.1)])) h [3, 4, 0, 5, 1, 6, 7]
    ·refine JC.region (mq ?_);obtain ⟨x77, ex77, h⟩ := b_bind h;refine jb (o_sub rfl ex77) ?_;refine aq (nl ?_);exact jz (z58, (x57.1, x57.2.1, x57.2.2.1, x57.2.2.2, x77)) h [0, 1, 2, 3, 4, 5, 6]
   ·refine xa ?_;exact jz (z56, (y55.1, y55.2.1, y55.2.2.1, y55.2.2.2.1)) h [0, 1, 2, 3, 4, 5, 6]
  ·refine JC.cutB (Z := Unit) (α := (List dThing) × (List dDresser) × (List Int) × (List Int) × (List Int) × Int × Int) (fun z79 x78 => [(2, Pt b1), (3, Pt b2)]) (fun z79 x78 => [.obj b1 26 N4, .obj b2 26 (.agg (.pair (Rs tThing x78.1) (.pair (Rs tDresser x78.2.1) (.pair (Ri x78.2.2.1) (Ri x78.2.2.2.1))))), .obj b_a0 82 (.agg (.pair (Ri x78.2.2.2.2.1) (.pair (I x78.2.2.2.2.2.1) (.eq (.int .u64 x78.2.2.2.2.2.2)))))]) h (fun K h => ?_) (fun z79 x78 h => ?_)
   ·refine JC.block (JC.front 2 rfl ?_);refine JC.front 3 rfl ?_;refine JC.se (SE.frzBoth (off := 0) [] trivial rfl rfl) ?_;refine JC.front 3 rfl ?_;refine JC.se (SE.frzBoth (off := 1) [] trivial rfl rfl) ?_;refine JC.front 3 rfl ?_;refine JC.se (SE.frzBoth (off := 2) [] trivial rfl rfl) ?_;refine JC.front 3 rfl ?_;refine JC.se (SE.frzBoth (off := 3) [] trivial rfl rfl) ?_;refine JC.loopB (Z := Unit) (α := (List Int) × Int × Int × (List dThing) × (List dDresser) × (List Int) × (List Int)) (fun z81 y80 => [(0, Pt b_a0), (2, Pt b1), (3, Pt b2)]) (fun z81 y80 => [.obj b_a0 82 (.agg (.pair (Ri y80.1) (.pair (I y80.2.1) (.eq (.int .u64 y80.2.2.1))))), .obj b1 26 N4, .obj b2 26 (Qc y80.2.2.2)]) (kit_ChangeOf_l5 k) k () (x52.1, x52.2.1, x52.2.2.1, x5.2.2.2.1, x52.2.2.2, x5.2.2.2.2.1, x5.2.2.2.2.2) (fun _ => rfl) h (SE.fin [1, 2, 0] ⟨rfl, rfl, rfl, trivial⟩ rfl) (fun n z81 y80 h => ?_);unfold kit_ChangeOf_l5 at h;refine JC.seq (sr (fr 2 ?_));refine lo sz26 ?_;obtain ⟨r82, er82, h⟩ := b_bind h;refine ja (OpT.need (N := [(.tmp 141, .agg (.pair (Rs tThing y80.2.2.2.1) (.pair (Rs tDresser y80.2.2.2.2.1) (.pair (Ri y80.2.2.2.2.2.1) (Ri y80.2.2.2.2.2.2)))))]) (o_call [.tmp 141] rfl rfl en33 rfl (kit_TasksOf_ok k (y80.2.2.2.1, y80.2.2.2.2.1, y80.2.2.2.2.2.1, y80.2.2.2.2.2.2) r82 er82)) fun _ _ _ hn => ⟨(ent_holds (t := tChange) (x := (y80.2.2.2.1, y80.2.2.2.2.1, y80.2.2.2.2.2.1, y80.2.2.2.2.2.2)) (.agg (.pair .rep (.pair .rep (.pair .rep .rep)))) trivial rfl hn.1), trivial⟩) ?_;refine ol U45 ?_;refine jb (o_gtr rfl) ?_;refine nt (ci h (fun h => ?_) (fun h => ?_))
    ·refine sk (JC.block (JC.cutB (Z := Unit) (α := (List Int) × Int × Int × Bool) (fun z84 x83 => [(0, Pt b_a0), (2, Pt b1), (3, Pt b2), (152, .eq (.bool x83.2.2.2))]) (fun z84 x83 => [.obj b_a0 82 (.agg (.pair (Ri x83.1) (.pair (I x83.2.1) (.eq (.int .u64 x83.2.2.1))))), .obj b1 26 N4, .obj b2 26 (Qc y80.2.2.2)]) h (fun K h => ?_) (fun z84 x83 h => ?_)))
     ·refine JC.region (fl fo26_3 ?_);refine lo sz22 ?_;refine ol U22 ?_;refine jb (o_gtr rfl) ?_;refine mq ?_;refine JO.bool (s := 149) rfl (fun hb => ?_) (fun hb => ?_)
      ·replace h := b_if (d_t hb) h;refine gm ?_;obtain ⟨r85, er85, h⟩ := b_bind h;refine fr 1 ?_;refine JO.g11 rfl rfl rfl rfl rfl rfl (o_call [.tmp 150, .const (.int .i64 (2))] rfl rfl en30 rfl (kit_Lots_Rare_ok k (y80.1, y80.2.1, y80.2.2.1) b_a0 (2 : Int) r85 er85)) ⟨rfl, rfl, trivial⟩ ?_;refine pt (nl ?_);exact jz ((), (r85.2.1, r85.2.2.1, r85.2.2.2, r85.1)) h [0, 2, 1]
      ·replace h := b_ifn (d_f hb) h;iterate 2 refine gn ?_
       refine pf (nl ?_);exact jz ((), (y80.1, y80.2.1, y80.2.2.1, false)) h [1, 2, 0]
     ·refine cv h (fun h => ?_) (fun h => ?_)
      ·refine JC.region (fl fo26_3 ?_);refine fr 2 ?_;refine lo sz22 ?_;refine fl fo26_3 ?_;refine lo sz22 ?_;refine ol U22 ?_;obtain ⟨x86, ex86, h⟩ := b_bind h;refine jb (o_sub rfl ex86) ?_;obtain ⟨u87, eu87, h⟩ := b_bind h;refine jb (o_slice_h (t := (.int .i64)) rfl U22 sz3 (chkP_some eu87).1 (chkP_some eu87).2) ?_;refine fl fo26_3 ?_;refine JO.n11 rfl rfl (o_store rfl sz22 rfl rfl rfl) ⟨rfl, rfl, trivial⟩ ?_;refine JO.nil (bn ?_);exact jz ((), (x83.1, x83.2.1, x83.2.2.1, y80.2.2.2.1, y80.2.2.2.2.1, y80.2.2.2.2.2.1, List.take (Int.toNat x86) y80.2.2.2.2.2.2)) h [1, 2, 0]
      ·refine sr (fl fo26_2 ?_);refine fr 2 ?_;refine lo sz22 ?_;refine ol U22 ?_;refine jb (o_gtr rfl) ?_;refine nt (ci h (fun h => ?_) (fun h => ?_))
       ·refine JC.region (fl fo26_2 ?_);refine lo sz22 ?_;refine fl fo26_2 ?_;refine lo sz22 ?_;refine ol U22 ?_;obtain ⟨x88, ex88, h⟩ := b_bind h;refine jb (o_sub rfl ex88) ?_;obtain ⟨u89, eu89, h⟩ := b_bind h;refine jb (o_slice_h (t := (.int .i64)) rfl U22 sz3 (chkP_some eu89).1 (chkP_some eu89).2) ?_;refine fl fo26_2 ?_;refine JO.n11 rfl rfl (o_store rfl sz22 rfl rfl rfl) ⟨rfl, rfl, trivial⟩ ?_;refine JO.nil (bn ?_);exact jz ((), (x83.1, x83.2.1, x83.2.2.1, y80.2.2.2.1, y80.2.2.2.2.1, List.take (Int.toNat x88) y80.2.2.2.2.2.1, y80.2.2.2.2.2.2)) h [1, 2, 0]
       ·refine JC.region (fl fo26_3 ?_);refine JO.n11 rfl rfl (o_store rfl sz22 rfl rfl rfl) ⟨rfl, rfl, trivial⟩ ?_;refine JO.nil (bn (JN.se (SE.objE (a := .agg (.pair (Rs tThing y80.2.2.2.1) (.pair (Rs tDresser y80.2.2.2.2.1) (.pair (Ri y80.2.2.2.2.2.1) (.eq (.slice none 0 0)))))) (a' := .agg (.pair (Rs tThing y80.2.2.2.1) (.pair (Rs tDresser y80.2.2.2.2.1) (.pair (Ri y80.2.2.2.2.2.1) (Ri []))))) (AE.agg (AE.pair AE.rfl (AE.pair AE.rfl (AE.pair AE.rfl (AE.ent .nil)))))) ?_));exact jz ((), (x83.1, x83.2.1, x83.2.2.1, y80.2.2.2.1, y80.2.2.2.2.1, y80.2.2.2.2.2.1, [])) h [1, 2, 0]
    ·refine xa ?_;exact jz ((), (y80.2.2.2.1, y80.2.2.2.2.1, y80.2.2.2.2.2.1, y80.2.2.2.2.2.2, y80.1, y80.2.1, y80.2.2.1)) h [2, 0, 1]
   ·refine sr (fr 1 ?_);refine lo sz26 ?_;refine fr 1 ?_;refine JO.n11 rfl rfl (o_store rfl sz26 trivial rfl rfl) ⟨rfl, rfl, trivial⟩ ?_;refine nt (JC.ret (JN.se (SE.objE (a := .agg (.pair (Rs tThing x78.1) (.pair (Rs tDresser x78.2.1) (.pair (Ri x78.2.2.1) (Ri x78.2.2.2.1))))) (a' := .rep tChange (x78.1, x78.2.1, x78.2.2.1, x78.2.2.2.1)) (AE.ent (.agg (.pair .rep (.pair .rep (.pair .rep .rep)))))) ?_));refine JN.se (SE.fin (Γ' := [(2, _)]) [2, 0, 1] ⟨rfl, trivial⟩ rfl) ?_;cases h;exact JN.ret () [.rep tChange (x78.1, x78.2.1, x78.2.2.1, x78.2.2.2.1)] 1 ⟨⟨_, _, _, _, _, rfl, (.tail _ (.head _)), sz26, (nfn), rfl⟩, trivial⟩ rfl


def kit_NewLots (k : Nat) (a0 : (List Int)) : Option dLots :=
 some (a0, (0 : Int), (1 : Int))

theorem kit_NewLots_ok (k : Nat) (a0 : (List Int)) (r : dLots) (h : kit_NewLots k a0 = some r) :
 Ctr Try.prog 6 [Ri a0] [] (fun z : Nat => (resA [Pt z], [.obj z 82 (.agg (.pair (Ri r.1) (.pair (I r.2.1) (.eq (.int .u64 r.2.2)))))])) := by
 unfold kit_NewLots at h
 replace h := b_top h
 refine Ctr.of 6 Try.func6 rfl Try.ntmps6 rfl fun S w0 => ?_
 refine sr ?_
 refine cq ?_
 refine nt ?_
 refine sr ?_
 refine mq ?_
 refine jb (o_buildT [(0, .tmp 3, _), (2, .const (.int .u64 (1)), _)] rfl pl82 za82 alb82 (stors ⟨rfl, rfl, trivial⟩) rfl) ?_
 refine JO.s01 rfl rfl rfl (o_box rfl trivial) ⟨rfl, trivial⟩ fun b1 => ?_
 refine aq ?_
 refine nt ?_
 refine JC.ret ?_
 cases h
 exact JN.ret b1 [Pt b1] 1 ⟨rfl, trivial⟩ rfl


def chg_of_l1 (k : Nat) (a0 : (List Int)) : Nat → (Int × Int) → Option Int
 | 0, _ => none
 | n + 1, y3 =>
  if y3.2 < (a0.length : Int) then ((geti a0 y3.2).bind fun x5 =>
  (chkP (0 ≤ x5)).bind fun _ =>
  (ck (y3.2 + (1 : Int))).bind fun x7 =>
  chg_of_l1 k a0 n (ior .u8 y3.1 (ishl .u8 (1 : Int) x5), x7)) else (some y3.1)
def chg_of (k : Nat) (a0 : (List Int)) : Option Int :=
 ((chg_of_l1 k a0 k ((0 : Int), (0 : Int))) : Option (Int)).bind fun x1 =>
 some x1

theorem chg_of_ok (k : Nat) (a0 : (List Int)) (r : Int) (h : chg_of k a0 = some r) :
 Ctr Try.prog 40 [Ri a0] [] (fun _ : Unit => (resA [.eq (.int .u8 r)], [])) := by
 unfold chg_of at h
 replace h := b_top h
 refine Ctr.of 18 Try.func40 rfl Try.ntmps40 rfl fun S w0 => ?_
 refine sr ?_
 refine cq ?_
 refine nt ?_
 refine sr ?_
 refine cq ?_
 refine nt ?_
 refine JC.cutB (Z := Unit) (α := Int) (fun z2 x1 => [(3, .eq (.int .u8 x1))]) (fun z2 x1 => []) h (fun K h => ?_) (fun z2 x1 h => ?_)
 ·
  refine sr (mq ?_);refine ol U22 ?_;refine JO.mc rfl ?_;refine nt (JC.block (JC.loopB (Z := Unit) (α := Int × Int) (fun z4 y3 => [(3, .eq (.int .u8 y3.1)), (6, Ri a0), (7, I (a0.length : Int)), (8, I y3.2)]) (fun z4 y3 => []) (chg_of_l1 k a0) k () ((0 : Int), (0 : Int)) (fun _ => rfl) h (SE.fin [] ⟨rfl, rfl, rfl, rfl, trivial⟩ rfl) (fun n z4 y3 h => ?_)));unfold chg_of_l1 at h;refine sr (jb (o_lss rfl) ?_);refine nt (JC.seq (ci h (fun h => ?_) (fun h => ?_)))
  ·refine sk (JC.seq (JC.block (sr ?_)));obtain ⟨x5, ex5, h⟩ := b_bind h;refine jb (o_index (t := (.int .i64)) rfl U22 sz3 ex5) ?_;refine ja (o_load_at (t := (.int .i64)) rfl sz3 rfl) ?_;refine aq (nt (JC.region ?_));iterate 2 refine mq ?_
   obtain ⟨u6, eu6, h⟩ := b_bind h;refine jb (o_shl rfl (chkP_some eu6)) ?_;refine jb (o_or rfl) ?_;refine aq (JO.nil (JN.blk_n (tn (JC.region ?_))));obtain ⟨x7, ex7, h⟩ := b_bind h;refine jb (o_add rfl ex7) ?_;refine mq (nl ?_);exact jz ((), (ior .u8 y3.1 (ishl .u8 (1 : Int) x5), x7)) h []
  ·refine xa ?_;exact jz ((), y3.1) h []
 ·
  refine sr (mq ?_);refine aq (nt (JC.ret ?_));cases h;exact ra


def chg_sized (k : Nat) (a0 : Int) (a1 : Int) : Option Int :=
 if a0 = (0 : Int) then (some (7 : Int)) else (if a1 < a0 then (some (6 : Int)) else (some (0 : Int)))

theorem chg_sized_ok (k : Nat) (a0 : Int) (a1 : Int) (r : Int) (h : chg_sized k a0 a1 = some r) :
 Ctr Try.prog 44 [I a0, I a1] [] (fun _ : Unit => (resA [I r], [])) := by
 unfold chg_sized at h
 replace h := b_top h
 refine Ctr.of 12 Try.func44 rfl Try.ntmps44 rfl fun S w0 => ?_
 refine sr ?_
 refine cq ?_
 refine nt ?_
 refine JC.seq ?_
 refine JC.block ?_
 refine sr ?_
 refine mq ?_
 refine jb (o_eql rfl) ?_
 refine aq ?_
 refine nt ?_
 refine ci h (fun h => ?_) (fun h => ?_)
 ·
  refine sr (cq (nt (JC.ret (JN.blk_r (JN.then_r ?_)))));cases h;exact ra
 ·
  refine sr ?_;iterate 2 refine mq ?_
  refine jb (o_gtr rfl) ?_;refine aq (nt ?_);refine ci h (fun h => ?_) (fun h => ?_)
  ·refine sr (cq (nt (JC.ret (JN.blk_r (JN.then_r ?_)))));cases h;exact ra
  ·refine JC.skip (JN.blk_n (tn (sr (cq (nt (JC.ret ?_))))));cases h;exact ra


def chg_outside (k : Nat) (a0 : Int) (a1 : Int) (a2 : Int) : Option Bool :=
 ((if a0 < a1 then (some true) else (some (decide (a2 < a0)))) : Option (Bool)).bind fun x1 =>
 some x1

theorem chg_outside_ok (k : Nat) (a0 : Int) (a1 : Int) (a2 : Int) (r : Bool) (h : chg_outside k a0 a1 a2 = some r) :
 Ctr Try.prog 46 [I a0, I a1, I a2] [] (fun _ : Unit => (resA [.eq (.bool r)], [])) := by
 unfold chg_outside at h
 replace h := b_top h
 refine Ctr.of 15 Try.func46 rfl Try.ntmps46 rfl fun S w0 => ?_
 refine sr ?_
 refine cq ?_
 refine nt ?_
 refine JC.cutB (Z := Unit) (α := Bool) (fun z2 x1 => [(6, .eq (.bool x1))]) (fun z2 x1 => []) h (fun K h => ?_) (fun z2 x1 h => ?_)
 ·
  refine JC.region ?_;iterate 2 refine mq ?_
  refine jb (o_lss rfl) ?_;refine mq ?_;refine JO.bool (s := 10) rfl (fun hb => ?_) (fun hb => ?_)
  ·replace h := b_if (d_t hb) h;iterate 3 refine gn ?_
   refine pt ?_;refine aq (nl ?_);exact jz ((), true) h []
  ·replace h := b_ifn (d_f hb) h;refine gm ?_;refine gm ?_;refine gb (o_gtr rfl) ?_;refine pf ?_;refine aq (nl ?_);exact jz ((), decide (a2 < a0)) h []
 ·
  refine JC.ret ?_;cases h;exact ra


def chg_checkList_l1 (k : Nat) (a0 : (List Int)) (a1 : Int) (a2 : Int) : Nat → Int → Option (Except Int Unit)
 | 0, _ => none
 | n + 1, y3 =>
  if y3 < (a0.length : Int) then ((geti a0 y3).bind fun x5 =>
  (((ck (a1 - (1 : Int))).bind fun x8 =>
  (chg_outside k x5 (0 : Int) x8).bind fun r9 =>
  if r9 = true then (some true) else (some (decide (x5 = a2)))) : Option (Bool)).bind fun x6 =>
  if x6 = true then (some (.error (3 : Int))) else (((if (0 : Int) < y3 then ((ck (y3 - (1 : Int))).bind fun x12 =>
  (geti a0 x12).bind fun x13 =>
  some (decide (x5 ≤ x13))) else (some false)) : Option (Bool)).bind fun x10 =>
  if x10 = true then (some (.error (5 : Int))) else ((ck (y3 + (1 : Int))).bind fun x14 =>
  chg_checkList_l1 k a0 a1 a2 n x14))) else (some (.ok ()))
def chg_checkList (k : Nat) (a0 : (List Int)) (a1 : Int) (a2 : Int) : Option Int :=
 bE (α := Unit) (chg_checkList_l1 k a0 a1 a2 k (0 : Int)) (some) fun _ =>
 some (0 : Int)

theorem chg_checkList_ok (k : Nat) (a0 : (List Int)) (a1 : Int) (a2 : Int) (r : Int) (h : chg_checkList k a0 a1 a2 = some r) :
 Ctr Try.prog 45 [Ri a0, I a1, I a2] [] (fun _ : Unit => (resA [I r], [])) := by
 unfold chg_checkList at h
 replace h := b_top h
 refine Ctr.of 37 Try.func45 rfl Try.ntmps45 rfl fun S w0 => ?_
 refine sr ?_
 refine cq ?_
 refine nt ?_
 refine JC.cutE (Z := Unit) (α := Unit) (fun z2 x1 => []) (fun z2 x1 => []) (fun e => e = r) h (fun e h => Option.some.inj h) (fun K hR h => ?_) (fun z2 x1 h => ?_)
 ·
  refine sr (mq ?_);refine ol U22 ?_;refine JO.mc rfl ?_;refine nt (JC.block (JC.loopB (Z := Unit) (α := Int) (fun z4 y3 => [(0, Ri a0), (1, I a1), (2, I a2), (9, Ri a0), (10, I (a0.length : Int)), (11, I y3)]) (fun z4 y3 => []) (chg_checkList_l1 k a0 a1 a2) k () (0 : Int) (fun _ => rfl) h (SE.fin [] ⟨rfl, rfl, rfl, rfl, rfl, rfl, trivial⟩ rfl) (fun n z4 y3 h => ?_)));unfold chg_checkList_l1 at h;refine sr (jb (o_lss rfl) ?_);refine nt (JC.seq (ci h (fun h => ?_) (fun h => ?_)))
  ·refine sk (JC.seq (JC.block (sr (mq ?_))));obtain ⟨x5, ex5, h⟩ := b_bind h;refine jb (o_index (t := (.int .i64)) rfl U22 sz3 ex5) ?_;refine ja (o_load_at (t := (.int .i64)) rfl sz3 rfl) ?_;refine aq ?_;refine aq (nt (JC.seq ?_));refine JC.cutB (Z := Unit) (α := Bool) (fun z7 x6 => [(0, Ri a0), (1, I a1), (2, I a2), (7, I y3), (8, I x5), (9, Ri a0), (10, I (a0.length : Int)), (11, I y3), (24, .eq (.bool x6))]) (fun z7 x6 => []) h (fun K h => ?_) (fun z7 x6 h => ?_)
   ·refine JC.region ?_;iterate 2 refine mq ?_
    obtain ⟨x8, ex8, h⟩ := b_bind h;refine jb (o_sub rfl ex8) ?_;obtain ⟨r9, er9, h⟩ := b_bind h;refine jc (o_call [.tmp 16, .const (.int .i64 (0)), .tmp 18] rfl rfl en46 rfl (chg_outside_ok k x5 (0 : Int) x8 r9 er9)) ?_;refine mq ?_;refine JO.bool (s := 20) rfl (fun hb => ?_) (fun hb => ?_)
    ·replace h := b_if (v_t hb) h;iterate 3 refine gn ?_
     refine pt (nl ?_);exact jz ((), true) h []
    ·replace h := b_ifn (v_f hb) h;refine gm ?_;refine gm ?_;refine gb (o_eql rfl) ?_;refine pf (nl ?_);exact jz ((), decide (x5 = a2)) h []
   ·refine cv h (fun h => ?_) (fun h => ?_)
    ·refine sr (cq (nt (rx (br (JN.blk_r (JN.then_r ?_))))));obtain rfl := hR _ h;exact ra
    ·refine sk (JC.cutB (Z := Unit) (α := Bool) (fun z11 x10 => [(0, Ri a0), (1, I a1), (2, I a2), (9, Ri a0), (10, I (a0.length : Int)), (11, I y3), (35, .eq (.bool x10))]) (fun z11 x10 => []) h (fun K h => ?_) (fun z11 x10 h => ?_))
     ·refine JC.region (mq ?_);refine jb (o_gtr rfl) ?_;refine mq ?_;refine JO.bool (s := 27) rfl (fun hb => ?_) (fun hb => ?_)
      ·replace h := b_if (d_t hb) h;refine gm ?_;refine gm ?_;refine gm ?_;obtain ⟨x12, ex12, h⟩ := b_bind h;refine gb (o_sub rfl ex12) ?_;obtain ⟨x13, ex13, h⟩ := b_bind h;refine gb (o_index (t := (.int .i64)) rfl U22 sz3 ex13) ?_;refine ga (o_load_at (t := (.int .i64)) rfl sz3 rfl) ?_;refine gb (o_leq rfl) ?_;refine pt (nl ?_);exact jz ((), decide (x5 ≤ x13)) h []
      ·replace h := b_ifn (d_f hb) h;iterate 7 refine gn ?_
       refine pf (nl ?_);exact jz ((), false) h []
     ·refine cv h (fun h => ?_) (fun h => ?_)
      ·refine sr (cq (nt (JC.ret (br (JN.blk_r (JN.then_r ?_))))));obtain rfl := hR _ h;exact ra
      ·refine JC.skip (JN.blk_n (tn (JC.region ?_)));obtain ⟨x14, ex14, h⟩ := b_bind h;refine jb (o_add rfl ex14) ?_;refine mq (nl ?_);exact jz ((), x14) h []
  ·refine xa ?_;exact jz ((), ()) h []
 ·
  refine sr (cq (nt (JC.ret ?_)));cases h;exact ra


def chg_set_has (k : Nat) (a0 : Int) (a1 : Int) : Option Bool :=
 (chkP (0 ≤ a1)).bind fun _ =>
 some (decide ((iand .u8 (ishr .u8 a0 a1) (1 : Int)) = (1 : Int)))

theorem chg_set_has_ok (k : Nat) (a0 : Int) (a1 : Int) (r : Bool) (h : chg_set_has k a0 a1 = some r) :
 Ctr Try.prog 49 [.eq (.int .u8 a0), I a1] [] (fun _ : Unit => (resA [.eq (.bool r)], [])) := by
 unfold chg_set_has at h
 replace h := b_top h
 refine Ctr.of 10 Try.func49 rfl Try.ntmps49 rfl fun S w0 => ?_
 refine sr ?_
 refine cq ?_
 refine nt ?_
 refine sr ?_
 iterate 2 refine mq ?_
 obtain ⟨u1, eu1, h⟩ := b_bind h
 refine jb (o_shr rfl (chkP_some eu1)) ?_
 refine jb (o_and rfl) ?_
 refine jb (o_eql rfl) ?_
 refine aq ?_
 refine nt ?_
 refine JC.ret ?_
 cases h
 exact ra


def chg_checkThings_l1 (k : Nat) (a0 : dChange) : Nat → Int → Option (Except Int Unit)
 | 0, _ => none
 | n + 1, y5 =>
  if y5 < (a0.1.length : Int) then ((geti a0.1 y5).bind fun x7 =>
  (chg_checkList k x7.1 (a0.1.length : Int) y5).bind fun r9 =>
  if ¬ (r9 = (0 : Int)) then (some (.error r9)) else ((((chg_outside k x7.2.1 (1 : Int) (4 : Int)).bind fun r12 =>
  if r12 = true then (some true) else ((chg_outside k x7.2.2.1 (1 : Int) (4 : Int)).bind fun r13 =>
  some r13)) : Option (Bool)).bind fun x10 =>
  if x10 = true then (some (.error (1 : Int))) else ((chg_outside k x7.2.2.2.1 (0 : Int) (2 : Int)).bind fun r14 =>
  if r14 = true then (some (.error (8 : Int))) else ((chg_outside k x7.2.2.2.2 (0 : Int) (30 : Int)).bind fun r15 =>
  if r15 = true then (some (.error (1 : Int))) else ((ck (y5 + (1 : Int))).bind fun x16 =>
  chg_checkThings_l1 k a0 n x16))))) else (some (.ok ()))

def chg_checkThings_l4 (k : Nat) (y24 : (List Int) × Int) (x28 : dThing) : Nat → ((List Int) × Int) → Option (List Int)
 | 0, _ => none
 | n + 1, y30 =>
  if y30.2 < (x28.1.length : Int) then ((geti x28.1 y30.2).bind fun x32 =>
  (chkP (0 ≤ y24.2 ∧ y24.2 < 4)).bind fun _ =>
  (geti y30.1 y24.2).bind fun x34 =>
  (chkP (0 ≤ x32 ∧ x32 < 4)).bind fun _ =>
  (geti y30.1 x32).bind fun x36 =>
  (chg_of k [x32]).bind fun r37 =>
  (chkP (0 ≤ y24.2 ∧ y24.2 < 4)).bind fun _ =>
  (ck (y30.2 + (1 : Int))).bind fun x39 =>
  chg_checkThings_l4 k y24 x28 n (List.set y30.1 (Int.toNat y24.2) (ior .u8 x34 (ior .u8 x36 r37)), x39)) else (some y30.1)

def chg_checkThings_l3 (k : Nat) (a0 : dChange) : Nat → ((List Int) × Int) → Option (List Int)
 | 0, _ => none
 | n + 1, y24 =>
  if y24.2 < (a0.1.length : Int) then ((((geti a0.1 y24.2).bind fun x28 =>
  chg_checkThings_l4 k y24 x28 k (y24.1, (0 : Int))) : Option ((List Int))).bind fun x26 =>
  (ck (y24.2 + (1 : Int))).bind fun x40 =>
  chg_checkThings_l3 k a0 n (x26, x40)) else (some y24.1)

def chg_checkThings_l2 (k : Nat) (a0 : dChange) : Nat → ((List Int) × Int) → Option (List Int)
 | 0, _ => none
 | n + 1, y20 =>
  if y20.2 < (a0.1.length : Int) then (((chg_checkThings_l3 k a0 k (y20.1, (0 : Int))) : Option ((List Int))).bind fun x22 =>
  (ck (y20.2 + (1 : Int))).bind fun x41 =>
  chg_checkThings_l2 k a0 n (x22, x41)) else (some y20.1)

def chg_checkThings_l5 (k : Nat) (a0 : dChange) (x18 : (List Int)) : Nat → Int → Option (Except Int Unit)
 | 0, _ => none
 | n + 1, y44 =>
  if y44 < (a0.1.length : Int) then ((chkP (0 ≤ y44 ∧ y44 < 4)).bind fun _ =>
  (geti x18 y44).bind fun x47 =>
  (chg_set_has k x47 y44).bind fun r48 =>
  if r48 = true then (some (.error (9 : Int))) else ((ck (y44 + (1 : Int))).bind fun x49 =>
  chg_checkThings_l5 k a0 x18 n x49)) else (some (.ok ()))
def chg_checkThings (k : Nat) (a0 : dChange) : Option Int :=
 (chg_sized k (a0.1.length : Int) (4 : Int)).bind fun r2 =>
 if ¬ (r2 = (0 : Int)) then (some r2) else (bE (α := Unit) (chg_checkThings_l1 k a0 k (0 : Int)) (some) fun _ =>
 ((chg_checkThings_l2 k a0 k ([(0 : Int), (0 : Int), (0 : Int), (0 : Int)], (0 : Int))) : Option ((List Int))).bind fun x18 =>
 bE (α := Unit) (chg_checkThings_l5 k a0 x18 k (0 : Int)) (some) fun _ =>
 some (0 : Int))

theorem chg_checkThings_ok (k : Nat) (a0 : dChange) (r : Int) (h : chg_checkThings k a0 = some r) :
 Ctr Try.prog 43 [.rep tChange a0] [] (fun _ : Unit => (resA [I r], [])) := by
 unfold chg_checkThings at h
 replace h := b_top h
 refine Ctr.of 103 Try.func43 rfl Try.ntmps43 rfl fun S w0 => ?_
 refine sr ?_
 refine bx fun b1 => ?_
 refine cq ?_
 refine nt ?_
 refine JC.seq ?_
 refine sr ?_
 refine fl fo26_0 ?_
 refine lo sz23 ?_
 refine ol U23 ?_
 obtain ⟨r2, er2, h⟩ := b_bind h
 have cr2 := chg_sized_ok k (a0.1.length : Int) (4 : Int) r2 er2
 refine jb (o_call [.tmp 15, .const (.int .i64 (4))] rfl rfl en44 rfl cr2) ?_
 refine aq ?_
 refine nt ?_
 refine sr ?_
 refine mq ?_
 refine jb (o_neq rfl) ?_
 refine nt ?_
 refine cn h (fun h => ?_) (fun h => ?_)
 ·
  refine sr (mq ?_);refine aq (nt (rx ?_));cases h;exact ra
 ·
  refine sk (JC.cutE (Z := Unit) (α := Unit) (fun z4 x3 => [(1, Pt b1)]) (fun z4 x3 => [.obj b1 26 (.rep tChange a0)]) (fun e => e = r) h (fun e h => Option.some.inj h) (fun K hR h => ?_) (fun z4 x3 h => ?_))
  ·refine sr (fl fo26_0 ?_);refine lo sz23 ?_;refine ol U23 ?_;refine JO.mc rfl ?_;refine nt (JC.block (JC.loopB (Z := Unit) (α := Int) (fun z6 y5 => [(1, Pt b1), (21, Rs tThing a0.1), (22, I (a0.1.length : Int)), (23, I y5)]) (fun z6 y5 => [.obj b1 26 (.rep tChange a0)]) (chg_checkThings_l1 k a0) k () (0 : Int) (fun _ => rfl) h (SE.fin [0] ⟨rfl, rfl, rfl, rfl, trivial⟩ rfl) (fun n z6 y5 h => ?_)));unfold chg_checkThings_l1 at h;refine sr (jb (o_lss rfl) ?_);refine nt (JC.seq (ci h (fun h => ?_) (fun h => ?_)))
   ·refine sk (JC.seq (JC.block (sr (mq ?_))));obtain ⟨x7, ex7, h⟩ := b_bind h;refine jb (o_index (t := tThing) rfl U23 sz43 ex7) ?_;refine ja (o_load_at (t := tThing) rfl sz43 rfl) ?_;refine JO.s01 rfl rfl rfl (o_alloc rfl za43 al43) trivial fun b8 => ?_;refine aq ?_;refine JO.n11 rfl rfl (o_store rfl sz43 rfl rfl rfl) ⟨rfl, rfl, trivial⟩ ?_;refine nt (JC.seq (sr (fl fo43_0 ?_)));refine lo sz22 ?_;refine fl fo26_0 ?_;refine fr 1 ?_;refine lo sz23 ?_;refine ol U23 ?_;refine mq ?_;obtain ⟨r9, er9, h⟩ := b_bind h;refine jc (o_call [.tmp 29, .tmp 32, .tmp 33] rfl rfl en45 rfl (chg_checkList_ok k x7.1 (a0.1.length : Int) y5 r9 er9)) ?_;refine aq (nt (sr ?_));refine mq ?_;refine jb (o_neq rfl) ?_;refine nt (cn h (fun h => ?_) (fun h => ?_))
    ·refine sr (mq ?_);refine aq (nt (rx (br (JN.blk_r (JN.then_r ?_)))));obtain rfl := hR _ h;exact ra
    ·refine sk (JC.block (JC.cutB (Z := Unit) (α := Bool) (fun z11 x10 => [(1, Pt b1), (5, Pt b8), (21, Rs tThing a0.1), (22, I (a0.1.length : Int)), (23, I y5), (38, .eq (.bool x10))]) (fun z11 x10 => [.obj b1 26 (.rep tChange a0), .obj b8 43 (.rep tThing x7)]) h (fun K h => ?_) (fun z11 x10 h => ?_)))
     ·refine JC.region (fl fo43_1 ?_);refine fr 1 ?_;refine lo sz3 ?_;obtain ⟨r12, er12, h⟩ := b_bind h;refine jc (o_call [.tmp 40, .const (.int .i64 (1)), .const (.int .i64 (4))] rfl rfl en46 rfl (chg_outside_ok k x7.2.1 (1 : Int) (4 : Int) r12 er12)) ?_;refine mq ?_;refine JO.bool (s := 42) rfl (fun hb => ?_) (fun hb => ?_)
      ·replace h := b_if (v_t hb) h;iterate 3 refine gn ?_
       refine pt ?_;refine aq (nl ?_);exact jz ((), true) h [1, 0]
      ·replace h := b_ifn (v_f hb) h;refine ga (o_field_obj rfl fo43_2) ?_;refine JO.g11 rfl rfl rfl rfl rfl rfl (o_load_obj rfl sz3 nfs rfl) ⟨rfl, trivial⟩ ?_;obtain ⟨r13, er13, h⟩ := b_bind h;refine gc (o_call [.tmp 44, .const (.int .i64 (1)), .const (.int .i64 (4))] rfl rfl en46 rfl (chg_outside_ok k x7.2.2.1 (1 : Int) (4 : Int) r13 er13)) ?_;refine pf ?_;refine aq (nl ?_);exact jz ((), r13) h [1, 0]
     ·refine cv h (fun h => ?_) (fun h => ?_)
      ·refine sr (cq (nt (JC.ret (JN.blk_r (br (JN.blk_r (JN.then_r ?_)))))));obtain rfl := hR _ h;exact ra
      ·refine sr (fl fo43_3 ?_);refine fr 1 ?_;refine lo sz3 ?_;obtain ⟨r14, er14, h⟩ := b_bind h;refine jc (o_call [.tmp 49, .const (.int .i64 (0)), .const (.int .i64 (2))] rfl rfl en46 rfl (chg_outside_ok k x7.2.2.2.1 (0 : Int) (2 : Int) r14 er14)) ?_;refine aq (nt ?_);refine cv h (fun h => ?_) (fun h => ?_)
       ·refine sr (cq (nt (JC.ret (JN.blk_r (br (JN.blk_r (JN.then_r ?_)))))));obtain rfl := hR _ h;exact ra
       ·refine sr (fl fo43_4 ?_);refine lo sz3 ?_;obtain ⟨r15, er15, h⟩ := b_bind h;refine jc (o_call [.tmp 53, .const (.int .i64 (0)), .const (.int .i64 (30))] rfl rfl en46 rfl (chg_outside_ok k x7.2.2.2.2 (0 : Int) (30 : Int) r15 er15)) ?_;refine aq (nt ?_);refine cv h (fun h => ?_) (fun h => ?_)
        ·refine sr (cq (nt (JC.ret (JN.blk_r (br (JN.blk_r (JN.then_r ?_)))))));obtain rfl := hR _ h;exact ra
        ·refine JC.skip (JN.blk_n (JN.blk_n (tn (JC.region ?_))));obtain ⟨x16, ex16, h⟩ := b_bind h;refine jb (o_add rfl ex16) ?_;refine mq (nl ?_);exact jz ((), x16) h [1]
   ·refine xa ?_;exact jz ((), ()) h [0]
  ·refine sr (JO.s01 rfl rfl rfl (o_alloc rfl za141 al141) trivial fun b17 => ?_);refine nt (JC.cutB (Z := Unit) (α := (List Int)) (fun z19 x18 => [(1, Pt b1), (7, Pt b17)]) (fun z19 x18 => [.obj b1 26 (.rep tChange a0), .obj b17 141 (.rep (.arr 4 (.int .u8)) x18)]) h (fun K h => ?_) (fun z19 x18 h => ?_))
   ·refine sr (fl fo26_0 ?_);refine fr 1 ?_;refine lo sz23 ?_;refine ol U23 ?_;refine JO.mc rfl ?_;refine nt (JC.block (JC.loopB (Z := Unit) (α := (List Int) × Int) (fun z21 y20 => [(1, Pt b1), (7, Pt b17), (58, I (a0.1.length : Int)), (59, I y20.2)]) (fun z21 y20 => [.obj b1 26 (.rep tChange a0), .obj b17 141 (.rep (.arr 4 (.int .u8)) y20.1)]) (chg_checkThings_l2 k a0) k () ([(0 : Int), (0 : Int), (0 : Int), (0 : Int)], (0 : Int)) (fun _ => rfl) h (SE.fin [0, 1] ⟨rfl, rfl, rfl, rfl, trivial⟩ rfl) (fun n z21 y20 h => ?_)));unfold chg_checkThings_l2 at h;refine sr (jb (o_lss rfl) ?_);refine nt (JC.seq (ci h (fun h => ?_) (fun h => ?_)))
    ·refine sk (JC.cutB (Z := Unit) (α := (List Int)) (fun z23 x22 => [(1, Pt b1), (7, Pt b17), (58, I (a0.1.length : Int)), (59, I y20.2)]) (fun z23 x22 => [.obj b1 26 (.rep tChange a0), .obj b17 141 (.rep (.arr 4 (.int .u8)) x22)]) h (fun K h => ?_) (fun z23 x22 h => ?_))
     ·refine JC.block (sr (fl fo26_0 ?_));refine lo sz23 ?_;refine ol U23 ?_;refine JO.mc rfl ?_;refine nt (JC.block (JC.loopB (Z := Unit) (α := (List Int) × Int) (fun z25 y24 => [(1, Pt b1), (7, Pt b17), (58, I (a0.1.length : Int)), (59, I y20.2), (62, Rs tThing a0.1), (63, I (a0.1.length : Int)), (64, I y24.2)]) (fun z25 y24 => [.obj b1 26 (.rep tChange a0), .obj b17 141 (.rep (.arr 4 (.int .u8)) y24.1)]) (chg_checkThings_l3 k a0) k () (y20.1, (0 : Int)) (fun _ => rfl) h (SE.fin [0, 1] ⟨rfl, rfl, rfl, rfl, rfl, rfl, rfl, trivial⟩ rfl) (fun n z25 y24 h => ?_)));unfold chg_checkThings_l3 at h;refine sr (jb (o_lss rfl) ?_);refine nt (JC.seq (ci h (fun h => ?_) (fun h => ?_)))
      ·refine sk (JC.cutB (Z := Unit) (α := (List Int)) (fun z27 x26 => [(1, Pt b1), (7, Pt b17), (58, I (a0.1.length : Int)), (59, I y20.2), (62, Rs tThing a0.1), (63, I (a0.1.length : Int)), (64, I y24.2)]) (fun z27 x26 => [.obj b1 26 (.rep tChange a0), .obj b17 141 (.rep (.arr 4 (.int .u8)) x26)]) h (fun K h => ?_) (fun z27 x26 h => ?_))
       ·refine JC.block (sr (mq ?_));obtain ⟨x28, ex28, h⟩ := b_bind h;refine jb (o_index (t := tThing) rfl U23 sz43 ex28) ?_;refine ja (o_load_at (t := tThing) rfl sz43 rfl) ?_;refine JO.s01 rfl rfl rfl (o_alloc rfl za43 al43) trivial fun b29 => ?_;refine aq ?_;refine JO.n11 rfl rfl (o_store rfl sz43 rfl rfl rfl) ⟨rfl, rfl, trivial⟩ ?_;refine nt (sr (fl fo43_0 ?_));refine lo sz22 ?_;refine ol U22 ?_;refine JO.mc rfl ?_;refine nt (JC.block (JC.loopB (Z := Unit) (α := (List Int) × Int) (fun z31 y30 => [(1, Pt b1), (7, Pt b17), (8, I y24.2), (58, I (a0.1.length : Int)), (59, I y20.2), (62, Rs tThing a0.1), (63, I (a0.1.length : Int)), (64, I y24.2), (70, Ri x28.1), (71, I (x28.1.length : Int)), (72, I y30.2)]) (fun z31 y30 => [.obj b1 26 (.rep tChange a0), .obj b17 141 (.rep (.arr 4 (.int .u8)) y30.1)]) (chg_checkThings_l4 k y24 x28) k () (y24.1, (0 : Int)) (fun _ => rfl) h (SE.fin [1, 2] ⟨rfl, rfl, rfl, rfl, rfl, rfl, rfl, rfl, rfl, rfl, rfl, trivial⟩ rfl) (fun n z31 y30 h => ?_)));unfold chg_checkThings_l4 at h;refine sr (jb (o_lss rfl) ?_);refine nt (JC.seq (ci h (fun h => ?_) (fun h => ?_)))
        ·refine sk (JC.seq (JC.block (sr ?_)));obtain ⟨x32, ex32, h⟩ := b_bind h;refine jb (o_index (t := (.int .i64)) rfl U22 sz3 ex32) ?_;refine ja (o_load_at (t := (.int .i64)) rfl sz3 rfl) ?_;refine aq (nt ?_);refine JC.drawN ?_;refine dm ?_;obtain ⟨u33, eu33, h⟩ := b_bind h;refine db (o_index_arr rfl U141 sz94 (chkP_some eu33).1 (chkP_some eu33).2) ?_;obtain ⟨x34, ex34, h⟩ := b_bind h;refine ea 1 (o_load_arr (t := (.int .u8)) (off := 0) (i := y24.2) (N := 4) rfl sz94 (fun _ => rfl) rfl rfl rfl rfl ex34) ?_;refine dm ?_;obtain ⟨u35, eu35, h⟩ := b_bind h;refine db (o_index_arr rfl U141 sz94 (chkP_some eu35).1 (chkP_some eu35).2) ?_;obtain ⟨x36, ex36, h⟩ := b_bind h;refine ea 1 (o_load_arr (t := (.int .u8)) (off := 0) (i := x32) (N := 4) rfl sz94 (fun _ => rfl) rfl rfl rfl rfl ex36) ?_;refine dm ?_;refine da (o_litB (t := (.int .i64)) [(.tmp 82, _)] [x32] rfl rfl sl22 (.cons rfl .int .nil) rfl rfl) ?_;obtain ⟨r37, er37, h⟩ := b_bind h;refine da (o_call [.tmp 83] rfl rfl en40 rfl (chg_of_ok k [x32] r37 er37)) ?_;refine db (o_or rfl) ?_;refine df mixed ?_;refine jb (o_or rfl) ?_;obtain ⟨u38, eu38, h⟩ := b_bind h;refine jb (o_index_arr rfl U141 sz94 (chkP_some eu38).1 (chkP_some eu38).2) ?_;refine fr 1 ?_;refine JO.n11 rfl rfl (o_store_arr (t := (.int .u8)) (off := 0) (i := y24.2) (N := 4) rfl sz94 .int rfl rfl rfl rfl (chkP_some eu38).1 (chkP_some eu38).2 rfl) ⟨rfl, rfl, trivial⟩ ?_;refine JO.nil (JN.blk_n (tn (JC.region ?_)));obtain ⟨x39, ex39, h⟩ := b_bind h;refine jb (o_add rfl ex39) ?_;refine mq (nl ?_);exact jz ((), (List.set y30.1 (Int.toNat y24.2) (ior .u8 x34 (ior .u8 x36 r37)), x39)) h [1, 0]
        ·refine JC.exit (JN.then_x (JN.then_x (JN.blk_hit (bn ?_))));exact jz ((), y30.1) h [0, 1]
       ·refine JC.region ?_;obtain ⟨x40, ex40, h⟩ := b_bind h;refine jb (o_add rfl ex40) ?_;refine mq (nl ?_);exact jz ((), (x26, x40)) h [0, 1]
      ·refine JC.exit (JN.then_x (JN.then_x (JN.blk_hit (bn ?_))));exact jz ((), y24.1) h [0, 1]
     ·refine JC.region ?_;obtain ⟨x41, ex41, h⟩ := b_bind h;refine jb (o_add rfl ex41) ?_;refine mq (nl ?_);exact jz ((), (x22, x41)) h [0, 1]
    ·refine xa ?_;exact jz ((), y20.1) h [0, 1]
   ·refine JC.cutE (Z := Unit) (α := Unit) (fun z43 x42 => []) (fun z43 x42 => []) (fun e => e = r) h (fun e h => Option.some.inj h) (fun K hR h => ?_) (fun z43 x42 h => ?_)
    ·refine sr (fl fo26_0 ?_);refine lo sz23 ?_;refine ol U23 ?_;refine JO.mc rfl ?_;refine nt (JC.block (JC.loopB (Z := Unit) (α := Int) (fun z45 y44 => [(7, Pt b17), (93, I (a0.1.length : Int)), (94, I y44)]) (fun z45 y44 => [.obj b17 141 (.rep (.arr 4 (.int .u8)) x18)]) (chg_checkThings_l5 k a0 x18) k () (0 : Int) (fun _ => rfl) h (SE.fin [1] ⟨rfl, rfl, rfl, trivial⟩ rfl) (fun n z45 y44 h => ?_)));unfold chg_checkThings_l5 at h;refine sr (jb (o_lss rfl) ?_);refine nt (JC.seq (ci h (fun h => ?_) (fun h => ?_)))
     ·refine sk (JC.seq (JC.block (sr (mq ?_))));refine aq (nt (sr ?_));refine mq ?_;obtain ⟨u46, eu46, h⟩ := b_bind h;refine jb (o_index_arr rfl U141 sz94 (chkP_some eu46).1 (chkP_some eu46).2) ?_;obtain ⟨x47, ex47, h⟩ := b_bind h;refine ka (o_load_arr (t := (.int .u8)) (off := 0) (i := y44) (N := 4) rfl sz94 (fun _ => rfl) rfl rfl rfl rfl ex47) ?_;refine mq ?_;obtain ⟨r48, er48, h⟩ := b_bind h;refine jb (o_call [.tmp 99, .tmp 100] rfl rfl en49 rfl (chg_set_has_ok k x47 y44 r48 er48)) ?_;refine nt (cv h (fun h => ?_) (fun h => ?_))
      ·refine sr (cq (nt (JC.ret (br (JN.blk_r (JN.then_r ?_))))));obtain rfl := hR _ h;exact ra
      ·refine JC.skip (JN.blk_n (tn (JC.region ?_)));obtain ⟨x49, ex49, h⟩ := b_bind h;refine jb (o_add rfl ex49) ?_;refine mq (nl ?_);exact jz ((), x49) h [0]
     ·refine xa ?_;exact jz ((), ()) h []
    ·refine sr (cq (nt (JC.ret ?_)));cases h;exact ra


def chg_Check_l1 (k : Nat) (a0 : dChange) : Nat → Int → Option (Except Int Unit)
 | 0, _ => none
 | n + 1, y6 =>
  if y6 < (a0.2.1.length : Int) then ((geti a0.2.1 y6).bind fun x8 =>
  (chg_checkList k x8.1 (a0.1.length : Int) (-1 : Int)).bind fun r10 =>
  if ¬ (r10 = (0 : Int)) then (some (.error r10)) else ((chg_outside k x8.2.1 (0 : Int) (2 : Int)).bind fun r11 =>
  if r11 = true then (some (.error (8 : Int))) else ((chg_outside k x8.2.2 (0 : Int) (9 : Int)).bind fun r12 =>
  if r12 = true then (some (.error (1 : Int))) else ((ck (y6 + (1 : Int))).bind fun x13 =>
  chg_Check_l1 k a0 n x13)))) else (some (.ok ()))
def chg_Check (k : Nat) (a0 : dChange) : Option Int :=
 (chg_checkThings k a0).bind fun r2 =>
 if ¬ (r2 = (0 : Int)) then (some r2) else ((chg_sized k (a0.2.1.length : Int) (3 : Int)).bind fun r3 =>
 if ¬ (r3 = (0 : Int)) then (some r3) else (bE (α := Unit) (chg_Check_l1 k a0 k (0 : Int)) (some) fun _ =>
 (chg_checkList k a0.2.2.1 (a0.1.length : Int) (-1 : Int)).bind fun r14 =>
 if ¬ (r14 = (0 : Int)) then (some r14) else ((chg_checkList k a0.2.2.2 (a0.1.length : Int) (-1 : Int)).bind fun r15 =>
 some r15)))

theorem chg_Check_ok (k : Nat) (a0 : dChange) (r : Int) (h : chg_Check k a0 = some r) :
 Ctr Try.prog 12 [.rep tChange a0] [] (fun _ : Unit => (resA [I r], [])) := by
 unfold chg_Check at h
 replace h := b_top h
 refine Ctr.of 59 Try.func12 rfl Try.ntmps12 rfl fun S w0 => ?_
 refine sr ?_
 refine bx fun b1 => ?_
 refine cq ?_
 refine nt ?_
 refine JC.seq ?_
 refine sr ?_
 refine lo sz26 ?_
 obtain ⟨r2, er2, h⟩ := b_bind h
 have cr2 := chg_checkThings_ok k a0 r2 er2
 refine ja (o_call [.tmp 9] rfl rfl en43 rfl cr2) ?_
 refine aq ?_
 refine nt ?_
 refine sr ?_
 refine mq ?_
 refine jb (o_neq rfl) ?_
 refine nt ?_
 refine cn h (fun h => ?_) (fun h => ?_)
 ·
  refine sr (mq ?_);refine aq (nt (rx ?_));cases h;exact ra
 ·
  refine sk (JC.seq (sr (fl fo26_1 ?_)));refine lo sz24 ?_;refine ol U24 ?_;obtain ⟨r3, er3, h⟩ := b_bind h;refine jb (o_call [.tmp 16, .const (.int .i64 (3))] rfl rfl en44 rfl (chg_sized_ok k (a0.2.1.length : Int) (3 : Int) r3 er3)) ?_;refine aq (nt (sr ?_));refine mq ?_;refine jb (o_neq rfl) ?_;refine nt (cn h (fun h => ?_) (fun h => ?_))
  ·refine sr (mq ?_);refine aq (nt (rx ?_));cases h;exact ra
  ·refine sk (JC.cutE (Z := Unit) (α := Unit) (fun z5 x4 => [(1, Pt b1)]) (fun z5 x4 => [.obj b1 26 (.rep tChange a0)]) (fun e => e = r) h (fun e h => Option.some.inj h) (fun K hR h => ?_) (fun z5 x4 h => ?_))
   ·refine sr (fl fo26_1 ?_);refine lo sz24 ?_;refine ol U24 ?_;refine JO.mc rfl ?_;refine nt (JC.block (JC.loopB (Z := Unit) (α := Int) (fun z7 y6 => [(1, Pt b1), (22, Rs tDresser a0.2.1), (23, I (a0.2.1.length : Int)), (24, I y6)]) (fun z7 y6 => [.obj b1 26 (.rep tChange a0)]) (chg_Check_l1 k a0) k () (0 : Int) (fun _ => rfl) h (SE.fin [0] ⟨rfl, rfl, rfl, rfl, trivial⟩ rfl) (fun n z7 y6 h => ?_)));unfold chg_Check_l1 at h;refine sr (jb (o_lss rfl) ?_);refine nt (JC.seq (ci h (fun h => ?_) (fun h => ?_)))
    ·refine sk (JC.seq (JC.block (sr ?_)));obtain ⟨x8, ex8, h⟩ := b_bind h;refine jb (o_index (t := tDresser) rfl U24 sz38 ex8) ?_;refine ja (o_load_at (t := tDresser) rfl sz38 rfl) ?_;refine JO.s01 rfl rfl rfl (o_alloc rfl za38 al38) trivial fun b9 => ?_;refine JO.n11 rfl rfl (o_store rfl sz38 rfl rfl rfl) ⟨rfl, rfl, trivial⟩ ?_;refine nt (JC.seq (sr (fl fo38_0 ?_)));refine lo sz22 ?_;refine fl fo26_0 ?_;refine fr 1 ?_;refine lo sz23 ?_;refine ol U23 ?_;obtain ⟨r10, er10, h⟩ := b_bind h;refine jc (o_call [.tmp 29, .tmp 32, .const (.int .i64 (-1))] rfl rfl en45 rfl (chg_checkList_ok k x8.1 (a0.1.length : Int) (-1 : Int) r10 er10)) ?_;refine aq (nt (sr ?_));refine mq ?_;refine jb (o_neq rfl) ?_;refine nt (cn h (fun h => ?_) (fun h => ?_))
     ·refine sr (mq ?_);refine aq (nt (rx (br (JN.blk_r (JN.then_r ?_)))));obtain rfl := hR _ h;exact ra
     ·refine sk (JC.seq (sr (fl fo38_1 ?_)));refine fr 1 ?_;refine lo sz3 ?_;obtain ⟨r11, er11, h⟩ := b_bind h;refine jc (o_call [.tmp 38, .const (.int .i64 (0)), .const (.int .i64 (2))] rfl rfl en46 rfl (chg_outside_ok k x8.2.1 (0 : Int) (2 : Int) r11 er11)) ?_;refine nt (cv h (fun h => ?_) (fun h => ?_))
      ·refine sr (cq (nt (rx (br (JN.blk_r (JN.then_r ?_))))));obtain rfl := hR _ h;exact ra
      ·refine sk (sr (fl fo38_2 ?_));refine lo sz3 ?_;obtain ⟨r12, er12, h⟩ := b_bind h;refine jc (o_call [.tmp 41, .const (.int .i64 (0)), .const (.int .i64 (9))] rfl rfl en46 rfl (chg_outside_ok k x8.2.2 (0 : Int) (9 : Int) r12 er12)) ?_;refine nt (cv h (fun h => ?_) (fun h => ?_))
       ·refine sr (cq (nt (JC.ret (br (JN.blk_r (JN.then_r ?_))))));obtain rfl := hR _ h;exact ra
       ·refine JC.skip (JN.blk_n (tn (JC.region ?_)));obtain ⟨x13, ex13, h⟩ := b_bind h;refine jb (o_add rfl ex13) ?_;refine mq (nl ?_);exact jz ((), x13) h [1]
    ·refine xa ?_;exact jz ((), ()) h [0]
   ·refine JC.seq (sr (fl fo26_2 ?_));refine lo sz22 ?_;refine fl fo26_0 ?_;refine lo sz23 ?_;refine ol U23 ?_;obtain ⟨r14, er14, h⟩ := b_bind h;refine jc (o_call [.tmp 45, .tmp 48, .const (.int .i64 (-1))] rfl rfl en45 rfl (chg_checkList_ok k a0.2.2.1 (a0.1.length : Int) (-1 : Int) r14 er14)) ?_;refine aq (nt (sr ?_));refine mq ?_;refine jb (o_neq rfl) ?_;refine nt (cn h (fun h => ?_) (fun h => ?_))
    ·refine sr (mq ?_);refine aq (nt (rx ?_));cases h;exact ra
    ·refine sk (sr (fl fo26_3 ?_));refine lo sz22 ?_;refine fl fo26_0 ?_;refine lo sz23 ?_;refine ol U23 ?_;obtain ⟨r15, er15, h⟩ := b_bind h;refine jc (o_call [.tmp 54, .tmp 57, .const (.int .i64 (-1))] rfl rfl en45 rfl (chg_checkList_ok k a0.2.2.2 (a0.1.length : Int) (-1 : Int) r15 er15)) ?_;refine aq (nt (JC.ret ?_));cases h;exact ra


def chg_set_list_l1 (k : Nat) (a0 : Int) : Nat → ((List Int) × Int) → Option (List Int)
 | 0, _ => none
 | n + 1, y3 =>
  if y3.2 < (8 : Int) then ((((chg_set_has k a0 y3.2).bind fun r7 =>
  if r7 = true then ((chkP (okLen (List.length y3.1 + List.length [y3.2]))).bind fun _ =>
  some (y3.1 ++ [y3.2])) else (some y3.1)) : Option ((List Int))).bind fun x5 =>
  (ck (y3.2 + (1 : Int))).bind fun x10 =>
  chg_set_list_l1 k a0 n (x5, x10)) else (some y3.1)
def chg_set_list (k : Nat) (a0 : Int) : Option (List Int) :=
 ((chg_set_list_l1 k a0 k (([] : (List Int)), (0 : Int))) : Option ((List Int))).bind fun x1 =>
 some x1

theorem chg_set_list_ok (k : Nat) (a0 : Int) (r : (List Int)) (h : chg_set_list k a0 = some r) :
 Ctr Try.prog 41 [.eq (.int .u8 a0)] [] (fun _ : Unit => (resA [Ri r], [])) := by
 unfold chg_set_list at h
 replace h := b_top h
 refine Ctr.of 17 Try.func41 rfl Try.ntmps41 rfl fun S w0 => ?_
 refine sr ?_
 refine cq ?_
 refine nt ?_
 refine sr ?_
 refine cq ?_
 refine nt ?_
 refine JC.cutB (Z := Value) (α := (List Int)) (fun z2 x1 => [(3, .eq z2)]) (fun z2 x1 => [.sl z2 3 (.int .i64) x1]) h (fun K h => ?_) (fun z2 x1 h => ?_)
 ·
  refine sr (JO.mc rfl ?_);refine nt (JC.block (JC.se (SE.nil 3 (.int .i64)) ?_));refine JC.loopB (Z := Value) (α := (List Int) × Int) (fun z4 y3 => [(0, .eq (.int .u8 a0)), (3, .eq z4), (5, I y3.2)]) (fun z4 y3 => [.sl z4 3 (.int .i64) y3.1]) (chg_set_list_l1 k a0) k (.slice none 0 0) (([] : (List Int)), (0 : Int)) (fun _ => rfl) h (SE.fin [0] ⟨rfl, rfl, rfl, trivial⟩ rfl) (fun n z4 y3 h => ?_);unfold chg_set_list_l1 at h;refine sr (jb (o_lss rfl) ?_);refine nt (JC.seq (ci h (fun h => ?_) (fun h => ?_)))
  ·refine sk (JC.cutB (Z := Value) (α := (List Int)) (fun z6 x5 => [(0, .eq (.int .u8 a0)), (3, .eq z6), (5, I y3.2)]) (fun z6 x5 => [.sl z6 3 (.int .i64) x5]) h (fun K h => ?_) (fun z6 x5 h => ?_))
   ·refine JC.block (sr (mq ?_));refine aq (nt (sr ?_));iterate 2 refine mq ?_
    obtain ⟨r7, er7, h⟩ := b_bind h;refine jb (o_call [.tmp 8, .tmp 9] rfl rfl en49 rfl (chg_set_has_ok k a0 y3.2 r7 er7)) ?_;refine nt (cv h (fun h => ?_) (fun h => ?_))
    ·refine JC.region ?_;iterate 2 refine mq ?_
     refine ja (o_litB (t := (.int .i64)) [(.tmp 12, _)] [y3.2] rfl rfl sl22 (.cons rfl .int .nil) rfl rfl) ?_;obtain ⟨u8, eu8, h⟩ := b_bind h;refine JO.s1x rfl rfl rfl (o_append rfl rfl sl22 (chkP_some eu8)) ⟨rfl, rfl, trivial⟩ fun v9 => ?_;refine aq (JO.nil (bn ?_));exact jz (v9, y3.1 ++ [y3.2]) h [0]
    ·refine JC.skip (bn ?_);exact jz (z4, y3.1) h [0]
   ·refine JC.region ?_;obtain ⟨x10, ex10, h⟩ := b_bind h;refine jb (o_add rfl ex10) ?_;refine mq (nl ?_);exact jz (z6, (x5, x10)) h [0]
  ·refine xa ?_;exact jz (z4, y3.1) h [0]
 ·
  refine sr (mq ?_);refine aq (nt (JC.ret ?_));refine JN.se (SE.frz [2, 3, 16] ⟨rfl, rfl, rfl, trivial⟩) ?_;cases h;exact ra


def chg_changed_l2 (k : Nat) (a0 : dChange) (r2 : Int) (r3 : Int) : Nat → (Int × Int) → Option Int
 | 0, _ => none
 | n + 1, y10 =>
  if y10.2 < (a0.1.length : Int) then ((((geti a0.1 y10.2).bind fun x14 =>
  (chg_set_has k y10.1 y10.2).bind fun r16 =>
  if r16 = true then ((chg_of k x14.1).bind fun r17 =>
  some (ior .u8 y10.1 (iand .u8 (iand .u8 r17 r2) r3))) else (some y10.1)) : Option (Int)).bind fun x12 =>
  (ck (y10.2 + (1 : Int))).bind fun x18 =>
  chg_changed_l2 k a0 r2 r3 n (x12, x18)) else (some y10.1)

def chg_changed_l1 (k : Nat) (a0 : dChange) (r2 : Int) (r3 : Int) : Nat → (Int × Int) → Option Int
 | 0, _ => none
 | n + 1, y6 =>
  if y6.2 < (a0.1.length : Int) then (((chg_changed_l2 k a0 r2 r3 k (y6.1, (0 : Int))) : Option (Int)).bind fun x8 =>
  (ck (y6.2 + (1 : Int))).bind fun x19 =>
  chg_changed_l1 k a0 r2 r3 n (x8, x19)) else (some y6.1)
def chg_changed (k : Nat) (a0 : dChange) : Option Int :=
 (chg_of k a0.2.2.1).bind fun r2 =>
 (chg_of k a0.2.2.2).bind fun r3 =>
 ((chg_changed_l1 k a0 r2 r3 k (ixor .u8 r2 r3, (0 : Int))) : Option (Int)).bind fun x4 =>
 some x4

theorem chg_changed_ok (k : Nat) (a0 : dChange) (r : Int) (h : chg_changed k a0 = some r) :
 Ctr Try.prog 62 [.rep tChange a0] [] (fun _ : Unit => (resA [.eq (.int .u8 r)], [])) := by
 unfold chg_changed at h
 replace h := b_top h
 refine Ctr.of 45 Try.func62 rfl Try.ntmps62 rfl fun S w0 => ?_
 refine sr ?_
 refine bx fun b1 => ?_
 refine cq ?_
 refine nt ?_
 refine JC.seq ?_
 refine JC.drawN ?_
 refine da (o_field_obj rfl fo26_2) ?_
 refine ea 0 (o_load_obj rfl sz22 nfs rfl) ?_
 obtain ⟨r2, er2, h⟩ := b_bind h
 have cr2 := chg_of_ok k a0.2.2.1 r2 er2
 refine da (o_call [.tmp 9] rfl rfl en40 rfl cr2) ?_
 refine da (o_field_obj rfl fo26_3) ?_
 refine ea 0 (o_load_obj rfl sz22 nfs rfl) ?_
 refine df mixed ?_
 obtain ⟨r3, er3, h⟩ := b_bind h
 have cr3 := chg_of_ok k a0.2.2.2 r3 er3
 refine ja (o_call [.tmp 12] rfl rfl en40 rfl cr3) ?_
 refine aq ?_
 refine aq ?_
 refine nt ?_
 refine sr ?_
 iterate 2 refine mq ?_
 refine jb (o_xor rfl) ?_
 refine aq ?_
 refine nt ?_
 refine JC.cutB (Z := Unit) (α := Int) (fun z5 x4 => [(5, .eq (.int .u8 x4))]) (fun z5 x4 => []) h (fun K h => ?_) (fun z5 x4 h => ?_)
 ·
  refine sr (fl fo26_0 ?_);refine lo sz23 ?_;refine ol U23 ?_;refine JO.mc rfl ?_;refine nt (JC.block (JC.loopB (Z := Unit) (α := Int × Int) (fun z7 y6 => [(1, Pt b1), (3, .eq (.int .u8 r2)), (4, .eq (.int .u8 r3)), (5, .eq (.int .u8 y6.1)), (19, I (a0.1.length : Int)), (20, I y6.2)]) (fun z7 y6 => [.obj b1 26 (.rep tChange a0)]) (chg_changed_l1 k a0 r2 r3) k () (ixor .u8 r2 r3, (0 : Int)) (fun _ => rfl) h (SE.fin [0] ⟨rfl, rfl, rfl, rfl, rfl, rfl, trivial⟩ rfl) (fun n z7 y6 h => ?_)));unfold chg_changed_l1 at h;refine sr (jb (o_lss rfl) ?_);refine nt (JC.seq (ci h (fun h => ?_) (fun h => ?_)))
  ·refine sk (JC.cutB (Z := Unit) (α := Int) (fun z9 x8 => [(1, Pt b1), (3, .eq (.int .u8 r2)), (4, .eq (.int .u8 r3)), (5, .eq (.int .u8 x8)), (19, I (a0.1.length : Int)), (20, I y6.2)]) (fun z9 x8 => [.obj b1 26 (.rep tChange a0)]) h (fun K h => ?_) (fun z9 x8 h => ?_))
   ·refine JC.block (sr (fl fo26_0 ?_));refine lo sz23 ?_;refine ol U23 ?_;refine JO.mc rfl ?_;refine nt (JC.block (JC.loopB (Z := Unit) (α := Int × Int) (fun z11 y10 => [(1, Pt b1), (3, .eq (.int .u8 r2)), (4, .eq (.int .u8 r3)), (5, .eq (.int .u8 y10.1)), (19, I (a0.1.length : Int)), (20, I y6.2), (23, Rs tThing a0.1), (24, I (a0.1.length : Int)), (25, I y10.2)]) (fun z11 y10 => [.obj b1 26 (.rep tChange a0)]) (chg_changed_l2 k a0 r2 r3) k () (y6.1, (0 : Int)) (fun _ => rfl) h (SE.fin [0] ⟨rfl, rfl, rfl, rfl, rfl, rfl, rfl, rfl, rfl, trivial⟩ rfl) (fun n z11 y10 h => ?_)));unfold chg_changed_l2 at h;refine sr (jb (o_lss rfl) ?_);refine nt (JC.seq (ci h (fun h => ?_) (fun h => ?_)))
    ·refine sk (JC.cutB (Z := Unit) (α := Int) (fun z13 x12 => [(1, Pt b1), (3, .eq (.int .u8 r2)), (4, .eq (.int .u8 r3)), (5, .eq (.int .u8 x12)), (19, I (a0.1.length : Int)), (20, I y6.2), (23, Rs tThing a0.1), (24, I (a0.1.length : Int)), (25, I y10.2)]) (fun z13 x12 => [.obj b1 26 (.rep tChange a0)]) h (fun K h => ?_) (fun z13 x12 h => ?_))
     ·refine JC.block (sr (mq ?_));obtain ⟨x14, ex14, h⟩ := b_bind h;refine jb (o_index (t := tThing) rfl U23 sz43 ex14) ?_;refine ja (o_load_at (t := tThing) rfl sz43 rfl) ?_;refine JO.s01 rfl rfl rfl (o_alloc rfl za43 al43) trivial fun b15 => ?_;refine aq ?_;refine JO.n11 rfl rfl (o_store rfl sz43 rfl rfl rfl) ⟨rfl, rfl, trivial⟩ ?_;refine nt (sr ?_);iterate 2 refine mq ?_
      obtain ⟨r16, er16, h⟩ := b_bind h;refine jb (o_call [.tmp 30, .tmp 31] rfl rfl en49 rfl (chg_set_has_ok k y10.1 y10.2 r16 er16)) ?_;refine nt (cv h (fun h => ?_) (fun h => ?_))
      ·refine JC.region (mq ?_);refine fl fo43_0 ?_;refine lo sz22 ?_;obtain ⟨r17, er17, h⟩ := b_bind h;refine ja (o_call [.tmp 35] rfl rfl en40 rfl (chg_of_ok k x14.1 r17 er17)) ?_;refine mq ?_;refine jb (o_and rfl) ?_;refine mq ?_;refine jb (o_and rfl) ?_;refine jb (o_or rfl) ?_;refine aq (JO.nil (bn ?_));exact jz ((), ior .u8 y10.1 (iand .u8 (iand .u8 r17 r2) r3)) h [1]
      ·refine JC.skip (bn ?_);exact jz ((), y10.1) h [1]
     ·refine JC.region ?_;obtain ⟨x18, ex18, h⟩ := b_bind h;refine jb (o_add rfl ex18) ?_;refine mq (nl ?_);exact jz ((), (x12, x18)) h [0]
    ·refine JC.exit (JN.then_x (JN.then_x (JN.blk_hit (bn ?_))));exact jz ((), y10.1) h [0]
   ·refine JC.region ?_;obtain ⟨x19, ex19, h⟩ := b_bind h;refine jb (o_add rfl ex19) ?_;refine mq (nl ?_);exact jz ((), (x8, x19)) h [0]
  ·refine xa ?_;exact jz ((), y6.1) h []
 ·
  refine sr (mq ?_);refine aq (nt (JC.ret ?_));cases h;exact ra


def chg_quick_order_1 (k : Nat) (a0 : Int) (a1 : Int) (a2 : (dChange × (List (Bool × Int)) × (List Int))) : Option (dChange × (List (Bool × Int)) × (List Int)) :=
 ((if (0 : Int) ≤ a0 then (some (decide ((0 : Int) ≤ a1))) else (some false)) : Option (Bool)).bind fun x1 =>
 if x1 = true then ((chkP (0 ≤ a1 ∧ a1 < 8)).bind fun _ =>
 (geti a2.2.2 a1).bind fun x4 =>
 (chg_of k [a0]).bind fun r5 =>
 (chkP (0 ≤ a1 ∧ a1 < 8)).bind fun _ =>
 some ((a2.1.1, a2.1.2.1, a2.1.2.2.1, a2.1.2.2.2), a2.2.1, List.set a2.2.2 (Int.toNat a1) (ior .u8 x4 r5))) else (some ((a2.1.1, a2.1.2.1, a2.1.2.2.1, a2.1.2.2.2), a2.2.1, a2.2.2))

theorem chg_quick_order_1_ok (k : Nat) (a0 : Int) (a1 : Int) (a2 : (dChange × (List (Bool × Int)) × (List Int))) (b_a2 : Nat) (m_a2 : Value) (c_a2 : Nat) (r : (dChange × (List (Bool × Int)) × (List Int))) (h : chg_quick_order_1 k a0 a1 a2 = some r) :
 Ctr Try.prog 78 [I a0, I a1, Pt c_a2] [.obj b_a2 98 (Qq a2 (.eq m_a2)), .obj c_a2 83 (Pt b_a2)] (fun _ : Unit => (resA [], [.obj b_a2 98 (Qq r (.eq m_a2)), .obj c_a2 83 (Pt b_a2)])) := by
 unfold chg_quick_order_1 at h
 replace h := b_top h
 refine Ctr.of 24 Try.func78 rfl Try.ntmps78 rfl fun S w0 => ?_
 refine JC.cutB (Z := Unit) (α := Bool) (fun z2 x1 => [(0, I a0), (1, I a1), (2, Pt c_a2), (10, .eq (.bool x1))]) (fun z2 x1 => [.obj c_a2 83 (Pt b_a2), .obj b_a2 98 (Qq a2 (.eq m_a2))]) h (fun K h => ?_) (fun z2 x1 h => ?_)
 ·
  refine JC.region (mq ?_);refine jb (o_geq rfl) ?_;refine mq ?_;refine JO.bool (s := 7) rfl (fun hb => ?_) (fun hb => ?_)
  ·replace h := b_if (d_t hb) h;refine gm ?_;refine gb (o_geq rfl) ?_;refine pt (nl ?_);exact jz ((), decide ((0 : Int) ≤ a1)) h [1, 0]
  ·replace h := b_ifn (d_f hb) h;iterate 2 refine gn ?_
   refine pf (nl ?_);exact jz ((), false) h [1, 0]
 ·
  refine cv h (fun h => ?_) (fun h => ?_)
  ·refine JC.drawN ?_;refine ea 0 (o_load_obj rfl sz83 nfs rfl) ?_;refine dm ?_;refine da (o_nil_obj rfl) ?_;refine da (o_field_obj rfl fo98_2) ?_;obtain ⟨u3, eu3, h⟩ := b_bind h;refine db (o_index_arr rfl U95 sz94 (chkP_some eu3).1 (chkP_some eu3).2) ?_;obtain ⟨x4, ex4, h⟩ := b_bind h;refine ea 1 (o_load_arr (t := (.int .u8)) (off := 5) (i := a1) (N := 8) rfl sz94 (fun _ => rfl) rfl rfl rfl rfl ex4) ?_;refine dm ?_;refine da (o_litB (t := (.int .i64)) [(.tmp 17, _)] [a0] rfl rfl sl22 (.cons rfl .int .nil) rfl rfl) ?_;obtain ⟨r5, er5, h⟩ := b_bind h;refine da (o_call [.tmp 18] rfl rfl en40 rfl (chg_of_ok k [a0] r5 er5)) ?_;refine db (o_or rfl) ?_;refine da (o_nil_obj rfl) ?_;refine da (o_field_obj rfl fo98_2) ?_;refine df mixed ?_;obtain ⟨u6, eu6, h⟩ := b_bind h;refine jb (o_index_arr rfl U95 sz94 (chkP_some eu6).1 (chkP_some eu6).2) ?_;refine fr 1 ?_;refine JO.n11 rfl rfl (o_store_arr (t := (.int .u8)) (off := 5) (i := a1) (N := 8) rfl sz94 .int rfl rfl rfl rfl (chkP_some eu6).1 (chkP_some eu6).2 rfl) ⟨rfl, rfl, trivial⟩ ?_;refine JO.nil (JN.end_n ?_);cases h;exact JN.ret () [] 2 trivial rfl
  ·refine JC.skip (JN.end_n ?_);refine JN.se (SE.fin (Γ' := []) [1, 0] trivial rfl) ?_;cases h;exact JN.ret () [] 2 trivial rfl


def chg_off_thing (k : Nat) (a0 : Int) : Option Int :=
 some a0

theorem chg_off_thing_ok (k : Nat) (a0 : Int) (r : Int) (h : chg_off_thing k a0 = some r) :
 Ctr Try.prog 47 [I a0] [] (fun _ : Unit => (resA [I r], [])) := by
 unfold chg_off_thing at h
 replace h := b_top h
 refine Ctr.of 4 Try.func47 rfl Try.ntmps47 rfl fun S w0 => ?_
 refine sr ?_
 refine cq ?_
 refine nt ?_
 refine sr ?_
 refine mq ?_
 refine aq ?_
 refine nt ?_
 refine JC.ret ?_
 cases h
 exact ra


def chg_on_thing (k : Nat) (a0 : Int) : Option Int :=
 some a0

theorem chg_on_thing_ok (k : Nat) (a0 : Int) (r : Int) (h : chg_on_thing k a0 = some r) :
 Ctr Try.prog 48 [I a0] [] (fun _ : Unit => (resA [I r], [])) := by
 unfold chg_on_thing at h
 replace h := b_top h
 refine Ctr.of 4 Try.func48 rfl Try.ntmps48 rfl fun S w0 => ?_
 refine sr ?_
 refine cq ?_
 refine nt ?_
 refine sr ?_
 refine mq ?_
 refine aq ?_
 refine nt ?_
 refine JC.ret ?_
 cases h
 exact ra


def chg_quick_number_l1 (k : Nat) (a0 : (dChange × (List (Bool × Int)) × (List Int))) (a1 : Int) (a2 : Bool) : Nat → Int → Option (Except Int Unit)
 | 0, _ => none
 | n + 1, y3 =>
  if y3 < (a0.2.1.length : Int) then (bE (α := Unit) ((geti a0.2.1 y3).bind fun x7 =>
  if ¬ (x7.1 = true) then (((if ¬ (a2 = true) then ((cond x7.1 (chg_on_thing k x7.2) (chg_off_thing k x7.2)).bind fun r10 =>
  some (decide (r10 = a1))) else (some false)) : Option (Bool)).bind fun x8 =>
  if x8 = true then (some (.error y3)) else (some (.ok ()))) else (if x7.1 = true then (((if a2 = true then ((cond x7.1 (chg_on_thing k x7.2) (chg_off_thing k x7.2)).bind fun r13 =>
  some (decide (r13 = a1))) else (some false)) : Option (Bool)).bind fun x11 =>
  if x11 = true then (some (.error y3)) else (some (.ok ()))) else (some (.ok ())))) (fun e => some (.error e)) fun _ =>
  (ck (y3 + (1 : Int))).bind fun x14 =>
  chg_quick_number_l1 k a0 a1 a2 n x14) else (some (.ok ()))
def chg_quick_number (k : Nat) (a0 : (dChange × (List (Bool × Int)) × (List Int))) (a1 : Int) (a2 : Bool) : Option Int :=
 bE (α := Unit) (chg_quick_number_l1 k a0 a1 a2 k (0 : Int)) (some) fun _ =>
 some (-1 : Int)

theorem chg_quick_number_ok (k : Nat) (a0 : (dChange × (List (Bool × Int)) × (List Int))) (b_a0 : Nat) (m_a0 : Value) (a1 : Int) (a2 : Bool) (r : Int) (h : chg_quick_number k a0 a1 a2 = some r) :
 Ctr Try.prog 79 [Pt b_a0, I a1, .eq (.bool a2)] [.obj b_a0 98 (Qq a0 (.eq m_a0))] (fun _ : Unit => (resA [I r], [.obj b_a0 98 (Qq a0 (.eq m_a0))])) := by
 unfold chg_quick_number at h
 replace h := b_top h
 refine Ctr.of 44 Try.func79 rfl Try.ntmps79 rfl fun S w0 => ?_
 refine sr ?_
 refine cq ?_
 refine nt ?_
 refine JC.cutE (Z := Unit) (α := Unit) (fun z2 x1 => []) (fun z2 x1 => [.obj b_a0 98 (Qq a0 (.eq m_a0))]) (fun e => e = r) h (fun e h => Option.some.inj h) (fun K hR h => ?_) (fun z2 x1 h => ?_)
 ·
  refine sr (mq ?_);refine ja (o_nil_obj rfl) ?_;refine fl fo98_1 ?_;refine lo sz93 ?_;refine ol U93 ?_;refine JO.mc rfl ?_;refine nt (JC.block (JC.loopB (Z := Unit) (α := Int) (fun z4 y3 => [(1, I a1), (2, .eq (.bool a2)), (12, .rep (.slice (.tag 109 111)) a0.2.1), (13, I (a0.2.1.length : Int)), (14, I y3)]) (fun z4 y3 => [.obj b_a0 98 (Qq a0 (.eq m_a0))]) (chg_quick_number_l1 k a0 a1 a2) k () (0 : Int) (fun _ => rfl) h (SE.fin [0] ⟨rfl, rfl, rfl, rfl, rfl, trivial⟩ rfl) (fun n z4 y3 h => ?_)));unfold chg_quick_number_l1 at h;refine sr (jb (o_lss rfl) ?_);refine nt (JC.seq (ci h (fun h => ?_) (fun h => ?_)))
  ·refine sk (JC.cutE (Z := Unit) (α := Unit) (fun z6 x5 => [(1, I a1), (2, .eq (.bool a2)), (12, .rep (.slice (.tag 109 111)) a0.2.1), (13, I (a0.2.1.length : Int)), (14, I y3)]) (fun z6 x5 => [.obj b_a0 98 (Qq a0 (.eq m_a0))]) (fun e => e = r) h (fun e h => hR e h) (fun K hR h => ?_) (fun z6 x5 h => ?_))
   ·refine JC.block (sr (mq ?_));obtain ⟨x7, ex7, h⟩ := b_bind h;refine jb (o_index (t := (.tag 109 111)) rfl U93 sz108 ex7) ?_;refine ja (o_load_at (t := (.tag 109 111)) rfl sz108 rfl) ?_;refine aq ?_;refine aq (nt (sr ?_));refine mq (nt (JC.block (sr ?_)));refine JO.s rfl (o_as0 rfl ta109 (by decide)) ⟨rfl, trivial⟩ ?_;refine xr ?_;refine xr ?_;refine nt (cw h (fun h => ?_) (fun h => ?_))
    ·refine JC.cutB (Z := Unit) (α := Bool) (fun z9 x8 => [(1, I a1), (2, .eq (.bool a2)), (7, I y3), (12, .rep (.slice (.tag 109 111)) a0.2.1), (13, I (a0.2.1.length : Int)), (14, I y3), (30, .eq (.bool x8))]) (fun z9 x8 => [.obj b_a0 98 (Qq a0 (.eq m_a0))]) h (fun K h => ?_) (fun z9 x8 h => ?_)
     ·refine JC.region (mq ?_);refine ja (o_not rfl) ?_;refine mq ?_;refine JO.bool (s := 25) rfl (fun hb => ?_) (fun hb => ?_)
      ·replace h := b_if (nv_t hb) h;refine gm ?_;obtain ⟨r10, er10, h⟩ := b_bind h;refine JO.g00 rfl rfl rfl rfl rfl rfl (o_invoke rfl rfl mt109_thing mt111_thing (ctr_cond (fun hb => chg_off_thing_ok k x7.2 r10 (by simpa [hb] using er10)) (fun hb => chg_on_thing_ok k x7.2 r10 (by simpa [hb] using er10)))) ⟨rfl, trivial⟩ ?_;refine gm ?_;refine gb (o_eql rfl) ?_;refine pt (nl ?_);exact jz ((), decide (r10 = a1)) h [0]
      ·replace h := b_ifn (nv_fn hb) h;iterate 4 refine gn ?_
       refine pf (nl ?_);exact jz ((), false) h [0]
     ·refine cv h (fun h => ?_) (fun h => ?_)
      ·refine sr (mq ?_);refine aq (nt (JC.ret (JN.blk_r (br (JN.blk_r (JN.then_r ?_))))));obtain rfl := hR _ h;exact JN.ret () [_] 1 ⟨rfl, trivial⟩ rfl
      ·refine JC.skip (JN.blk_n (bn ?_));exact jz ((), ()) h [0]
    ·refine sr (JO.s rfl (o_as1 rfl ta111 (by decide)) ⟨rfl, trivial⟩ ?_);refine xr ?_;refine xr ?_;refine nt (cv h (fun h => ?_) (fun h => ?_))
     ·refine JC.cutB (Z := Unit) (α := Bool) (fun z12 x11 => [(1, I a1), (2, .eq (.bool a2)), (7, I y3), (12, .rep (.slice (.tag 109 111)) a0.2.1), (13, I (a0.2.1.length : Int)), (14, I y3), (41, .eq (.bool x11))]) (fun z12 x11 => [.obj b_a0 98 (Qq a0 (.eq m_a0))]) h (fun K h => ?_) (fun z12 x11 h => ?_)
      ·refine JC.region ?_;iterate 2 refine mq ?_
       refine JO.bool (s := 36) rfl (fun hb => ?_) (fun hb => ?_)
       ·replace h := b_if (v_t hb) h;refine gm ?_;obtain ⟨r13, er13, h⟩ := b_bind h;refine JO.g00 rfl rfl rfl rfl rfl rfl (o_invoke rfl rfl mt109_thing mt111_thing (ctr_cond (fun hb => chg_off_thing_ok k x7.2 r13 (by simpa [hb] using er13)) (fun hb => chg_on_thing_ok k x7.2 r13 (by simpa [hb] using er13)))) ⟨rfl, trivial⟩ ?_;refine gm ?_;refine gb (o_eql rfl) ?_;refine pt (nl ?_);exact jz ((), decide (r13 = a1)) h [0]
       ·replace h := b_ifn (v_f hb) h;iterate 4 refine gn ?_
        refine pf (nl ?_);exact jz ((), false) h [0]
      ·refine cv h (fun h => ?_) (fun h => ?_)
       ·refine sr (mq ?_);refine aq (nt (JC.ret (JN.blk_r (br (JN.blk_r (JN.then_r ?_))))));obtain rfl := hR _ h;exact JN.ret () [_] 1 ⟨rfl, trivial⟩ rfl
       ·refine JC.skip (JN.blk_n (bn ?_));exact jz ((), ()) h [0]
     ·refine JC.skip (JN.blk_n (bn ?_));exact jz ((), ()) h [0]
   ·refine JC.region ?_;obtain ⟨x14, ex14, h⟩ := b_bind h;refine jb (o_add rfl ex14) ?_;refine mq (nl ?_);exact jz ((), x14) h [0]
  ·refine xa ?_;exact jz ((), ()) h [0]
 ·
  refine sr (cq (nt (JC.ret ?_)));cases h;exact JN.ret () [_] 1 ⟨rfl, trivial⟩ rfl


def chg_quick_order_l2 (k : Nat) (y2 : (List dThing) × (List dDresser) × (List Int) × (List Int) × (List (Bool × Int)) × (List Int) × Int) (x6 : dThing) : Nat → ((List dThing) × (List dDresser) × (List Int) × (List Int) × (List (Bool × Int)) × (List Int) × Int) → Option ((List dThing) × (List dDresser) × (List Int) × (List Int) × (List (Bool × Int)) × (List Int))
 | 0, _ => none
 | n + 1, y11 =>
  if y11.2.2.2.2.2.2 < (x6.1.length : Int) then ((geti x6.1 y11.2.2.2.2.2.2).bind fun x13 =>
  (chg_quick_number k ((y11.1, y11.2.1, y11.2.2.1, y11.2.2.2.1), y11.2.2.2.2.1, y11.2.2.2.2.2.1) x13 false).bind fun r14 =>
  (chg_quick_number k ((y11.1, y11.2.1, y11.2.2.1, y11.2.2.2.1), y11.2.2.2.2.1, y11.2.2.2.2.2.1) y2.2.2.2.2.2.2 false).bind fun r15 =>
  (chg_quick_order_1 k r14 r15 ((y11.1, y11.2.1, y11.2.2.1, y11.2.2.2.1), y11.2.2.2.2.1, y11.2.2.2.2.2.1)).bind fun r16 =>
  (chg_quick_number k ((r16.1.1, r16.1.2.1, r16.1.2.2.1, r16.1.2.2.2), r16.2.1, r16.2.2) x13 false).bind fun r17 =>
  (chg_quick_number k ((r16.1.1, r16.1.2.1, r16.1.2.2.1, r16.1.2.2.2), r16.2.1, r16.2.2) y2.2.2.2.2.2.2 true).bind fun r18 =>
  (chg_quick_order_1 k r17 r18 ((r16.1.1, r16.1.2.1, r16.1.2.2.1, r16.1.2.2.2), r16.2.1, r16.2.2)).bind fun r19 =>
  (chg_quick_number k ((r19.1.1, r19.1.2.1, r19.1.2.2.1, r19.1.2.2.2), r19.2.1, r19.2.2) y2.2.2.2.2.2.2 false).bind fun r20 =>
  (chg_quick_number k ((r19.1.1, r19.1.2.1, r19.1.2.2.1, r19.1.2.2.2), r19.2.1, r19.2.2) x13 true).bind fun r21 =>
  (chg_quick_order_1 k r20 r21 ((r19.1.1, r19.1.2.1, r19.1.2.2.1, r19.1.2.2.2), r19.2.1, r19.2.2)).bind fun r22 =>
  (chg_quick_number k ((r22.1.1, r22.1.2.1, r22.1.2.2.1, r22.1.2.2.2), r22.2.1, r22.2.2) y2.2.2.2.2.2.2 true).bind fun r23 =>
  (chg_quick_number k ((r22.1.1, r22.1.2.1, r22.1.2.2.1, r22.1.2.2.2), r22.2.1, r22.2.2) x13 true).bind fun r24 =>
  (chg_quick_order_1 k r23 r24 ((r22.1.1, r22.1.2.1, r22.1.2.2.1, r22.1.2.2.2), r22.2.1, r22.2.2)).bind fun r25 =>
  (ck (y11.2.2.2.2.2.2 + (1 : Int))).bind fun x26 =>
  chg_quick_order_l2 k y2 x6 n (r25.1.1, r25.1.2.1, r25.1.2.2.1, r25.1.2.2.2, r25.2.1, r25.2.2, x26)) else (some (y11.1, y11.2.1, y11.2.2.1, y11.2.2.2.1, y11.2.2.2.2.1, y11.2.2.2.2.2.1))

def chg_quick_order_l1 (k : Nat) (a0 : (dChange × (List (Bool × Int)) × (List Int))) : Nat → ((List dThing) × (List dDresser) × (List Int) × (List Int) × (List (Bool × Int)) × (List Int) × Int) → Option (dChange × (List (Bool × Int)) × (List Int))
 | 0, _ => none
 | n + 1, y2 =>
  if y2.2.2.2.2.2.2 < (a0.1.1.length : Int) then ((((geti a0.1.1 y2.2.2.2.2.2.2).bind fun x6 =>
  (chg_quick_number k ((y2.1, y2.2.1, y2.2.2.1, y2.2.2.2.1), y2.2.2.2.2.1, y2.2.2.2.2.2.1) y2.2.2.2.2.2.2 false).bind fun r8 =>
  (chg_quick_number k ((y2.1, y2.2.1, y2.2.2.1, y2.2.2.2.1), y2.2.2.2.2.1, y2.2.2.2.2.2.1) y2.2.2.2.2.2.2 true).bind fun r9 =>
  (chg_quick_order_1 k r8 r9 ((y2.1, y2.2.1, y2.2.2.1, y2.2.2.2.1), y2.2.2.2.2.1, y2.2.2.2.2.2.1)).bind fun r10 =>
  chg_quick_order_l2 k y2 x6 k (r10.1.1, r10.1.2.1, r10.1.2.2.1, r10.1.2.2.2, r10.2.1, r10.2.2, (0 : Int))) : Option ((List dThing) × (List dDresser) × (List Int) × (List Int) × (List (Bool × Int)) × (List Int))).bind fun x4 =>
  (ck (y2.2.2.2.2.2.2 + (1 : Int))).bind fun x27 =>
  chg_quick_order_l1 k a0 n (x4.1, x4.2.1, x4.2.2.1, x4.2.2.2.1, x4.2.2.2.2.1, x4.2.2.2.2.2, x27)) else (some ((y2.1, y2.2.1, y2.2.2.1, y2.2.2.2.1), y2.2.2.2.2.1, y2.2.2.2.2.2.1))
def chg_quick_order (k : Nat) (a0 : (dChange × (List (Bool × Int)) × (List Int))) : Option (dChange × (List (Bool × Int)) × (List Int)) :=
 chg_quick_order_l1 k a0 k (a0.1.1, a0.1.2.1, a0.1.2.2.1, a0.1.2.2.2, a0.2.1, a0.2.2, (0 : Int))

theorem chg_quick_order_ok (k : Nat) (a0 : (dChange × (List (Bool × Int)) × (List Int))) (b_a0 : Nat) (m_a0 : Value) (r : (dChange × (List (Bool × Int)) × (List Int))) (h : chg_quick_order k a0 = some r) :
 Ctr Try.prog 63 [Pt b_a0] [.obj b_a0 98 (Qq a0 (.eq m_a0))] (fun _ : Unit => (resA [], [.obj b_a0 98 (Qq r (.eq m_a0))])) := by
 unfold chg_quick_order at h
 replace h := b_top h
 refine Ctr.of 68 Try.func63 rfl Try.ntmps63 rfl fun S w0 => ?_
 refine sr ?_
 refine bx fun b1 => ?_
 refine nt ?_
 refine sr ?_
 refine ja (o_mkfn [] [.tmp 1] [] [(Pv b1)] rfl rfl rfl) ?_
 refine aq ?_
 refine nt ?_
 refine sr ?_
 refine lo sz83 ?_
 refine ja (o_nil_obj rfl) ?_
 refine fl fo98_0 ?_
 refine fl fo26_0 ?_
 refine fr 1 ?_
 refine lo sz23 ?_
 refine ol U23 ?_
 refine JO.mc rfl ?_
 refine nt ?_
 refine JC.block ?_
 refine JC.loopB (Z := Unit) (α := (List dThing) × (List dDresser) × (List Int) × (List Int) × (List (Bool × Int)) × (List Int) × Int) (fun z3 y2 => [(1, Pt b1), (2, .eq (.func (.func 78) #[] #[(Pv b1)])), (12, Rs tThing a0.1.1), (13, I (a0.1.1.length : Int)), (14, I y2.2.2.2.2.2.2)]) (fun z3 y2 => [.obj b1 83 (Pt b_a0), .obj b_a0 98 (.agg (.pair (.agg (.pair (Rs tThing y2.1) (.pair (Rs tDresser y2.2.1) (.pair (Ri y2.2.2.1) (Ri y2.2.2.2.1))))) (.pair (.rep (.slice (.tag 109 111)) y2.2.2.2.2.1) (.pair (.rep (.arr 8 (.int .u8)) y2.2.2.2.2.2.1) (.eq m_a0)))))]) (chg_quick_order_l1 k a0) k () (a0.1.1, a0.1.2.1, a0.1.2.2.1, a0.1.2.2.2, a0.2.1, a0.2.2, (0 : Int)) (fun _ => rfl) h (SE.fin [1, 0] ⟨rfl, rfl, rfl, rfl, rfl, trivial⟩ rfl) (fun n z3 y2 h => ?_)
 unfold chg_quick_order_l1 at h
 refine sr ?_
 refine jb (o_lss rfl) ?_
 refine nt ?_
 refine JC.seq ?_
 refine ci h (fun h => ?_) (fun h => ?_)
 ·
  refine sk (JC.cutB (Z := Unit) (α := (List dThing) × (List dDresser) × (List Int) × (List Int) × (List (Bool × Int)) × (List Int)) (fun z5 x4 => [(1, Pt b1), (2, .eq (.func (.func 78) #[] #[(Pv b1)])), (12, Rs tThing a0.1.1), (13, I (a0.1.1.length : Int)), (14, I y2.2.2.2.2.2.2)]) (fun z5 x4 => [.obj b1 83 (Pt b_a0), .obj b_a0 98 (.agg (.pair (.agg (.pair (Rs tThing x4.1) (.pair (Rs tDresser x4.2.1) (.pair (Ri x4.2.2.1) (Ri x4.2.2.2.1))))) (.pair (.rep (.slice (.tag 109 111)) x4.2.2.2.2.1) (.pair (.rep (.arr 8 (.int .u8)) x4.2.2.2.2.2) (.eq m_a0)))))]) h (fun K h => ?_) (fun z5 x4 h => ?_))
  ·refine JC.block (sr (mq ?_));obtain ⟨x6, ex6, h⟩ := b_bind h;refine jb (o_index (t := tThing) rfl U23 sz43 ex6) ?_;refine ja (o_load_at (t := tThing) rfl sz43 rfl) ?_;refine JO.s01 rfl rfl rfl (o_alloc rfl za43 al43) trivial fun b7 => ?_;refine aq ?_;refine JO.n11 rfl rfl (o_store rfl sz43 rfl rfl rfl) ⟨rfl, rfl, trivial⟩ ?_;refine nt (JC.seq (JC.drawN ?_));refine dm ?_;refine ea 1 (o_load_obj rfl sz83 nfs rfl) ?_;refine dm ?_;obtain ⟨r8, er8, h⟩ := b_bind h;refine ec 2 (o_call [.tmp 20, .tmp 21, .const (.bool false)] rfl rfl en79 rfl (chg_quick_number_ok k ((y2.1, y2.2.1, y2.2.2.1, y2.2.2.2.1), y2.2.2.2.2.1, y2.2.2.2.2.2.1) b_a0 m_a0 y2.2.2.2.2.2.2 false r8 er8)) ?_;refine ea 1 (o_load_obj rfl sz83 nfs rfl) ?_;refine dm ?_;obtain ⟨r9, er9, h⟩ := b_bind h;refine ec 2 (o_call [.tmp 23, .tmp 24, .const (.bool true)] rfl rfl en79 rfl (chg_quick_number_ok k ((y2.1, y2.2.1, y2.2.2.1, y2.2.2.2.1), y2.2.2.2.2.1, y2.2.2.2.2.2.1) b_a0 m_a0 y2.2.2.2.2.2.2 true r9 er9)) ?_;refine df mixed ?_;obtain ⟨r10, er10, h⟩ := b_bind h;refine fr 1 ?_;refine fr 2 ?_;refine JO.stepG (Δ := [_, _]) (F := _) (fun _ _ _ => wanted_none rfl _) rfl rfl (o_callv (fs := []) (cs := [(Pv b1)]) (ags := [I r8, I r9]) [.tmp 22, .tmp 25] rfl rfl en78 rfl (chg_quick_order_1_ok k r8 r9 ((y2.1, y2.2.1, y2.2.2.1, y2.2.2.2.1), y2.2.2.2.2.1, y2.2.2.2.2.2.1) b_a0 m_a0 b1 r10 er10)) ⟨rfl, rfl, rfl, trivial⟩ fun _ => ?_;refine nt (sr (fl fo43_0 ?_));refine fr 2 ?_;refine lo sz22 ?_;refine ol U22 ?_;refine JO.mc rfl ?_;refine nt (JC.block (JC.loopB (Z := Unit) (α := (List dThing) × (List dDresser) × (List Int) × (List Int) × (List (Bool × Int)) × (List Int) × Int) (fun z12 y11 => [(1, Pt b1), (2, .eq (.func (.func 78) #[] #[(Pv b1)])), (3, I y2.2.2.2.2.2.2), (12, Rs tThing a0.1.1), (13, I (a0.1.1.length : Int)), (14, I y2.2.2.2.2.2.2), (28, Ri x6.1), (29, I (x6.1.length : Int)), (30, I y11.2.2.2.2.2.2)]) (fun z12 y11 => [.obj b1 83 (Pt b_a0), .obj b_a0 98 (.agg (.pair (.agg (.pair (Rs tThing y11.1) (.pair (Rs tDresser y11.2.1) (.pair (Ri y11.2.2.1) (Ri y11.2.2.2.1))))) (.pair (.rep (.slice (.tag 109 111)) y11.2.2.2.2.1) (.pair (.rep (.arr 8 (.int .u8)) y11.2.2.2.2.2.1) (.eq m_a0)))))]) (chg_quick_order_l2 k y2 x6) k () (r10.1.1, r10.1.2.1, r10.1.2.2.1, r10.1.2.2.2, r10.2.1, r10.2.2, (0 : Int)) (fun _ => rfl) h (SE.fin [2, 1] ⟨rfl, rfl, rfl, rfl, rfl, rfl, rfl, rfl, rfl, trivial⟩ rfl) (fun n z12 y11 h => ?_)));unfold chg_quick_order_l2 at h;refine sr (jb (o_lss rfl) ?_);refine nt (JC.seq (ci h (fun h => ?_) (fun h => ?_)))
   ·refine sk (JC.seq (JC.block (sr ?_)));obtain ⟨x13, ex13, h⟩ := b_bind h;refine jb (o_index (t := (.int .i64)) rfl U22 sz3 ex13) ?_;refine ja (o_load_at (t := (.int .i64)) rfl sz3 rfl) ?_;refine aq (nt (JC.seq ?_));refine JC.drawN ?_;refine dm ?_;refine ea 0 (o_load_obj rfl sz83 nfs rfl) ?_;refine dm ?_;obtain ⟨r14, er14, h⟩ := b_bind h;refine ec 1 (o_call [.tmp 35, .tmp 36, .const (.bool false)] rfl rfl en79 rfl (chg_quick_number_ok k ((y11.1, y11.2.1, y11.2.2.1, y11.2.2.2.1), y11.2.2.2.2.1, y11.2.2.2.2.2.1) b_a0 m_a0 x13 false r14 er14)) ?_;refine ea 0 (o_load_obj rfl sz83 nfs rfl) ?_;refine dm ?_;obtain ⟨r15, er15, h⟩ := b_bind h;refine ec 1 (o_call [.tmp 38, .tmp 39, .const (.bool false)] rfl rfl en79 rfl (chg_quick_number_ok k ((y11.1, y11.2.1, y11.2.2.1, y11.2.2.2.1), y11.2.2.2.2.1, y11.2.2.2.2.2.1) b_a0 m_a0 y2.2.2.2.2.2.2 false r15 er15)) ?_;refine df mixed ?_;obtain ⟨r16, er16, h⟩ := b_bind h;refine fr 1 ?_;refine JO.stepG (Δ := [_, _]) (F := _) (fun _ _ _ => wanted_none rfl _) rfl rfl (o_callv (fs := []) (cs := [(Pv b1)]) (ags := [I r14, I r15]) [.tmp 37, .tmp 40] rfl rfl en78 rfl (chg_quick_order_1_ok k r14 r15 ((y11.1, y11.2.1, y11.2.2.1, y11.2.2.2.1), y11.2.2.2.2.1, y11.2.2.2.2.2.1) b_a0 m_a0 b1 r16 er16)) ⟨rfl, rfl, rfl, trivial⟩ fun _ => ?_;refine nt (JC.seq (JC.drawN ?_));refine dm ?_;refine ea 1 (o_load_obj rfl sz83 nfs rfl) ?_;refine dm ?_;obtain ⟨r17, er17, h⟩ := b_bind h;refine ec 0 (o_call [.tmp 43, .tmp 44, .const (.bool false)] rfl rfl en79 rfl (chg_quick_number_ok k ((r16.1.1, r16.1.2.1, r16.1.2.2.1, r16.1.2.2.2), r16.2.1, r16.2.2) b_a0 m_a0 x13 false r17 er17)) ?_;refine ea 1 (o_load_obj rfl sz83 nfs rfl) ?_;refine dm ?_;obtain ⟨r18, er18, h⟩ := b_bind h;refine ec 0 (o_call [.tmp 46, .tmp 47, .const (.bool true)] rfl rfl en79 rfl (chg_quick_number_ok k ((r16.1.1, r16.1.2.1, r16.1.2.2.1, r16.1.2.2.2), r16.2.1, r16.2.2) b_a0 m_a0 y2.2.2.2.2.2.2 true r18 er18)) ?_;refine df mixed ?_;obtain ⟨r19, er19, h⟩ := b_bind h;refine fr 1 ?_;refine fr 1 ?_;refine JO.stepG (Δ := [_, _]) (F := _) (fun _ _ _ => wanted_none rfl _) rfl rfl (o_callv (fs := []) (cs := [(Pv b1)]) (ags := [I r17, I r18]) [.tmp 45, .tmp 48] rfl rfl en78 rfl (chg_quick_order_1_ok k r17 r18 ((r16.1.1, r16.1.2.1, r16.1.2.2.1, r16.1.2.2.2), r16.2.1, r16.2.2) b_a0 m_a0 b1 r19 er19)) ⟨rfl, rfl, rfl, trivial⟩ fun _ => ?_;refine nt (JC.seq (JC.drawN ?_));refine dm ?_;refine ea 1 (o_load_obj rfl sz83 nfs rfl) ?_;refine dm ?_;obtain ⟨r20, er20, h⟩ := b_bind h;refine ec 0 (o_call [.tmp 51, .tmp 52, .const (.bool false)] rfl rfl en79 rfl (chg_quick_number_ok k ((r19.1.1, r19.1.2.1, r19.1.2.2.1, r19.1.2.2.2), r19.2.1, r19.2.2) b_a0 m_a0 y2.2.2.2.2.2.2 false r20 er20)) ?_;refine ea 1 (o_load_obj rfl sz83 nfs rfl) ?_;refine dm ?_;obtain ⟨r21, er21, h⟩ := b_bind h;refine ec 0 (o_call [.tmp 54, .tmp 55, .const (.bool true)] rfl rfl en79 rfl (chg_quick_number_ok k ((r19.1.1, r19.1.2.1, r19.1.2.2.1, r19.1.2.2.2), r19.2.1, r19.2.2) b_a0 m_a0 x13 true r21 er21)) ?_;refine df mixed ?_;obtain ⟨r22, er22, h⟩ := b_bind h;refine fr 1 ?_;refine fr 1 ?_;refine JO.stepG (Δ := [_, _]) (F := _) (fun _ _ _ => wanted_none rfl _) rfl rfl (o_callv (fs := []) (cs := [(Pv b1)]) (ags := [I r20, I r21]) [.tmp 53, .tmp 56] rfl rfl en78 rfl (chg_quick_order_1_ok k r20 r21 ((r19.1.1, r19.1.2.1, r19.1.2.2.1, r19.1.2.2.2), r19.2.1, r19.2.2) b_a0 m_a0 b1 r22 er22)) ⟨rfl, rfl, rfl, trivial⟩ fun _ => ?_;refine nt (JC.drawN ?_);refine dm ?_;refine ea 1 (o_load_obj rfl sz83 nfs rfl) ?_;refine dm ?_;obtain ⟨r23, er23, h⟩ := b_bind h;have cr23 := chg_quick_number_ok k ((r22.1.1, r22.1.2.1, r22.1.2.2.1, r22.1.2.2.2), r22.2.1, r22.2.2) b_a0 m_a0 y2.2.2.2.2.2.2 true r23 er23
    refine ec 0 (o_call [.tmp 59, .tmp 60, .const (.bool true)] rfl rfl en79 rfl cr23) ?_;refine ea 1 (o_load_obj rfl sz83 nfs rfl) ?_;refine dm ?_;obtain ⟨r24, er24, h⟩ := b_bind h;refine ec 0 (o_call [.tmp 62, .tmp 63, .const (.bool true)] rfl rfl en79 rfl (chg_quick_number_ok k ((r22.1.1, r22.1.2.1, r22.1.2.2.1, r22.1.2.2.2), r22.2.1, r22.2.2) b_a0 m_a0 x13 true r24 er24)) ?_;refine df mixed ?_;obtain ⟨r25, er25, h⟩ := b_bind h;refine fr 1 ?_;refine fr 1 ?_;refine JO.stepG (Δ := [_, _]) (F := _) (fun _ _ _ => wanted_none rfl _) rfl rfl (o_callv (fs := []) (cs := [(Pv b1)]) (ags := [I r23, I r24]) [.tmp 61, .tmp 64] rfl rfl en78 rfl (chg_quick_order_1_ok k r23 r24 ((r22.1.1, r22.1.2.1, r22.1.2.2.1, r22.1.2.2.2), r22.2.1, r22.2.2) b_a0 m_a0 b1 r25 er25)) ⟨rfl, rfl, rfl, trivial⟩ fun _ => ?_;refine JO.nil (JN.blk_n (tn (JC.region ?_)));obtain ⟨x26, ex26, h⟩ := b_bind h;refine jb (o_add rfl ex26) ?_;refine mq (nl ?_);exact jz ((), (r25.1.1, r25.1.2.1, r25.1.2.2.1, r25.1.2.2.2, r25.2.1, r25.2.2, x26)) h [1, 0]
   ·refine JC.exit (JN.then_x (JN.then_x (JN.blk_hit (bn ?_))));exact jz ((), (y11.1, y11.2.1, y11.2.2.1, y11.2.2.2.1, y11.2.2.2.2.1, y11.2.2.2.2.2.1)) h [0, 1]
  ·refine JC.region ?_;obtain ⟨x27, ex27, h⟩ := b_bind h;refine jb (o_add rfl ex27) ?_;refine mq (nl ?_);exact jz ((), (x4.1, x4.2.1, x4.2.2.1, x4.2.2.2.1, x4.2.2.2.2.1, x4.2.2.2.2.2, x27)) h [0, 1]
 ·
  refine JC.exit (JN.then_x (JN.then_x (JN.blk_hit (JN.end_n ?_))));refine JN.se (SE.fin (Γ' := []) [1, 0] trivial rfl) ?_;cases h;exact JN.ret () [] 1 trivial rfl


def chg_begin_l1 (k : Nat) (r9 : (List Int)) : Nat → ((List (Bool × Int)) × Int) → Option (List (Bool × Int))
 | 0, _ => none
 | n + 1, y10 =>
  if y10.2 < (r9.length : Int) then ((geti r9 y10.2).bind fun x12 =>
  (chkP (okLen (List.length y10.1 + List.length [(false, x12)]))).bind fun _ =>
  (ck (y10.2 + (1 : Int))).bind fun x16 =>
  chg_begin_l1 k r9 n (y10.1 ++ [(false, x12)], x16)) else (some y10.1)

def chg_begin_l2 (k : Nat) (r20 : (List Int)) : Nat → ((List (Bool × Int)) × Int) → Option (List (Bool × Int))
 | 0, _ => none
 | n + 1, y21 =>
  if y21.2 < (r20.length : Int) then ((geti r20 y21.2).bind fun x23 =>
  (chkP (okLen (List.length y21.1 + List.length [(true, x23)]))).bind fun _ =>
  (ck (y21.2 + (1 : Int))).bind fun x27 =>
  chg_begin_l2 k r20 n (y21.1 ++ [(true, x23)], x27)) else (some y21.1)
def chg_begin (k : Nat) (a0 : dChange) : Option ((Option (dChange × (List (Bool × Int)) × (List Int))) × Int) :=
 (chg_Check k a0).bind fun r2 =>
 if ¬ (r2 = (0 : Int)) then (some (none, r2)) else ((chg_changed k a0).bind fun r5 =>
 (((chg_of k a0.2.2.1).bind fun r8 =>
 (chg_set_list k (iand .u8 r5 r8)).bind fun r9 =>
 chg_begin_l1 k r9 k (([] : (List (Bool × Int))), (0 : Int))) : Option ((List (Bool × Int)))).bind fun x6 =>
 (((chg_of k a0.2.2.2).bind fun r19 =>
 (chg_set_list k (iand .u8 r5 r19)).bind fun r20 =>
 chg_begin_l2 k r20 k (x6, (0 : Int))) : Option ((List (Bool × Int)))).bind fun x17 =>
 if (4 : Int) < (x17.length : Int) then (some (none, (6 : Int))) else ((chg_quick_order k (a0, x17, [(0 : Int), (0 : Int), (0 : Int), (0 : Int), (0 : Int), (0 : Int), (0 : Int), (0 : Int)])).bind fun r28 =>
 some (some ((r28.1.1, r28.1.2.1, r28.1.2.2.1, r28.1.2.2.2), r28.2.1, r28.2.2), (0 : Int))))

theorem chg_begin_ok (k : Nat) (a0 : dChange) (r : (Option (dChange × (List (Bool × Int)) × (List Int))) × Int) (h : chg_begin k a0 = some r) :
 Ctr Try.prog 34 [.rep tChange a0] [] (fun z : Nat × Nat => (resA [optA r.1 z.1, I r.2], optD r.1 fun q => [.obj z.1 98 (Qq q (.eq (.map (some z.2)))), .raw z.2 (.map #[] 0)])) := by
 unfold chg_begin at h
 replace h := b_top h
 refine Ctr.of 77 Try.func34 rfl Try.ntmps34 rfl fun S w0 => ?_
 refine sr ?_
 refine bx fun b1 => ?_
 refine cq ?_
 refine cq ?_
 refine nt ?_
 refine JC.seq ?_
 refine sr ?_
 refine lo sz26 ?_
 obtain ⟨r2, er2, h⟩ := b_bind h
 have cr2 := chg_Check_ok k a0 r2 er2
 refine ja (o_call [.tmp 11] rfl rfl en12 rfl cr2) ?_
 refine aq ?_
 refine nt ?_
 refine sr ?_
 refine mq ?_
 refine jb (o_neq rfl) ?_
 refine nt ?_
 refine cn h (fun h => ?_) (fun h => ?_)
 ·
  refine sr (mq ?_);refine cq ?_;refine aq (nt (rx ?_));cases h;exact JN.ret (0, 0) [.eq (.pointer none), _] 0 ⟨rfl, rfl, trivial⟩ rfl
 ·
  refine sk (sr (lo sz26 ?_));refine JO.s01 rfl rfl rfl (o_makeMap rfl) trivial fun z3 => ?_;refine jb (o_buildT [(0, .tmp 16, _), (3, .tmp 17, _)] rfl pl98 za98 alb98 (stors ⟨rfl, rfl, trivial⟩) rfl) ?_;refine JO.s01 rfl rfl rfl (o_box rfl trivial) ⟨rfl, trivial⟩ fun b4 => ?_;refine aq (nt (sr ?_));refine fr 2 ?_;refine lo sz26 ?_;obtain ⟨r5, er5, h⟩ := b_bind h;refine ja (o_call [.tmp 20] rfl rfl en62 rfl (chg_changed_ok k a0 r5 er5)) ?_;refine aq (nt ?_);refine JC.cutB (Z := Value) (α := (List (Bool × Int))) (fun z7 x6 => [(1, Pt b1), (5, Pt b4), (6, .eq (.int .u8 r5))]) (fun z7 x6 => [.obj b1 26 (.rep tChange a0), .obj b4 98 (.agg (.pair (.rep tChange a0) (.pair (.eq z7) (.pair (.rep (.arr 8 (.int .u8)) [(0 : Int), (0 : Int), (0 : Int), (0 : Int), (0 : Int), (0 : Int), (0 : Int), (0 : Int)]) (.eq (.map (some z3))))))), .sl z7 108 (.tag 109 111) x6, .raw z3 (.map #[] 0)]) h (fun K h => ?_) (fun z7 x6 h => ?_)
  ·refine sr (mq ?_);refine fl fo26_2 ?_;refine lo sz22 ?_;obtain ⟨r8, er8, h⟩ := b_bind h;refine ja (o_call [.tmp 24] rfl rfl en40 rfl (chg_of_ok k a0.2.2.1 r8 er8)) ?_;refine jb (o_and rfl) ?_;obtain ⟨r9, er9, h⟩ := b_bind h;refine ja (o_call [.tmp 26] rfl rfl en41 rfl (chg_set_list_ok k (iand .u8 r5 r8) r9 er9)) ?_;refine ol U22 ?_;refine JO.mc rfl ?_;refine nt (JC.block (JC.se (SE.nil 108 (.tag 109 111)) ?_));refine JC.loopB (Z := Value) (α := (List (Bool × Int)) × Int) (fun z11 y10 => [(1, Pt b1), (5, Pt b4), (6, .eq (.int .u8 r5)), (27, Ri r9), (28, I (r9.length : Int)), (29, I y10.2)]) (fun z11 y10 => [.obj b1 26 (.rep tChange a0), .obj b4 98 (.agg (.pair (.rep tChange a0) (.pair (.eq z11) (.pair (.rep (.arr 8 (.int .u8)) [(0 : Int), (0 : Int), (0 : Int), (0 : Int), (0 : Int), (0 : Int), (0 : Int), (0 : Int)]) (.eq (.map (some z3))))))), .sl z11 108 (.tag 109 111) y10.1, .raw z3 (.map #[] 0)]) (chg_begin_l1 k r9) k (.slice none 0 0) (([] : (List (Bool × Int))), (0 : Int)) (fun _ => rfl) h (SE.fin [1, 2, 0, 3] ⟨rfl, rfl, rfl, rfl, rfl, rfl, trivial⟩ rfl) (fun n z11 y10 h => ?_);unfold chg_begin_l1 at h;refine sr (jb (o_lss rfl) ?_);refine nt (JC.seq (ci h (fun h => ?_) (fun h => ?_)))
   ·refine sk (JC.seq (JC.block (sr ?_)));obtain ⟨x12, ex12, h⟩ := b_bind h;refine jb (o_index (t := (.int .i64)) rfl U22 sz3 ex12) ?_;refine ja (o_load_at (t := (.int .i64)) rfl sz3 rfl) ?_;refine aq (nt (JC.region ?_));iterate 2 refine mq ?_
    refine ja (o_nil_obj rfl) ?_;refine fl fo98_1 ?_;refine fr 1 ?_;refine lo sz93 ?_;refine mq ?_;refine ja (o_iface rfl U109) ?_;refine ja (o_litB (t := (.tag 109 111)) [(.tmp 39, _)] [(false, x12)] rfl rfl sl93 (.cons rfl .tag0 .nil) rfl rfl) ?_;obtain ⟨u13, eu13, h⟩ := b_bind h;refine fr 2 ?_;refine JO.s1x rfl rfl rfl (o_append rfl rfl sl93 (chkP_some eu13)) ⟨rfl, rfl, trivial⟩ fun v14 => ?_;refine ja (o_nil_obj rfl) ?_;refine fl fo98_1 ?_;refine JO.one fun o15 => ?_;refine fr 1 ?_;refine JO.n11 rfl rfl (o_store rfl sz93 o15 rfl rfl) ⟨rfl, rfl, trivial⟩ ?_;refine JO.nil (JN.blk_n (tn (JC.region ?_)));obtain ⟨x16, ex16, h⟩ := b_bind h;refine jb (o_add rfl ex16) ?_;refine mq (nl ?_);exact jz (v14, (y10.1 ++ [(false, x12)], x16)) h [2, 0, 1, 3]
   ·refine xa ?_;exact jz (z11, y10.1) h [0, 1, 2, 3]
  ·refine JC.cutB (Z := Value) (α := (List (Bool × Int))) (fun z18 x17 => [(5, Pt b4)]) (fun z18 x17 => [.obj b4 98 (.agg (.pair (.rep tChange a0) (.pair (.eq z18) (.pair (.rep (.arr 8 (.int .u8)) [(0 : Int), (0 : Int), (0 : Int), (0 : Int), (0 : Int), (0 : Int), (0 : Int), (0 : Int)]) (.eq (.map (some z3))))))), .sl z18 108 (.tag 109 111) x17, .raw z3 (.map #[] 0)]) h (fun K h => ?_) (fun z18 x17 h => ?_)
   ·refine sr (mq ?_);refine fl fo26_3 ?_;refine lo sz22 ?_;obtain ⟨r19, er19, h⟩ := b_bind h;refine ja (o_call [.tmp 47] rfl rfl en40 rfl (chg_of_ok k a0.2.2.2 r19 er19)) ?_;refine jb (o_and rfl) ?_;obtain ⟨r20, er20, h⟩ := b_bind h;refine ja (o_call [.tmp 49] rfl rfl en41 rfl (chg_set_list_ok k (iand .u8 r5 r19) r20 er20)) ?_;refine ol U22 ?_;refine JO.mc rfl ?_;refine nt (JC.block (JC.loopB (Z := Value) (α := (List (Bool × Int)) × Int) (fun z22 y21 => [(5, Pt b4), (50, Ri r20), (51, I (r20.length : Int)), (52, I y21.2)]) (fun z22 y21 => [.obj b4 98 (.agg (.pair (.rep tChange a0) (.pair (.eq z22) (.pair (.rep (.arr 8 (.int .u8)) [(0 : Int), (0 : Int), (0 : Int), (0 : Int), (0 : Int), (0 : Int), (0 : Int), (0 : Int)]) (.eq (.map (some z3))))))), .sl z22 108 (.tag 109 111) y21.1, .raw z3 (.map #[] 0)]) (chg_begin_l2 k r20) k z7 (x6, (0 : Int)) (fun _ => rfl) h (SE.fin [1, 2, 3] ⟨rfl, rfl, rfl, rfl, trivial⟩ rfl) (fun n z22 y21 h => ?_)));unfold chg_begin_l2 at h;refine sr (jb (o_lss rfl) ?_);refine nt (JC.seq (ci h (fun h => ?_) (fun h => ?_)))
    ·refine sk (JC.seq (JC.block (sr ?_)));obtain ⟨x23, ex23, h⟩ := b_bind h;refine jb (o_index (t := (.int .i64)) rfl U22 sz3 ex23) ?_;refine ja (o_load_at (t := (.int .i64)) rfl sz3 rfl) ?_;refine aq (nt (JC.region ?_));iterate 2 refine mq ?_
     refine ja (o_nil_obj rfl) ?_;refine fl fo98_1 ?_;refine lo sz93 ?_;refine mq ?_;refine ja (o_iface rfl U111) ?_;refine ja (o_litB (t := (.tag 109 111)) [(.tmp 62, _)] [(true, x23)] rfl rfl sl93 (.cons rfl .tag1 .nil) rfl rfl) ?_;obtain ⟨u24, eu24, h⟩ := b_bind h;refine fr 1 ?_;refine JO.s1x rfl rfl rfl (o_append rfl rfl sl93 (chkP_some eu24)) ⟨rfl, rfl, trivial⟩ fun v25 => ?_;refine ja (o_nil_obj rfl) ?_;refine fl fo98_1 ?_;refine JO.one fun o26 => ?_;refine fr 1 ?_;refine JO.n11 rfl rfl (o_store rfl sz93 o26 rfl rfl) ⟨rfl, rfl, trivial⟩ ?_;refine JO.nil (JN.blk_n (tn (JC.region ?_)));obtain ⟨x27, ex27, h⟩ := b_bind h;refine jb (o_add rfl ex27) ?_;refine mq (nl ?_);exact jz (v25, (y21.1 ++ [(true, x23)], x27)) h [0, 1, 2]
    ·refine xa ?_;exact jz (z22, y21.1) h [0, 1, 2]
   ·refine JC.seq (sr (mq ?_));refine ja (o_nil_obj rfl) ?_;refine fl fo98_1 ?_;refine lo sz93 ?_;refine fr 1 ?_;refine ka (o_len_own rfl rfl U93) ?_;refine jb (o_gtr rfl) ?_;refine nt (ci h (fun h => ?_) (fun h => ?_))
    ·refine sr (cq ?_);refine cq (nt (rx ?_));cases h;exact JN.ret (0, 0) [.eq (.pointer none), _] 0 ⟨rfl, rfl, trivial⟩ rfl
    ·refine sk (sr (mq ?_));refine fr 1 ?_;refine fr 1 ?_;refine JO.se (SE.frzBoth (off := 4) [71] ⟨rfl, trivial⟩ rfl rfl) ?_;refine JO.se (SE.objE (a := .agg (.pair (.rep tChange a0) (.pair (.rep (.slice (.tag 109 111)) x17) (.pair (.rep (.arr 8 (.int .u8)) [(0 : Int), (0 : Int), (0 : Int), (0 : Int), (0 : Int), (0 : Int), (0 : Int), (0 : Int)]) (.eq (.map (some z3))))))) (a' := .agg (.pair (Qc a0) (.pair (.rep (.slice (.tag 109 111)) x17) (.pair (.rep (.arr 8 (.int .u8)) [(0 : Int), (0 : Int), (0 : Int), (0 : Int), (0 : Int), (0 : Int), (0 : Int), (0 : Int)]) (.eq (.map (some z3))))))) (AE.agg (AE.pair (AE.trans AE.aggR (AE.agg (AE.trans AE.split (AE.pair AE.rfl (AE.trans AE.split (AE.pair AE.rfl AE.split)))))) AE.rfl))) ?_;obtain ⟨r28, er28, h⟩ := b_bind h;refine ka (o_call [.tmp 74] rfl rfl en63 rfl (chg_quick_order_ok k (a0, x17, [(0 : Int), (0 : Int), (0 : Int), (0 : Int), (0 : Int), (0 : Int), (0 : Int), (0 : Int)]) b4 (.map (some z3)) r28 er28)) ?_;refine nt (sr (mq ?_));refine aq ?_;refine cq (nt (JC.ret ?_));cases h;exact JN.ret (b4, z3) [Pt b4, _] 2 ⟨rfl, rfl, trivial⟩ rfl


def slc_Clone_Step (k : Nat) (a0 : List dStep) : Option (List dStep) :=
 (chkP (okLen (List.length a0))).bind fun _ => some a0

theorem slc_Clone_Step_ok (k : Nat) (a0 : List dStep) (r : List dStep) (h : slc_Clone_Step k a0 = some r) :
 Ctr Try.prog 66 [Rs tStep a0] [] (fun z : Value => (resA [.eq z], [.sl z 59 tStep r])) := by
 unfold slc_Clone_Step at h
 replace h := b_top h
 refine Ctr.of 8 Try.func66 rfl Try.ntmps66 rfl fun S w0 => ?_
 obtain ⟨u1, eu1, h⟩ := b_bind h
 cases h
 refine sr ?_
 refine cq ?_
 refine nt ?_
 refine JC.seq ?_
 refine sr ?_
 refine mq ?_
 refine JO.stepG (Δ := []) (F := _) (fun _ _ _ => wanted_none rfl _) rfl rfl (o_eqnil rfl U33) ⟨rfl, rfl, trivial⟩ fun b => ?_
 refine nt ?_
 refine JC.cond rfl (fun hb => ?_) (fun hb => ?_)
 ·
  refine sr (cq (nt (rx ?_)));obtain rfl := b.2 hb;refine JN.se (SE.nil 59 tStep) ?_;exact JN.ret (.slice none 0 0) [.eq (.slice none 0 0)] 1 ⟨rfl, trivial⟩ rfl
 ·
  refine sk (sr (JO.s01 rfl rfl rfl (o_litB_own (t := tStep) [] [] rfl rfl sl33 .nil rfl rfl) trivial fun v1 => ?_));refine mq ?_;refine JO.s1x rfl rfl rfl (o_append rfl rfl sl33 (by simpa using chkP_some eu1)) ⟨rfl, rfl, trivial⟩ fun v2 => ?_;refine aq (nt (JC.ret ?_));exact JN.ret v2 [.eq v2] 1 ⟨rfl, trivial⟩ rfl


def slc_Index_int_l1 (k : Nat) (a0 : (List Int)) (a1 : Int) : Nat → Int → Option (Except Int Unit)
 | 0, _ => none
 | n + 1, y3 =>
  if y3 < (a0.length : Int) then ((geti a0 y3).bind fun x5 =>
  if a1 = x5 then (some (.error y3)) else ((ck (y3 + (1 : Int))).bind fun x6 =>
  slc_Index_int_l1 k a0 a1 n x6)) else (some (.ok ()))
def slc_Index_int (k : Nat) (a0 : (List Int)) (a1 : Int) : Option Int :=
 bE (α := Unit) (slc_Index_int_l1 k a0 a1 k (0 : Int)) (some) fun _ =>
 some (-1 : Int)

theorem slc_Index_int_ok (k : Nat) (a0 : (List Int)) (a1 : Int) (r : Int) (h : slc_Index_int k a0 a1 = some r) :
 Ctr Try.prog 75 [Ri a0, I a1] [] (fun _ : Unit => (resA [I r], [])) := by
 unfold slc_Index_int at h
 replace h := b_top h
 refine Ctr.of 19 Try.func75 rfl Try.ntmps75 rfl fun S w0 => ?_
 refine sr ?_
 refine cq ?_
 refine nt ?_
 refine JC.cutE (Z := Unit) (α := Unit) (fun z2 x1 => []) (fun z2 x1 => []) (fun e => e = r) h (fun e h => Option.some.inj h) (fun K hR h => ?_) (fun z2 x1 h => ?_)
 ·
  refine sr (mq ?_);refine ol U22 ?_;refine JO.mc rfl ?_;refine nt (JC.block (JC.loopB (Z := Unit) (α := Int) (fun z4 y3 => [(0, Ri a0), (1, I a1), (7, I (a0.length : Int)), (8, I y3)]) (fun z4 y3 => []) (slc_Index_int_l1 k a0 a1) k () (0 : Int) (fun _ => rfl) h (SE.fin [] ⟨rfl, rfl, rfl, rfl, trivial⟩ rfl) (fun n z4 y3 h => ?_)));unfold slc_Index_int_l1 at h;refine sr (jb (o_lss rfl) ?_);refine nt (JC.seq (ci h (fun h => ?_) (fun h => ?_)))
  ·refine sk (JC.seq (JC.block (sr (mq ?_))));refine aq (nt (sr ?_));iterate 3 refine mq ?_
   obtain ⟨x5, ex5, h⟩ := b_bind h;refine jb (o_index (t := (.int .i64)) rfl U22 sz3 ex5) ?_;refine ja (o_load_at (t := (.int .i64)) rfl sz3 rfl) ?_;refine jb (o_eql rfl) ?_;refine nt (ci h (fun h => ?_) (fun h => ?_))
   ·refine sr (mq ?_);refine aq (nt (JC.ret (br (JN.blk_r (JN.then_r ?_)))));obtain rfl := hR _ h;exact ra
   ·refine JC.skip (JN.blk_n (tn (JC.region ?_)));obtain ⟨x6, ex6, h⟩ := b_bind h;refine jb (o_add rfl ex6) ?_;refine mq (nl ?_);exact jz ((), x6) h []
  ·refine xa ?_;exact jz ((), ()) h []
 ·
  refine sr (cq (nt (JC.ret ?_)));cases h;exact ra


def slc_Contains_int (k : Nat) (a0 : (List Int)) (a1 : Int) : Option Bool :=
 (slc_Index_int k a0 a1).bind fun r1 =>
 some (decide ((0 : Int) ≤ r1))

theorem slc_Contains_int_ok (k : Nat) (a0 : (List Int)) (a1 : Int) (r : Bool) (h : slc_Contains_int k a0 a1 = some r) :
 Ctr Try.prog 57 [Ri a0, I a1] [] (fun _ : Unit => (resA [.eq (.bool r)], [])) := by
 unfold slc_Contains_int at h
 replace h := b_top h
 refine Ctr.of 9 Try.func57 rfl Try.ntmps57 rfl fun S w0 => ?_
 refine sr ?_
 refine cq ?_
 refine nt ?_
 refine sr ?_
 iterate 2 refine mq ?_
 obtain ⟨r1, er1, h⟩ := b_bind h
 have cr1 := slc_Index_int_ok k a0 a1 r1 er1
 refine jb (o_call [.tmp 5, .tmp 6] rfl rfl en75 rfl cr1) ?_
 refine jb (o_geq rfl) ?_
 refine aq ?_
 refine nt ?_
 refine JC.ret ?_
 cases h
 exact ra


def chg_quick_can (k : Nat) (a0 : (dChange × (List (Bool × Int)) × (List Int))) (a1 : Int) (a2 : (Bool × Int)) : Option Bool :=
 (geti a0.1.2.1 a1).bind fun x1 =>
 (cond a2.1 (chg_on_thing k a2.2) (chg_off_thing k a2.2)).bind fun r2 =>
 (geti a0.1.1 r2).bind fun x3 =>
 (((cond a2.1 (chg_on_thing k a2.2) (chg_off_thing k a2.2)).bind fun r8 =>
 (slc_Contains_int k x1.1 r8).bind fun r9 =>
 if r9 = true then (if x3.2.2.2.1 = (0 : Int) then (some true) else (if x1.2.1 = (0 : Int) then (some true) else (some (decide (x1.2.1 = x3.2.2.2.1))))) else (some false)) : Option (Bool)).bind fun x6 =>
 some x6

theorem chg_quick_can_ok (k : Nat) (a0 : (dChange × (List (Bool × Int)) × (List Int))) (b_a0 : Nat) (m_a0 : Value) (a1 : Int) (a2 : (Bool × Int)) (r : Bool) (h : chg_quick_can k a0 a1 a2 = some r) :
 Ctr Try.prog 67 [Pt b_a0, I a1, .rep (.tag 109 111) a2] [.obj b_a0 98 (Qq a0 (.eq m_a0))] (fun _ : Unit => (resA [.eq (.bool r)], [.obj b_a0 98 (Qq a0 (.eq m_a0))])) := by
 unfold chg_quick_can at h
 replace h := b_top h
 refine Ctr.of 48 Try.func67 rfl Try.ntmps67 rfl fun S w0 => ?_
 refine sr ?_
 refine cq ?_
 refine nt ?_
 refine JC.seq ?_
 refine JC.drawW ?_
 refine DW.t00 rfl rfl rfl (o_move rfl) ⟨rfl, trivial⟩ ?_
 refine DW.t00 rfl rfl rfl (o_nil_obj rfl) ⟨rfl, trivial⟩ ?_
 refine DW.t00 rfl rfl rfl (o_field_obj rfl fo98_0) ⟨rfl, trivial⟩ ?_
 refine DW.t00 rfl rfl rfl (o_field_obj rfl fo26_1) ⟨rfl, trivial⟩ ?_
 refine DW.t11 0 rfl rfl rfl rfl (o_load_obj rfl sz24 nfs rfl) ⟨rfl, trivial⟩ ?_
 refine DW.t00 rfl rfl rfl (o_move rfl) ⟨rfl, trivial⟩ ?_
 obtain ⟨x1, ex1, h⟩ := b_bind h
 refine DW.t00 rfl rfl rfl (o_index (t := tDresser) rfl U24 sz38 ex1) ⟨rfl, rfl, trivial⟩ ?_
 refine DW.t00 rfl rfl rfl (o_load_at (t := tDresser) rfl sz38 rfl) ⟨rfl, trivial⟩ ?_
 refine DW.t00 rfl rfl rfl (o_move rfl) ⟨rfl, trivial⟩ ?_
 refine DW.t00 rfl rfl rfl (o_nil_obj rfl) ⟨rfl, trivial⟩ ?_
 refine DW.t00 rfl rfl rfl (o_field_obj rfl fo98_0) ⟨rfl, trivial⟩ ?_
 refine DW.t00 rfl rfl rfl (o_field_obj rfl fo26_0) ⟨rfl, trivial⟩ ?_
 refine DW.t11 0 rfl rfl rfl rfl (o_load_obj rfl sz23 nfs rfl) ⟨rfl, trivial⟩ ?_
 refine DW.t00 rfl rfl rfl (o_move rfl) ⟨rfl, trivial⟩ ?_
 obtain ⟨r2, er2, h⟩ := b_bind h
 refine DW.t00 rfl rfl rfl (o_invoke rfl rfl mt109_thing mt111_thing (ctr_cond (fun hb => chg_off_thing_ok k a2.2 r2 (by simpa [hb] using er2)) (fun hb => chg_on_thing_ok k a2.2 r2 (by simpa [hb] using er2)))) ⟨rfl, trivial⟩ ?_
 obtain ⟨x3, ex3, h⟩ := b_bind h
 refine DW.t00 rfl rfl rfl (o_index (t := tThing) rfl U23 sz43 ex3) ⟨rfl, rfl, trivial⟩ ?_
 refine DW.t00 rfl rfl rfl (o_load_at (t := tThing) rfl sz43 rfl) ⟨rfl, trivial⟩ ?_
 refine DW.tNew (ptrD 38 (.agg (.pair (.eq (.slice none 0 0)) (.pair (I (0 : Int)) (I (0 : Int)))))) (fun _ => rfl) rfl rfl rfl (o_alloc rfl za38 al38) trivial ?_
 refine DW.tNew (ptrD 43 (.agg (.pair (.eq (.slice none 0 0)) (.pair (I (0 : Int)) (.pair (I (0 : Int)) (.pair (I (0 : Int)) (I (0 : Int)))))))) (fun _ => rfl) rfl rfl rfl (o_alloc rfl za43 al43) trivial ?_
 refine DW.fin 19 [true, true, true, true, true, true, true, true, false, false, false, false, false, true, true, false, false, true, true] [] [0] [.obj b_a0 98 (Qq a0 (.eq m_a0))] rfl (by kernel_rfl) (by kernel_rfl) (by kernel_rfl) mixed (fun vs hv hB => ?_)
 obtain ⟨w0, vs1, rfl, hv1⟩ := len_cons hv
 obtain ⟨w1, vs2, rfl, hv2⟩ := len_cons hv1
 obtain ⟨w2, vs3, rfl, hv3⟩ := len_cons hv2
 obtain ⟨w3, vs4, rfl, hv4⟩ := len_cons hv3
 obtain ⟨w4, vs5, rfl, hv5⟩ := len_cons hv4
 obtain ⟨w5, vs6, rfl, hv6⟩ := len_cons hv5
 obtain ⟨w6, vs7, rfl, hv7⟩ := len_cons hv6
 obtain ⟨w7, vs8, rfl, hv8⟩ := len_cons hv7
 obtain ⟨w8, vs9, rfl, hv9⟩ := len_cons hv8
 obtain ⟨w9, vs10, rfl, hv10⟩ := len_cons hv9
 obtain ⟨w10, vs11, rfl, hv11⟩ := len_cons hv10
 obtain ⟨w11, vs12, rfl, hv12⟩ := len_cons hv11
 obtain ⟨w12, vs13, rfl, hv13⟩ := len_cons hv12
 obtain ⟨w13, vs14, rfl, hv14⟩ := len_cons hv13
 obtain ⟨w14, vs15, rfl, hv15⟩ := len_cons hv14
 obtain ⟨w15, vs16, rfl, hv16⟩ := len_cons hv15
 obtain ⟨w16, vs17, rfl, hv17⟩ := len_cons hv16
 obtain ⟨w17, vs18, rfl, hv18⟩ := len_cons hv17
 obtain ⟨w18, vs19, rfl, hv19⟩ := len_cons hv18
 obtain rfl := len_nil hv19
 obtain ⟨b4, rfl⟩ := ptr_of hB.2.2.2.2.2.2.2.2.2.2.2.2.2.2.2.2.2.1
 obtain ⟨b5, rfl⟩ := ptr_of hB.2.2.2.2.2.2.2.2.2.2.2.2.2.2.2.2.2.2.1
 refine ⟨[0, 1, 2], [.obj b4 38 (.agg (.pair (.eq (.slice none 0 0)) (.pair (I (0 : Int)) (I (0 : Int))))), .obj b5 43 (.agg (.pair (.eq (.slice none 0 0)) (.pair (I (0 : Int)) (.pair (I (0 : Int)) (.pair (I (0 : Int)) (I (0 : Int)))))))], by kernel_rfl, by decide, ?_⟩
 refine JT.n11 rfl rfl (o_store rfl sz38 rfl rfl rfl) ⟨rfl, rfl, trivial⟩ (by kernel_rfl) ?_
 refine JT.all (by kernel_rfl) ?_
 refine fr 2 ?_
 refine JO.n11 rfl rfl (o_store rfl sz43 rfl rfl rfl) ⟨rfl, rfl, trivial⟩ ?_
 refine nt ?_
 refine JC.cutB (Z := Unit) (α := Bool) (fun z7 x6 => [(6, .eq (.bool x6))]) (fun z7 x6 => [.obj b_a0 98 (Qq a0 (.eq m_a0))]) h (fun K h => ?_) (fun z7 x6 h => ?_)
 ·
  refine JC.drawN ?_;refine da (o_field_obj rfl fo38_0) ?_;refine ea 2 (o_load_obj rfl sz22 nfs rfl) ?_;refine dm ?_;obtain ⟨r8, er8, h⟩ := b_bind h;refine DN.s00 rfl rfl rfl (o_invoke rfl rfl mt109_thing mt111_thing (ctr_cond (fun hb => chg_off_thing_ok k a2.2 r8 (by simpa [hb] using er8)) (fun hb => chg_on_thing_ok k a2.2 r8 (by simpa [hb] using er8)))) ⟨rfl, trivial⟩ ?_;obtain ⟨r9, er9, h⟩ := b_bind h;refine db (o_call [.tmp 27, .tmp 29] rfl rfl en57 rfl (slc_Contains_int_ok k x1.1 r8 r9 er9)) ?_;refine DN.fork rfl rfl rfl (o_move rfl) ⟨rfl, trivial⟩ (fun hb => ?_) (fun hb => ?_)
  ·replace h := b_if (v_t hb) h;refine DN.sg00 rfl rfl rfl rfl rfl (o_field_obj rfl fo43_3) ⟨rfl, rfl, trivial⟩ ?_;refine DN.sg11 0 rfl rfl rfl rfl rfl rfl (o_load_obj rfl sz3 nfs rfl) ⟨rfl, rfl, trivial⟩ ?_;refine DN.sg00 rfl rfl rfl rfl rfl (o_eql rfl) ⟨rfl, rfl, rfl, trivial⟩ ?_;refine DN.forkg rfl rfl rfl rfl rfl (o_move rfl) ⟨rfl, rfl, trivial⟩ (fun hb => ?_) (fun hb => ?_)
   ·replace h := b_if (d_t hb) h;iterate 3 refine dg ?_
    refine DN.sg00 rfl rfl rfl rfl rfl (o_pick_t rfl) ⟨rfl, rfl, rfl, trivial⟩ ?_;refine DN.sg00 rfl rfl rfl rfl rfl (o_move rfl) ⟨rfl, rfl, trivial⟩ ?_;iterate 4 refine dg ?_
    refine df mixed ?_;refine gn ?_;refine gb (o_pick_t rfl) ?_;refine pt ?_;refine aq (nl ?_);exact jz ((), true) h [1]
   ·replace h := b_ifn (d_f hb) h;refine DN.sg00 rfl rfl rfl rfl rfl (o_field_obj rfl fo38_1) ⟨rfl, rfl, trivial⟩ ?_;refine DN.sg11 2 rfl rfl rfl rfl rfl rfl (o_load_obj rfl sz3 nfs rfl) ⟨rfl, rfl, trivial⟩ ?_;refine DN.sg00 rfl rfl rfl rfl rfl (o_eql rfl) ⟨rfl, rfl, rfl, trivial⟩ ?_;refine DN.sg00 rfl rfl rfl rfl rfl (o_pick_f rfl) ⟨rfl, rfl, rfl, trivial⟩ ?_;refine DN.forkg rfl rfl rfl rfl rfl (o_move rfl) ⟨rfl, rfl, trivial⟩ (fun hb => ?_) (fun hb => ?_)
    ·replace h := b_if (d_t hb) h;iterate 4 refine dg ?_
     refine df mixed ?_;refine gn ?_;refine gb (o_pick_t rfl) ?_;refine pt ?_;refine aq (nl ?_);exact jz ((), true) h [1]
    ·replace h := b_ifn (d_f hb) h;refine DN.sg00 rfl rfl rfl rfl rfl (o_field_obj rfl fo38_1) ⟨rfl, rfl, trivial⟩ ?_;refine DN.sg11 2 rfl rfl rfl rfl rfl rfl (o_load_obj rfl sz3 nfs rfl) ⟨rfl, rfl, trivial⟩ ?_;refine DN.sg00 rfl rfl rfl rfl rfl (o_field_obj rfl fo43_3) ⟨rfl, rfl, trivial⟩ ?_;refine DN.sg11 0 rfl rfl rfl rfl rfl rfl (o_load_obj rfl sz3 nfs rfl) ⟨rfl, rfl, trivial⟩ ?_;refine df mixed ?_;refine gb (o_eql rfl) ?_;refine gb (o_pick_f rfl) ?_;refine pt ?_;refine aq (nl ?_);exact jz ((), decide (x1.2.1 = x3.2.2.2.1)) h [1]
  ·replace h := b_ifn (v_f hb) h;iterate 4 refine dg ?_
   refine du ?_;refine du ?_;refine du ?_;iterate 2 refine dg ?_
   refine du ?_;refine du ?_;refine du ?_;refine du ?_;refine df mixed ?_;refine gu ?_;refine gn ?_;refine pf ?_;refine aq (nl ?_);exact jz ((), false) h [1]
 ·
  refine JC.ret ?_;cases h;exact JN.ret () [_] 1 ⟨rfl, trivial⟩ rfl


def chg_quick_plans_1_1_l2 {σ : Type} (k : Nat) (a0 : Int) (a2 : (dChange × (List (Bool × Int)) × (List Int))) (self : Int → (List dStep) → σ → Option (Bool × (List dStep) × σ)) (y6 : (List dStep) × Int × σ) (x10 : (Bool × Int)) : Nat → ((List dStep) × Int × σ) → Option (Except (Bool × (List dStep) × σ) ((List dStep) × σ))
 | 0, _ => none
 | n + 1, y16 =>
  if y16.2.1 < (a2.1.2.1.length : Int) then (bE (α := (List dStep) × σ) ((chg_quick_can k ((a2.1.1, a2.1.2.1, a2.1.2.2.1, a2.1.2.2.2), a2.2.1, a2.2.2) y16.2.1 x10).bind fun r20 =>
  if ¬ (r20 = true) then (some (.ok (y16.1, y16.2.2))) else ((chkP (okLen (List.length y16.1 + List.length [(y6.2.1, y16.2.1)]))).bind fun _ =>
  (chg_of k [y6.2.1]).bind fun r24 =>
  (self (ior .u8 a0 r24) (y16.1 ++ [(y6.2.1, y16.2.1)]) y16.2.2).bind fun r25 =>
  (ck ((r25.2.1.length : Int) - (1 : Int))).bind fun x27 =>
  (chkP (0 ≤ x27 ∧ x27 ≤ (r25.2.1.length : Int))).bind fun _ =>
  if ¬ (r25.1 = true) then (some (.error (false, List.take (Int.toNat x27) r25.2.1, r25.2.2))) else (some (.ok (List.take (Int.toNat x27) r25.2.1, r25.2.2))))) (fun e => some (.error e)) fun x18 =>
  (ck (y16.2.1 + (1 : Int))).bind fun x31 =>
  chg_quick_plans_1_1_l2 k a0 a2 self y6 x10 n (x18.1, x31, x18.2)) else (some (.ok (y16.1, y16.2.2)))

def chg_quick_plans_1_1_l1 {σ : Type} (k : Nat) (a0 : Int) (a2 : (dChange × (List (Bool × Int)) × (List Int))) (self : Int → (List dStep) → σ → Option (Bool × (List dStep) × σ)) : Nat → ((List dStep) × Int × σ) → Option (Except (Bool × (List dStep) × σ) ((List dStep) × σ))
 | 0, _ => none
 | n + 1, y6 =>
  if y6.2.1 < (a2.2.1.length : Int) then (bE (α := (List dStep) × σ) ((geti a2.2.1 y6.2.1).bind fun x10 =>
  (((chg_set_has k a0 y6.2.1).bind fun r13 =>
  if r13 = true then (some (true, y6.2.2)) else ((chkP (0 ≤ y6.2.1 ∧ y6.2.1 < 8)).bind fun _ =>
  (geti a2.2.2 y6.2.1).bind fun x15 =>
  some (!decide ((iandn .u8 x15 a0) = (0 : Int)), y6.2.2))) : Option (Bool × σ)).bind fun x11 =>
  if x11.1 = true then (some (.ok (y6.1, x11.2))) else (chg_quick_plans_1_1_l2 k a0 a2 self y6 x10 k (y6.1, (0 : Int), x11.2))) (fun e => some (.error e)) fun x8 =>
  (ck (y6.2.1 + (1 : Int))).bind fun x32 =>
  chg_quick_plans_1_1_l1 k a0 a2 self n (x8.1, x32, x8.2)) else (some (.ok (y6.1, y6.2.2)))
def chg_quick_plans_1_1 {σ : Type} (k : Nat) (Y : σ → (List dStep) → Option (σ × Bool)) (a2 : (dChange × (List (Bool × Int)) × (List Int))) : Nat → Int → (List dStep) → σ → Option (Bool × (List dStep) × σ)
 | 0, _, _, _ => none
 | m0 + 1, a0, a1, s0 =>
  if (a1.length : Int) = (a2.2.1.length : Int) then ((slc_Clone_Step k a1).bind fun r1 =>
  (Y s0 r1).bind fun r2 =>
  some (r2.2, a1, r2.1)) else (bE (α := (List dStep) × σ) (chg_quick_plans_1_1_l1 k a0 a2 (chg_quick_plans_1_1 k Y a2 m0) k (a1, (0 : Int), s0)) (some) fun x4 =>
  some (true, x4.1, x4.2))

theorem chg_quick_plans_1_1_ok {M : Md Try.prog} {σ Z : Type} (E : Z → σ → List D) (l : Nat) (Y : σ → (List dStep) → Option (σ × Bool)) (k : Nat) (c_a1 : Nat) (a2 : (dChange × (List (Bool × Int)) × (List Int))) (b_a2 : Nat) (m_a2 : Value) (c_a2 : Nat) (c_a3 : Nat) (c_a4 : Nat) (hY : ∀ z s p r, Y s p = some r → YT M l [Rs tStep p] ([.obj b_a2 98 (Qq a2 (.eq m_a2))] ++ E z s) (fun z' : Z => (.eq (.bool r.2), [.obj b_a2 98 (Qq a2 (.eq m_a2))] ++ E z' r.1))) :
 ∀ (n : Nat) (a0 : Int) (a1 : (List dStep)) (v_a1 : Value) (z0 : Z) (s0 : σ) (r : Bool × (List dStep) × σ), chg_quick_plans_1_1 k Y a2 n a0 a1 s0 = some r → CtrM M 65 [.eq (.int .u8 a0), Pt c_a1, Pt c_a2, Pt c_a3, Pt c_a4] ([.sl v_a1 59 tStep a1, .obj c_a1 33 (.eq v_a1), .obj c_a2 83 (Pt b_a2), .obj c_a3 133 (.eq (.func (.yield l) #[] #[])), .obj c_a4 134 (.eq (.func (.func 65) #[] #[(Pv c_a1), (Pv c_a2), (Pv c_a3), (Pv c_a4)])), .obj b_a2 98 (Qq a2 (.eq m_a2))] ++ E z0 s0) (fun z : Value × Z => (resA [.eq (.bool r.1)], [.sl z.1 59 tStep r.2.1, .obj c_a1 33 (.eq z.1), .obj c_a2 83 (Pt b_a2), .obj c_a3 133 (.eq (.func (.yield l) #[] #[])), .obj c_a4 134 (.eq (.func (.func 65) #[] #[(Pv c_a1), (Pv c_a2), (Pv c_a3), (Pv c_a4)])), .obj b_a2 98 (Qq a2 (.eq m_a2))] ++ E z.2 r.2.2)) := by
 intro n
 induction n with
 | zero => intro a0 a1 v_a1 z0 s0 r h; cases h
 | succ m0 ih =>
  intro a0 a1 v_a1 z0 s0 r h;rw [chg_quick_plans_1_1] at h;replace h := b_top h;refine CtrM.of 83 Try.func65 rfl Try.ntmps65 rfl fun S w0 => ?_;refine sr (cq (nt (JC.seq (JC.seq ?_))));refine JC.drawN ?_;refine ea 1 (o_load_obj rfl sz33 nfs rfl) ?_;refine ea 0 (o_len_own rfl rfl U33) ?_;refine ea 2 (o_load_obj rfl sz83 nfs rfl) ?_;refine da (o_nil_obj rfl) ?_;refine da (o_field_obj rfl fo98_1) ?_;refine ea 5 (o_load_obj rfl sz93 nfs rfl) ?_;refine da (o_len rfl rfl U93) ?_;refine df mixed ?_;refine jb (o_eql rfl) ?_;refine nt (ci h (fun h => ?_) (fun h => ?_))
  ·refine JC.seq (JC.drawN ?_);refine ea 3 (o_load_obj rfl sz133 nfs rfl) ?_;refine ea 1 (o_load_obj rfl sz33 nfs rfl) ?_;obtain ⟨r1, er1, h⟩ := b_bind h;refine DN.s11 0 rfl rfl rfl rfl (OpT.frzB (OpT.borrow (N := [(.tmp 20, .eq v_a1)]) (o_call [.tmp 20] rfl rfl en66 rfl (slc_Clone_Step_ok k a1 r1 er1)) (fun _ _ _ hv hn => ⟨(lend hn.1 hv), trivial⟩) (fun _ => ⟨rfl, flat_all (by simp [D.flat, A.flat, Ty.flat])⟩))) ⟨rfl, trivial⟩ ?_;refine df mixed ?_;obtain ⟨r2, er2, h⟩ := b_bind h;refine fr 4 ?_;refine fr 4 ?_;refine fr 4 ?_;refine fr 4 ?_;refine fr 4 ?_;refine JO.stepT [.sl v_a1 59 tStep a1, .obj c_a1 33 (.eq v_a1), .obj c_a2 83 (Pt b_a2), .obj c_a3 133 (.eq (.func (.yield l) #[] #[])), .obj c_a4 134 (.eq (.func (.func 65) #[] #[(Pv c_a1), (Pv c_a2), (Pv c_a3), (Pv c_a4)]))] rfl rfl rfl (o_yield [.tmp 21] rfl rfl rfl (hY z0 s0 r1 r2 er2)) ⟨rfl, rfl, trivial⟩ fun z3 => ?_;refine aq (nt (rx ?_));cases h;exact JN.retA (v_a1, z3) [_] ⟨rfl, trivial⟩ rfl
  ·refine sk (JC.cutE (Z := Value × Z) (α := (List dStep) × σ) (fun z5 x4 => []) (fun z5 x4 => [.obj c_a1 33 (.eq z5.1), .sl z5.1 59 tStep x4.1, .obj c_a2 83 (Pt b_a2), .obj b_a2 98 (Qq a2 (.eq m_a2)), .obj c_a3 133 (.eq (.func (.yield l) #[] #[])), .obj c_a4 134 (.eq (.func (.func 65) #[] #[(Pv c_a1), (Pv c_a2), (Pv c_a3), (Pv c_a4)]))] ++ E z5.2 x4.2) (fun e => e = r) h (fun e h => Option.some.inj h) (fun K hR h => ?_) (fun z5 x4 h => ?_))
   ·refine sr (fr 2 ?_);refine lo sz83 ?_;refine ja (o_nil_obj rfl) ?_;refine fl fo98_1 ?_;refine fr 5 ?_;refine lo sz93 ?_;refine ol U93 ?_;refine JO.mc rfl ?_;refine nt (JC.block (JC.loopB (Z := Value × Z) (α := (List dStep) × Int × σ) (fun z7 y6 => [(0, .eq (.int .u8 a0)), (1, Pt c_a1), (2, Pt c_a2), (4, Pt c_a4), (26, .rep (.slice (.tag 109 111)) a2.2.1), (27, I (a2.2.1.length : Int)), (28, I y6.2.1)]) (fun z7 y6 => [.obj c_a1 33 (.eq z7.1), .sl z7.1 59 tStep y6.1, .obj c_a2 83 (Pt b_a2), .obj b_a2 98 (Qq a2 (.eq m_a2)), .obj c_a4 134 (.eq (.func (.func 65) #[] #[(Pv c_a1), (Pv c_a2), (Pv c_a3), (Pv c_a4)])), .obj c_a3 133 (.eq (.func (.yield l) #[] #[]))] ++ E z7.2 y6.2.2) (chg_quick_plans_1_1_l1 k a0 a2 (chg_quick_plans_1_1 k Y a2 m0)) k (v_a1, z0) (a1, (0 : Int), s0) (fun _ => rfl) h (SE.finT [.obj b_a2 98 (Qq a2 (.eq m_a2)), .obj c_a2 83 (Pt b_a2), .sl v_a1 59 tStep a1, .obj c_a1 33 (.eq v_a1), .obj c_a3 133 (.eq (.func (.yield l) #[] #[])), .obj c_a4 134 (.eq (.func (.func 65) #[] #[(Pv c_a1), (Pv c_a2), (Pv c_a3), (Pv c_a4)]))] (E z0 s0) [3, 2, 1, 0, 5, 4] ⟨rfl, rfl, rfl, rfl, rfl, rfl, rfl, trivial⟩ rfl) (fun n z7 y6 h => ?_)));unfold chg_quick_plans_1_1_l1 at h;refine sr (jb (o_lss rfl) ?_);refine nt (JC.seq (ci h (fun h => ?_) (fun h => ?_)))
    ·refine sk (JC.cutE (Z := Value × Z) (α := (List dStep) × σ) (fun z9 x8 => [(0, .eq (.int .u8 a0)), (1, Pt c_a1), (2, Pt c_a2), (4, Pt c_a4), (26, .rep (.slice (.tag 109 111)) a2.2.1), (27, I (a2.2.1.length : Int)), (28, I y6.2.1)]) (fun z9 x8 => [.obj c_a1 33 (.eq z9.1), .sl z9.1 59 tStep x8.1, .obj c_a2 83 (Pt b_a2), .obj b_a2 98 (Qq a2 (.eq m_a2)), .obj c_a4 134 (.eq (.func (.func 65) #[] #[(Pv c_a1), (Pv c_a2), (Pv c_a3), (Pv c_a4)])), .obj c_a3 133 (.eq (.func (.yield l) #[] #[]))] ++ E z9.2 x8.2) (fun e => e = r) h (fun e h => hR e h) (fun K hR h => ?_) (fun z9 x8 h => ?_))
     ·refine JC.block (sr (mq ?_));obtain ⟨x10, ex10, h⟩ := b_bind h;refine jb (o_index (t := (.tag 109 111)) rfl U93 sz108 ex10) ?_;refine ja (o_load_at (t := (.tag 109 111)) rfl sz108 rfl) ?_;refine aq ?_;refine aq (nt (JC.seq ?_));refine JC.cutB (Z := Z) (α := Bool × σ) (fun z12 x11 => [(0, .eq (.int .u8 a0)), (1, Pt c_a1), (2, Pt c_a2), (4, Pt c_a4), (7, I y6.2.1), (8, .rep (.tag 109 111) x10), (26, .rep (.slice (.tag 109 111)) a2.2.1), (27, I (a2.2.1.length : Int)), (28, I y6.2.1), (46, .eq (.bool x11.1))]) (fun z12 x11 => [.obj c_a1 33 (.eq z7.1), .sl z7.1 59 tStep y6.1, .obj c_a2 83 (Pt b_a2), .obj b_a2 98 (Qq a2 (.eq m_a2)), .obj c_a4 134 (.eq (.func (.func 65) #[] #[(Pv c_a1), (Pv c_a2), (Pv c_a3), (Pv c_a4)])), .obj c_a3 133 (.eq (.func (.yield l) #[] #[]))] ++ E z12 x11.2) h (fun K h => ?_) (fun z12 x11 h => ?_)
      ·refine JC.region ?_;iterate 2 refine mq ?_
       obtain ⟨r13, er13, h⟩ := b_bind h;refine jb (o_call [.tmp 33, .tmp 34] rfl rfl en49 rfl (chg_set_has_ok k a0 y6.2.1 r13 er13)) ?_;refine mq ?_;refine JO.bool (s := 36) rfl (fun hb => ?_) (fun hb => ?_)
       ·replace h := b_if (v_t hb) h;iterate 9 refine gn ?_
        refine pt (nl ?_);exact JN.z (z7.2, (true, y6.2.2)) h (SE.finT [.obj c_a1 33 (.eq z7.1), .sl z7.1 59 tStep y6.1, .obj c_a2 83 (Pt b_a2), .obj b_a2 98 (Qq a2 (.eq m_a2)), .obj c_a4 134 (.eq (.func (.func 65) #[] #[(Pv c_a1), (Pv c_a2), (Pv c_a3), (Pv c_a4)])), .obj c_a3 133 (.eq (.func (.yield l) #[] #[]))] (E z7.2 y6.2.2) [0, 1, 2, 3, 4, 5] ⟨rfl, rfl, rfl, rfl, rfl, rfl, rfl, rfl, rfl, rfl, trivial⟩ rfl)
       ·replace h := b_ifn (v_f hb) h;refine fr 2 ?_;refine JO.g11 rfl rfl rfl rfl rfl rfl (o_load_obj rfl sz83 nfs rfl) ⟨rfl, trivial⟩ ?_;refine gm ?_;refine ga (o_nil_obj rfl) ?_;refine ga (o_field_obj rfl fo98_2) ?_;obtain ⟨u14, eu14, h⟩ := b_bind h;refine gb (o_index_arr rfl U95 sz94 (chkP_some eu14).1 (chkP_some eu14).2) ?_;obtain ⟨x15, ex15, h⟩ := b_bind h;refine fr 3 ?_;refine JO.g11 rfl rfl rfl rfl rfl rfl (o_load_arr (t := (.int .u8)) (off := 5) (i := y6.2.1) (N := 8) rfl sz94 (fun _ => rfl) rfl rfl rfl rfl ex15) ⟨rfl, trivial⟩ ?_;refine gm ?_;refine gb (o_andn rfl) ?_;refine gb (o_neq rfl) ?_;refine pf (nl ?_);exact JN.z (z7.2, (!decide ((iandn .u8 x15 a0) = (0 : Int)), y6.2.2)) h (SE.finT [.obj b_a2 98 (Qq a2 (.eq m_a2)), .obj c_a2 83 (Pt b_a2), .obj c_a1 33 (.eq z7.1), .sl z7.1 59 tStep y6.1, .obj c_a4 134 (.eq (.func (.func 65) #[] #[(Pv c_a1), (Pv c_a2), (Pv c_a3), (Pv c_a4)])), .obj c_a3 133 (.eq (.func (.yield l) #[] #[]))] (E z7.2 y6.2.2) [2, 3, 1, 0, 4, 5] ⟨rfl, rfl, rfl, rfl, rfl, rfl, rfl, rfl, rfl, rfl, trivial⟩ rfl)
      ·refine cv h (fun h => ?_) (fun h => ?_)
       ·refine JC.exit (JN.then_x (JN.blk_hit (JN.then_n ?_)));exact JN.z ((z7.1, z12), (y6.1, x11.2)) h (SE.finT [.obj c_a1 33 (.eq z7.1), .sl z7.1 59 tStep y6.1, .obj c_a2 83 (Pt b_a2), .obj b_a2 98 (Qq a2 (.eq m_a2)), .obj c_a4 134 (.eq (.func (.func 65) #[] #[(Pv c_a1), (Pv c_a2), (Pv c_a3), (Pv c_a4)])), .obj c_a3 133 (.eq (.func (.yield l) #[] #[]))] (E z12 x11.2) [0, 1, 2, 3, 4, 5] ⟨rfl, rfl, rfl, rfl, rfl, rfl, rfl, trivial⟩ rfl)
       ·refine sk (sr (fr 2 ?_));refine lo sz83 ?_;refine ja (o_nil_obj rfl) ?_;refine fl fo98_0 ?_;refine fl fo26_1 ?_;refine fr 3 ?_;refine lo sz24 ?_;refine ol U24 ?_;refine JO.mc rfl ?_;refine nt (JC.block (JC.loopB (Z := Value × Z) (α := (List dStep) × Int × σ) (fun z17 y16 => [(0, .eq (.int .u8 a0)), (1, Pt c_a1), (2, Pt c_a2), (4, Pt c_a4), (7, I y6.2.1), (8, .rep (.tag 109 111) x10), (26, .rep (.slice (.tag 109 111)) a2.2.1), (27, I (a2.2.1.length : Int)), (28, I y6.2.1), (52, I (a2.1.2.1.length : Int)), (53, I y16.2.1)]) (fun z17 y16 => [.obj c_a1 33 (.eq z17.1), .sl z17.1 59 tStep y16.1, .obj c_a2 83 (Pt b_a2), .obj b_a2 98 (Qq a2 (.eq m_a2)), .obj c_a4 134 (.eq (.func (.func 65) #[] #[(Pv c_a1), (Pv c_a2), (Pv c_a3), (Pv c_a4)])), .obj c_a3 133 (.eq (.func (.yield l) #[] #[]))] ++ E z17.2 y16.2.2) (chg_quick_plans_1_1_l2 k a0 a2 (chg_quick_plans_1_1 k Y a2 m0) y6 x10) k (z7.1, z12) (y6.1, (0 : Int), x11.2) (fun _ => rfl) h (SE.finT [.obj b_a2 98 (Qq a2 (.eq m_a2)), .obj c_a2 83 (Pt b_a2), .obj c_a1 33 (.eq z7.1), .sl z7.1 59 tStep y6.1, .obj c_a4 134 (.eq (.func (.func 65) #[] #[(Pv c_a1), (Pv c_a2), (Pv c_a3), (Pv c_a4)])), .obj c_a3 133 (.eq (.func (.yield l) #[] #[]))] (E z12 x11.2) [2, 3, 1, 0, 4, 5] ⟨rfl, rfl, rfl, rfl, rfl, rfl, rfl, rfl, rfl, rfl, rfl, trivial⟩ rfl) (fun n z17 y16 h => ?_)));unfold chg_quick_plans_1_1_l2 at h;refine sr (jb (o_lss rfl) ?_);refine nt (JC.seq (ci h (fun h => ?_) (fun h => ?_)))
        ·refine sk (JC.cutE (Z := Value × Z) (α := (List dStep) × σ) (fun z19 x18 => [(0, .eq (.int .u8 a0)), (1, Pt c_a1), (2, Pt c_a2), (4, Pt c_a4), (7, I y6.2.1), (8, .rep (.tag 109 111) x10), (26, .rep (.slice (.tag 109 111)) a2.2.1), (27, I (a2.2.1.length : Int)), (28, I y6.2.1), (52, I (a2.1.2.1.length : Int)), (53, I y16.2.1)]) (fun z19 x18 => [.obj c_a1 33 (.eq z19.1), .sl z19.1 59 tStep x18.1, .obj c_a2 83 (Pt b_a2), .obj b_a2 98 (Qq a2 (.eq m_a2)), .obj c_a4 134 (.eq (.func (.func 65) #[] #[(Pv c_a1), (Pv c_a2), (Pv c_a3), (Pv c_a4)])), .obj c_a3 133 (.eq (.func (.yield l) #[] #[]))] ++ E z19.2 x18.2) (fun e => e = r) h (fun e h => hR e h) (fun K hR h => ?_) (fun z19 x18 h => ?_))
         ·refine JC.block (sr (mq ?_));refine aq (nt (JC.seq (sr ?_)));refine fr 2 ?_;refine lo sz83 ?_;iterate 2 refine mq ?_
          obtain ⟨r20, er20, h⟩ := b_bind h;refine fr 3 ?_;refine kc (o_call [.tmp 56, .tmp 57, .tmp 58] rfl rfl en67 rfl (chg_quick_can_ok k ((a2.1.1, a2.1.2.1, a2.1.2.2.1, a2.1.2.2.2), a2.2.1, a2.2.2) b_a2 m_a2 y16.2.1 x10 r20 er20)) ?_;refine ja (o_not rfl) ?_;refine nt (cw h (fun h => ?_) (fun h => ?_))
          ·refine JC.exit (JN.then_x (JN.blk_hit (JN.then_n ?_)));exact JN.z ((z17.1, z17.2), (y16.1, y16.2.2)) h (SE.finT [.obj b_a2 98 (Qq a2 (.eq m_a2)), .obj c_a2 83 (Pt b_a2), .obj c_a1 33 (.eq z17.1), .sl z17.1 59 tStep y16.1, .obj c_a4 134 (.eq (.func (.func 65) #[] #[(Pv c_a1), (Pv c_a2), (Pv c_a3), (Pv c_a4)])), .obj c_a3 133 (.eq (.func (.yield l) #[] #[]))] (E z17.2 y16.2.2) [2, 3, 1, 0, 4, 5] ⟨rfl, rfl, rfl, rfl, rfl, rfl, rfl, rfl, rfl, rfl, rfl, trivial⟩ rfl)
          ·refine sk (sr (fr 2 ?_));refine lo sz33 ?_;iterate 2 refine mq ?_
           refine jb (o_buildT [(0, .tmp 62, _), (1, .tmp 63, _)] rfl pl59 za59 alb59 (stors ⟨rfl, rfl, trivial⟩) rfl) ?_;refine ja (o_litB (t := tStep) [(.tmp 64, _)] [(y6.2.1, y16.2.1)] rfl rfl sl33 (.cons trivial (.agg (.pair .int .int)) .nil) rfl rfl) ?_;obtain ⟨u21, eu21, h⟩ := b_bind h;refine fr 3 ?_;refine JO.s1x rfl rfl rfl (o_append rfl rfl sl33 (chkP_some eu21)) ⟨rfl, rfl, trivial⟩ fun v22 => ?_;refine JO.one fun o23 => ?_;refine fr 1 ?_;refine JO.n11 rfl rfl (o_store rfl sz33 o23 rfl rfl) ⟨rfl, rfl, trivial⟩ ?_;refine nt (JC.seq (JC.drawN ?_));refine ea 4 (o_load_obj rfl sz134 nfs rfl) ?_;refine dm ?_;refine dm ?_;refine da (o_litB (t := (.int .i64)) [(.tmp 69, _)] [y6.2.1] rfl rfl sl22 (.cons rfl .int .nil) rfl rfl) ?_;obtain ⟨r24, er24, h⟩ := b_bind h;refine da (o_call [.tmp 70] rfl rfl en40 rfl (chg_of_ok k [y6.2.1] r24 er24)) ?_;refine db (o_or rfl) ?_;refine df mixed ?_;obtain ⟨r25, er25, h⟩ := b_bind h;refine fr 2 ?_;refine fr 4 ?_;refine fr 5 ?_;refine fr 5 ?_;refine fr 4 ?_;refine fr 5 ?_;refine JO.stepA rfl rfl rfl (o_callvM (fs := []) (cs := [(Pv c_a1), (Pv c_a2), (Pv c_a3), (Pv c_a4)]) (ags := [.eq (.int .u8 (ior .u8 a0 r24))]) [.tmp 72] rfl rfl en65 rfl (ih (ior .u8 a0 r24) (y16.1 ++ [(y6.2.1, y16.2.1)]) v22 z17.2 y16.2.2 r25 er25)) ⟨rfl, rfl, trivial⟩ fun z26 => ?_;refine aq (nt (sr ?_));refine fr 1 ?_;refine lo sz33 ?_;refine lo sz33 ?_;refine fr 1 ?_;refine ka (o_len_own rfl rfl U33) ?_;obtain ⟨x27, ex27, h⟩ := b_bind h;refine jb (o_sub rfl ex27) ?_;obtain ⟨u28, eu28, h⟩ := b_bind h;refine JO.s1x rfl rfl rfl (o_slice_own (t := tStep) rfl U33 sz59 (chkP_some eu28).1 (chkP_some eu28).2) ⟨rfl, rfl, trivial⟩ fun v29 => ?_;refine JO.one fun o30 => ?_;refine fr 1 ?_;refine JO.n11 rfl rfl (o_store rfl sz33 o30 rfl rfl) ⟨rfl, rfl, trivial⟩ ?_;refine nt (sr (mq ?_));refine ja (o_not rfl) ?_;refine nt (cw h (fun h => ?_) (fun h => ?_))
           ·refine sr (cq (nt (JC.ret (br (JN.blk_r (br (JN.blk_r (JN.then_r ?_))))))));refine JN.se (SE.finT (Γ' := [(6, _)]) [.obj c_a1 33 (.eq v29), .sl v29 59 tStep (List.take (Int.toNat x27) r25.2.1), .obj c_a2 83 (Pt b_a2), .obj c_a3 133 (.eq (.func (.yield l) #[] #[])), .obj c_a4 134 (.eq (.func (.func 65) #[] #[(Pv c_a1), (Pv c_a2), (Pv c_a3), (Pv c_a4)])), .obj b_a2 98 (Qq a2 (.eq m_a2))] (E z26.2 r25.2.2) [1, 0, 2, 3, 4, 5] ⟨rfl, trivial⟩ rfl) ?_;obtain rfl := hR _ h;exact JN.retA (v29, z26.2) [_] ⟨rfl, trivial⟩ rfl
           ·refine JC.skip (bn ?_);exact JN.z ((v29, z26.2), (List.take (Int.toNat x27) r25.2.1, r25.2.2)) h (SE.finT [.obj c_a1 33 (.eq v29), .sl v29 59 tStep (List.take (Int.toNat x27) r25.2.1), .obj c_a2 83 (Pt b_a2), .obj c_a3 133 (.eq (.func (.yield l) #[] #[])), .obj c_a4 134 (.eq (.func (.func 65) #[] #[(Pv c_a1), (Pv c_a2), (Pv c_a3), (Pv c_a4)])), .obj b_a2 98 (Qq a2 (.eq m_a2))] (E z26.2 r25.2.2) [0, 1, 2, 5, 4, 3] ⟨rfl, rfl, rfl, rfl, rfl, rfl, rfl, rfl, rfl, rfl, rfl, trivial⟩ rfl)
         ·refine JC.region ?_;obtain ⟨x31, ex31, h⟩ := b_bind h;refine jb (o_add rfl ex31) ?_;refine mq (nl ?_);exact JN.z ((z19.1, z19.2), (x18.1, x31, x18.2)) h (SE.finT [.obj c_a1 33 (.eq z19.1), .sl z19.1 59 tStep x18.1, .obj c_a2 83 (Pt b_a2), .obj b_a2 98 (Qq a2 (.eq m_a2)), .obj c_a4 134 (.eq (.func (.func 65) #[] #[(Pv c_a1), (Pv c_a2), (Pv c_a3), (Pv c_a4)])), .obj c_a3 133 (.eq (.func (.yield l) #[] #[]))] (E z19.2 x18.2) [0, 1, 2, 3, 4, 5] ⟨rfl, rfl, rfl, rfl, rfl, rfl, rfl, rfl, rfl, rfl, rfl, trivial⟩ rfl)
        ·refine JC.exit (JN.then_x (JN.then_x (JN.blk_hit (bn ?_))));exact JN.z ((z17.1, z17.2), (y16.1, y16.2.2)) h (SE.finT [.obj c_a1 33 (.eq z17.1), .sl z17.1 59 tStep y16.1, .obj c_a2 83 (Pt b_a2), .obj b_a2 98 (Qq a2 (.eq m_a2)), .obj c_a4 134 (.eq (.func (.func 65) #[] #[(Pv c_a1), (Pv c_a2), (Pv c_a3), (Pv c_a4)])), .obj c_a3 133 (.eq (.func (.yield l) #[] #[]))] (E z17.2 y16.2.2) [0, 1, 2, 3, 4, 5] ⟨rfl, rfl, rfl, rfl, rfl, rfl, rfl, trivial⟩ rfl)
     ·refine JC.region ?_;obtain ⟨x32, ex32, h⟩ := b_bind h;refine jb (o_add rfl ex32) ?_;refine mq (nl ?_);exact JN.z ((z9.1, z9.2), (x8.1, x32, x8.2)) h (SE.finT [.obj c_a1 33 (.eq z9.1), .sl z9.1 59 tStep x8.1, .obj c_a2 83 (Pt b_a2), .obj b_a2 98 (Qq a2 (.eq m_a2)), .obj c_a4 134 (.eq (.func (.func 65) #[] #[(Pv c_a1), (Pv c_a2), (Pv c_a3), (Pv c_a4)])), .obj c_a3 133 (.eq (.func (.yield l) #[] #[]))] (E z9.2 x8.2) [0, 1, 2, 3, 4, 5] ⟨rfl, rfl, rfl, rfl, rfl, rfl, rfl, trivial⟩ rfl)
    ·refine xa ?_;exact JN.z ((z7.1, z7.2), (y6.1, y6.2.2)) h (SE.finT [.obj c_a1 33 (.eq z7.1), .sl z7.1 59 tStep y6.1, .obj c_a2 83 (Pt b_a2), .obj b_a2 98 (Qq a2 (.eq m_a2)), .obj c_a4 134 (.eq (.func (.func 65) #[] #[(Pv c_a1), (Pv c_a2), (Pv c_a3), (Pv c_a4)])), .obj c_a3 133 (.eq (.func (.yield l) #[] #[]))] (E z7.2 y6.2.2) [0, 1, 2, 3, 5, 4] trivial rfl)
   ·refine sr (cq (nt (JC.ret ?_)));refine JN.se (SE.finT (Γ' := [(6, _)]) [.obj c_a1 33 (.eq z5.1), .sl z5.1 59 tStep x4.1, .obj c_a2 83 (Pt b_a2), .obj b_a2 98 (Qq a2 (.eq m_a2)), .obj c_a3 133 (.eq (.func (.yield l) #[] #[])), .obj c_a4 134 (.eq (.func (.func 65) #[] #[(Pv c_a1), (Pv c_a2), (Pv c_a3), (Pv c_a4)]))] (E z5.2 x4.2) [1, 0, 2, 4, 5, 3] ⟨rfl, trivial⟩ rfl) ?_;cases h;exact JN.retA (z5.1, z5.2) [_] ⟨rfl, trivial⟩ rfl


def chg_quick_plans_1 {σ : Type} (k : Nat) (Y : σ → (List dStep) → Option (σ × Bool)) (a1 : (dChange × (List (Bool × Int)) × (List Int))) (s0 : σ) : Option (σ) :=
 (chg_quick_plans_1_1 k Y ((a1.1.1, a1.1.2.1, a1.1.2.2.1, a1.1.2.2.2), a1.2.1, a1.2.2) k (0 : Int) ([] : (List dStep)) s0).bind fun r4 =>
 some r4.2.2

theorem chg_quick_plans_1_ok {M : Md Try.prog} {σ Z : Type} (E : Z → σ → List D) (l : Nat) (Y : σ → (List dStep) → Option (σ × Bool)) (k : Nat) (a1 : (dChange × (List (Bool × Int)) × (List Int))) (b_a1 : Nat) (m_a1 : Value) (c_a1 : Nat) (hY : ∀ z s p r, Y s p = some r → YT M l [Rs tStep p] ([.obj b_a1 98 (Qq a1 (.eq m_a1))] ++ E z s) (fun z' : Z => (.eq (.bool r.2), [.obj b_a1 98 (Qq a1 (.eq m_a1))] ++ E z' r.1))) :
 ∀ (z0 : Z) (s0 : σ) (r : σ), chg_quick_plans_1 k Y a1 s0 = some r → CtrM M 64 [.eq (.func (.yield l) #[] #[]), Pt c_a1] ([.obj c_a1 83 (Pt b_a1), .obj b_a1 98 (Qq a1 (.eq m_a1))] ++ E z0 s0) (fun z : Z => (resA [], [.obj c_a1 83 (Pt b_a1), .obj b_a1 98 (Qq a1 (.eq m_a1))] ++ E z r)) := by
 intro z0 s0 r h
 unfold chg_quick_plans_1 at h
 replace h := b_top h
 refine CtrM.of 8 Try.func64 rfl Try.ntmps64 rfl fun S w0 => ?_
 refine sr ?_
 refine bx fun b1 => ?_
 refine nt ?_
 refine sr ?_
 refine JO.s01 rfl rfl rfl (o_alloc rfl za33 al33) trivial fun b2 => ?_
 refine nt ?_
 refine sr ?_
 refine JO.s01 rfl rfl rfl (o_alloc rfl za134 al134) trivial fun b3 => ?_
 refine nt ?_
 refine sr ?_
 refine JO.s rfl (o_mkfn [] [.tmp 3, .tmp 1, .tmp 2, .tmp 4] [] [(Pv b2), (Pv c_a1), (Pv b1), (Pv b3)] rfl rfl rfl) ⟨rfl, rfl, rfl, rfl, trivial⟩ ?_
 refine JO.n11 rfl rfl (o_store rfl sz134 rfl rfl rfl) ⟨rfl, rfl, trivial⟩ ?_
 refine nt ?_
 refine JC.region ?_
 refine lo sz134 ?_
 refine JO.se (SE.nil 59 tStep) ?_
 obtain ⟨r4, er4, h⟩ := b_bind h
 have cr4 := chg_quick_plans_1_1_ok E l Y k b2 ((a1.1.1, a1.1.2.1, a1.1.2.2.1, a1.1.2.2.2), a1.2.1, a1.2.2) b_a1 m_a1 c_a1 b1 b3 hY k (0 : Int) ([] : (List dStep)) (.slice none 0 0) z0 s0 r4 er4
 refine fr 5 ?_
 refine fr 2 ?_
 refine fr 4 ?_
 refine fr 5 ?_
 refine fr 5 ?_
 refine fr 5 ?_
 refine JO.stepA rfl rfl rfl (o_callvM (fs := []) (cs := [(Pv b2), (Pv c_a1), (Pv b1), (Pv b3)]) (ags := [.eq (.int .u8 (0 : Int))]) [.const (.int .u8 (0))] rfl rfl en65 rfl cr4) ⟨rfl, rfl, trivial⟩ fun z5 => ?_
 refine JO.nil ?_
 refine JN.end_n ?_
 refine JN.se (SE.finT (Γ' := []) [.sl z5.1 59 tStep r4.2.1, .obj b2 33 (.eq z5.1), .obj c_a1 83 (Pt b_a1), .obj b1 133 (.eq (.func (.yield l) #[] #[])), .obj b3 134 (.eq (.func (.func 65) #[] #[(Pv b2), (Pv c_a1), (Pv b1), (Pv b3)])), .obj b_a1 98 (Qq a1 (.eq m_a1))] (E z5.2 r4.2.2) [2, 5] trivial rfl) ?_
 cases h
 exact JN.retA z5.2 [] trivial rfl



theorem chg_quick_plans_ok (b : Nat) : Ctr Try.prog 36 [Pt b] [] (fun z : Nat => (resA [.eq (.func (.func 64) #[] #[(Pv z)])], [.obj z 83 (Pt b)])) := by
 refine Ctr.of 4 Try.func36 rfl Try.ntmps36 rfl fun S w0 => ?_;refine sr (bx fun z => ?_);refine cq (nt (sr ?_));refine ja (o_mkfn [] [.tmp 1] [] [(Pv z)] rfl rfl rfl) ?_;refine aq (nt (JC.ret ?_));exact JN.ret z [_] 1 ⟨rfl, trivial⟩ rfl


def chg_quick_bars (k : Nat) (a0 : (dChange × (List (Bool × Int)) × (List Int))) (a1 : (Bool × Int)) : Option Int :=
 (cond a1.1 (chg_on_thing k a1.2) (chg_off_thing k a1.2)).bind fun r1 =>
 (geti a0.1.1 r1).bind fun x2 =>
 if a1.1 = true then (some x2.2.2.1) else (some x2.2.1)

theorem chg_quick_bars_ok (k : Nat) (a0 : (dChange × (List (Bool × Int)) × (List Int))) (b_a0 : Nat) (m_a0 : Value) (a1 : (Bool × Int)) (r : Int) (h : chg_quick_bars k a0 a1 = some r) :
 Ctr Try.prog 72 [Pt b_a0, .rep (.tag 109 111) a1] [.obj b_a0 98 (Qq a0 (.eq m_a0))] (fun _ : Unit => (resA [I r], [.obj b_a0 98 (Qq a0 (.eq m_a0))])) := by
 unfold chg_quick_bars at h
 replace h := b_top h
 refine Ctr.of 27 Try.func72 rfl Try.ntmps72 rfl fun S w0 => ?_
 refine sr ?_
 refine cq ?_
 refine nt ?_
 refine JC.seq ?_
 refine JC.drawW ?_
 refine DW.t00 rfl rfl rfl (o_move rfl) ⟨rfl, trivial⟩ ?_
 refine DW.t00 rfl rfl rfl (o_nil_obj rfl) ⟨rfl, trivial⟩ ?_
 refine DW.t00 rfl rfl rfl (o_field_obj rfl fo98_0) ⟨rfl, trivial⟩ ?_
 refine DW.t00 rfl rfl rfl (o_field_obj rfl fo26_0) ⟨rfl, trivial⟩ ?_
 refine DW.t11 0 rfl rfl rfl rfl (o_load_obj rfl sz23 nfs rfl) ⟨rfl, trivial⟩ ?_
 refine DW.t00 rfl rfl rfl (o_move rfl) ⟨rfl, trivial⟩ ?_
 obtain ⟨r1, er1, h⟩ := b_bind h
 refine DW.t00 rfl rfl rfl (o_invoke rfl rfl mt109_thing mt111_thing (ctr_cond (fun hb => chg_off_thing_ok k a1.2 r1 (by simpa [hb] using er1)) (fun hb => chg_on_thing_ok k a1.2 r1 (by simpa [hb] using er1)))) ⟨rfl, trivial⟩ ?_
 obtain ⟨x2, ex2, h⟩ := b_bind h
 refine DW.t00 rfl rfl rfl (o_index (t := tThing) rfl U23 sz43 ex2) ⟨rfl, rfl, trivial⟩ ?_
 refine DW.t00 rfl rfl rfl (o_load_at (t := tThing) rfl sz43 rfl) ⟨rfl, trivial⟩ ?_
 refine DW.tNew (ptrD 43 (.agg (.pair (.eq (.slice none 0 0)) (.pair (I (0 : Int)) (.pair (I (0 : Int)) (.pair (I (0 : Int)) (I (0 : Int)))))))) (fun _ => rfl) rfl rfl rfl (o_alloc rfl za43 al43) trivial ?_
 refine DW.fin 10 [true, true, true, true, true, true, true, true, true, true] [] [] [] rfl (by kernel_rfl) (by kernel_rfl) (by kernel_rfl) mixed (fun vs hv hB => ?_)
 obtain ⟨w0, vs1, rfl, hv1⟩ := len_cons hv
 obtain ⟨w1, vs2, rfl, hv2⟩ := len_cons hv1
 obtain ⟨w2, vs3, rfl, hv3⟩ := len_cons hv2
 obtain ⟨w3, vs4, rfl, hv4⟩ := len_cons hv3
 obtain ⟨w4, vs5, rfl, hv5⟩ := len_cons hv4
 obtain ⟨w5, vs6, rfl, hv6⟩ := len_cons hv5
 obtain ⟨w6, vs7, rfl, hv7⟩ := len_cons hv6
 obtain ⟨w7, vs8, rfl, hv8⟩ := len_cons hv7
 obtain ⟨w8, vs9, rfl, hv9⟩ := len_cons hv8
 obtain ⟨w9, vs10, rfl, hv10⟩ := len_cons hv9
 obtain rfl := len_nil hv10
 obtain ⟨b3, rfl⟩ := ptr_of hB.2.2.2.2.2.2.2.2.2.1
 refine ⟨[0, 1], [.obj b_a0 98 (Qq a0 (.eq m_a0)), .obj b3 43 (.agg (.pair (.eq (.slice none 0 0)) (.pair (I (0 : Int)) (.pair (I (0 : Int)) (.pair (I (0 : Int)) (I (0 : Int)))))))], by kernel_rfl, by decide, ?_⟩
 refine JT.front 1 rfl ?_
 refine JT.n11 rfl rfl (o_store rfl sz43 rfl rfl rfl) ⟨rfl, rfl, trivial⟩ (by kernel_rfl) ?_
 refine JT.nil ?_
 refine JN.se (SE.fin (Γ' := [(1, .rep (.tag 109 111) a1), (5, Pt b3)]) (Δ' := [.obj b3 43 (.rep tThing x2), .obj b_a0 98 (Qq a0 (.eq m_a0))]) [0, 1] ⟨rfl, rfl, trivial⟩ rfl) ?_
 refine tn ?_
 refine JC.seq ?_
 refine sr ?_
 refine mq ?_
 refine JO.s rfl (o_as1 rfl ta111 (by decide)) ⟨rfl, trivial⟩ ?_
 refine mq ?_
 refine xr ?_
 refine xr ?_
 refine aq ?_
 refine aq ?_
 refine nt ?_
 refine sr ?_
 refine mq ?_
 refine nt ?_
 refine cv h (fun h => ?_) (fun h => ?_)
 ·
  refine sr (fl fo43_2 ?_);refine lo sz3 ?_;refine aq (nt (rx ?_));refine JN.se (SE.fin (Γ' := [(4, _)]) [1, 0] ⟨rfl, trivial⟩ rfl) ?_;cases h;exact JN.ret () [_] 1 ⟨rfl, trivial⟩ rfl
 ·
  refine sk (sr (fl fo43_1 ?_));refine lo sz3 ?_;refine aq (nt (JC.ret ?_));refine JN.se (SE.fin (Γ' := [(4, _)]) [1, 0] ⟨rfl, trivial⟩ rfl) ?_;cases h;exact JN.ret () [_] 1 ⟨rfl, trivial⟩ rfl


def chg_quick_begins_l1 (k : Nat) (a0 : (dChange × (List (Bool × Int)) × (List Int))) : Nat → ((List Int) × Int) → Option (List Int)
 | 0, _ => none
 | n + 1, y6 =>
  if y6.2 < (a0.1.2.1.length : Int) then ((geti a0.1.2.1 y6.2).bind fun x8 =>
  (chkP (0 ≤ y6.2 ∧ y6.2 < 3)).bind fun _ =>
  (ck (y6.2 + (1 : Int))).bind fun x11 =>
  chg_quick_begins_l1 k a0 n (List.set y6.1 (Int.toNat y6.2) x8.2.2, x11)) else (some y6.1)

def chg_quick_begins_l3 (k : Nat) (y14 : (List Int) × (List Int) × (List Int) × Int) (r26 : (List Int)) : Nat → (Int × Int) → Option Int
 | 0, _ => none
 | n + 1, y27 =>
  if y27.2 < (r26.length : Int) then ((geti r26 y27.2).bind fun x29 =>
  (chkP (0 ≤ x29 ∧ x29 < 4)).bind fun _ =>
  (geti y14.2.1 x29).bind fun x31 =>
  (ck (y27.2 + (1 : Int))).bind fun x32 =>
  chg_quick_begins_l3 k y14 r26 n (imax y27.1 x31, x32)) else (some y27.1)

def chg_quick_begins_l2 (k : Nat) (a0 : (dChange × (List (Bool × Int)) × (List Int))) (a1 : (List dStep)) : Nat → ((List Int) × (List Int) × (List Int) × Int) → Option ((List Int) × (List Int))
 | 0, _ => none
 | n + 1, y14 =>
  if y14.2.2.2 < (a1.length : Int) then ((((geti a1 y14.2.2.2).bind fun x18 =>
  (chkP (0 ≤ x18.2 ∧ x18.2 < 3)).bind fun _ =>
  (geti y14.2.2.1 x18.2).bind fun x21 =>
  (((chkP (0 ≤ x18.1 ∧ x18.1 < 8)).bind fun _ =>
  (geti a0.2.2 x18.1).bind fun x25 =>
  (chg_set_list k x25).bind fun r26 =>
  chg_quick_begins_l3 k y14 r26 k (x21, (0 : Int))) : Option (Int)).bind fun x22 =>
  (geti a0.2.1 x18.1).bind fun x33 =>
  (chg_quick_bars k ((a0.1.1, a0.1.2.1, a0.1.2.2.1, a0.1.2.2.2), a0.2.1, a0.2.2) x33).bind fun r34 =>
  (ck (x22 + r34)).bind fun x35 =>
  (chkP (okLen (List.length y14.1 + List.length [x22]))).bind fun _ =>
  (chkP (0 ≤ x18.1 ∧ x18.1 < 4)).bind fun _ =>
  (chkP (0 ≤ x18.2 ∧ x18.2 < 3)).bind fun _ =>
  some (y14.1 ++ [x22], List.set y14.2.1 (Int.toNat x18.1) x35, List.set y14.2.2.1 (Int.toNat x18.2) x35)) : Option ((List Int) × (List Int) × (List Int))).bind fun x16 =>
  (ck (y14.2.2.2 + (1 : Int))).bind fun x40 =>
  chg_quick_begins_l2 k a0 a1 n (x16.1, x16.2.1, x16.2.2, x40)) else (some (y14.1, y14.2.1))
def chg_quick_begins (k : Nat) (a0 : (dChange × (List (Bool × Int)) × (List Int))) (a1 : (List dStep)) : Option ((List Int) × (List Int)) :=
 ((chg_quick_begins_l1 k a0 k ([(0 : Int), (0 : Int), (0 : Int)], (0 : Int))) : Option ((List Int))).bind fun x4 =>
 ((chg_quick_begins_l2 k a0 a1 k (([] : (List Int)), [(0 : Int), (0 : Int), (0 : Int), (0 : Int)], x4, (0 : Int))) : Option ((List Int) × (List Int))).bind fun x12 =>
 some (x12.1, x12.2)

theorem chg_quick_begins_ok (k : Nat) (a0 : (dChange × (List (Bool × Int)) × (List Int))) (b_a0 : Nat) (m_a0 : Value) (a1 : (List dStep)) (r : (List Int) × (List Int)) (h : chg_quick_begins k a0 a1 = some r) :
 Ctr Try.prog 51 [Pt b_a0, Rs tStep a1] [.obj b_a0 98 (Qq a0 (.eq m_a0))] (fun _ : Unit => (resA [Ri r.1, .rep (.arr 4 (.int .i64)) r.2], [.obj b_a0 98 (Qq a0 (.eq m_a0))])) := by
 unfold chg_quick_begins at h
 replace h := b_top h
 refine Ctr.of 89 Try.func51 rfl Try.ntmps51 rfl fun S w0 => ?_
 refine sr ?_
 refine cq ?_
 refine JO.s01 rfl rfl rfl (o_alloc rfl za113 al113) trivial fun b1 => ?_
 refine nt ?_
 refine sr ?_
 refine cq ?_
 refine nt ?_
 refine sr ?_
 refine JO.s01 rfl rfl rfl (o_alloc rfl za113 al113) trivial fun b2 => ?_
 refine nt ?_
 refine sr ?_
 refine JO.s01 rfl rfl rfl (o_alloc rfl za143 al143) trivial fun b3 => ?_
 refine nt ?_
 refine JC.cutB (Z := Unit) (α := (List Int)) (fun z5 x4 => [(0, Pt b_a0), (1, Rs tStep a1), (5, Pt b1), (6, .eq (.slice none 0 0)), (7, Pt b2), (8, Pt b3)]) (fun z5 x4 => [.obj b_a0 98 (Qq a0 (.eq m_a0)), .obj b1 113 (.rep (.arr 4 (.int .i64)) [(0 : Int), (0 : Int), (0 : Int), (0 : Int)]), .obj b2 113 (.rep (.arr 4 (.int .i64)) [(0 : Int), (0 : Int), (0 : Int), (0 : Int)]), .obj b3 143 (.rep (.arr 3 (.int .i64)) x4)]) h (fun K h => ?_) (fun z5 x4 h => ?_)
 ·
  refine sr (mq ?_);refine ja (o_nil_obj rfl) ?_;refine fl fo98_0 ?_;refine fl fo26_1 ?_;refine fr 3 ?_;refine lo sz24 ?_;refine ol U24 ?_;refine JO.mc rfl ?_;refine nt (JC.block (JC.loopB (Z := Unit) (α := (List Int) × Int) (fun z7 y6 => [(0, Pt b_a0), (1, Rs tStep a1), (5, Pt b1), (6, .eq (.slice none 0 0)), (7, Pt b2), (8, Pt b3), (21, Rs tDresser a0.1.2.1), (22, I (a0.1.2.1.length : Int)), (23, I y6.2)]) (fun z7 y6 => [.obj b_a0 98 (Qq a0 (.eq m_a0)), .obj b1 113 (.rep (.arr 4 (.int .i64)) [(0 : Int), (0 : Int), (0 : Int), (0 : Int)]), .obj b2 113 (.rep (.arr 4 (.int .i64)) [(0 : Int), (0 : Int), (0 : Int), (0 : Int)]), .obj b3 143 (.rep (.arr 3 (.int .i64)) y6.1)]) (chg_quick_begins_l1 k a0) k () ([(0 : Int), (0 : Int), (0 : Int)], (0 : Int)) (fun _ => rfl) h (SE.fin [0, 3, 2, 1] ⟨rfl, rfl, rfl, rfl, rfl, rfl, rfl, rfl, rfl, trivial⟩ rfl) (fun n z7 y6 h => ?_)));unfold chg_quick_begins_l1 at h;refine sr (jb (o_lss rfl) ?_);refine nt (JC.seq (ci h (fun h => ?_) (fun h => ?_)))
  ·refine sk (JC.seq (JC.block (sr (mq ?_))));obtain ⟨x8, ex8, h⟩ := b_bind h;refine jb (o_index (t := tDresser) rfl U24 sz38 ex8) ?_;refine ja (o_load_at (t := tDresser) rfl sz38 rfl) ?_;refine JO.s01 rfl rfl rfl (o_alloc rfl za38 al38) trivial fun b9 => ?_;refine aq ?_;refine JO.n11 rfl rfl (o_store rfl sz38 rfl rfl rfl) ⟨rfl, rfl, trivial⟩ ?_;refine nt (JC.region (mq ?_));refine fl fo38_2 ?_;refine lo sz3 ?_;obtain ⟨u10, eu10, h⟩ := b_bind h;refine jb (o_index_arr rfl U143 sz3 (chkP_some eu10).1 (chkP_some eu10).2) ?_;refine fr 4 ?_;refine JO.n11 rfl rfl (o_store_arr (t := (.int .i64)) (off := 0) (i := y6.2) (N := 3) rfl sz3 .int rfl rfl rfl rfl (chkP_some eu10).1 (chkP_some eu10).2 rfl) ⟨rfl, rfl, trivial⟩ ?_;refine JO.nil (JN.blk_n (tn (JC.region ?_)));obtain ⟨x11, ex11, h⟩ := b_bind h;refine jb (o_add rfl ex11) ?_;refine mq (nl ?_);exact jz ((), (List.set y6.1 (Int.toNat y6.2) x8.2.2, x11)) h [2, 3, 4, 0]
  ·refine xa ?_;exact jz ((), y6.1) h [0, 1, 2, 3]
 ·
  refine JC.cutB (Z := Value) (α := (List Int) × (List Int)) (fun z13 x12 => [(5, Pt b1), (6, .eq z13), (7, Pt b2)]) (fun z13 x12 => [.obj b1 113 (.rep (.arr 4 (.int .i64)) [(0 : Int), (0 : Int), (0 : Int), (0 : Int)]), .sl z13 3 (.int .i64) x12.1, .obj b2 113 (.rep (.arr 4 (.int .i64)) x12.2), .obj b_a0 98 (Qq a0 (.eq m_a0))]) h (fun K h => ?_) (fun z13 x12 h => ?_)
  ·refine sr (mq ?_);refine ol U33 ?_;refine JO.mc rfl ?_;refine nt (JC.block (JC.se (SE.nil 3 (.int .i64)) ?_));refine JC.loopB (Z := Value) (α := (List Int) × (List Int) × (List Int) × Int) (fun z15 y14 => [(0, Pt b_a0), (5, Pt b1), (6, .eq z15), (7, Pt b2), (8, Pt b3), (33, Rs tStep a1), (34, I (a1.length : Int)), (35, I y14.2.2.2)]) (fun z15 y14 => [.obj b_a0 98 (Qq a0 (.eq m_a0)), .obj b1 113 (.rep (.arr 4 (.int .i64)) [(0 : Int), (0 : Int), (0 : Int), (0 : Int)]), .sl z15 3 (.int .i64) y14.1, .obj b2 113 (.rep (.arr 4 (.int .i64)) y14.2.1), .obj b3 143 (.rep (.arr 3 (.int .i64)) y14.2.2.1)]) (chg_quick_begins_l2 k a0 a1) k (.slice none 0 0) (([] : (List Int)), [(0 : Int), (0 : Int), (0 : Int), (0 : Int)], x4, (0 : Int)) (fun _ => rfl) h (SE.fin [1, 2, 0, 3, 4] ⟨rfl, rfl, rfl, rfl, rfl, rfl, rfl, rfl, trivial⟩ rfl) (fun n z15 y14 h => ?_);unfold chg_quick_begins_l2 at h;refine sr (jb (o_lss rfl) ?_);refine nt (JC.seq (ci h (fun h => ?_) (fun h => ?_)))
   ·refine sk (JC.cutB (Z := Value) (α := (List Int) × (List Int) × (List Int)) (fun z17 x16 => [(0, Pt b_a0), (5, Pt b1), (6, .eq z17), (7, Pt b2), (8, Pt b3), (33, Rs tStep a1), (34, I (a1.length : Int)), (35, I y14.2.2.2)]) (fun z17 x16 => [.obj b_a0 98 (Qq a0 (.eq m_a0)), .obj b1 113 (.rep (.arr 4 (.int .i64)) [(0 : Int), (0 : Int), (0 : Int), (0 : Int)]), .sl z17 3 (.int .i64) x16.1, .obj b2 113 (.rep (.arr 4 (.int .i64)) x16.2.1), .obj b3 143 (.rep (.arr 3 (.int .i64)) x16.2.2)]) h (fun K h => ?_) (fun z17 x16 h => ?_))
    ·refine JC.block (sr ?_);obtain ⟨x18, ex18, h⟩ := b_bind h;refine jb (o_index (t := tStep) rfl U33 sz59 ex18) ?_;refine ja (o_load_at (t := tStep) rfl sz59 rfl) ?_;refine JO.s01 rfl rfl rfl (o_alloc rfl za59 al59) trivial fun b19 => ?_;refine JO.n11 rfl rfl (o_store rfl sz59 rfl rfl rfl) ⟨rfl, rfl, trivial⟩ ?_;refine nt (sr (fl fo59_1 ?_));refine lo sz3 ?_;obtain ⟨u20, eu20, h⟩ := b_bind h;refine jb (o_index_arr rfl U143 sz3 (chkP_some eu20).1 (chkP_some eu20).2) ?_;obtain ⟨x21, ex21, h⟩ := b_bind h;refine fr 5 ?_;refine ka (o_load_arr (t := (.int .i64)) (off := 0) (i := x18.2) (N := 3) rfl sz3 (fun _ => rfl) rfl rfl rfl rfl ex21) ?_;refine aq (nt ?_);refine JC.cutB (Z := Unit) (α := Int) (fun z23 x22 => [(0, Pt b_a0), (5, Pt b1), (6, .eq z15), (7, Pt b2), (8, Pt b3), (12, Pt b19), (13, I x22), (33, Rs tStep a1), (34, I (a1.length : Int)), (35, I y14.2.2.2)]) (fun z23 x22 => [.obj b_a0 98 (Qq a0 (.eq m_a0)), .obj b1 113 (.rep (.arr 4 (.int .i64)) [(0 : Int), (0 : Int), (0 : Int), (0 : Int)]), .sl z15 3 (.int .i64) y14.1, .obj b2 113 (.rep (.arr 4 (.int .i64)) y14.2.1), .obj b3 143 (.rep (.arr 3 (.int .i64)) y14.2.2.1), .obj b19 59 (.rep tStep x18)]) h (fun K h => ?_) (fun z23 x22 h => ?_)
     ·refine JC.seq (JC.drawN ?_);refine dm ?_;refine da (o_field_obj rfl fo59_0) ?_;refine ea 1 (o_load_obj rfl sz3 nfs rfl) ?_;refine da (o_nil_obj rfl) ?_;refine da (o_field_obj rfl fo98_2) ?_;obtain ⟨u24, eu24, h⟩ := b_bind h;refine db (o_index_arr rfl U95 sz94 (chkP_some eu24).1 (chkP_some eu24).2) ?_;obtain ⟨x25, ex25, h⟩ := b_bind h;refine ea 2 (o_load_arr (t := (.int .u8)) (off := 5) (i := x18.1) (N := 8) rfl sz94 (fun _ => rfl) rfl rfl rfl rfl ex25) ?_;obtain ⟨r26, er26, h⟩ := b_bind h;refine da (o_call [.tmp 49] rfl rfl en41 rfl (chg_set_list_ok k x25 r26 er26)) ?_;refine da (o_len rfl rfl U22) ?_;refine dm ?_;refine df mixed ?_;refine nt (JC.block (JC.loopB (Z := Unit) (α := Int × Int) (fun z28 y27 => [(0, Pt b_a0), (5, Pt b1), (6, .eq z15), (7, Pt b2), (8, Pt b3), (12, Pt b19), (13, I y27.1), (33, Rs tStep a1), (34, I (a1.length : Int)), (35, I y14.2.2.2), (50, Ri r26), (51, I (r26.length : Int)), (52, I y27.2)]) (fun z28 y27 => [.obj b_a0 98 (Qq a0 (.eq m_a0)), .obj b1 113 (.rep (.arr 4 (.int .i64)) [(0 : Int), (0 : Int), (0 : Int), (0 : Int)]), .sl z15 3 (.int .i64) y14.1, .obj b2 113 (.rep (.arr 4 (.int .i64)) y14.2.1), .obj b3 143 (.rep (.arr 3 (.int .i64)) y14.2.2.1), .obj b19 59 (.rep tStep x18)]) (chg_quick_begins_l3 k y14 r26) k () (x21, (0 : Int)) (fun _ => rfl) h (SE.fin [2, 3, 4, 5, 0, 1] ⟨rfl, rfl, rfl, rfl, rfl, rfl, rfl, rfl, rfl, rfl, rfl, rfl, rfl, trivial⟩ rfl) (fun n z28 y27 h => ?_)));unfold chg_quick_begins_l3 at h;refine sr (jb (o_lss rfl) ?_);refine nt (JC.seq (ci h (fun h => ?_) (fun h => ?_)))
      ·refine sk (JC.seq (JC.block (sr ?_)));obtain ⟨x29, ex29, h⟩ := b_bind h;refine jb (o_index (t := (.int .i64)) rfl U22 sz3 ex29) ?_;refine ja (o_load_at (t := (.int .i64)) rfl sz3 rfl) ?_;refine aq (nt (JC.region ?_));iterate 2 refine mq ?_
       obtain ⟨u30, eu30, h⟩ := b_bind h;refine jb (o_index_arr rfl U113 sz3 (chkP_some eu30).1 (chkP_some eu30).2) ?_;obtain ⟨x31, ex31, h⟩ := b_bind h;refine fr 3 ?_;refine ka (o_load_arr (t := (.int .i64)) (off := 0) (i := x29) (N := 4) rfl sz3 (fun _ => rfl) rfl rfl rfl rfl ex31) ?_;refine jb (o_max rfl rfl) ?_;refine aq (JO.nil (JN.blk_n (tn (JC.region ?_))));obtain ⟨x32, ex32, h⟩ := b_bind h;refine jb (o_add rfl ex32) ?_;refine mq (nl ?_);exact jz ((), (imax y27.1 x31, x32)) h [1, 2, 3, 0, 4, 5]
      ·refine xa ?_;exact jz ((), y27.1) h [0, 1, 2, 3, 4, 5]
     ·refine JC.seq (JC.drawN ?_);refine dm ?_;refine dm ?_;refine dm ?_;refine da (o_nil_obj rfl) ?_;refine da (o_field_obj rfl fo98_1) ?_;refine ea 0 (o_load_obj rfl sz93 nfs rfl) ?_;refine da (o_field_obj rfl fo59_0) ?_;refine ea 5 (o_load_obj rfl sz3 nfs rfl) ?_;obtain ⟨x33, ex33, h⟩ := b_bind h;refine db (o_index (t := (.tag 109 111)) rfl U93 sz108 ex33) ?_;refine da (o_load_at (t := (.tag 109 111)) rfl sz108 rfl) ?_;obtain ⟨r34, er34, h⟩ := b_bind h;refine eb 0 (o_call [.tmp 63, .tmp 71] rfl rfl en72 rfl (chg_quick_bars_ok k ((a0.1.1, a0.1.2.1, a0.1.2.2.1, a0.1.2.2.2), a0.2.1, a0.2.2) b_a0 m_a0 x33 r34 er34)) ?_;refine df mixed ?_;obtain ⟨x35, ex35, h⟩ := b_bind h;refine jb (o_add rfl ex35) ?_;refine aq (nt ?_);refine JC.drawW ?_;refine DW.t00 rfl rfl rfl (o_field_obj rfl fo59_0) ⟨rfl, trivial⟩ ?_;refine DW.t11 5 rfl rfl rfl rfl (o_load_obj rfl sz3 nfs rfl) ⟨rfl, trivial⟩ ?_;refine DW.t00 rfl rfl rfl (o_field_obj rfl fo59_1) ⟨rfl, trivial⟩ ?_;refine DW.t11 5 rfl rfl rfl rfl (o_load_obj rfl sz3 nfs rfl) ⟨rfl, trivial⟩ ?_;refine DW.t00 rfl rfl rfl (o_move rfl) ⟨rfl, trivial⟩ ?_;refine DW.t00 rfl rfl rfl (o_move rfl) ⟨rfl, trivial⟩ ?_;refine DW.t00 rfl rfl rfl (o_litB (t := (.int .i64)) [(.tmp 79, _)] [x22] rfl rfl sl22 (.cons rfl .int .nil) rfl rfl) ⟨rfl, trivial⟩ ?_;obtain ⟨u36, eu36, h⟩ := b_bind h;refine DW.tTurn 2 rfl (fun v => [.sl v 3 (.int .i64) (y14.1 ++ [x22])]) (fun _ => rfl) rfl rfl rfl (o_append rfl rfl sl22 (chkP_some eu36)) ⟨rfl, rfl, trivial⟩ ?_;refine DW.t00 rfl rfl rfl (o_move rfl) ⟨rfl, trivial⟩ ?_;refine DW.t00 rfl rfl rfl (o_move rfl) ⟨rfl, trivial⟩ ?_;refine DW.fin 10 [false, false, false, false, true, true, true, true, false, false] [6, 84] [5] [.obj b19 59 (.rep tStep x18)] rfl (by kernel_rfl) (by kernel_rfl) (by kernel_rfl) mixed (fun vs hv hB => ?_);obtain ⟨w0, vs1, rfl, hv1⟩ := len_cons hv;obtain ⟨w1, vs2, rfl, hv2⟩ := len_cons hv1;obtain ⟨w2, vs3, rfl, hv3⟩ := len_cons hv2;obtain ⟨w3, vs4, rfl, hv4⟩ := len_cons hv3;obtain ⟨w4, vs5, rfl, hv5⟩ := len_cons hv4;obtain ⟨w5, vs6, rfl, hv6⟩ := len_cons hv5;obtain ⟨w6, vs7, rfl, hv7⟩ := len_cons hv6;obtain ⟨v37, vs8, rfl, hv8⟩ := len_cons hv7;obtain ⟨w8, vs9, rfl, hv9⟩ := len_cons hv8;obtain ⟨w9, vs10, rfl, hv10⟩ := len_cons hv9;obtain rfl := len_nil hv10;refine ⟨[4, 0, 1, 2, 3, 5], [.obj b_a0 98 (Qq a0 (.eq m_a0)), .obj b1 113 (.rep (.arr 4 (.int .i64)) [(0 : Int), (0 : Int), (0 : Int), (0 : Int)]), .obj b2 113 (.rep (.arr 4 (.int .i64)) y14.2.1), .obj b3 143 (.rep (.arr 3 (.int .i64)) y14.2.2.1), .sl v37 3 (.int .i64) (y14.1 ++ [x22])], by kernel_rfl, by decide, ?_⟩;refine JT.y00 rfl rfl rfl rfl (o_assign rfl) ⟨rfl, trivial⟩ (by kernel_rfl) ?_;obtain ⟨u38, eu38, h⟩ := b_bind h;refine JT.y00 rfl rfl rfl rfl (o_index_arr rfl U113 sz3 (chkP_some eu38).1 (chkP_some eu38).2) ⟨rfl, rfl, trivial⟩ (by kernel_rfl) ?_;refine JT.front 2 rfl ?_;refine JT.n11 rfl rfl (o_store_arr (t := (.int .i64)) (off := 0) (i := x18.1) (N := 4) rfl sz3 .int rfl rfl rfl rfl (chkP_some eu38).1 (chkP_some eu38).2 rfl) ⟨rfl, rfl, trivial⟩ (by kernel_rfl) ?_;refine JT.all (by kernel_rfl) ?_;obtain ⟨u39, eu39, h⟩ := b_bind h;refine jb (o_index_arr rfl U143 sz3 (chkP_some eu39).1 (chkP_some eu39).2) ?_;refine fr 4 ?_;refine JO.n11 rfl rfl (o_store_arr (t := (.int .i64)) (off := 0) (i := x18.2) (N := 3) rfl sz3 .int rfl rfl rfl rfl (chkP_some eu39).1 (chkP_some eu39).2 rfl) ⟨rfl, rfl, trivial⟩ ?_;refine JO.nil (bn ?_);exact jz (v37, (y14.1 ++ [x22], List.set y14.2.1 (Int.toNat x18.1) x35, List.set y14.2.2.1 (Int.toNat x18.2) x35)) h [3, 4, 5, 2, 0]
    ·refine JC.region ?_;obtain ⟨x40, ex40, h⟩ := b_bind h;refine jb (o_add rfl ex40) ?_;refine mq (nl ?_);exact jz (z17, (x16.1, x16.2.1, x16.2.2, x40)) h [0, 1, 2, 3, 4]
   ·refine xa ?_;exact jz (z15, (y14.1, y14.2.1)) h [1, 2, 3, 0]
  ·refine JC.seq (JC.drawN ?_);refine dm ?_;refine ea 2 (o_load_obj rfl sz113 (nfn) rfl) ?_;refine da (o_assign rfl) ?_;refine df mixed ?_;refine JO.n11 rfl rfl (o_store rfl sz113 rfl rfl rfl) ⟨rfl, rfl, trivial⟩ ?_;refine nt (JC.ret (JN.front 1 rfl ?_));refine JN.se (SE.frz [4, 6, 87] ⟨rfl, rfl, rfl, trivial⟩) ?_;refine JN.se (SE.fin (Γ' := [(4, _), (5, _)]) [2, 0, 1] ⟨rfl, rfl, trivial⟩ rfl) ?_;cases h;exact JN.ret () [_, .rep (.arr 4 (.int .i64)) x12.2] 1 ⟨rfl, ⟨_, _, _, _, _, rfl, (.tail _ (.head _)), sz113, (nfn), rfl⟩, trivial⟩ rfl


def chg_keyOf_l1 (k : Nat) : Nat → ((List dStep) × Int) → Option (List dStep)
 | 0, _ => none
 | n + 1, y5 =>
  if y5.2 < (4 : Int) then ((chkP (0 ≤ y5.2 ∧ y5.2 < 4)).bind fun _ =>
  (ck (y5.2 + (1 : Int))).bind fun x8 =>
  chg_keyOf_l1 k n (List.set y5.1 (Int.toNat y5.2) ((-1 : Int), (-1 : Int)), x8)) else (some y5.1)
def chg_keyOf (k : Nat) (a0 : (List dStep)) : Option (List dStep) :=
 ((chg_keyOf_l1 k k ([((0 : Int), (0 : Int)), ((0 : Int), (0 : Int)), ((0 : Int), (0 : Int)), ((0 : Int), (0 : Int))], (0 : Int))) : Option ((List dStep))).bind fun x3 =>
 some (List.take 4 a0 ++ List.drop (List.length a0) x3)

theorem chg_keyOf_ok (k : Nat) (a0 : (List dStep)) (r : (List dStep)) (h : chg_keyOf k a0 = some r) :
 Ctr Try.prog 68 [Rs tStep a0] [] (fun _ : Unit => (resA [.rep (.arr 4 tStep) r], [])) := by
 unfold chg_keyOf at h
 replace h := b_top h
 refine Ctr.of 16 Try.func68 rfl Try.ntmps68 rfl fun S w0 => ?_
 refine sr ?_
 refine JO.s01 rfl rfl rfl (o_alloc rfl za138 al138) trivial fun b1 => ?_
 refine nt ?_
 refine sr ?_
 refine JO.s01 rfl rfl rfl (o_alloc rfl za138 al138) trivial fun b2 => ?_
 refine nt ?_
 refine JC.cutB (Z := Unit) (α := (List dStep)) (fun z4 x3 => [(0, Rs tStep a0), (2, Pt b1), (3, Pt b2)]) (fun z4 x3 => [.obj b1 138 (.rep (.arr 4 tStep) [((0 : Int), (0 : Int)), ((0 : Int), (0 : Int)), ((0 : Int), (0 : Int)), ((0 : Int), (0 : Int))]), .obj b2 138 (.rep (.arr 4 tStep) x3)]) h (fun K h => ?_) (fun z4 x3 h => ?_)
 ·
  refine sr (JO.mc rfl ?_);refine nt (JC.block (JC.loopB (Z := Unit) (α := (List dStep) × Int) (fun z6 y5 => [(0, Rs tStep a0), (2, Pt b1), (3, Pt b2), (5, I y5.2)]) (fun z6 y5 => [.obj b1 138 (.rep (.arr 4 tStep) [((0 : Int), (0 : Int)), ((0 : Int), (0 : Int)), ((0 : Int), (0 : Int)), ((0 : Int), (0 : Int))]), .obj b2 138 (.rep (.arr 4 tStep) y5.1)]) (chg_keyOf_l1 k) k () ([((0 : Int), (0 : Int)), ((0 : Int), (0 : Int)), ((0 : Int), (0 : Int)), ((0 : Int), (0 : Int))], (0 : Int)) (fun _ => rfl) h (SE.fin [1, 0] ⟨rfl, rfl, rfl, rfl, trivial⟩ rfl) (fun n z6 y5 h => ?_)));unfold chg_keyOf_l1 at h;refine sr (jb (o_lss rfl) ?_);refine nt (JC.seq (ci h (fun h => ?_) (fun h => ?_)))
  ·refine sk (JC.seq (JC.block (sr (mq ?_))));refine aq (nt (JC.region ?_));refine mq ?_;refine jb (o_buildT [(0, .const (.int .i64 (-1)), _), (1, .const (.int .i64 (-1)), _)] rfl pl59 za59 alb59 (stors ⟨rfl, rfl, trivial⟩) rfl) ?_;obtain ⟨u7, eu7, h⟩ := b_bind h;refine jb (o_index_arr rfl U138 sz59 (chkP_some eu7).1 (chkP_some eu7).2) ?_;refine fr 1 ?_;refine JO.n11 rfl rfl (o_store_arr (t := tStep) (off := 0) (i := y5.2) (N := 4) rfl sz59 (.agg (.pair .int .int)) trivial rfl rfl rfl (chkP_some eu7).1 (chkP_some eu7).2 rfl) ⟨rfl, rfl, trivial⟩ ?_;refine JO.nil (JN.blk_n (tn (JC.region ?_)));obtain ⟨x8, ex8, h⟩ := b_bind h;refine jb (o_add rfl ex8) ?_;refine mq (nl ?_);exact jz ((), (List.set y5.1 (Int.toNat y5.2) ((-1 : Int), (-1 : Int)), x8)) h [1, 0]
  ·refine xa ?_;exact jz ((), y5.1) h [0, 1]
 ·
  refine sr (ja (o_slice_arr rfl U138 sz59) ?_);refine mq ?_;refine fr 1 ?_;refine kb (o_copy_arr rfl rfl U33 sz59) ?_;refine nt (sr (lo sz138 ?_));refine fr 1 ?_;refine JO.n11 rfl rfl (o_store rfl sz138 rfl rfl rfl) ⟨rfl, rfl, trivial⟩ ?_;refine nt (JC.ret ?_);cases h;exact JN.ret () [.rep (.arr 4 tStep) (List.take 4 a0 ++ List.drop (List.length a0) x3)] 0 ⟨⟨_, _, _, _, _, rfl, (.head _), sz138, (nfn), rfl⟩, trivial⟩ rfl


def slc_Max_int_l1 (k : Nat) (a0 : (List Int)) : Nat → (Int × Int) → Option Int
 | 0, _ => none
 | n + 1, y4 =>
  if y4.2 < (a0.length : Int) then ((geti a0 y4.2).bind fun x6 =>
  (ck (y4.2 + (1 : Int))).bind fun x7 =>
  slc_Max_int_l1 k a0 n (imax y4.1 x6, x7)) else (some y4.1)
def slc_Max_int (k : Nat) (a0 : (List Int)) : Option Int :=
 if (a0.length : Int) < (1 : Int) then (none) else ((geti a0 (0 : Int)).bind fun x1 =>
 ((slc_Max_int_l1 k a0 k (x1, (1 : Int))) : Option (Int)).bind fun x2 =>
 some x2)

theorem slc_Max_int_ok (k : Nat) (a0 : (List Int)) (r : Int) (h : slc_Max_int k a0 = some r) :
 Ctr Try.prog 69 [Ri a0] [] (fun _ : Unit => (resA [I r], [])) := by
 unfold slc_Max_int at h
 replace h := b_top h
 refine Ctr.of 25 Try.func69 rfl Try.ntmps69 rfl fun S w0 => ?_
 refine sr ?_
 refine cq ?_
 refine nt ?_
 refine JC.seq ?_
 refine sr ?_
 refine mq ?_
 refine ol U22 ?_
 refine jb (o_lss rfl) ?_
 refine nt ?_
 refine ci h (fun h => ?_) (fun h => ?_)
 ·
  refine JC.region ?_;cases h
 ·
  refine sk (sr (mq ?_));obtain ⟨x1, ex1, h⟩ := b_bind h;refine jb (o_index (t := (.int .i64)) rfl U22 sz3 ex1) ?_;refine ja (o_load_at (t := (.int .i64)) rfl sz3 rfl) ?_;refine aq (nt ?_);refine JC.cutB (Z := Unit) (α := Int) (fun z3 x2 => [(3, I x2)]) (fun z3 x2 => []) h (fun K h => ?_) (fun z3 x2 h => ?_)
  ·refine sr (cq (nt (JC.block ?_)));refine JC.loopB (Z := Unit) (α := Int × Int) (fun z5 y4 => [(0, Ri a0), (3, I y4.1), (4, I y4.2)]) (fun z5 y4 => []) (slc_Max_int_l1 k a0) k () (x1, (1 : Int)) (fun _ => rfl) h (SE.fin [] ⟨rfl, rfl, rfl, trivial⟩ rfl) (fun n z5 y4 h => ?_);unfold slc_Max_int_l1 at h;refine JC.seq (sr ?_);iterate 2 refine mq ?_
   refine ol U22 ?_;refine jb (o_lss rfl) ?_;refine nt (ci h (fun h => ?_) (fun h => ?_))
   ·refine sk (JC.seq (JC.block (JC.region ?_)));iterate 3 refine mq ?_
    obtain ⟨x6, ex6, h⟩ := b_bind h;refine jb (o_index (t := (.int .i64)) rfl U22 sz3 ex6) ?_;refine ja (o_load_at (t := (.int .i64)) rfl sz3 rfl) ?_;refine jb (o_max rfl rfl) ?_;refine aq (JO.nil (JN.blk_n (tn (JC.region ?_))));refine mq ?_;obtain ⟨x7, ex7, h⟩ := b_bind h;refine jb (o_add rfl ex7) ?_;refine aq (nl ?_);exact jz ((), (imax y4.1 x6, x7)) h []
   ·refine xa ?_;exact jz ((), y4.1) h []
  ·refine sr (mq ?_);refine aq (nt (JC.ret ?_));cases h;exact ra


/-! The bars of a plan, known or not. -/
def lineV (l : List (Int × Int)) : Value := .agg (l.flatMap fun s => [Value.int .i64 s.1, Value.int .i64 s.2]).toArray

theorem lineV_nop (l : List (Int × Int)) : nop (lineV l) = true := by
 show ((l.flatMap fun s => [Value.int .i64 s.1, Value.int .i64 s.2]).toArray.toList.all one0) = true
 induction l with
 | nil => rfl
 | cons s l _ => simp [one0]
theorem lineV_inj : ∀ {l l' : List (Int × Int)}, lineV l = lineV l' → l = l' := by
 have key : ∀ {l l' : List (Int × Int)}, (l.flatMap fun s => [Value.int .i64 s.1, Value.int .i64 s.2]) = (l'.flatMap fun s => [Value.int .i64 s.1, Value.int .i64 s.2]) → l = l' := by
  intro l
  induction l with
  | nil => intro l' h; cases l' with
   | nil => rfl
   | cons s l' => simp at h
  | cons s l ih => intro l' h; cases l' with
   | nil => simp at h
   | cons s' l' =>
    obtain ⟨a, b⟩ := s;obtain ⟨a', b'⟩ := s';simp only [List.flatMap_cons, List.cons_append, List.nil_append, List.cons.injEq, Value.int.injEq, true_and] at h;rw [h.1, h.2.1, ih h.2.2]
 intro l l' h;simp only [lineV, Value.agg.injEq] at h;exact key (by simpa using congrArg Array.toList h)

theorem line_holds {S : FS} {w : World} {u : Value} {l : List dStep} (h : (A.rep (.arr 4 tStep) l).holds S w u) : u = lineV l := by
 obtain ⟨cs, ⟨_, h1⟩, h2⟩ := h
 have key : ∀ {l : List dStep} {cs : List Value}, rdAll (rd S w tStep) l cs → cs = l.flatMap fun s => [Value.int .i64 s.1, Value.int .i64 s.2] := by
  intro l
  induction l with
  | nil => intro cs h; exact h
  | cons s l ih =>
   rintro cs ⟨c1, c2, rfl, h1, h2⟩;have e1 : c1 = [Value.int .i64 s.1, Value.int .i64 s.2] := rd_enc tStep rfl h1;rw [e1, ih h2];rfl
 rw [h2, key h1];rfl

/-- The key of a plan. -/
def keyL (p : List dStep) : List dStep := p ++ List.replicate (4 - p.length) (-1, -1)

def lenGuard (a0 : (dChange × (List (Bool × Int)) × (List Int))) (p : List dStep) : Prop := p.length = a0.2.1.length ∧ p.length ≤ 4 ∧ ∀ s ∈ p, 0 ≤ s.1 ∧ s.1 < 8 ∧ 0 ≤ s.2 ∧ s.2 < 8
instance (a0 : (dChange × (List (Bool × Int)) × (List Int))) (p : List dStep) : Decidable (lenGuard a0 p) := by unfold lenGuard; infer_instance

theorem keyL_inj {a0 : (dChange × (List (Bool × Int)) × (List Int))} {p q : List dStep} (hp : lenGuard a0 p) (hq : lenGuard a0 q) (h : keyL p = keyL q) : p = q := by
 have hl : p.length = q.length := hp.1.trans hq.1.symm;unfold keyL at h;exact (List.append_inj h hl).1

theorem keyL_nil {a0 : (dChange × (List (Bool × Int)) × (List Int))} {p : List dStep} (hp : lenGuard a0 p) (h : keyL p = keyL []) : p = [] := by
 cases p with
 | nil => rfl
 | cons s p =>
  exfalso;have h0 := (hp.2.2 s (by simp)).1;have h1 : (keyL (s :: p))[0]? = (keyL [])[0]? := by rw [h]
  simp [keyL] at h1;rw [h1] at h0;omega

theorem keyL_len {p : List dStep} (h : p.length ≤ 4) : (keyL p).length = 4 := by simp [keyL]; omega

theorem typesN : Try.prog.types.size + 2 ≤ 10000 := Nat.le_of_ble_eq_true (by kernel_rfl)
theorem typesLine : 138 < Try.prog.types.size := Nat.lt_of_lt_of_le (Nat.lt_succ_self 138) (Nat.le_of_ble_eq_true (by kernel_rfl))
theorem klawLine : WideMaps.KeyLaw Try.prog 138 := deep_law_gate (by kernel_rfl) typesN (Nat.lt_of_lt_of_le (Nat.lt_succ_self 138) (Nat.le_of_ble_eq_true (by kernel_rfl))) (by kernel_rfl) (by kernel_rfl)

theorem key_line {l : List dStep} (h4 : l.length = 4) (hw : ∀ s ∈ l, (Lit.int .i64 s.1).wf = true ∧ (Lit.int .i64 s.2).wf = true) : ∃ lt, keyOf Try.prog 138 (lineV l) = some lt := by
 match l, h4, hw with
 | [(a0, a1), (b0, b1), (c0, c1), (d0, d1)], _, hw =>
  have h1 := hw (a0, a1) (by simp);have h2 := hw (b0, b1) (by simp);have h3 := hw (c0, c1) (by simp);have h4 := hw (d0, d1) (by simp)
  have hint : ∀ (d : Nat) (n : Int), (Lit.int .i64 n).wf = true → Try.prog.keyLits (d + 1) 3 [.int .i64 n] = some [.int .i64 n] := fun d n h => by
   simp only [Program.keyLits, U3, h, and_self, if_true]
  have hstep : ∀ (d : Nat) (n m : Int), (Lit.int .i64 n).wf = true → (Lit.int .i64 m).wf = true → Try.prog.keyLits (d + 2) 59 [.int .i64 n, .int .i64 m] = some [.int .i64 n, .int .i64 m] := fun d n m g1 g2 => by
   have hc : Try.prog.cellsOf 59 = 2 := by kernel_rfl
   have hc3 : Try.prog.cellsOf 3 = 1 := by kernel_rfl
   simp [Program.keyLits, U59, hc, hc3, g1, g2, U3]
  obtain ⟨d, hd⟩ : ∃ d, Try.prog.types.size + 1 = d + 3 := ⟨Try.prog.types.size - 2, by have := typesLine; omega⟩;have hc : Try.prog.cellsOf 138 = 8 := by kernel_rfl
  have hc2 : Try.prog.cellsOf 59 = 2 := by kernel_rfl
  have hk : Try.prog.keyType 138 = true := by kernel_rfl
  have hr : List.range 4 = [0, 1, 2, 3] := by decide
  have hL : Try.prog.keyLits (Try.prog.types.size + 1) 138 (lineV [(a0, a1), (b0, b1), (c0, c1), (d0, d1)]).cells.toList = some [.int .i64 a0, .int .i64 a1, .int .i64 b0, .int .i64 b1, .int .i64 c0, .int .i64 c1, .int .i64 d0, .int .i64 d1] := by
   rw [hd];unfold Program.keyLits;simp [lineV, Value.cells, U138, hc, hc2, hr, hstep, h1, h2, h3, h4]
  refine ⟨.string (keyBytes [.int .i64 a0, .int .i64 a1, .int .i64 b0, .int .i64 b1, .int .i64 c0, .int .i64 c1, .int .i64 d0, .int .i64 d1]), ?_⟩;unfold keyOf;rw [U138];have hf : (lineV [(a0, a1), (b0, b1), (c0, c1), (d0, d1)]).formed Try.prog 138 = true := by simp [lineV, Value.formed, U138, hc]
  simp only [hk, hf, Bool.and_self, if_true, hL, Option.map_some]

theorem wf_small {n : Int} (h1 : -1 ≤ n) (h2 : n < 8) : (Lit.int .i64 n).wf = true := by
 simp only [Lit.wf, Bool.and_eq_true, decide_eq_true_eq];exact ⟨Int.le_trans (by decide) h1, Int.le_trans (Int.le_of_lt h2) (by decide)⟩

theorem key_plan {a0 : (dChange × (List (Bool × Int)) × (List Int))} {p : List dStep} (h : lenGuard a0 p) : ∃ lt, keyOf Try.prog 138 (lineV (keyL p)) = some lt := by
 refine key_line (keyL_len h.2.1) fun s hs => ?_;simp only [keyL, List.mem_append, List.mem_replicate] at hs;rcases hs with hs | ⟨_, rfl⟩
 ·obtain ⟨h1, h2, h3, h4⟩ := h.2.2 s hs;exact ⟨wf_small (by omega) h2, wf_small (by omega) h4⟩
 ·exact ⟨wf_small (by decide) (by decide), wf_small (by decide) (by decide)⟩

def chg_quick_length (k : Nat) (a0 : (dChange × (List (Bool × Int)) × (List Int))) (a1 : List dStep) : Option Int :=
 (chkP (lenGuard a0 a1)).bind fun _ =>
 (chg_keyOf k a1).bind fun ky =>
 (chkP (ky = keyL a1)).bind fun _ =>
 (chg_keyOf k []).bind fun k0 =>
 (chkP (k0 = keyL [])).bind fun _ =>
 if a1 = [] then some 0 else (chg_quick_begins k a0 a1).bind fun r => (slc_Max_int k r.2).bind fun n => some n

/-- What the map of the bars holds. -/
def Known (k : Nat) (a0 : (dChange × (List (Bool × Int)) × (List Int))) : Obj → Prop := MapInv Try.prog 138 fun kv n => ∃ p, lenGuard a0 p ∧ kv = lineV (keyL p) ∧ chg_quick_length k a0 p = some n
theorem known_nil {k : Nat} {a0 : (dChange × (List (Bool × Int)) × (List Int))} : Known k a0 (.map #[] 0) := MapInv.nil
theorem known_fun {k : Nat} {a0 : (dChange × (List (Bool × Int)) × (List Int))} {kv : Value} : ∀ n n' : Int, (∃ p, lenGuard a0 p ∧ kv = lineV (keyL p) ∧ chg_quick_length k a0 p = some n) → (∃ p, lenGuard a0 p ∧ kv = lineV (keyL p) ∧ chg_quick_length k a0 p = some n') → n = n' := by
 rintro n n' ⟨p, h1, h2, h3⟩ ⟨q, h4, h5, h6⟩;obtain rfl := keyL_inj h1 h4 (lineV_inj (h2.symm.trans h5));exact Option.some.inj (h3.symm.trans h6)

theorem chg_quick_length_ok (k : Nat) (a0 : (dChange × (List (Bool × Int)) × (List Int))) (b_a0 z_a0 : Nat) (a1 : (List dStep)) (r : Int) (h : chg_quick_length k a0 a1 = some r) :
 Ctr Try.prog 37 [Pt b_a0, Rs tStep a1] [.obj b_a0 98 (Qq a0 (.eq (.map (some z_a0)))), .inv z_a0 (Known k a0)] (fun _ : Unit => (resA [I r], [.obj b_a0 98 (Qq a0 (.eq (.map (some z_a0)))), .inv z_a0 (Known k a0)])) := by
 have h0 := h
 unfold chg_quick_length at h
 replace h := b_top h
 obtain ⟨u1, eg, h⟩ := b_bind h
 have hg := chkP_some eg
 obtain ⟨ky, eky, h⟩ := b_bind h
 obtain ⟨u2, e2, h⟩ := b_bind h
 have hky := chkP_some e2
 obtain ⟨k0, ek0, h⟩ := b_bind h
 obtain ⟨u3, e3, h⟩ := b_bind h
 have hk0 := chkP_some e3
 have gk := key_plan hg
 have g0 : ∃ lt, keyOf Try.prog 138 (lineV (keyL [])) = some lt := key_line (keyL_len (by simp)) (fun s hs => by simp [keyL] at hs; subst hs; exact ⟨by decide, by decide⟩)
 rw [← hky] at gk
 rw [← hk0] at g0
 refine Ctr.of 42 Try.func37 rfl Try.ntmps37 rfl fun S w0 => ?_
 refine sr ?_
 refine cq ?_
 refine nt ?_
 refine sr ?_
 refine mq ?_
 refine ja (o_call [.tmp 11] rfl rfl en68 rfl (chg_keyOf_ok k a1 ky eky)) ?_
 refine JO.s01 rfl rfl rfl (o_alloc rfl za138 al138) trivial fun b1 => ?_
 refine JO.n11 rfl rfl (o_store rfl sz138 rfl rfl rfl) ⟨rfl, rfl, trivial⟩ ?_
 refine nt ?_
 refine JC.seq ?_
 refine JC.seq ?_
 refine JC.drawN ?_
 refine ea 0 (o_load_obj rfl sz138 (nfn) rfl) ?_
 refine da (OpT.need (N := [(.const (.slice none 0 0), .eq (.slice none 0 0))]) (o_call [.const (.slice none 0 0)] rfl rfl en68 rfl (chg_keyOf_ok k [] k0 ek0)) fun _ _ _ hn => ⟨(ent_holds (t := (.slice tStep)) (x := ([] : (List dStep))) .nil rfl rfl hn.1), trivial⟩) ?_
 refine df mixed ?_
 refine JO.stepG (Δ := []) (F := _) (fun _ _ _ => wanted_none rfl _) rfl rfl (o_eqkey (kv := lineV ky) (kw := lineV k0) (lineV_nop _) (lineV_nop _) rfl (by kernel_rfl) (by kernel_rfl) klawLine (by kernel_rfl) (fun _ _ _ hh => line_holds hh) (fun _ _ _ hh => line_holds hh) gk g0) ⟨rfl, rfl, trivial⟩ fun q5 => ?_
 refine nt ?_
 refine JC.cond rfl (fun hb => ?_) (fun hb => ?_)
 ·
  have hn : a1 = [] := keyL_nil hg (by rw [← hky, ← hk0]; exact lineV_inj (q5.2.1 hb));replace h := b_if hn h;refine sr (cq (nt (rx ?_)));refine JN.se (SE.fin (Γ' := [(4, _)]) [1, 2, 0] ⟨rfl, trivial⟩ rfl) ?_;cases h;exact JN.ret () [_] 2 ⟨rfl, trivial⟩ rfl
 ·
  have hn : ¬ a1 = [] := fun e => by rw [q5.2.2 (by rw [hky, hk0, e])] at hb; cases hb
  replace h := b_ifn hn h;refine sk (JC.seq (JC.seq (JC.front 2 rfl ?_)));refine JC.openInv fun ob hob => ?_;obtain ⟨lnn, lbb, hlR, hlk⟩ := lookup_cases (z := z_a0) U96 zvLine klawLine gk known_fun hob;refine JC.drawN ?_;refine dm ?_;refine da (o_nil_obj rfl) ?_;refine da (o_field_obj rfl fo98_3) ?_;refine ea 2 (o_load_obj rfl sz96 nfs rfl) ?_;refine ea 1 (o_load_obj rfl sz138 (nfn) rfl) ?_;refine eb 0 (o_lookupD (kv := lineV ky) (lineV_nop _) (MapInv.calm hob) rfl (fun _ _ _ hh => line_holds hh) hlk) ?_;refine dm ?_;refine da (o_extract rfl rfl) ?_;refine da (o_extract rfl rfl) ?_;refine da (o_assign rfl) ?_;refine df mixed ?_;refine aq (nt (sr ?_));refine mq (nt ?_);refine JC.se (SE.rawInv (Known k a0) hob) ?_;refine JC.cond rfl (fun hb => ?_) (fun hb => ?_)
  ·obtain ⟨p, hp, he, hl⟩ := hlR hb;have hpa : p = a1 := keyL_inj hp hg (by rw [← hky]; exact (lineV_inj he).symm);rw [hpa] at hl;replace h : (some lnn : Option Int).bind some = some r := hl.symm.trans h0;refine sr (mq ?_);refine aq (nt (rx ?_));refine JN.se (SE.fin (Γ' := [(4, _)]) [2, 0, 1] ⟨rfl, trivial⟩ rfl) ?_;cases h;exact JN.ret () [_] 2 ⟨rfl, trivial⟩ rfl
  ·refine sk (sr ?_);iterate 2 refine mq ?_
   obtain ⟨r2, er2, h⟩ := b_bind h;refine fr 2 ?_;refine kb (o_call [.tmp 28, .tmp 29] rfl rfl en51 rfl (chg_quick_begins_ok k ((a0.1.1, a0.1.2.1, a0.1.2.2.1, a0.1.2.2.2), a0.2.1, a0.2.2) b_a0 (.map (some z_a0)) a1 r2 er2)) ?_;refine mq ?_;refine xr ?_;refine xr ?_;refine JO.s01 rfl rfl rfl (o_alloc rfl za113 al113) trivial fun b3 => ?_;refine aq ?_;refine JO.n11 rfl rfl (o_store rfl sz113 rfl rfl rfl) ⟨rfl, rfl, trivial⟩ ?_;refine nt (sr (ja (o_slice_arr rfl U113 sz3) ?_));refine JO.se (SE.arrSl' (by decide)) ?_;obtain ⟨r4, er4, h⟩ := b_bind h;refine ka (OpT.borrow (N := [(.tmp 33, .eq (.slice (some ⟨b3, 0, none⟩) 4 4))]) (o_call [.tmp 33] rfl rfl en69 rfl (slc_Max_int_ok k r2.2 r4 er4)) (fun _ _ _ hv hn => ⟨(lend hn.1 hv), trivial⟩) (fun _ => ⟨rfl, flat_nil⟩)) ?_;refine JO.se SE.slArr' ?_;refine aq (nt (JC.seq ?_));refine JC.drawN ?_;refine dm ?_;refine da (o_nil_obj rfl) ?_;refine da (o_field_obj rfl fo98_3) ?_;refine ea 1 (o_load_obj rfl sz96 nfs rfl) ?_;refine ea 3 (o_load_obj rfl sz138 (nfn) rfl) ?_;refine dm ?_;refine df mixed ?_;refine fr 2 ?_;have hl : chg_quick_length k a0 a1 = some r4 := h0.trans (show some r = some r4 from h.symm);refine JO.n11 rfl rfl (o_mapUpdate (kv := lineV ky) (lineV_nop _) rfl U96 klawLine (fun _ _ _ hh => line_holds hh) gk ⟨a1, hg, by rw [hky], hl⟩) ⟨rfl, rfl, rfl, trivial⟩ ?_;refine nt (sr (mq ?_));refine aq (nt (JC.ret ?_));refine JN.se (SE.fin (Γ' := [(4, _)]) [2, 0, 1, 3] ⟨rfl, trivial⟩ rfl) ?_;cases h;exact JN.ret () [_] 2 ⟨rfl, trivial⟩ rfl


def chg_least (k : Nat) (a0 : (dChange × (List (Bool × Int)) × (List Int))) : Option ((List dStep) × Int × Bool) :=
 (chg_quick_plans_1 k (stopY (fun (y5 : Bool × Int × (List dStep)) (p7 : (List dStep)) =>
  (chg_quick_length k ((a0.1.1, a0.1.2.1, a0.1.2.2.1, a0.1.2.2.2), a0.2.1, a0.2.2) p7).bind fun r9 =>
  ((if ¬ (y5.1 = true) then (some true) else (some (decide (r9 < y5.2.1)))) : Option (Bool)).bind fun x10 =>
  if x10 = true then (some ((true, r9, p7), true)) else (some ((y5.1, y5.2.1, y5.2.2), true)))) ((a0.1.1, a0.1.2.1, a0.1.2.2.1, a0.1.2.2.2), a0.2.1, a0.2.2) ((false, (0 : Int), []), false)).bind fun r8 =>
 if r8.2 = true then (none) else (some (r8.1.2.2, r8.1.2.1, r8.1.1))

theorem chg_least_ok (k : Nat) (a0 : (dChange × (List (Bool × Int)) × (List Int))) (b_a0 z_a0 : Nat) (c_a0 : Nat) (r : (List dStep) × Int × Bool) (h : chg_least k a0 = some r) :
 Ctr Try.prog 35 [.eq (.func (.func 64) #[] #[(Pv c_a0)]), .eq (.func (.func 37) #[(Pv b_a0)] #[])] [.obj b_a0 98 (Qq a0 (.eq (.map (some z_a0)))), .inv z_a0 (Known k a0), .obj c_a0 83 (Pt b_a0)] (fun _ : Unit => (resA [Rs tStep r.1, I r.2.1, .eq (.bool r.2.2)], [.obj b_a0 98 (Qq a0 (.eq (.map (some z_a0)))), .inv z_a0 (Known k a0), .obj c_a0 83 (Pt b_a0)])) := by
 unfold chg_least at h
 replace h := b_top h
 refine Ctr.ofM 29 Try.func35 rfl Try.ntmps35 rfl fun {M} S w0 => ?_
 refine sr ?_
 refine bx fun b1 => ?_
 refine cq ?_
 refine cq ?_
 refine cq ?_
 refine nt ?_
 refine sr ?_
 refine JO.s01 rfl rfl rfl (o_alloc rfl za33 al33) trivial fun b2 => ?_
 refine nt ?_
 refine sr ?_
 refine JO.s01 rfl rfl rfl (o_alloc rfl za3 al3) trivial fun b3 => ?_
 refine JO.s01 rfl rfl rfl (o_alloc rfl za4 al4) trivial fun b4 => ?_
 refine fr 1 ?_
 refine JO.n11 rfl rfl (o_store rfl sz3 rfl rfl rfl) ⟨rfl, rfl, trivial⟩ ?_
 refine fr 1 ?_
 refine JO.n11 rfl rfl (o_store rfl sz4 rfl rfl rfl) ⟨rfl, rfl, trivial⟩ ?_
 refine nt ?_
 refine JC.seq ?_
 refine sr ?_
 refine mq ?_
 refine nt ?_
 refine JC.block ?_
 refine JC.front 2 rfl ?_
 refine JC.se (SE.objE (a := .eq (.slice none 0 0)) (a' := Rs tStep []) (AE.ent .nil)) ?_
 refine JC.front 5 rfl ?_
 refine JC.front 4 rfl ?_
 refine JC.front 2 rfl ?_
 refine JC.front 4 rfl ?_
 refine JC.front 4 rfl ?_
 refine JC.front 5 rfl ?_
 refine JC.front 6 rfl ?_
 obtain ⟨r8, er8, h⟩ := b_bind h
 refine JC.rangeFunc (Δ := [.obj c_a0 83 (Pt b_a0), .obj b_a0 98 (Qq a0 (.eq (.map (some z_a0)))), .obj b4 4 (.eq (.bool false)), .obj b3 3 (I (0 : Int)), .obj b2 33 (Rs tStep []), .obj b1 91 (.eq (.func (.func 37) #[(Pv b_a0)] #[])), .inv z_a0 (Known k a0)]) (F := []) (X := Unit) (J := fun _ => jOf r8.2) (E := fun _ => [.obj c_a0 83 (Pt b_a0), .obj b_a0 98 (Qq a0 (.eq (.map (some z_a0)))), .obj b4 4 (.eq (.bool r8.1.1)), .obj b3 3 (I r8.1.2.1), .obj b2 33 (Rs tStep r8.1.2.2), .obj b1 91 (.eq (.func (.func 37) #[(Pv b_a0)] #[])), .inv z_a0 (Known k a0)]) (r0 := fun _ => .tup .any) rfl rfl en64 (fun rec hp ha hb hs hpe hN hv l => ?_) (fun dl _ => stop_cases (fun hj => ?_) (fun hj => ?_))
 ·
  rcases rec with ⟨st0, pe0, fn0, tm0, ps0, as0, bd0, df0⟩;dsimp only at hp ha hb hs hpe hN hv;subst hp hs hpe;have vN : Vals tm0 [(3, Pt b1), (7, Pt b2), (8, Pt b3), (9, Pt b4)] := ⟨congrArg A.eq (hv 3 _ rfl).symm, congrArg A.eq (hv 7 _ rfl).symm, congrArg A.eq (hv 8 _ rfl).symm, congrArg A.eq (hv 9 _ rfl).symm, trivial⟩;refine CtrM.pick (M := M) [1, 2, 0, 3, 4, 5, 6, 7] [2, 0, 1, 3, 4, 5, 6, 7] (chg_quick_plans_1_ok (fun (_ : Unit) (q : (Bool × Int × (List dStep)) × Bool) => [.raw l (.loop (recEnd ⟨.ready, none, fn0, tm0, #[13], as0, bd0, df0⟩ (jOf q.2))), .obj b4 4 (.eq (.bool q.1.1)), .obj b3 3 (I q.1.2.1), .obj b2 33 (Rs tStep q.1.2.2), .obj b1 91 (.eq (.func (.func 37) #[(Pv b_a0)] #[])), .inv z_a0 (Known k a0)]) l (stopY (fun (y5 : Bool × Int × (List dStep)) (p7 : (List dStep)) =>
  (chg_quick_length k ((a0.1.1, a0.1.2.1, a0.1.2.2.1, a0.1.2.2.2), a0.2.1, a0.2.2) p7).bind fun r9 =>
  ((if ¬ (y5.1 = true) then (some true) else (some (decide (r9 < y5.2.1)))) : Option (Bool)).bind fun x10 =>
  if x10 = true then (some ((true, r9, p7), true)) else (some ((y5.1, y5.2.1, y5.2.2), true)))) k ((a0.1.1, a0.1.2.1, a0.1.2.2.1, a0.1.2.2.2), a0.2.1, a0.2.2) b_a0 (.map (some z_a0)) c_a0 (fun z q p r' h => ?_) () ((false, (0 : Int), []), false) r8 er8) rfl (fun _ => rfl) (fun _ => rfl)
  obtain ⟨r2, hq, h2, rfl⟩ := stopY_some h;obtain ⟨y5, b5⟩ := q;obtain rfl : b5 = false := hq;replace h := b_top h2;obtain ⟨p7, hpv⟩ : ∃ x, x = p := ⟨_, rfl⟩;subst hpv;refine YT.pick (R' := (fun _ : Unit => (.eq (.bool r2.2), [.raw l (.loop (recEnd ⟨.ready, none, fn0, tm0, #[13], as0, bd0, df0⟩ (jOf (!r2.2)))), .obj b_a0 98 (Qq a0 (.eq (.map (some z_a0)))), .obj b4 4 (.eq (.bool r2.1.1)), .obj b3 3 (I r2.1.2.1), .obj b2 33 (Rs tStep r2.1.2.2), .obj b1 91 (.eq (.func (.func 37) #[(Pv b_a0)] #[])), .inv z_a0 (Known k a0)]))) [1, 0, 2, 3, 4, 5, 6] [1, 0, 2, 3, 4, 5, 6] (YT.of' ha hb (N := 29) (Γ := [(3, Pt b1), (7, Pt b2), (8, Pt b3), (9, Pt b4)]) rfl hN (by decide) vN (fun S w => ?_)) rfl (fun _ => rfl) (fun _ => rfl);refine JC.region (aq (nl ?_));refine JN.begin rfl rfl ?_;refine JC.block (sr (fr 5 ?_));refine lo sz91 ?_;refine mq ?_;obtain ⟨r9, er9, h⟩ := b_bind h;refine fr 6 ?_;refine fr 3 ?_;refine JO.stepG (Δ := [_, _]) (F := _) (fun _ _ _ => wanted_none rfl _) rfl rfl (o_callv (fs := [(Pv b_a0)]) (cs := []) (ags := [Rs tStep p7]) [.tmp 15] rfl rfl en37 rfl (chg_quick_length_ok k ((a0.1.1, a0.1.2.1, a0.1.2.2.1, a0.1.2.2.2), a0.2.1, a0.2.2) b_a0 z_a0 p7 r9 er9)) ⟨rfl, rfl, trivial⟩ fun _ => ?_;refine aq (nt ?_);refine JC.cutB (Z := Unit) (α := Bool) (fun z11 x10 => [(7, Pt b2), (8, Pt b3), (9, Pt b4), (10, Rs tStep p7), (11, I r9), (23, .eq (.bool x10))]) (fun z11 x10 => [.obj b2 33 (Rs tStep y5.2.2), .obj b3 3 (I y5.2.1), .obj b4 4 (.eq (.bool y5.1)), .obj b_a0 98 (Qq a0 (.eq (.map (some z_a0)))), .inv z_a0 (Known k a0), .obj b1 91 (.eq (.func (.func 37) #[(Pv b_a0)] #[])), .raw l (.loop (⟨.busy, none, fn0, tm0, #[13], as0, bd0, df0⟩ : Loop))]) h (fun K h => ?_) (fun z11 x10 h => ?_)
  ·refine JC.region (fr 4 ?_);refine lo sz4 ?_;refine ja (o_not rfl) ?_;refine mq ?_;refine JO.bool (s := 19) rfl (fun hb => ?_) (fun hb => ?_)
   ·replace h := b_if (nv_t hb) h;iterate 3 refine gn ?_
    refine pt (nl ?_);exact jz ((), true) h [6, 5, 0, 1, 2, 3, 4]
   ·replace h := b_ifn (nv_fn hb) h;refine gm ?_;refine fr 5 ?_;refine JO.g11 rfl rfl rfl rfl rfl rfl (o_load_obj rfl sz3 nfs rfl) ⟨rfl, trivial⟩ ?_;refine gb (o_lss rfl) ?_;refine pf (nl ?_);exact jz ((), decide (r9 < y5.2.1)) h [6, 0, 1, 2, 3, 4, 5]
  ·refine cv h (fun h => ?_) (fun h => ?_)
   ·refine JC.region ?_;iterate 2 refine mq ?_
    refine JO.n11 rfl rfl (o_store rfl sz33 rfl rfl rfl) ⟨rfl, rfl, trivial⟩ ?_;refine fr 1 ?_;refine JO.n11 rfl rfl (o_store rfl sz3 rfl rfl rfl) ⟨rfl, rfl, trivial⟩ ?_;refine fr 2 ?_;refine JO.n11 rfl rfl (o_store rfl sz4 rfl rfl rfl) ⟨rfl, rfl, trivial⟩ ?_;refine JO.nil (JN.blk_n (JN.front 4 rfl ?_));refine JN.front 5 rfl ?_;refine JN.front 4 rfl ?_;refine JN.front 4 rfl ?_;refine JN.front 4 rfl ?_;refine JN.front 5 rfl ?_;refine JN.front 6 rfl ?_;cases h;exact JN.roundN () 6 rfl
   ·refine JC.skip (JN.blk_n (JN.front 4 rfl ?_));refine JN.front 5 rfl ?_;refine JN.front 2 rfl ?_;refine JN.front 3 rfl ?_;refine JN.front 4 rfl ?_;refine JN.front 5 rfl ?_;refine JN.front 6 rfl ?_;cases h;exact JN.roundN () 6 rfl
 ·
  replace h := b_ifn (v_f hj) h;refine JN.blk_n (tn (JC.seq (JC.drawN ?_)));refine ea 5 (o_load_obj rfl sz33 nfs rfl) ?_;refine ea 4 (o_load_obj rfl sz3 nfs rfl) ?_;refine ea 3 (o_load_obj rfl sz4 nfs rfl) ?_;refine da (o_assign rfl) ?_;refine da (o_assign rfl) ?_;refine df mixed ?_;refine aq (nt (JC.ret ?_));refine JN.retM ?_;refine JN.se (SE.fin (Γ' := [(4, _), (5, _), (6, _)]) [1, 6, 0, 2, 3, 4, 5] ⟨rfl, rfl, rfl, trivial⟩ rfl) ?_;cases h;exact JN.ret () [_, _, _] 3 ⟨rfl, rfl, rfl, trivial⟩ rfl
 ·
  replace h := b_if (v_t hj) h;cases h


def slc_Clone_Dresser (k : Nat) (a0 : List dDresser) : Option (List dDresser) :=
 (chkP (okLen (List.length a0))).bind fun _ => some a0

theorem slc_Clone_Dresser_ok (k : Nat) (a0 : List dDresser) (r : List dDresser) (h : slc_Clone_Dresser k a0 = some r) :
 Ctr Try.prog 55 [Rs tDresser a0] [] (fun z : Value => (resA [.eq z], [.sl z 38 tDresser r])) := by
 unfold slc_Clone_Dresser at h
 replace h := b_top h
 refine Ctr.of 8 Try.func55 rfl Try.ntmps55 rfl fun S w0 => ?_
 obtain ⟨u1, eu1, h⟩ := b_bind h
 cases h
 refine sr ?_
 refine cq ?_
 refine nt ?_
 refine JC.seq ?_
 refine sr ?_
 refine mq ?_
 refine JO.stepG (Δ := []) (F := _) (fun _ _ _ => wanted_none rfl _) rfl rfl (o_eqnil rfl U24) ⟨rfl, rfl, trivial⟩ fun b => ?_
 refine nt ?_
 refine JC.cond rfl (fun hb => ?_) (fun hb => ?_)
 ·
  refine sr (cq (nt (rx ?_)));obtain rfl := b.2 hb;refine JN.se (SE.nil 38 tDresser) ?_;exact JN.ret (.slice none 0 0) [.eq (.slice none 0 0)] 1 ⟨rfl, trivial⟩ rfl
 ·
  refine sk (sr (JO.s01 rfl rfl rfl (o_litB_own (t := tDresser) [] [] rfl rfl sl24 .nil rfl rfl) trivial fun v1 => ?_));refine mq ?_;refine JO.s1x rfl rfl rfl (o_append rfl rfl sl24 (by simpa using chkP_some eu1)) ⟨rfl, rfl, trivial⟩ fun v2 => ?_;refine aq (nt (JC.ret ?_));exact JN.ret v2 [.eq v2] 1 ⟨rfl, trivial⟩ rfl


def chg_quick_without (k : Nat) (a0 : dquick) (a1 : Int) : Option (Int × Bool) :=
 (slc_Clone_Dresser k a0.1.2.1).bind fun r3 =>
 (geti r3 a1).bind fun x6 =>
 (chg_least k ((a0.1.1, List.set r3 (Int.toNat a1) ([], x6.2.1, x6.2.2), a0.1.2.2), a0.2.1, a0.2.2.1)).bind fun r8 =>
 some (r8.2.1, r8.2.2)

theorem chg_quick_without_ok (k : Nat) (a0 : dquick) (a1 : Int) (r : Int × Bool) (h : chg_quick_without k a0 a1 = some r) :
 Ctr Try.prog 39 [.at tquick a0, I a1] [] (fun _ : Unit => (resA [I r.1, .eq (.bool r.2)], [])) := by
 unfold chg_quick_without at h
 replace h := b_top h
 refine Ctr.of 54 Try.func39 rfl Try.ntmps39 rfl fun S w0 => ?_
 refine sr ?_
 refine cq ?_
 refine cq ?_
 refine nt ?_
 refine JC.seq ?_
 refine JC.drawW ?_
 refine DW.t00 rfl rfl rfl (o_move rfl) ⟨rfl, trivial⟩ ?_
 refine DW.t00 rfl rfl rfl (o_nil_at rfl) ⟨rfl, trivial⟩ ?_
 refine DW.t00 rfl rfl rfl (o_field_at 4 true rfl fo98_0 rfl) ⟨rfl, trivial⟩ ?_
 refine DW.t00 rfl rfl rfl (o_load_at (t := tChange) rfl sz26 rfl) ⟨rfl, trivial⟩ ?_
 refine DW.t00 rfl rfl rfl (o_move rfl) ⟨rfl, trivial⟩ ?_
 refine DW.t00 rfl rfl rfl (o_nil_at rfl) ⟨rfl, trivial⟩ ?_
 refine DW.t00 rfl rfl rfl (o_field_at 1 false rfl fo98_1 rfl) ⟨rfl, trivial⟩ ?_
 refine DW.t00 rfl rfl rfl (o_load_at (t := (.slice (.tag 109 111))) rfl sz93 rfl) ⟨rfl, trivial⟩ ?_
 refine DW.t00 rfl rfl rfl (o_move rfl) ⟨rfl, trivial⟩ ?_
 refine DW.t00 rfl rfl rfl (o_nil_at rfl) ⟨rfl, trivial⟩ ?_
 refine DW.t00 rfl rfl rfl (o_field_at 8 true rfl fo98_2 rfl) ⟨rfl, trivial⟩ ?_
 refine DW.t00 rfl rfl rfl (o_load_at (t := (.arr 8 (.int .u8))) rfl sz95 rfl) ⟨rfl, trivial⟩ ?_
 refine DW.tNew mapD (fun _ => rfl) rfl rfl rfl (o_makeMap rfl) trivial ?_
 refine DW.fin 13 [true, true, true, true, true, true, true, true, true, true, true, true, true] [6, 23, 24] [] [] rfl (by kernel_rfl) (by kernel_rfl) (by kernel_rfl) mixed (fun vs hv hB => ?_)
 obtain ⟨w0, vs1, rfl, hv1⟩ := len_cons hv
 obtain ⟨w1, vs2, rfl, hv2⟩ := len_cons hv1
 obtain ⟨w2, vs3, rfl, hv3⟩ := len_cons hv2
 obtain ⟨w3, vs4, rfl, hv4⟩ := len_cons hv3
 obtain ⟨w4, vs5, rfl, hv5⟩ := len_cons hv4
 obtain ⟨w5, vs6, rfl, hv6⟩ := len_cons hv5
 obtain ⟨w6, vs7, rfl, hv7⟩ := len_cons hv6
 obtain ⟨w7, vs8, rfl, hv8⟩ := len_cons hv7
 obtain ⟨w8, vs9, rfl, hv9⟩ := len_cons hv8
 obtain ⟨w9, vs10, rfl, hv10⟩ := len_cons hv9
 obtain ⟨w10, vs11, rfl, hv11⟩ := len_cons hv10
 obtain ⟨w11, vs12, rfl, hv12⟩ := len_cons hv11
 obtain ⟨w12, vs13, rfl, hv13⟩ := len_cons hv12
 obtain rfl := len_nil hv13
 obtain ⟨z1, rfl⟩ := map_of hB.2.2.2.2.2.2.2.2.2.2.2.2.1
 refine ⟨[0], [.raw z1 (.map #[] 0)], by kernel_rfl, by decide, ?_⟩
 refine JT.y00 rfl rfl rfl rfl (o_buildT [(0, .tmp 13, _), (1, .tmp 17, _), (2, .tmp 21, _), (3, .tmp 22, _)] rfl pl98 za98 alb98 (stors ⟨rfl, rfl, rfl, rfl, trivial⟩) rfl) ⟨rfl, rfl, rfl, rfl, trivial⟩ (by kernel_rfl) ?_
 refine JT.y01 rfl rfl rfl rfl (o_box rfl trivial) ⟨rfl, trivial⟩ (by kernel_rfl) fun b2 => ?_
 refine JT.y00 rfl rfl rfl rfl (o_assign rfl) ⟨rfl, trivial⟩ (by kernel_rfl) ?_
 refine JT.nil ?_
 refine JN.se (SE.fin (Γ' := [(0, .at tquick a0), (1, I a1), (6, Pt b2)]) (Δ' := [.obj b2 98 (.agg (.pair (.rep tChange a0.1) (.pair (.rep (.slice (.tag 109 111)) a0.2.1) (.pair (.rep (.arr 8 (.int .u8)) a0.2.2.1) (.eq (.map (some z1))))))), .raw z1 (.map #[] 0)]) [0, 1] ⟨rfl, rfl, rfl, trivial⟩ rfl) ?_
 refine tn ?_
 refine sr ?_
 iterate 2 refine mq ?_
 refine ja (o_nil_at rfl) ?_
 refine ja (o_field_at 4 true rfl fo98_0 rfl) ?_
 refine ja (o_field_at 1 false rfl fo26_1 rfl) ?_
 refine ja (o_load_at (t := (.slice tDresser)) rfl sz24 rfl) ?_
 obtain ⟨r3, er3, h⟩ := b_bind h
 have cr3 := slc_Clone_Dresser_ok k a0.1.2.1 r3 er3
 refine JO.s01 rfl rfl rfl (o_call [.tmp 30] rfl rfl en55 rfl cr3) ⟨rfl, trivial⟩ fun v4 => ?_
 refine ja (o_nil_obj rfl) ?_
 refine fl fo98_0 ?_
 refine fl fo26_1 ?_
 refine JO.one fun o5 => ?_
 refine fr 1 ?_
 refine JO.n11 rfl rfl (o_store rfl sz24 o5 rfl rfl) ⟨rfl, rfl, trivial⟩ ?_
 refine nt ?_
 refine sr ?_
 refine mq ?_
 refine ja (o_nil_obj rfl) ?_
 refine fl fo98_0 ?_
 refine fl fo26_1 ?_
 refine lo sz24 ?_
 refine mq ?_
 obtain ⟨x6, ex6, h⟩ := b_bind h
 refine fr 1 ?_
 refine kb (o_index_own (t := tDresser) rfl U24 sz38 ex6) ?_
 refine ka (o_field_el rfl fo38_0 (geti_ne ex6)) ?_
 refine JO.n11 rfl rfl (o_store_el (i := Int.toNat a1) (off := 0) rfl sz22 rfl (geti_some ex6).2.2 .nil rfl (.agg (.left .whole))) ⟨rfl, rfl, trivial⟩ ?_
 refine nt ?_
 refine sr ?_
 refine mq ?_
 refine JO.s01 rfl rfl rfl (o_call [.tmp 44] rfl rfl en36 rfl (chg_quick_plans_ok b2)) ⟨rfl, trivial⟩ fun b7 => ?_
 refine mq ?_
 refine ja (o_mkfn [.tmp 46] [] [(Pv b2)] [] rfl rfl rfl) ?_
 refine fr 2 ?_
 refine fr 2 ?_
 refine JO.se (SE.frzBoth (off := 1) [31, 39] ⟨rfl, rfl, trivial⟩ rfl rfl) ?_
 refine JO.se (SE.objE (a := .agg (.pair (.agg (.pair (Rs tThing a0.1.1) (.pair (Rs tDresser (List.set r3 (Int.toNat a1) ([], x6.2.1, x6.2.2))) (.rep (.pair (.slice (.int .i64)) (.slice (.int .i64))) a0.1.2.2)))) (.pair (.rep (.slice (.tag 109 111)) a0.2.1) (.pair (.rep (.arr 8 (.int .u8)) a0.2.2.1) (.eq (.map (some z1))))))) (a' := .agg (.pair (.agg (.pair (Rs tThing a0.1.1) (.pair (Rs tDresser (List.set r3 (Int.toNat a1) ([], x6.2.1, x6.2.2))) (.pair (Ri a0.1.2.2.1) (Ri a0.1.2.2.2))))) (.pair (.rep (.slice (.tag 109 111)) a0.2.1) (.pair (.rep (.arr 8 (.int .u8)) a0.2.2.1) (.eq (.map (some z1))))))) (AE.agg (AE.pair (AE.agg (AE.pair AE.rfl (AE.pair AE.rfl AE.split))) AE.rfl))) ?_
 refine fr 2 ?_
 refine JO.se (SE.rawInv (Known k ((a0.1.1, List.set r3 (Int.toNat a1) ([], x6.2.1, x6.2.2), a0.1.2.2), a0.2.1, a0.2.2.1)) known_nil) ?_
 obtain ⟨r8, er8, h⟩ := b_bind h
 have cr8 := chg_least_ok k ((a0.1.1, List.set r3 (Int.toNat a1) ([], x6.2.1, x6.2.2), a0.1.2.2), a0.2.1, a0.2.2.1) b2 z1 b7 r8 er8
 refine fr 2 ?_
 refine fr 1 ?_
 refine fr 2 ?_
 refine JO.stepG (Δ := [_, _, _]) (F := _) (fun _ _ _ => wanted_none rfl _) rfl rfl (o_call [.tmp 45, .tmp 47] rfl rfl en35 rfl cr8) ⟨rfl, rfl, trivial⟩ fun _ => ?_
 refine mq ?_
 refine xr ?_
 refine xr ?_
 refine xr ?_
 refine aq ?_
 refine aq ?_
 refine aq ?_
 refine nt ?_
 refine sr ?_
 iterate 2 refine mq ?_
 refine aq ?_
 refine aq ?_
 refine nt ?_
 refine JC.ret ?_
 cases h
 exact rb


def chg_Fewest (k : Nat) (a0 : dChange) : Option ((List dStep) × Int × Int) :=
 (chg_begin k a0).bind fun r2 =>
 casesO r2.1 (if ¬ (r2.2 = (0 : Int)) then (some ([], (0 : Int), r2.2)) else (none)) (fun q3 => if ¬ (r2.2 = (0 : Int)) then (some ([], (0 : Int), r2.2)) else ((chg_least k ((q3.1.1, q3.1.2.1, q3.1.2.2.1, q3.1.2.2.2), q3.2.1, q3.2.2)).bind fun r6 =>
 if ¬ (r6.2.2 = true) then (some ([], (0 : Int), (11 : Int))) else (some (r6.1, r6.2.1, (0 : Int)))))

theorem chg_Fewest_ok (k : Nat) (a0 : dChange) (r : (List dStep) × Int × Int) (h : chg_Fewest k a0 = some r) :
 Ctr Try.prog 8 [.rep tChange a0] [] (fun _ : Unit => (resA [Rs tStep r.1, I r.2.1, I r.2.2], [])) := by
 unfold chg_Fewest at h
 replace h := b_top h
 refine Ctr.of 31 Try.func8 rfl Try.ntmps8 rfl fun S w0 => ?_
 refine sr ?_
 refine bx fun b1 => ?_
 refine cq ?_
 refine cq ?_
 refine cq ?_
 refine nt ?_
 refine sr ?_
 refine lo sz26 ?_
 obtain ⟨r2, er2, h⟩ := b_bind h
 have cr2 := chg_begin_ok k a0 r2 er2
 rcases hr : r2.1 with _ | q3
 ·
  rw [hr] at h cr2; replace h := co_n h;refine JO.stepG (Δ := []) (F := _) (fun _ _ _ => wanted_none rfl _) rfl rfl (o_call [.tmp 11] rfl rfl en34 rfl cr2) ⟨rfl, trivial⟩ fun _ => ?_;refine mq ?_;refine xr ?_;refine xr ?_;refine aq ?_;refine aq (nt (JC.seq (sr ?_)));refine mq ?_;refine jb (o_neq rfl) ?_;refine nt (cn h (fun h => ?_) (fun h => ?_))
  ·refine sr (mq ?_);refine cq ?_;refine cq ?_;refine aq (nt (rx ?_));refine JN.se (SE.ent (t := (.slice tStep)) (x := []) 2 rfl .nil rfl rfl) ?_;cases h;exact JN.ret () [_, _, _] 0 ⟨rfl, rfl, rfl, trivial⟩ rfl
  ·refine sk (sr (mq ?_));cases h
 ·
  rw [hr] at h cr2; replace h := co_s h;refine JO.stepG (Δ := []) (F := _) (fun _ _ _ => wanted_none rfl _) rfl rfl (o_call [.tmp 11] rfl rfl en34 rfl cr2) ⟨rfl, trivial⟩ fun z4 => ?_;refine mq ?_;refine xr ?_;refine xr ?_;refine aq ?_;refine aq (nt (JC.seq (sr ?_)));refine mq ?_;refine jb (o_neq rfl) ?_;refine nt (cn h (fun h => ?_) (fun h => ?_))
  ·refine sr (mq ?_);refine cq ?_;refine cq ?_;refine aq (nt (rx ?_));refine JN.se (SE.ent (t := (.slice tStep)) (x := []) 2 rfl .nil rfl rfl) ?_;cases h;exact JN.ret () [_, _, _] 0 ⟨rfl, rfl, rfl, trivial⟩ rfl
  ·refine sk (sr (mq ?_));refine JO.s01 rfl rfl rfl (o_call [.tmp 19] rfl rfl en36 rfl (chg_quick_plans_ok z4.1)) ⟨rfl, trivial⟩ fun b5 => ?_;refine mq ?_;refine ja (o_mkfn [.tmp 21] [] [(.pointer (some ⟨z4.1, 0, none⟩))] [] rfl rfl rfl) ?_;refine fr 2 ?_;refine JO.se (SE.rawInv (Known k ((q3.1.1, q3.1.2.1, q3.1.2.2.1, q3.1.2.2.2), q3.2.1, q3.2.2)) known_nil) ?_;obtain ⟨r6, er6, h⟩ := b_bind h;refine fr 1 ?_;refine fr 1 ?_;refine fr 2 ?_;refine JO.stepG (Δ := [_, _, _]) (F := _) (fun _ _ _ => wanted_none rfl _) rfl rfl (o_call [.tmp 20, .tmp 22] rfl rfl en35 rfl (chg_least_ok k ((q3.1.1, q3.1.2.1, q3.1.2.2.1, q3.1.2.2.2), q3.2.1, q3.2.2) z4.1 z4.2 b5 r6 er6)) ⟨rfl, rfl, trivial⟩ fun _ => ?_;refine mq ?_;refine xr ?_;refine xr ?_;refine xr ?_;refine aq ?_;refine aq ?_;refine aq (nt (JC.seq (sr ?_)));refine mq ?_;refine ja (o_not rfl) ?_;refine nt (cw h (fun h => ?_) (fun h => ?_))
   ·refine sr (cq ?_);refine cq ?_;refine cq (nt (rx ?_));refine JN.se (SE.ent (t := (.slice tStep)) (x := []) 2 rfl .nil rfl rfl) ?_;cases h;exact JN.ret () [_, _, _] 0 ⟨rfl, rfl, rfl, trivial⟩ rfl
   ·refine sk (sr ?_);iterate 2 refine mq ?_
    refine aq ?_;refine aq ?_;refine cq (nt (JC.ret ?_));cases h;exact JN.ret () [_, _, _] 0 ⟨rfl, rfl, rfl, trivial⟩ rfl


def kit_CopyInts (k : Nat) (a0 : (List Int)) : Option (List Int) :=
 (chkP (okLen (List.length ([] : (List Int)) + List.length a0))).bind fun _ =>
 some (([] : (List Int)) ++ a0)

theorem kit_CopyInts_ok (k : Nat) (a0 : (List Int)) (r : (List Int)) (h : kit_CopyInts k a0 = some r) :
 Ctr Try.prog 70 [Ri a0] [] (fun z : Value => (resA [.eq z], [.sl z 3 (.int .i64) r])) := by
 unfold kit_CopyInts at h
 replace h := b_top h
 refine Ctr.of 6 Try.func70 rfl Try.ntmps70 rfl fun S w0 => ?_
 refine sr ?_
 refine cq ?_
 refine nt ?_
 refine sr ?_
 refine JO.s01 rfl rfl rfl (o_litB_own (t := (.int .i64)) [] ([] : (List Int)) rfl rfl sl22 .nil rfl rfl) trivial fun v1 => ?_
 refine mq ?_
 obtain ⟨u2, eu2, h⟩ := b_bind h
 refine JO.s1x rfl rfl rfl (o_append rfl rfl sl22 (chkP_some eu2)) ⟨rfl, rfl, trivial⟩ fun v3 => ?_
 refine aq ?_
 refine nt ?_
 refine JC.ret ?_
 cases h
 exact JN.ret v3 [.eq v3] 1 ⟨rfl, trivial⟩ rfl


def kit_CopyChange_l1 (k : Nat) (a0 : dChange) : Nat → ((List dThing) × Int) → Option (List dThing)
 | 0, _ => none
 | n + 1, y8 =>
  if y8.2 < (a0.1.length : Int) then ((geti a0.1 y8.2).bind fun x10 =>
  (kit_CopyInts k x10.1).bind fun r12 =>
  (chkP (okLen (List.length y8.1 + List.length [(r12, x10.2)]))).bind fun _ =>
  (ck (y8.2 + (1 : Int))).bind fun x18 =>
  kit_CopyChange_l1 k a0 n (y8.1 ++ [(r12, x10.2)], x18)) else (some y8.1)

def kit_CopyChange_l2 (k : Nat) (a0 : dChange) : Nat → ((List dDresser) × Int) → Option (List dDresser)
 | 0, _ => none
 | n + 1, y21 =>
  if y21.2 < (a0.2.1.length : Int) then ((geti a0.2.1 y21.2).bind fun x23 =>
  (kit_CopyInts k x23.1).bind fun r25 =>
  (chkP (okLen (List.length y21.1 + List.length [(r25, x23.2)]))).bind fun _ =>
  (ck (y21.2 + (1 : Int))).bind fun x31 =>
  kit_CopyChange_l2 k a0 n (y21.1 ++ [(r25, x23.2)], x31)) else (some y21.1)
def kit_CopyChange (k : Nat) (a0 : dChange) : Option dChange :=
 (kit_CopyInts k a0.2.2.1).bind fun r3 =>
 (kit_CopyInts k a0.2.2.2).bind fun r4 =>
 ((kit_CopyChange_l1 k a0 k (([] : (List dThing)), (0 : Int))) : Option ((List dThing))).bind fun x6 =>
 ((kit_CopyChange_l2 k a0 k (([] : (List dDresser)), (0 : Int))) : Option ((List dDresser))).bind fun x19 =>
 some (x6, x19, r3, r4)

theorem kit_CopyChange_ok (k : Nat) (a0 : dChange) (r : dChange) (h : kit_CopyChange k a0 = some r) :
 Ctr Try.prog 42 [.rep tChange a0] [] (fun z : Value × Value => (resA [.agg (.pair (.eq z.1) (.pair (.eq z.2) (.pair (Ri r.2.2.1) (Ri r.2.2.2))))], [.sl z.1 43 tThing r.1, .sl z.2 38 tDresser r.2.1])) := by
 unfold kit_CopyChange at h
 replace h := b_top h
 refine Ctr.of 60 Try.func42 rfl Try.ntmps42 rfl fun S w0 => ?_
 refine sr ?_
 refine bx fun b1 => ?_
 refine JO.s01 rfl rfl rfl (o_alloc rfl za26 al26) trivial fun b2 => ?_
 refine nt ?_
 refine JC.seq ?_
 refine JC.drawW ?_
 refine DW.t00 rfl rfl rfl (o_field_obj rfl fo26_2) ⟨rfl, trivial⟩ ?_
 refine DW.t11 1 rfl rfl rfl rfl (o_load_obj rfl sz22 nfs rfl) ⟨rfl, trivial⟩ ?_
 obtain ⟨r3, er3, h⟩ := b_bind h
 have cr3 := kit_CopyInts_ok k a0.2.2.1 r3 er3
 refine DW.t00 rfl rfl rfl (OpT.frz (o_call [.tmp 9] rfl rfl en70 rfl cr3)) ⟨rfl, trivial⟩ ?_
 refine DW.t00 rfl rfl rfl (o_field_obj rfl fo26_3) ⟨rfl, trivial⟩ ?_
 refine DW.t11 1 rfl rfl rfl rfl (o_load_obj rfl sz22 nfs rfl) ⟨rfl, trivial⟩ ?_
 obtain ⟨r4, er4, h⟩ := b_bind h
 have cr4 := kit_CopyInts_ok k a0.2.2.2 r4 er4
 refine DW.t00 rfl rfl rfl (OpT.frz (o_call [.tmp 12] rfl rfl en70 rfl cr4)) ⟨rfl, trivial⟩ ?_
 refine DW.t00 rfl rfl rfl (o_buildT [(2, .tmp 10, _), (3, .tmp 13, _)] rfl pl26 za26 alb26 (stors ⟨rfl, rfl, trivial⟩) rfl) ⟨rfl, rfl, trivial⟩ ?_
 refine DW.tNew (ptrD 26 N4) (fun _ => rfl) rfl rfl rfl (o_alloc rfl za26 al26) trivial ?_
 refine DW.fin 8 [true, true, true, true, true, true, true, true] [] [] [] rfl (by kernel_rfl) (by kernel_rfl) (by kernel_rfl) mixed (fun vs hv hB => ?_)
 obtain ⟨w0, vs1, rfl, hv1⟩ := len_cons hv
 obtain ⟨w1, vs2, rfl, hv2⟩ := len_cons hv1
 obtain ⟨w2, vs3, rfl, hv3⟩ := len_cons hv2
 obtain ⟨w3, vs4, rfl, hv4⟩ := len_cons hv3
 obtain ⟨w4, vs5, rfl, hv5⟩ := len_cons hv4
 obtain ⟨w5, vs6, rfl, hv6⟩ := len_cons hv5
 obtain ⟨w6, vs7, rfl, hv7⟩ := len_cons hv6
 obtain ⟨w7, vs8, rfl, hv8⟩ := len_cons hv7
 obtain rfl := len_nil hv8
 obtain ⟨b5, rfl⟩ := ptr_of hB.2.2.2.2.2.2.2.1
 refine ⟨[0, 1, 2], [.obj b2 26 N4, .obj b1 26 (.rep tChange a0), .obj b5 26 N4], by kernel_rfl, by decide, ?_⟩
 refine JT.front 2 rfl ?_
 refine JT.n11 rfl rfl (o_store rfl sz26 trivial rfl rfl) ⟨rfl, rfl, trivial⟩ (by kernel_rfl) ?_
 refine JT.nil ?_
 refine JN.se (SE.fin (Γ' := [(1, Pt b1), (2, Pt b2), (3, Pt b5)]) (Δ' := [.obj b5 26 (.agg (.pair (.eq (.slice none 0 0)) (.pair (.eq (.slice none 0 0)) (.pair (Ri r3) (Ri r4))))), .obj b2 26 N4, .obj b1 26 (.rep tChange a0)]) [0, 1, 2] ⟨rfl, rfl, rfl, trivial⟩ rfl) ?_
 refine tn ?_
 refine JC.cutB (Z := Value) (α := (List dThing)) (fun z7 x6 => [(1, Pt b1), (2, Pt b2), (3, Pt b5)]) (fun z7 x6 => [.obj b1 26 (.rep tChange a0), .obj b2 26 N4, .obj b5 26 (.agg (.pair (.eq z7) (.pair (.eq (.slice none 0 0)) (.pair (Ri r3) (Ri r4))))), .sl z7 43 tThing x6]) h (fun K h => ?_) (fun z7 x6 h => ?_)
 ·
  refine sr (cq (nt (JC.block ?_)));refine JC.se (SE.nil 43 tThing) ?_;refine JC.loopB (Z := Value) (α := (List dThing) × Int) (fun z9 y8 => [(1, Pt b1), (2, Pt b2), (3, Pt b5), (4, I y8.2)]) (fun z9 y8 => [.obj b1 26 (.rep tChange a0), .obj b2 26 N4, .obj b5 26 (.agg (.pair (.eq z9) (.pair (.eq (.slice none 0 0)) (.pair (Ri r3) (Ri r4))))), .sl z9 43 tThing y8.1]) (kit_CopyChange_l1 k a0) k (.slice none 0 0) (([] : (List dThing)), (0 : Int)) (fun _ => rfl) h (SE.fin [3, 2, 1, 0] ⟨rfl, rfl, rfl, rfl, trivial⟩ rfl) (fun n z9 y8 h => ?_);unfold kit_CopyChange_l1 at h;refine JC.seq (sr (mq ?_));refine fl fo26_0 ?_;refine lo sz23 ?_;refine ol U23 ?_;refine jb (o_lss rfl) ?_;refine nt (ci h (fun h => ?_) (fun h => ?_))
  ·refine sk (JC.seq (JC.block (sr (fl fo26_0 ?_))));refine lo sz23 ?_;refine mq ?_;obtain ⟨x10, ex10, h⟩ := b_bind h;refine jb (o_index (t := tThing) rfl U23 sz43 ex10) ?_;refine ja (o_load_at (t := tThing) rfl sz43 rfl) ?_;refine JO.s01 rfl rfl rfl (o_alloc rfl za43 al43) trivial fun b11 => ?_;refine JO.n11 rfl rfl (o_store rfl sz43 rfl rfl rfl) ⟨rfl, rfl, trivial⟩ ?_;refine nt (sr (fl fo43_0 ?_));refine lo sz22 ?_;obtain ⟨r12, er12, h⟩ := b_bind h;refine JO.s01 rfl rfl rfl (o_call [.tmp 28] rfl rfl en70 rfl (kit_CopyInts_ok k x10.1 r12 er12)) ⟨rfl, trivial⟩ fun v13 => ?_;refine fl fo43_0 ?_;refine JO.one fun o14 => ?_;refine fr 1 ?_;refine JO.n11 rfl rfl (o_store rfl sz22 o14 rfl rfl) ⟨rfl, rfl, trivial⟩ ?_;refine nt (JC.region (fl fo26_0 ?_));refine fr 4 ?_;refine lo sz23 ?_;refine fr 1 ?_;refine fr 2 ?_;refine JO.se (SE.frzBoth (off := 0) [29] ⟨rfl, trivial⟩ rfl rfl) ?_;refine lo sz43 ?_;refine ja (o_litB (t := tThing) [(.tmp 33, _)] [(r12, x10.2)] rfl rfl sl23 (.cons trivial (.agg (.pair .rep .rep)) .nil) rfl rfl) ?_;obtain ⟨u15, eu15, h⟩ := b_bind h;refine fr 4 ?_;refine JO.s1x rfl rfl rfl (o_append rfl rfl sl23 (chkP_some eu15)) ⟨rfl, rfl, trivial⟩ fun v16 => ?_;refine fl fo26_0 ?_;refine JO.one fun o17 => ?_;refine fr 2 ?_;refine JO.n11 rfl rfl (o_store rfl sz23 o17 rfl rfl) ⟨rfl, rfl, trivial⟩ ?_;refine JO.nil (JN.blk_n (tn (JC.region (mq ?_))));obtain ⟨x18, ex18, h⟩ := b_bind h;refine jb (o_add rfl ex18) ?_;refine aq (nl ?_);exact jz (v16, (y8.1 ++ [(r12, x10.2)], x18)) h [3, 4, 0, 1]
  ·refine xa ?_;exact jz (z9, y8.1) h [0, 1, 2, 3]
 ·
  refine JC.cutB (Z := Value) (α := (List dDresser)) (fun z20 x19 => [(2, Pt b2), (3, Pt b5)]) (fun z20 x19 => [.obj b2 26 N4, .obj b5 26 (.agg (.pair (.eq z7) (.pair (.eq z20) (.pair (Ri r3) (Ri r4))))), .sl z7 43 tThing x6, .sl z20 38 tDresser x19]) h (fun K h => ?_) (fun z20 x19 h => ?_)
  ·refine sr (cq (nt (JC.block ?_)));refine JC.se (SE.nil 38 tDresser) ?_;refine JC.loopB (Z := Value) (α := (List dDresser) × Int) (fun z22 y21 => [(1, Pt b1), (2, Pt b2), (3, Pt b5), (6, I y21.2)]) (fun z22 y21 => [.obj b1 26 (.rep tChange a0), .obj b2 26 N4, .obj b5 26 (.agg (.pair (.eq z7) (.pair (.eq z22) (.pair (Ri r3) (Ri r4))))), .sl z7 43 tThing x6, .sl z22 38 tDresser y21.1]) (kit_CopyChange_l2 k a0) k (.slice none 0 0) (([] : (List dDresser)), (0 : Int)) (fun _ => rfl) h (SE.fin [1, 2, 3, 4, 0] ⟨rfl, rfl, rfl, rfl, trivial⟩ rfl) (fun n z22 y21 h => ?_);unfold kit_CopyChange_l2 at h;refine JC.seq (sr (mq ?_));refine fl fo26_1 ?_;refine lo sz24 ?_;refine ol U24 ?_;refine jb (o_lss rfl) ?_;refine nt (ci h (fun h => ?_) (fun h => ?_))
   ·refine sk (JC.seq (JC.block (sr (fl fo26_1 ?_))));refine lo sz24 ?_;refine mq ?_;obtain ⟨x23, ex23, h⟩ := b_bind h;refine jb (o_index (t := tDresser) rfl U24 sz38 ex23) ?_;refine ja (o_load_at (t := tDresser) rfl sz38 rfl) ?_;refine JO.s01 rfl rfl rfl (o_alloc rfl za38 al38) trivial fun b24 => ?_;refine JO.n11 rfl rfl (o_store rfl sz38 rfl rfl rfl) ⟨rfl, rfl, trivial⟩ ?_;refine nt (sr (fl fo38_0 ?_));refine lo sz22 ?_;obtain ⟨r25, er25, h⟩ := b_bind h;refine JO.s01 rfl rfl rfl (o_call [.tmp 50] rfl rfl en70 rfl (kit_CopyInts_ok k x23.1 r25 er25)) ⟨rfl, trivial⟩ fun v26 => ?_;refine fl fo38_0 ?_;refine JO.one fun o27 => ?_;refine fr 1 ?_;refine JO.n11 rfl rfl (o_store rfl sz22 o27 rfl rfl) ⟨rfl, rfl, trivial⟩ ?_;refine nt (JC.region (fl fo26_1 ?_));refine fr 4 ?_;refine lo sz24 ?_;refine fr 1 ?_;refine fr 2 ?_;refine JO.se (SE.frzBoth (off := 0) [51] ⟨rfl, trivial⟩ rfl rfl) ?_;refine lo sz38 ?_;refine ja (o_litB (t := tDresser) [(.tmp 55, _)] [(r25, x23.2)] rfl rfl sl24 (.cons trivial (.agg (.pair .rep .rep)) .nil) rfl rfl) ?_;obtain ⟨u28, eu28, h⟩ := b_bind h;refine fr 5 ?_;refine JO.s1x rfl rfl rfl (o_append rfl rfl sl24 (chkP_some eu28)) ⟨rfl, rfl, trivial⟩ fun v29 => ?_;refine fl fo26_1 ?_;refine JO.one fun o30 => ?_;refine fr 2 ?_;refine JO.n11 rfl rfl (o_store rfl sz24 o30 rfl rfl) ⟨rfl, rfl, trivial⟩ ?_;refine JO.nil (JN.blk_n (tn (JC.region (mq ?_))));obtain ⟨x31, ex31, h⟩ := b_bind h;refine jb (o_add rfl ex31) ?_;refine aq (nl ?_);exact jz (v29, (y21.1 ++ [(r25, x23.2)], x31)) h [3, 4, 0, 5, 1]
   ·refine xa ?_;exact jz (z22, y21.1) h [1, 2, 3, 4]
  ·refine sr (fr 1 ?_);refine lo sz26 ?_;refine fr 1 ?_;refine JO.n11 rfl rfl (o_store rfl sz26 trivial rfl rfl) ⟨rfl, rfl, trivial⟩ ?_;refine nt (JC.ret (JN.se (SE.fin (Γ' := [(2, _)]) [2, 3, 0, 1] ⟨rfl, trivial⟩ rfl) ?_));cases h;exact JN.ret (z7, z20) [.agg (.pair (.eq z7) (.pair (.eq z20) (.pair (Ri r3) (Ri r4))))] 2 ⟨⟨_, _, _, _, _, rfl, (.tail _ (.tail _ (.head _))), sz26, (nfn), rfl⟩, trivial⟩ rfl


def law_instead (k : Nat) (a0 : dChange) (a1 : Int) (a2 : dDresser) : Option dChange :=
 (kit_CopyChange k a0).bind fun r4 =>
 (geti r4.2.1 a1).bind fun x7 =>
 some (r4.1, List.set r4.2.1 (Int.toNat a1) a2, r4.2.2.1, r4.2.2.2)

theorem law_instead_ok (k : Nat) (a0 : dChange) (a1 : Int) (a2 : dDresser) (r : dChange) (h : law_instead k a0 a1 a2 = some r) :
 Ctr Try.prog 9 [.rep tChange a0, I a1, .rep tDresser a2] [] (fun _ : Unit => (resA [.rep tChange r], [])) := by
 unfold law_instead at h
 replace h := b_top h
 refine Ctr.of 16 Try.func9 rfl Try.ntmps9 rfl fun S w0 => ?_
 refine sr ?_
 refine bx fun b1 => ?_
 refine bx fun b2 => ?_
 refine JO.s01 rfl rfl rfl (o_alloc rfl za26 al26) trivial fun b3 => ?_
 refine nt ?_
 refine sr ?_
 refine fr 2 ?_
 refine lo sz26 ?_
 obtain ⟨r4, er4, h⟩ := b_bind h
 have cr4 := kit_CopyChange_ok k a0 r4 er4
 refine JO.stepG (Δ := []) (F := _) (fun _ _ _ => wanted_none rfl _) rfl rfl (o_call [.tmp 8] rfl rfl en42 rfl cr4) ⟨rfl, trivial⟩ fun z5 => ?_
 refine JO.s01 rfl rfl rfl (o_alloc rfl za26 al26) trivial fun b6 => ?_
 refine JO.n11 rfl rfl (o_store rfl sz26 trivial rfl rfl) ⟨rfl, rfl, trivial⟩ ?_
 refine nt ?_
 refine sr ?_
 refine fl fo26_1 ?_
 refine lo sz24 ?_
 refine mq ?_
 refine fr 5 ?_
 refine lo sz38 ?_
 obtain ⟨x7, ex7, h⟩ := b_bind h
 refine fr 3 ?_
 refine kb (o_index_own (t := tDresser) rfl U24 sz38 ex7) ?_
 refine JO.n11 rfl rfl (o_store_elW (i := Int.toNat a1) rfl sz38 rfl (geti_lt ex7) rfl .rep rfl) ⟨rfl, rfl, trivial⟩ ?_
 refine nt ?_
 refine sr ?_
 refine fr 2 ?_
 refine fr 3 ?_
 refine JO.se (SE.frzBoth (off := 0) [] trivial rfl rfl) ?_
 refine fr 1 ?_
 refine JO.se (SE.frzBoth (off := 1) [11] ⟨rfl, trivial⟩ rfl rfl) ?_
 refine lo sz26 ?_
 refine fr 3 ?_
 refine JO.n11 rfl rfl (o_store rfl sz26 trivial rfl rfl) ⟨rfl, rfl, trivial⟩ ?_
 refine nt ?_
 refine JC.ret ?_
 refine JN.se (SE.objE (a := .agg (.pair (Rs tThing r4.1) (.pair (Rs tDresser (List.set r4.2.1 (Int.toNat a1) a2)) (.pair (Ri r4.2.2.1) (Ri r4.2.2.2))))) (a' := .rep tChange (r4.1, List.set r4.2.1 (Int.toNat a1) a2, r4.2.2.1, r4.2.2.2)) (AE.ent (.agg (.pair .rep (.pair .rep (.pair .rep .rep)))))) ?_
 cases h
 exact JN.ret () [.rep tChange (r4.1, List.set r4.2.1 (Int.toNat a1) a2, r4.2.2.1, r4.2.2.2)] 0 ⟨⟨_, _, _, _, _, rfl, (.head _), sz26, (nfn), rfl⟩, trivial⟩ rfl


end Go.Proofs.Ytopgphikdglphaa
