/- The program's functions, part 1: what each computes, and that the code computes it. Printed by a program of this proof's own. -/
import Derived.Test.YtfhdclhbdmhnmaaFacts
import Derived.Test.YtfhdclhbdmhnmaaCore29
set_option linter.unusedVariables false
set_option maxRecDepth 4000
namespace Go.Proofs.Ytfhdclhbdmhnmaa
open K Go Go.Proofs
def kit_NewLots (k : Nat) (a0 : (List Int)) : Option dLots :=
 some (a0, (0 : Int), (1 : Int))

theorem kit_NewLots_ok (k : Nat) (a0 : (List Int)) (r : dLots) (h : kit_NewLots k a0 = some r) :
 Ctr Try.prog 17 [.rep (.slice (.int .i64)) a0] [] (fun z : Nat => (resA [.eq (.pointer (some ⟨z, 0, none⟩))], [.obj z 93 (.agg (.pair (.rep (.slice (.int .i64)) r.1) (.pair (.eq (.int .i64 r.2.1)) (.eq (.int .u64 r.2.2)))))])) := by
 unfold kit_NewLots at h
 replace h := b_top h
 refine Ctr.of 6 Try.func17 rfl Try.ntmps17 rfl fun S w0 => ?_
 refine sr ?_
 refine cq ?_
 refine nt ?_
 refine sr ?_
 refine mq ?_
 refine JO.s rfl (o_buildT [(0, .tmp 3, _), (2, .const (.int .u64 (1)), _)] rfl pl93 za93 alb93 (stors ⟨rfl, rfl, trivial⟩) rfl) ⟨rfl, rfl, trivial⟩ ?_
 refine JO.s01 rfl rfl rfl (o_box rfl trivial) ⟨rfl, trivial⟩ fun b1 => ?_
 refine aq ?_
 refine nt ?_
 refine JC.ret ?_
 obtain rfl := Option.some.inj h
 exact JN.ret b1 [.eq (.pointer (some ⟨b1, 0, none⟩))] 1 ⟨rfl, trivial⟩ rfl


def kit_At_l1 (k : Nat) (a0 : (List Int)) (a1 : Int) : Nat → Int → Option (Except Int Unit)
 | 0, _ => none
 | n + 1, y3 =>
  if y3 < (a0.length : Int) then ((geti a0 y3).bind fun x5 =>
  if x5 = a1 then (some (.error y3)) else ((ck (y3 + (1 : Int))).bind fun x6 =>
  kit_At_l1 k a0 a1 n x6)) else (some (.ok ()))
def kit_At (k : Nat) (a0 : (List Int)) (a1 : Int) : Option Int :=
 bE (α := Unit) (kit_At_l1 k a0 a1 k (0 : Int)) (some) fun _ =>
 some (-1 : Int)

theorem kit_At_ok (k : Nat) (a0 : (List Int)) (a1 : Int) (r : Int) (h : kit_At k a0 a1 = some r) :
 Ctr Try.prog 30 [.rep (.slice (.int .i64)) a0, .eq (.int .i64 a1)] [] (fun _ : Unit => (resA [.eq (.int .i64 r)], [])) := by
 unfold kit_At at h
 replace h := b_top h
 refine Ctr.of 19 Try.func30 rfl Try.ntmps30 rfl fun S w0 => ?_
 refine sr ?_
 refine cq ?_
 refine nt ?_
 refine JC.cutE (Z := Unit) (α := Unit) (fun z2 x1 => []) (fun z2 x1 => []) (fun e => e = r) h (fun e h => Option.some.inj h) (fun K hR h => ?_) (fun z2 x1 h => ?_)
 ·
  refine sr ?_
  refine cq ?_
  refine nt ?_
  refine JC.block ?_
  refine JC.loopB (Z := Unit) (α := Int) (fun z4 y3 => [(0, .rep (.slice (.int .i64)) a0), (1, .eq (.int .i64 a1)), (5, .eq (.int .i64 y3))]) (fun z4 y3 => []) (kit_At_l1 k a0 a1) k () (0 : Int) (fun _ => rfl) h (SE.fin [] ⟨rfl, rfl, rfl, trivial⟩ rfl) (fun n z4 y3 h => ?_)
  unfold kit_At_l1 at h
  refine JC.seq ?_
  refine sr ?_
  iterate 2 refine mq ?_
  refine JO.s rfl (o_len rfl rfl Try.underlying22) ⟨rfl, trivial⟩ ?_
  refine JO.s rfl (o_lss rfl) ⟨rfl, rfl, trivial⟩ ?_
  refine nt ?_
  refine JC.cond rfl (fun hb => ?_) (fun hb => ?_)
  ·
   replace h := b_if (d_t hb) h
   refine JC.skip ?_
   refine JN.then_n ?_
   show JC _ _ _ _ _
   refine JC.seq ?_
   refine JC.block ?_
   refine sr ?_
   iterate 2 refine mq ?_
   obtain ⟨x5, ex5, h⟩ := b_bind h
   refine JO.s rfl (o_index (t := (.int .i64)) rfl Try.underlying22 sz3 ex5) ⟨rfl, rfl, trivial⟩ ?_
   refine JO.s rfl (o_load_at (t := (.int .i64)) rfl sz3 rfl) ⟨rfl, trivial⟩ ?_
   refine mq ?_
   refine JO.s rfl (o_eql rfl) ⟨rfl, rfl, trivial⟩ ?_
   refine nt ?_
   refine JC.cond rfl (fun hb => ?_) (fun hb => ?_)
   ·
    replace h := b_if (d_t hb) h
    refine sr ?_
    refine mq ?_
    refine aq ?_
    refine nt ?_
    refine JC.ret ?_
    refine JN.blk_r ?_
    refine JN.then_r ?_
    refine JN.then_r ?_
    refine JN.blk_r ?_
    refine JN.then_r ?_
    obtain rfl := hR _ h
    exact JN.ret () [_] 0 ⟨rfl, trivial⟩ rfl
   ·
    replace h := b_ifn (d_f hb) h
    refine JC.skip ?_
    refine JN.blk_n ?_
    refine JN.then_n ?_
    show JC _ _ _ _ _
    refine JC.region ?_
    refine mq ?_
    obtain ⟨x6, ex6, h⟩ := b_bind h
    refine JO.s rfl (o_add rfl ex6) ⟨rfl, rfl, trivial⟩ ?_
    refine aq ?_
    refine JO.nil ?_
    refine JN.then_n ?_
    exact JN.z ((), x6) h (SE.fin [] ⟨rfl, rfl, rfl, trivial⟩ rfl)
  ·
   replace h := b_ifn (d_f hb) h
   refine JC.exit ?_
   refine JN.then_x ?_
   refine JN.then_x ?_
   refine JN.blk_hit ?_
   refine JN.then_n ?_
   exact JN.z ((), ()) h (SE.fin [] trivial rfl)
 ·
  refine sr ?_
  refine cq ?_
  refine nt ?_
  refine JC.ret ?_
  obtain rfl := Option.some.inj h
  exact JN.ret () [_] 0 ⟨rfl, trivial⟩ rfl


def kit_TasksOf_l3 (k : Nat) (a0 : dChange) (y10 : (List Bool) × Bool × Int) : Nat → (Bool × Int) → Option Bool
 | 0, _ => none
 | n + 1, y18 =>
  ((if y18.2 < (a0.1.length : Int) then ((kit_At k a0.2.2.1 y10.2.2).bind fun r22 =>
  if (0 : Int) ≤ r22 then ((kit_At k a0.2.2.2 y10.2.2).bind fun r23 =>
  some (decide ((0 : Int) ≤ r23))) else (some false)) else (some false)) : Option (Bool)).bind fun x20 =>
  if x20 = true then (((if y18.1 = true then (some true) else ((geti y10.1 y18.2).bind fun x26 =>
  if x26 = true then ((geti a0.1 y18.2).bind fun x27 =>
  (kit_At k x27.1 y10.2.2).bind fun r28 =>
  some (decide ((0 : Int) ≤ r28))) else (some false))) : Option (Bool)).bind fun x24 =>
  (ck (y18.2 + (1 : Int))).bind fun x29 =>
  kit_TasksOf_l3 k a0 y10 n (x24, x29)) else (some y18.1)

def kit_TasksOf_l2 (k : Nat) (a0 : dChange) : Nat → ((List Bool) × Bool × Int) → Option ((List Bool) × Bool)
 | 0, _ => none
 | n + 1, y10 =>
  if y10.2.2 < (a0.1.length : Int) then ((((kit_At k a0.2.2.1 y10.2.2).bind fun r14 =>
  (kit_At k a0.2.2.2 y10.2.2).bind fun r15 =>
  ((kit_TasksOf_l3 k a0 y10 k (!decide ((decide ((0 : Int) ≤ r14)) = (decide ((0 : Int) ≤ r15))), (0 : Int))) : Option (Bool)).bind fun x16 =>
  ((if x16 = true then ((geti y10.1 y10.2.2).bind fun x32 =>
  some (!x32)) else (some false)) : Option (Bool)).bind fun x30 =>
  if x30 = true then ((geti y10.1 y10.2.2).bind fun x33 =>
  some (List.set y10.1 (Int.toNat y10.2.2) true, true)) else (some (y10.1, y10.2.1))) : Option ((List Bool) × Bool)).bind fun x12 =>
  (ck (y10.2.2 + (1 : Int))).bind fun x34 =>
  kit_TasksOf_l2 k a0 n (x12.1, x12.2, x34)) else (some (y10.1, y10.2.1))

def kit_TasksOf_l1 (k : Nat) (a0 : dChange) : Nat → ((List Bool) × Bool) → Option (List Bool)
 | 0, _ => none
 | n + 1, y6 =>
  if y6.2 = true then (((kit_TasksOf_l2 k a0 k (y6.1, false, (0 : Int))) : Option ((List Bool) × Bool)).bind fun x8 =>
  kit_TasksOf_l1 k a0 n (x8.1, x8.2)) else (some y6.1)

def kit_TasksOf_l5 (k : Nat) (a0 : dChange) (x4 : (List Bool)) (y37 : (List dTask) × Int) : Nat → ((List dTask) × Int) → Option (List dTask)
 | 0, _ => none
 | n + 1, y41 =>
  if y41.2 < (x4.length : Int) then ((((((geti x4 y41.2).bind fun x47 =>
  if x47 = true then (if y37.2 = (0 : Int) then ((kit_At k a0.2.2.1 y41.2).bind fun r48 =>
  if (0 : Int) ≤ r48 then (some true) else (if y37.2 = (1 : Int) then ((kit_At k a0.2.2.2 y41.2).bind fun r49 =>
  some (decide ((0 : Int) ≤ r49))) else (some false))) else (if y37.2 = (1 : Int) then ((kit_At k a0.2.2.2 y41.2).bind fun r50 =>
  some (decide ((0 : Int) ≤ r50))) else (some false))) else (some false)) : Option (Bool)).bind fun x45 =>
  if x45 = true then ((chkP (okLen (List.length y41.1 + List.length [(y41.2, decide (y37.2 = (1 : Int)))]))).bind fun _ =>
  some (y41.1 ++ [(y41.2, decide (y37.2 = (1 : Int)))])) else (some y41.1)) : Option ((List dTask))).bind fun x43 =>
  (ck (y41.2 + (1 : Int))).bind fun x53 =>
  kit_TasksOf_l5 k a0 x4 y37 n (x43, x53)) else (some y41.1)

def kit_TasksOf_l4 (k : Nat) (a0 : dChange) (x4 : (List Bool)) : Nat → ((List dTask) × Int) → Option (List dTask)
 | 0, _ => none
 | n + 1, y37 =>
  if y37.2 < (2 : Int) then (((kit_TasksOf_l5 k a0 x4 y37 k (y37.1, (0 : Int))) : Option ((List dTask))).bind fun x39 =>
  (ck (y37.2 + (1 : Int))).bind fun x54 =>
  kit_TasksOf_l4 k a0 x4 n (x39, x54)) else (some y37.1)
def kit_TasksOf (k : Nat) (a0 : dChange) : Option (List dTask) :=
 (chkP (0 ≤ (a0.1.length : Int) ∧ okLen (Int.toNat (a0.1.length : Int)))).bind fun _ =>
 ((kit_TasksOf_l1 k a0 k (List.replicate (Int.toNat (a0.1.length : Int)) false, true)) : Option ((List Bool))).bind fun x4 =>
 ((kit_TasksOf_l4 k a0 x4 k (([] : (List dTask)), (0 : Int))) : Option ((List dTask))).bind fun x35 =>
 some x35

theorem kit_TasksOf_ok (k : Nat) (a0 : dChange) (r : (List dTask)) (h : kit_TasksOf k a0 = some r) :
 Ctr Try.prog 23 [.rep tChange a0] [] (fun _ : Unit => (resA [.rep (.slice tTask) r], [])) := by
 unfold kit_TasksOf at h
 replace h := b_top h
 refine Ctr.of 128 Try.func23 rfl Try.ntmps23 rfl fun S w0 => ?_
 refine sr ?_
 refine JO.s01 rfl rfl rfl (o_box rfl rfl) ⟨rfl, trivial⟩ fun b1 => ?_
 refine cq ?_
 refine nt ?_
 refine sr ?_
 refine cq ?_
 refine nt ?_
 refine sr ?_
 refine JO.s rfl (o_field_obj rfl fo28_0) ⟨rfl, trivial⟩ ?_
 refine JO.s11 rfl rfl rfl (o_load_obj rfl sz25 (fun _ => rfl) rfl) ⟨rfl, trivial⟩ ?_
 refine JO.s rfl (o_len rfl rfl Try.underlying25) ⟨rfl, trivial⟩ ?_
 obtain ⟨u2, eu2, h⟩ := b_bind h
 refine JO.s01 rfl rfl rfl (o_make (t := .bool) (d := false) rfl sl107 zr4 (chkP_some eu2).1 (chkP_some eu2).2) ⟨rfl, rfl, trivial⟩ fun v3 => ?_
 refine aq ?_
 refine nt ?_
 refine JC.cutB (Z := Unit) (α := (List Bool)) (fun z5 x4 => [(1, .eq (.pointer (some ⟨b1, 0, none⟩))), (3, .eq (.slice none 0 0)), (4, .eq v3)]) (fun z5 x4 => [.obj b1 28 (.rep tChange a0), .sl v3 4 .bool x4]) h (fun K h => ?_) (fun z5 x4 h => ?_)
 ·
  refine sr ?_
  refine cq ?_
  refine nt ?_
  refine JC.block ?_
  refine JC.loopB (Z := Unit) (α := (List Bool) × Bool) (fun z7 y6 => [(1, .eq (.pointer (some ⟨b1, 0, none⟩))), (3, .eq (.slice none 0 0)), (4, .eq v3), (5, .eq (.bool y6.2))]) (fun z7 y6 => [.obj b1 28 (.rep tChange a0), .sl v3 4 .bool y6.1]) (kit_TasksOf_l1 k a0) k () (List.replicate (Int.toNat (a0.1.length : Int)) false, true) (fun _ => rfl) h (SE.fin [1, 0] ⟨rfl, rfl, rfl, rfl, trivial⟩ rfl) (fun n z7 y6 h => ?_)
  unfold kit_TasksOf_l1 at h
  refine JC.seq ?_
  refine sr ?_
  refine mq ?_
  refine nt ?_
  refine JC.cond rfl (fun hb => ?_) (fun hb => ?_)
  ·
   replace h := b_if (v_t hb) h
   refine JC.skip ?_
   refine JN.then_n ?_
   show JC _ _ _ _ _
   refine JC.cutBN (Z := Unit) (α := (List Bool) × Bool) (fun z9 x8 => [(1, .eq (.pointer (some ⟨b1, 0, none⟩))), (3, .eq (.slice none 0 0)), (4, .eq v3), (5, .eq (.bool x8.2))]) (fun z9 x8 => [.obj b1 28 (.rep tChange a0), .sl v3 4 .bool x8.1]) h (fun K h => ?_) (fun z9 x8 h => ?_)
   ·
    refine JC.block ?_
    refine sr ?_
    refine cq ?_
    refine nt ?_
    refine sr ?_
    refine cq ?_
    refine nt ?_
    refine JC.block ?_
    refine JC.loopB (Z := Unit) (α := (List Bool) × Bool × Int) (fun z11 y10 => [(1, .eq (.pointer (some ⟨b1, 0, none⟩))), (3, .eq (.slice none 0 0)), (4, .eq v3), (5, .eq (.bool y10.2.1)), (6, .eq (.int .i64 y10.2.2))]) (fun z11 y10 => [.obj b1 28 (.rep tChange a0), .sl v3 4 .bool y10.1]) (kit_TasksOf_l2 k a0) k () (y6.1, false, (0 : Int)) (fun _ => rfl) h (SE.fin [0, 1] ⟨rfl, rfl, rfl, rfl, rfl, trivial⟩ rfl) (fun n z11 y10 h => ?_)
    unfold kit_TasksOf_l2 at h
    refine JC.seq ?_
    refine sr ?_
    refine mq ?_
    refine JO.s rfl (o_field_obj rfl fo28_0) ⟨rfl, trivial⟩ ?_
    refine JO.s11 rfl rfl rfl (o_load_obj rfl sz25 (fun _ => rfl) rfl) ⟨rfl, trivial⟩ ?_
    refine JO.s rfl (o_len rfl rfl Try.underlying25) ⟨rfl, trivial⟩ ?_
    refine JO.s rfl (o_lss rfl) ⟨rfl, rfl, trivial⟩ ?_
    refine nt ?_
    refine JC.cond rfl (fun hb => ?_) (fun hb => ?_)
    ·
     replace h := b_if (d_t hb) h
     refine JC.skip ?_
     refine JN.then_n ?_
     show JC _ _ _ _ _
     refine JC.cutB (Z := Unit) (α := (List Bool) × Bool) (fun z13 x12 => [(1, .eq (.pointer (some ⟨b1, 0, none⟩))), (3, .eq (.slice none 0 0)), (4, .eq v3), (5, .eq (.bool x12.2)), (6, .eq (.int .i64 y10.2.2))]) (fun z13 x12 => [.obj b1 28 (.rep tChange a0), .sl v3 4 .bool x12.1]) h (fun K h => ?_) (fun z13 x12 h => ?_)
     ·
      refine JC.block ?_
      refine JC.seq ?_
      refine JC.drawN ?_
      refine DN.s00 rfl rfl rfl (o_field_obj rfl fo28_2) ⟨rfl, trivial⟩ ?_
      refine DN.s11 0 rfl rfl rfl rfl (o_load_obj rfl sz22 (fun _ => rfl) rfl) ⟨rfl, trivial⟩ ?_
      refine dm ?_
      obtain ⟨r14, er14, h⟩ := b_bind h
      have cr14 := kit_At_ok k a0.2.2.1 y10.2.2 r14 er14
      refine DN.s00 rfl rfl rfl (o_call [.tmp 24, .tmp 25] rfl rfl en30 rfl cr14) ⟨rfl, rfl, trivial⟩ ?_
      refine DN.s00 rfl rfl rfl (o_geq rfl) ⟨rfl, rfl, trivial⟩ ?_
      refine DN.s00 rfl rfl rfl (o_field_obj rfl fo28_3) ⟨rfl, trivial⟩ ?_
      refine DN.s11 0 rfl rfl rfl rfl (o_load_obj rfl sz22 (fun _ => rfl) rfl) ⟨rfl, trivial⟩ ?_
      refine dm ?_
      obtain ⟨r15, er15, h⟩ := b_bind h
      have cr15 := kit_At_ok k a0.2.2.2 y10.2.2 r15 er15
      refine DN.s00 rfl rfl rfl (o_call [.tmp 29, .tmp 30] rfl rfl en30 rfl cr15) ⟨rfl, rfl, trivial⟩ ?_
      refine DN.s00 rfl rfl rfl (o_geq rfl) ⟨rfl, rfl, trivial⟩ ?_
      refine DN.fin (by kernel_rfl) mixed ?_
      refine JO.s rfl (o_neqb rfl Try.underlying4) ⟨rfl, rfl, trivial⟩ ?_
      refine aq ?_
      refine nt ?_
      refine JC.cutB (Z := Unit) (α := Bool) (fun z17 x16 => [(1, .eq (.pointer (some ⟨b1, 0, none⟩))), (3, .eq (.slice none 0 0)), (4, .eq v3), (5, .eq (.bool y10.2.1)), (6, .eq (.int .i64 y10.2.2)), (7, .eq (.bool x16))]) (fun z17 x16 => [.obj b1 28 (.rep tChange a0), .sl v3 4 .bool y10.1]) h (fun K h => ?_) (fun z17 x16 h => ?_)
      ·
       refine sr ?_
       refine cq ?_
       refine nt ?_
       refine JC.block ?_
       refine JC.loopB (Z := Unit) (α := Bool × Int) (fun z19 y18 => [(1, .eq (.pointer (some ⟨b1, 0, none⟩))), (3, .eq (.slice none 0 0)), (4, .eq v3), (5, .eq (.bool y10.2.1)), (6, .eq (.int .i64 y10.2.2)), (7, .eq (.bool y18.1)), (8, .eq (.int .i64 y18.2))]) (fun z19 y18 => [.obj b1 28 (.rep tChange a0), .sl v3 4 .bool y10.1]) (kit_TasksOf_l3 k a0 y10) k () (!decide ((decide ((0 : Int) ≤ r14)) = (decide ((0 : Int) ≤ r15))), (0 : Int)) (fun _ => rfl) h (SE.fin [0, 1] ⟨rfl, rfl, rfl, rfl, rfl, rfl, rfl, trivial⟩ rfl) (fun n z19 y18 h => ?_)
       unfold kit_TasksOf_l3 at h
       refine JC.seq ?_
       refine JC.cutB (Z := Unit) (α := Bool) (fun z21 x20 => [(1, .eq (.pointer (some ⟨b1, 0, none⟩))), (3, .eq (.slice none 0 0)), (4, .eq v3), (5, .eq (.bool y10.2.1)), (6, .eq (.int .i64 y10.2.2)), (7, .eq (.bool y18.1)), (8, .eq (.int .i64 y18.2)), (52, .eq (.bool x20))]) (fun z21 x20 => [.obj b1 28 (.rep tChange a0), .sl v3 4 .bool y10.1]) h (fun K h => ?_) (fun z21 x20 h => ?_)
       ·
        refine JC.region ?_
        refine mq ?_
        refine JO.s rfl (o_field_obj rfl fo28_0) ⟨rfl, trivial⟩ ?_
        refine JO.s11 rfl rfl rfl (o_load_obj rfl sz25 (fun _ => rfl) rfl) ⟨rfl, trivial⟩ ?_
        refine JO.s rfl (o_len rfl rfl Try.underlying25) ⟨rfl, trivial⟩ ?_
        refine JO.s rfl (o_lss rfl) ⟨rfl, rfl, trivial⟩ ?_
        refine mq ?_
        refine JO.bool (s := 39) rfl (fun hb => ?_) (fun hb => ?_)
        ·
         replace h := b_if (d_t hb) h
         refine JO.g00 rfl rfl rfl rfl rfl rfl (o_field_obj rfl fo28_2) ⟨rfl, trivial⟩ ?_
         refine JO.g11 rfl rfl rfl rfl rfl rfl (o_load_obj rfl sz22 (fun _ => rfl) rfl) ⟨rfl, trivial⟩ ?_
         refine gm ?_
         obtain ⟨r22, er22, h⟩ := b_bind h
         have cr22 := kit_At_ok k a0.2.2.1 y10.2.2 r22 er22
         refine JO.g00 rfl rfl rfl rfl rfl rfl (o_call [.tmp 41, .tmp 42] rfl rfl en30 rfl cr22) ⟨rfl, rfl, trivial⟩ ?_
         refine JO.g00 rfl rfl rfl rfl rfl rfl (o_geq rfl) ⟨rfl, rfl, trivial⟩ ?_
         refine pt ?_
         refine mq ?_
         refine JO.bool (s := 46) rfl (fun hb => ?_) (fun hb => ?_)
         ·
          replace h := b_if (d_t hb) h
          refine JO.g00 rfl rfl rfl rfl rfl rfl (o_field_obj rfl fo28_3) ⟨rfl, trivial⟩ ?_
          refine JO.g11 rfl rfl rfl rfl rfl rfl (o_load_obj rfl sz22 (fun _ => rfl) rfl) ⟨rfl, trivial⟩ ?_
          refine gm ?_
          obtain ⟨r23, er23, h⟩ := b_bind h
          have cr23 := kit_At_ok k a0.2.2.2 y10.2.2 r23 er23
          refine JO.g00 rfl rfl rfl rfl rfl rfl (o_call [.tmp 48, .tmp 49] rfl rfl en30 rfl cr23) ⟨rfl, rfl, trivial⟩ ?_
          refine JO.g00 rfl rfl rfl rfl rfl rfl (o_geq rfl) ⟨rfl, rfl, trivial⟩ ?_
          refine pt ?_
          refine JO.nil ?_
          refine JN.then_n ?_
          exact JN.z ((), decide ((0 : Int) ≤ r23)) h (SE.fin [0, 1] ⟨rfl, rfl, rfl, rfl, rfl, rfl, rfl, rfl, trivial⟩ rfl)
         ·
          replace h := b_ifn (d_f hb) h
          iterate 5 refine gn ?_
          refine pf ?_
          refine JO.nil ?_
          refine JN.then_n ?_
          exact JN.z ((), false) h (SE.fin [0, 1] ⟨rfl, rfl, rfl, rfl, rfl, rfl, rfl, rfl, trivial⟩ rfl)
        ·
         replace h := b_ifn (d_f hb) h
         iterate 5 refine gn ?_
         refine pf ?_
         refine mq ?_
         iterate 5 refine gn ?_
         refine pf ?_
         refine JO.nil ?_
         refine JN.then_n ?_
         exact JN.z ((), false) h (SE.fin [0, 1] ⟨rfl, rfl, rfl, rfl, rfl, rfl, rfl, rfl, trivial⟩ rfl)
       ·
        refine JC.cond rfl (fun hb => ?_) (fun hb => ?_)
        ·
         replace h := b_if (v_t hb) h
         refine JC.skip ?_
         refine JN.then_n ?_
         show JC _ _ _ _ _
         refine JC.cutB (Z := Unit) (α := Bool) (fun z25 x24 => [(1, .eq (.pointer (some ⟨b1, 0, none⟩))), (3, .eq (.slice none 0 0)), (4, .eq v3), (5, .eq (.bool y10.2.1)), (6, .eq (.int .i64 y10.2.2)), (7, .eq (.bool x24)), (8, .eq (.int .i64 y18.2))]) (fun z25 x24 => [.obj b1 28 (.rep tChange a0), .sl v3 4 .bool y10.1]) h (fun K h => ?_) (fun z25 x24 h => ?_)
         ·
          refine JC.block ?_
          refine JC.region ?_
          iterate 2 refine mq ?_
          refine JO.bool (s := 56) rfl (fun hb => ?_) (fun hb => ?_)
          ·
           replace h := b_if (v_t hb) h
           iterate 5 refine gn ?_
           refine JO.gnou rfl rfl rfl rfl rfl rfl ?_
           refine JO.gnou rfl rfl rfl rfl rfl rfl ?_
           refine JO.gnou rfl rfl rfl rfl rfl rfl ?_
           refine JO.gnou rfl rfl rfl rfl rfl rfl ?_
           refine JO.gnou rfl rfl rfl rfl rfl rfl ?_
           refine JO.gnou rfl rfl rfl rfl rfl rfl ?_
           refine JO.gnou rfl rfl rfl rfl rfl rfl ?_
           refine JO.gnou rfl rfl rfl rfl rfl rfl ?_
           refine JO.gnou rfl rfl rfl rfl rfl rfl ?_
           refine gn ?_
           refine pt ?_
           refine aq ?_
           refine JO.nil ?_
           refine JN.blk_n ?_
           refine JN.then_n ?_
           exact JN.z ((), true) h (SE.fin [0, 1] ⟨rfl, rfl, rfl, rfl, rfl, rfl, rfl, trivial⟩ rfl)
          ·
           replace h := b_ifn (v_f hb) h
           refine gm ?_
           refine gm ?_
           obtain ⟨x26, ex26, h⟩ := b_bind h
           refine JO.front 1 rfl ?_
           refine JO.g11 rfl rfl rfl rfl rfl rfl (o_index_own (t := .bool) rfl Try.underlying107 sz4 ex26) ⟨rfl, rfl, trivial⟩ ?_
           refine JO.g11 rfl rfl rfl rfl rfl rfl (o_load_el (i := Int.toNat y18.2) (off := 0) rfl sz4 (fun _ => rfl) rfl (geti_some ex26).2.2 rfl) ⟨rfl, trivial⟩ ?_
           refine gm ?_
           refine JO.bool (s := 61) rfl (fun hb => ?_) (fun hb => ?_)
           ·
            replace h := b_if (v_t hb) h
            refine JO.g00 rfl rfl rfl rfl rfl rfl (o_field_obj rfl fo28_0) ⟨rfl, trivial⟩ ?_
            refine JO.front 1 rfl ?_
            refine JO.g11 rfl rfl rfl rfl rfl rfl (o_load_obj rfl sz25 (fun _ => rfl) rfl) ⟨rfl, trivial⟩ ?_
            refine gm ?_
            obtain ⟨x27, ex27, h⟩ := b_bind h
            refine JO.g00 rfl rfl rfl rfl rfl rfl (o_index (t := tThing) rfl Try.underlying25 sz45 ex27) ⟨rfl, rfl, trivial⟩ ?_
            refine JO.g00 rfl rfl rfl rfl rfl rfl (o_field_at 1 false rfl fo45_0 rfl) ⟨rfl, trivial⟩ ?_
            refine JO.g00 rfl rfl rfl rfl rfl rfl (o_load_at (t := (.slice (.int .i64))) rfl sz22 rfl) ⟨rfl, trivial⟩ ?_
            refine gm ?_
            obtain ⟨r28, er28, h⟩ := b_bind h
            have cr28 := kit_At_ok k x27.1 y10.2.2 r28 er28
            refine JO.g00 rfl rfl rfl rfl rfl rfl (o_call [.tmp 67, .tmp 68] rfl rfl en30 rfl cr28) ⟨rfl, rfl, trivial⟩ ?_
            refine JO.g00 rfl rfl rfl rfl rfl rfl (o_geq rfl) ⟨rfl, rfl, trivial⟩ ?_
            refine JO.g00 rfl rfl rfl rfl rfl rfl (o_pick_t rfl) ⟨rfl, rfl, trivial⟩ ?_
            refine pf ?_
            refine aq ?_
            refine JO.nil ?_
            refine JN.blk_n ?_
            refine JN.then_n ?_
            exact JN.z ((), decide ((0 : Int) ≤ r28)) h (SE.fin [0, 1] ⟨rfl, rfl, rfl, rfl, rfl, rfl, rfl, trivial⟩ rfl)
           ·
            replace h := b_ifn (v_f hb) h
            iterate 9 refine gn ?_
            refine JO.g00 rfl rfl rfl rfl rfl rfl (o_pick_f rfl) ⟨rfl, rfl, trivial⟩ ?_
            refine pf ?_
            refine aq ?_
            refine JO.nil ?_
            refine JN.blk_n ?_
            refine JN.then_n ?_
            exact JN.z ((), false) h (SE.fin [1, 0] ⟨rfl, rfl, rfl, rfl, rfl, rfl, rfl, trivial⟩ rfl)
         ·
          refine JC.region ?_
          refine mq ?_
          obtain ⟨x29, ex29, h⟩ := b_bind h
          refine JO.s rfl (o_add rfl ex29) ⟨rfl, rfl, trivial⟩ ?_
          refine aq ?_
          refine JO.nil ?_
          refine JN.then_n ?_
          exact JN.z ((), (x24, x29)) h (SE.fin [0, 1] ⟨rfl, rfl, rfl, rfl, rfl, rfl, rfl, trivial⟩ rfl)
        ·
         replace h := b_ifn (v_f hb) h
         refine JC.exit ?_
         refine JN.then_x ?_
         refine JN.then_x ?_
         refine JN.blk_hit ?_
         refine JN.then_n ?_
         exact JN.z ((), y18.1) h (SE.fin [0, 1] ⟨rfl, rfl, rfl, rfl, rfl, rfl, trivial⟩ rfl)
      ·
       refine JC.cutB (Z := Unit) (α := Bool) (fun z31 x30 => [(1, .eq (.pointer (some ⟨b1, 0, none⟩))), (3, .eq (.slice none 0 0)), (4, .eq v3), (5, .eq (.bool y10.2.1)), (6, .eq (.int .i64 y10.2.2)), (80, .eq (.bool x30))]) (fun z31 x30 => [.obj b1 28 (.rep tChange a0), .sl v3 4 .bool y10.1]) h (fun K h => ?_) (fun z31 x30 h => ?_)
       ·
        refine JC.region ?_
        iterate 2 refine mq ?_
        refine JO.bool (s := 74) rfl (fun hb => ?_) (fun hb => ?_)
        ·
         replace h := b_if (v_t hb) h
         refine gm ?_
         refine gm ?_
         obtain ⟨x32, ex32, h⟩ := b_bind h
         refine JO.front 1 rfl ?_
         refine JO.g11 rfl rfl rfl rfl rfl rfl (o_index_own (t := .bool) rfl Try.underlying107 sz4 ex32) ⟨rfl, rfl, trivial⟩ ?_
         refine JO.g11 rfl rfl rfl rfl rfl rfl (o_load_el (i := Int.toNat y10.2.2) (off := 0) rfl sz4 (fun _ => rfl) rfl (geti_some ex32).2.2 rfl) ⟨rfl, trivial⟩ ?_
         refine JO.g00 rfl rfl rfl rfl rfl rfl (o_not rfl) ⟨rfl, trivial⟩ ?_
         refine pt ?_
         refine JO.nil ?_
         refine JN.then_n ?_
         exact JN.z ((), !x32) h (SE.fin [1, 0] ⟨rfl, rfl, rfl, rfl, rfl, rfl, trivial⟩ rfl)
        ·
         replace h := b_ifn (v_f hb) h
         iterate 5 refine gn ?_
         refine pf ?_
         refine JO.nil ?_
         refine JN.then_n ?_
         exact JN.z ((), false) h (SE.fin [0, 1] ⟨rfl, rfl, rfl, rfl, rfl, rfl, trivial⟩ rfl)
       ·
        refine JC.cond rfl (fun hb => ?_) (fun hb => ?_)
        ·
         replace h := b_if (v_t hb) h
         refine JC.region ?_
         iterate 2 refine mq ?_
         obtain ⟨x33, ex33, h⟩ := b_bind h
         refine JO.front 1 rfl ?_
         refine JO.s11 rfl rfl rfl (o_index_own (t := .bool) rfl Try.underlying107 sz4 ex33) ⟨rfl, rfl, trivial⟩ ?_
         refine JO.n11 rfl rfl (o_store_elW (i := Int.toNat y10.2.2) rfl sz4 rfl (geti_lt ex33) rfl .bool rfl) ⟨rfl, rfl, trivial⟩ ?_
         refine cq ?_
         refine JO.nil ?_
         refine JN.blk_n ?_
         refine JN.then_n ?_
         exact JN.z ((), (List.set y10.1 (Int.toNat y10.2.2) true, true)) h (SE.fin [1, 0] ⟨rfl, rfl, rfl, rfl, rfl, trivial⟩ rfl)
        ·
         replace h := b_ifn (v_f hb) h
         refine JC.skip ?_
         refine JN.blk_n ?_
         refine JN.then_n ?_
         exact JN.z ((), (y10.1, y10.2.1)) h (SE.fin [0, 1] ⟨rfl, rfl, rfl, rfl, rfl, trivial⟩ rfl)
     ·
      refine JC.region ?_
      refine mq ?_
      obtain ⟨x34, ex34, h⟩ := b_bind h
      refine JO.s rfl (o_add rfl ex34) ⟨rfl, rfl, trivial⟩ ?_
      refine aq ?_
      refine JO.nil ?_
      refine JN.then_n ?_
      exact JN.z ((), (x12.1, x12.2, x34)) h (SE.fin [0, 1] ⟨rfl, rfl, rfl, rfl, rfl, trivial⟩ rfl)
    ·
     replace h := b_ifn (d_f hb) h
     refine JC.exit ?_
     refine JN.then_x ?_
     refine JN.then_x ?_
     refine JN.blk_hit ?_
     refine JN.blk_n ?_
     refine JN.then_n ?_
     exact JN.z ((), (y10.1, y10.2.1)) h (SE.fin [0, 1] ⟨rfl, rfl, rfl, rfl, trivial⟩ rfl)
   ·
    refine JN.then_n ?_
    exact JN.z ((), (x8.1, x8.2)) h (SE.fin [0, 1] ⟨rfl, rfl, rfl, rfl, trivial⟩ rfl)
  ·
   replace h := b_ifn (v_f hb) h
   refine JC.exit ?_
   refine JN.then_x ?_
   refine JN.then_x ?_
   refine JN.blk_hit ?_
   refine JN.then_n ?_
   exact JN.z ((), y6.1) h (SE.fin [0, 1] ⟨rfl, rfl, rfl, trivial⟩ rfl)
 ·
  refine JC.cutB (Z := Value) (α := (List dTask)) (fun z36 x35 => [(3, .eq z36)]) (fun z36 x35 => [.sl z36 41 tTask x35]) h (fun K h => ?_) (fun z36 x35 h => ?_)
  ·
   refine sr ?_
   refine cq ?_
   refine nt ?_
   refine JC.block ?_
   refine JC.se (SE.nil 41 tTask) ?_
   refine JC.loopB (Z := Value) (α := (List dTask) × Int) (fun z38 y37 => [(1, .eq (.pointer (some ⟨b1, 0, none⟩))), (3, .eq z38), (4, .eq v3), (9, .eq (.int .i64 y37.2))]) (fun z38 y37 => [.obj b1 28 (.rep tChange a0), .sl z38 41 tTask y37.1, .sl v3 4 .bool x4]) (kit_TasksOf_l4 k a0 x4) k (.slice none 0 0) (([] : (List dTask)), (0 : Int)) (fun _ => rfl) h (SE.fin [1, 0, 2] ⟨rfl, rfl, rfl, rfl, trivial⟩ rfl) (fun n z38 y37 h => ?_)
   unfold kit_TasksOf_l4 at h
   refine JC.seq ?_
   refine sr ?_
   refine mq ?_
   refine JO.s rfl (o_lss rfl) ⟨rfl, rfl, trivial⟩ ?_
   refine nt ?_
   refine JC.cond rfl (fun hb => ?_) (fun hb => ?_)
   ·
    replace h := b_if (d_t hb) h
    refine JC.skip ?_
    refine JN.then_n ?_
    show JC _ _ _ _ _
    refine JC.cutB (Z := Value) (α := (List dTask)) (fun z40 x39 => [(1, .eq (.pointer (some ⟨b1, 0, none⟩))), (3, .eq z40), (4, .eq v3), (9, .eq (.int .i64 y37.2))]) (fun z40 x39 => [.obj b1 28 (.rep tChange a0), .sl z40 41 tTask x39, .sl v3 4 .bool x4]) h (fun K h => ?_) (fun z40 x39 h => ?_)
    ·
     refine JC.block ?_
     refine sr ?_
     refine cq ?_
     refine nt ?_
     refine JC.block ?_
     refine JC.loopB (Z := Value) (α := (List dTask) × Int) (fun z42 y41 => [(1, .eq (.pointer (some ⟨b1, 0, none⟩))), (3, .eq z42), (4, .eq v3), (9, .eq (.int .i64 y37.2)), (10, .eq (.int .i64 y41.2))]) (fun z42 y41 => [.obj b1 28 (.rep tChange a0), .sl z42 41 tTask y41.1, .sl v3 4 .bool x4]) (kit_TasksOf_l5 k a0 x4 y37) k z38 (y37.1, (0 : Int)) (fun _ => rfl) h (SE.fin [0, 1, 2] ⟨rfl, rfl, rfl, rfl, rfl, trivial⟩ rfl) (fun n z42 y41 h => ?_)
     unfold kit_TasksOf_l5 at h
     refine JC.seq ?_
     refine sr ?_
     iterate 2 refine mq ?_
     refine JO.front 2 rfl ?_
     refine JO.s11 rfl rfl rfl (o_len_own rfl rfl Try.underlying107) ⟨rfl, trivial⟩ ?_
     refine JO.s rfl (o_lss rfl) ⟨rfl, rfl, trivial⟩ ?_
     refine nt ?_
     refine JC.cond rfl (fun hb => ?_) (fun hb => ?_)
     ·
      replace h := b_if (d_t hb) h
      refine JC.skip ?_
      refine JN.then_n ?_
      show JC _ _ _ _ _
      refine JC.cutB (Z := Value) (α := (List dTask)) (fun z44 x43 => [(1, .eq (.pointer (some ⟨b1, 0, none⟩))), (3, .eq z44), (4, .eq v3), (9, .eq (.int .i64 y37.2)), (10, .eq (.int .i64 y41.2))]) (fun z44 x43 => [.obj b1 28 (.rep tChange a0), .sl z44 41 tTask x43, .sl v3 4 .bool x4]) h (fun K h => ?_) (fun z44 x43 h => ?_)
      ·
       refine JC.block ?_
       refine JC.cutB (Z := Unit) (α := Bool) (fun z46 x45 => [(1, .eq (.pointer (some ⟨b1, 0, none⟩))), (3, .eq z42), (4, .eq v3), (9, .eq (.int .i64 y37.2)), (10, .eq (.int .i64 y41.2)), (119, .eq (.bool x45))]) (fun z46 x45 => [.obj b1 28 (.rep tChange a0), .sl z42 41 tTask y41.1, .sl v3 4 .bool x4]) h (fun K h => ?_) (fun z46 x45 h => ?_)
       ·
        refine JC.region ?_
        iterate 2 refine mq ?_
        obtain ⟨x47, ex47, h⟩ := b_bind h
        refine JO.s11 rfl rfl rfl (o_index_own (t := .bool) rfl Try.underlying107 sz4 ex47) ⟨rfl, rfl, trivial⟩ ?_
        refine JO.s11 rfl rfl rfl (o_load_el (i := Int.toNat y41.2) (off := 0) rfl sz4 (fun _ => rfl) rfl (geti_some ex47).2.2 rfl) ⟨rfl, trivial⟩ ?_
        refine mq ?_
        refine JO.bool (s := 98) rfl (fun hb => ?_) (fun hb => ?_)
        ·
         replace h := b_if (v_t hb) h
         refine gm ?_
         refine JO.g00 rfl rfl rfl rfl rfl rfl (o_eql rfl) ⟨rfl, rfl, trivial⟩ ?_
         refine gm ?_
         refine JO.bool (s := 101) rfl (fun hb => ?_) (fun hb => ?_)
         ·
          replace h := b_if (d_t hb) h
          refine JO.g00 rfl rfl rfl rfl rfl rfl (o_field_obj rfl fo28_2) ⟨rfl, trivial⟩ ?_
          refine JO.front 1 rfl ?_
          refine JO.g11 rfl rfl rfl rfl rfl rfl (o_load_obj rfl sz22 (fun _ => rfl) rfl) ⟨rfl, trivial⟩ ?_
          refine gm ?_
          obtain ⟨r48, er48, h⟩ := b_bind h
          have cr48 := kit_At_ok k a0.2.2.1 y41.2 r48 er48
          refine JO.g00 rfl rfl rfl rfl rfl rfl (o_call [.tmp 103, .tmp 104] rfl rfl en30 rfl cr48) ⟨rfl, rfl, trivial⟩ ?_
          refine JO.g00 rfl rfl rfl rfl rfl rfl (o_geq rfl) ⟨rfl, rfl, trivial⟩ ?_
          refine JO.g00 rfl rfl rfl rfl rfl rfl (o_pick_t rfl) ⟨rfl, rfl, trivial⟩ ?_
          refine gm ?_
          refine JO.bool (s := 108) rfl (fun hb => ?_) (fun hb => ?_)
          ·
           replace h := b_if (d_t hb) h
           iterate 3 refine gn ?_
           refine JO.gnou rfl rfl rfl rfl rfl rfl ?_
           refine JO.gnou rfl rfl rfl rfl rfl rfl ?_
           refine JO.gnou rfl rfl rfl rfl rfl rfl ?_
           refine JO.gnou rfl rfl rfl rfl rfl rfl ?_
           refine JO.gnou rfl rfl rfl rfl rfl rfl ?_
           refine gn ?_
           refine JO.g00 rfl rfl rfl rfl rfl rfl (o_pick_t rfl) ⟨rfl, rfl, trivial⟩ ?_
           refine pt ?_
           refine JO.nil ?_
           refine JN.then_n ?_
           exact JN.z ((), true) h (SE.fin [0, 2, 1] ⟨rfl, rfl, rfl, rfl, rfl, rfl, trivial⟩ rfl)
          ·
           replace h := b_ifn (d_f hb) h
           refine gm ?_
           refine JO.g00 rfl rfl rfl rfl rfl rfl (o_eql rfl) ⟨rfl, rfl, trivial⟩ ?_
           refine gm ?_
           refine JO.bool (s := 111) rfl (fun hb => ?_) (fun hb => ?_)
           ·
            replace h := b_if (d_t hb) h
            refine JO.g00 rfl rfl rfl rfl rfl rfl (o_field_obj rfl fo28_3) ⟨rfl, trivial⟩ ?_
            refine JO.g11 rfl rfl rfl rfl rfl rfl (o_load_obj rfl sz22 (fun _ => rfl) rfl) ⟨rfl, trivial⟩ ?_
            refine gm ?_
            obtain ⟨r49, er49, h⟩ := b_bind h
            have cr49 := kit_At_ok k a0.2.2.2 y41.2 r49 er49
            refine JO.g00 rfl rfl rfl rfl rfl rfl (o_call [.tmp 113, .tmp 114] rfl rfl en30 rfl cr49) ⟨rfl, rfl, trivial⟩ ?_
            refine JO.g00 rfl rfl rfl rfl rfl rfl (o_geq rfl) ⟨rfl, rfl, trivial⟩ ?_
            refine JO.g00 rfl rfl rfl rfl rfl rfl (o_pick_t rfl) ⟨rfl, rfl, trivial⟩ ?_
            refine JO.g00 rfl rfl rfl rfl rfl rfl (o_pick_f rfl) ⟨rfl, rfl, trivial⟩ ?_
            refine pt ?_
            refine JO.nil ?_
            refine JN.then_n ?_
            exact JN.z ((), decide ((0 : Int) ≤ r49)) h (SE.fin [0, 2, 1] ⟨rfl, rfl, rfl, rfl, rfl, rfl, trivial⟩ rfl)
           ·
            replace h := b_ifn (d_f hb) h
            iterate 5 refine gn ?_
            refine JO.g00 rfl rfl rfl rfl rfl rfl (o_pick_f rfl) ⟨rfl, rfl, trivial⟩ ?_
            refine JO.g00 rfl rfl rfl rfl rfl rfl (o_pick_f rfl) ⟨rfl, rfl, trivial⟩ ?_
            refine pt ?_
            refine JO.nil ?_
            refine JN.then_n ?_
            exact JN.z ((), false) h (SE.fin [0, 2, 1] ⟨rfl, rfl, rfl, rfl, rfl, rfl, trivial⟩ rfl)
         ·
          replace h := b_ifn (d_f hb) h
          iterate 5 refine gn ?_
          refine JO.g00 rfl rfl rfl rfl rfl rfl (o_pick_f rfl) ⟨rfl, rfl, trivial⟩ ?_
          refine gm ?_
          refine gm ?_
          refine JO.g00 rfl rfl rfl rfl rfl rfl (o_eql rfl) ⟨rfl, rfl, trivial⟩ ?_
          refine gm ?_
          refine JO.bool (s := 111) rfl (fun hb => ?_) (fun hb => ?_)
          ·
           replace h := b_if (d_t hb) h
           refine JO.g00 rfl rfl rfl rfl rfl rfl (o_field_obj rfl fo28_3) ⟨rfl, trivial⟩ ?_
           refine JO.front 1 rfl ?_
           refine JO.g11 rfl rfl rfl rfl rfl rfl (o_load_obj rfl sz22 (fun _ => rfl) rfl) ⟨rfl, trivial⟩ ?_
           refine gm ?_
           obtain ⟨r50, er50, h⟩ := b_bind h
           have cr50 := kit_At_ok k a0.2.2.2 y41.2 r50 er50
           refine JO.g00 rfl rfl rfl rfl rfl rfl (o_call [.tmp 113, .tmp 114] rfl rfl en30 rfl cr50) ⟨rfl, rfl, trivial⟩ ?_
           refine JO.g00 rfl rfl rfl rfl rfl rfl (o_geq rfl) ⟨rfl, rfl, trivial⟩ ?_
           refine JO.g00 rfl rfl rfl rfl rfl rfl (o_pick_t rfl) ⟨rfl, rfl, trivial⟩ ?_
           refine JO.g00 rfl rfl rfl rfl rfl rfl (o_pick_f rfl) ⟨rfl, rfl, trivial⟩ ?_
           refine pt ?_
           refine JO.nil ?_
           refine JN.then_n ?_
           exact JN.z ((), decide ((0 : Int) ≤ r50)) h (SE.fin [0, 2, 1] ⟨rfl, rfl, rfl, rfl, rfl, rfl, trivial⟩ rfl)
          ·
           replace h := b_ifn (d_f hb) h
           iterate 5 refine gn ?_
           refine JO.g00 rfl rfl rfl rfl rfl rfl (o_pick_f rfl) ⟨rfl, rfl, trivial⟩ ?_
           refine JO.g00 rfl rfl rfl rfl rfl rfl (o_pick_f rfl) ⟨rfl, rfl, trivial⟩ ?_
           refine pt ?_
           refine JO.nil ?_
           refine JN.then_n ?_
           exact JN.z ((), false) h (SE.fin [1, 2, 0] ⟨rfl, rfl, rfl, rfl, rfl, rfl, trivial⟩ rfl)
        ·
         replace h := b_ifn (v_f hb) h
         iterate 3 refine gn ?_
         refine JO.gnou rfl rfl rfl rfl rfl rfl ?_
         refine JO.gnou rfl rfl rfl rfl rfl rfl ?_
         refine JO.gnou rfl rfl rfl rfl rfl rfl ?_
         refine JO.gnou rfl rfl rfl rfl rfl rfl ?_
         refine JO.gnou rfl rfl rfl rfl rfl rfl ?_
         iterate 2 refine gn ?_
         refine JO.gnou rfl rfl rfl rfl rfl rfl ?_
         refine JO.gnou rfl rfl rfl rfl rfl rfl ?_
         refine JO.gnou rfl rfl rfl rfl rfl rfl ?_
         refine JO.gnou rfl rfl rfl rfl rfl rfl ?_
         refine JO.gnou rfl rfl rfl rfl rfl rfl ?_
         refine JO.gnou rfl rfl rfl rfl rfl rfl ?_
         refine JO.gnou rfl rfl rfl rfl rfl rfl ?_
         refine JO.gnou rfl rfl rfl rfl rfl rfl ?_
         refine JO.gnou rfl rfl rfl rfl rfl rfl ?_
         refine gn ?_
         refine pf ?_
         refine JO.nil ?_
         refine JN.then_n ?_
         exact JN.z ((), false) h (SE.fin [1, 2, 0] ⟨rfl, rfl, rfl, rfl, rfl, rfl, trivial⟩ rfl)
       ·
        refine JC.cond rfl (fun hb => ?_) (fun hb => ?_)
        ·
         replace h := b_if (v_t hb) h
         refine JC.region ?_
         iterate 3 refine mq ?_
         refine JO.s rfl (o_eql rfl) ⟨rfl, rfl, trivial⟩ ?_
         refine JO.s rfl (o_buildT [(0, .tmp 121, _), (1, .tmp 123, _)] rfl pl41 za41 alb41 (stors ⟨rfl, rfl, trivial⟩) rfl) ⟨rfl, rfl, trivial⟩ ?_
         refine JO.s rfl (o_litB (t := tTask) [(.tmp 124, _)] [(y41.2, decide (y37.2 = (1 : Int)))] rfl rfl sl38 (.cons trivial (.agg (.pair .int .bool)) .nil) rfl rfl) ⟨rfl, trivial⟩ ?_
         obtain ⟨u51, eu51, h⟩ := b_bind h
         refine JO.front 1 rfl ?_
         refine JO.s1x rfl rfl rfl (o_append rfl rfl sl38 (chkP_some eu51)) ⟨rfl, rfl, trivial⟩ fun v52 => ?_
         refine aq ?_
         refine JO.nil ?_
         refine JN.blk_n ?_
         refine JN.then_n ?_
         exact JN.z (v52, y41.1 ++ [(y41.2, decide (y37.2 = (1 : Int)))]) h (SE.fin [1, 0, 2] ⟨rfl, rfl, rfl, rfl, rfl, trivial⟩ rfl)
        ·
         replace h := b_ifn (v_f hb) h
         refine JC.skip ?_
         refine JN.blk_n ?_
         refine JN.then_n ?_
         exact JN.z (z42, y41.1) h (SE.fin [0, 1, 2] ⟨rfl, rfl, rfl, rfl, rfl, trivial⟩ rfl)
      ·
       refine JC.region ?_
       refine mq ?_
       obtain ⟨x53, ex53, h⟩ := b_bind h
       refine JO.s rfl (o_add rfl ex53) ⟨rfl, rfl, trivial⟩ ?_
       refine aq ?_
       refine JO.nil ?_
       refine JN.then_n ?_
       exact JN.z (z44, (x43, x53)) h (SE.fin [0, 1, 2] ⟨rfl, rfl, rfl, rfl, rfl, trivial⟩ rfl)
     ·
      replace h := b_ifn (d_f hb) h
      refine JC.exit ?_
      refine JN.then_x ?_
      refine JN.then_x ?_
      refine JN.blk_hit ?_
      refine JN.blk_n ?_
      refine JN.then_n ?_
      exact JN.z (z42, y41.1) h (SE.fin [1, 2, 0] ⟨rfl, rfl, rfl, rfl, trivial⟩ rfl)
    ·
     refine JC.region ?_
     refine mq ?_
     obtain ⟨x54, ex54, h⟩ := b_bind h
     refine JO.s rfl (o_add rfl ex54) ⟨rfl, rfl, trivial⟩ ?_
     refine aq ?_
     refine JO.nil ?_
     refine JN.then_n ?_
     exact JN.z (z40, (x39, x54)) h (SE.fin [0, 1, 2] ⟨rfl, rfl, rfl, rfl, trivial⟩ rfl)
   ·
    replace h := b_ifn (d_f hb) h
    refine JC.exit ?_
    refine JN.then_x ?_
    refine JN.then_x ?_
    refine JN.blk_hit ?_
    refine JN.then_n ?_
    exact JN.z (z38, y37.1) h (SE.fin [1] ⟨rfl, trivial⟩ rfl)
  ·
   refine sr ?_
   refine mq ?_
   refine aq ?_
   refine nt ?_
   refine JC.ret ?_
   refine JN.se (SE.frz [2, 3, 127] ⟨rfl, rfl, rfl, trivial⟩) ?_
   obtain rfl := Option.some.inj h
   exact JN.ret () [_] 0 ⟨rfl, trivial⟩ rfl


def kit_Lots_next (k : Nat) (a0 : dLots) : Option (Int × dLots) :=
 ((if a0.2.1 < (a0.1.length : Int) then ((geti a0.1 a0.2.1).bind fun x3 =>
 some (IntKind.u64.wrap ((IntKind.u64.wrap ((IntKind.u64.wrap (a0.2.2 * (6364136223846793005 : Int))) + (1442695040888963407 : Int))) + (IntKind.u64.wrap ((IntKind.u64.wrap x3) * (2862933555777941757 : Int)))))) else (some (IntKind.u64.wrap ((IntKind.u64.wrap (a0.2.2 * (6364136223846793005 : Int))) + (1442695040888963407 : Int))))) : Option (Int)).bind fun x1 =>
 (ck (a0.2.1 + (1 : Int))).bind fun x4 =>
 some (ishr .u64 (ixor .u64 (IntKind.u64.wrap ((ixor .u64 x1 (ishr .u64 x1 (29 : Int))) * (2685821657736338717 : Int))) (ishr .u64 (IntKind.u64.wrap ((ixor .u64 x1 (ishr .u64 x1 (29 : Int))) * (2685821657736338717 : Int))) (32 : Int))) (8 : Int), (a0.1, x4, x1))

theorem kit_Lots_next_ok (k : Nat) (a0 : dLots) (b_a0 : Nat) (r : Int × dLots) (h : kit_Lots_next k a0 = some r) :
 Ctr Try.prog 77 [.eq (.pointer (some ⟨b_a0, 0, none⟩))] [.obj b_a0 93 (.agg (.pair (.rep (.slice (.int .i64)) a0.1) (.pair (.eq (.int .i64 a0.2.1)) (.eq (.int .u64 a0.2.2)))))] (fun _ : Unit => (resA [.eq (.int .u64 r.1)], [.obj b_a0 93 (.agg (.pair (.rep (.slice (.int .i64)) r.2.1) (.pair (.eq (.int .i64 r.2.2.1)) (.eq (.int .u64 r.2.2.2)))))])) := by
 unfold kit_Lots_next at h
 replace h := b_top h
 refine Ctr.of 67 Try.func77 rfl Try.ntmps77 rfl fun S w0 => ?_
 refine sr ?_
 refine cq ?_
 refine nt ?_
 refine sr ?_
 iterate 2 refine mq ?_
 refine JO.s rfl (o_nil_obj rfl) ⟨rfl, trivial⟩ ?_
 refine JO.s rfl (o_field_obj rfl fo93_2) ⟨rfl, trivial⟩ ?_
 refine JO.s11 rfl rfl rfl (o_load_obj rfl sz91 (fun _ => rfl) rfl) ⟨rfl, trivial⟩ ?_
 refine JO.s rfl (o_mulk rfl) ⟨rfl, rfl, trivial⟩ ?_
 refine JO.s rfl (o_addk rfl) ⟨rfl, rfl, trivial⟩ ?_
 refine JO.s rfl (o_nil_obj rfl) ⟨rfl, trivial⟩ ?_
 refine JO.s rfl (o_field_obj rfl fo93_2) ⟨rfl, trivial⟩ ?_
 refine JO.n11 rfl rfl (o_store rfl sz91 rfl rfl rfl) ⟨rfl, rfl, trivial⟩ ?_
 refine nt ?_
 refine JC.cutB (Z := Unit) (α := Int) (fun z2 x1 => [(0, .eq (.pointer (some ⟨b_a0, 0, none⟩)))]) (fun z2 x1 => [.obj b_a0 93 (.agg (.pair (.rep (.slice (.int .i64)) a0.1) (.pair (.eq (.int .i64 a0.2.1)) (.eq (.int .u64 x1)))))]) h (fun K h => ?_) (fun z2 x1 h => ?_)
 ·
  refine JC.seq ?_
  refine JC.drawN ?_
  refine dm ?_
  refine DN.s00 rfl rfl rfl (o_nil_obj rfl) ⟨rfl, trivial⟩ ?_
  refine DN.s00 rfl rfl rfl (o_field_obj rfl fo93_1) ⟨rfl, trivial⟩ ?_
  refine DN.s11 0 rfl rfl rfl rfl (o_load_obj rfl sz3 (fun _ => rfl) rfl) ⟨rfl, trivial⟩ ?_
  refine dm ?_
  refine DN.s00 rfl rfl rfl (o_nil_obj rfl) ⟨rfl, trivial⟩ ?_
  refine DN.s00 rfl rfl rfl (o_field_obj rfl fo93_0) ⟨rfl, trivial⟩ ?_
  refine DN.s11 0 rfl rfl rfl rfl (o_load_obj rfl sz22 (fun _ => rfl) rfl) ⟨rfl, trivial⟩ ?_
  refine DN.s00 rfl rfl rfl (o_len rfl rfl Try.underlying22) ⟨rfl, trivial⟩ ?_
  refine DN.fin (by kernel_rfl) mixed ?_
  refine JO.s rfl (o_lss rfl) ⟨rfl, rfl, trivial⟩ ?_
  refine nt ?_
  refine JC.cond rfl (fun hb => ?_) (fun hb => ?_)
  ·
   replace h := b_if (d_t hb) h
   refine JC.drawN ?_
   refine dm ?_
   refine dm ?_
   refine DN.s00 rfl rfl rfl (o_nil_obj rfl) ⟨rfl, trivial⟩ ?_
   refine DN.s00 rfl rfl rfl (o_field_obj rfl fo93_2) ⟨rfl, trivial⟩ ?_
   refine DN.s11 0 rfl rfl rfl rfl (o_load_obj rfl sz91 (fun _ => rfl) rfl) ⟨rfl, trivial⟩ ?_
   refine dm ?_
   refine DN.s00 rfl rfl rfl (o_nil_obj rfl) ⟨rfl, trivial⟩ ?_
   refine DN.s00 rfl rfl rfl (o_field_obj rfl fo93_0) ⟨rfl, trivial⟩ ?_
   refine DN.s11 0 rfl rfl rfl rfl (o_load_obj rfl sz22 (fun _ => rfl) rfl) ⟨rfl, trivial⟩ ?_
   refine dm ?_
   refine DN.s00 rfl rfl rfl (o_nil_obj rfl) ⟨rfl, trivial⟩ ?_
   refine DN.s00 rfl rfl rfl (o_field_obj rfl fo93_1) ⟨rfl, trivial⟩ ?_
   refine DN.s11 0 rfl rfl rfl rfl (o_load_obj rfl sz3 (fun _ => rfl) rfl) ⟨rfl, trivial⟩ ?_
   obtain ⟨x3, ex3, h⟩ := b_bind h
   refine DN.s00 rfl rfl rfl (o_index (t := (.int .i64)) rfl Try.underlying22 sz3 ex3) ⟨rfl, rfl, trivial⟩ ?_
   refine DN.s00 rfl rfl rfl (o_load_at (t := (.int .i64)) rfl sz3 rfl) ⟨rfl, trivial⟩ ?_
   refine DN.s00 rfl rfl rfl (o_conv rfl Try.underlying3 Try.underlying91) ⟨rfl, trivial⟩ ?_
   refine DN.s00 rfl rfl rfl (o_mulk rfl) ⟨rfl, rfl, trivial⟩ ?_
   refine DN.s00 rfl rfl rfl (o_addk rfl) ⟨rfl, rfl, trivial⟩ ?_
   refine DN.fin (by kernel_rfl) mixed ?_
   refine JO.s rfl (o_nil_obj rfl) ⟨rfl, trivial⟩ ?_
   refine JO.s rfl (o_field_obj rfl fo93_2) ⟨rfl, trivial⟩ ?_
   refine JO.n11 rfl rfl (o_store rfl sz91 rfl rfl rfl) ⟨rfl, rfl, trivial⟩ ?_
   refine JO.nil ?_
   refine JN.then_n ?_
   exact JN.z ((), IntKind.u64.wrap ((IntKind.u64.wrap ((IntKind.u64.wrap (a0.2.2 * (6364136223846793005 : Int))) + (1442695040888963407 : Int))) + (IntKind.u64.wrap ((IntKind.u64.wrap x3) * (2862933555777941757 : Int))))) h (SE.fin [0] ⟨rfl, trivial⟩ rfl)
  ·
   replace h := b_ifn (d_f hb) h
   refine JC.skip ?_
   refine JN.then_n ?_
   exact JN.z ((), IntKind.u64.wrap ((IntKind.u64.wrap (a0.2.2 * (6364136223846793005 : Int))) + (1442695040888963407 : Int))) h (SE.fin [0] ⟨rfl, trivial⟩ rfl)
 ·
  refine sr ?_
  refine mq ?_
  refine JO.s rfl (o_nil_obj rfl) ⟨rfl, trivial⟩ ?_
  refine JO.s rfl (o_field_obj rfl fo93_1) ⟨rfl, trivial⟩ ?_
  refine JO.s11 rfl rfl rfl (o_load_obj rfl sz3 (fun _ => rfl) rfl) ⟨rfl, trivial⟩ ?_
  obtain ⟨x4, ex4, h⟩ := b_bind h
  refine JO.s rfl (o_add rfl ex4) ⟨rfl, rfl, trivial⟩ ?_
  refine JO.s rfl (o_nil_obj rfl) ⟨rfl, trivial⟩ ?_
  refine JO.s rfl (o_field_obj rfl fo93_1) ⟨rfl, trivial⟩ ?_
  refine JO.n11 rfl rfl (o_store rfl sz3 rfl rfl rfl) ⟨rfl, rfl, trivial⟩ ?_
  refine nt ?_
  refine JC.seq ?_
  refine JC.drawN ?_
  refine dm ?_
  refine DN.s00 rfl rfl rfl (o_nil_obj rfl) ⟨rfl, trivial⟩ ?_
  refine DN.s00 rfl rfl rfl (o_field_obj rfl fo93_2) ⟨rfl, trivial⟩ ?_
  refine DN.s11 0 rfl rfl rfl rfl (o_load_obj rfl sz91 (fun _ => rfl) rfl) ⟨rfl, trivial⟩ ?_
  refine dm ?_
  refine DN.s00 rfl rfl rfl (o_nil_obj rfl) ⟨rfl, trivial⟩ ?_
  refine DN.s00 rfl rfl rfl (o_field_obj rfl fo93_2) ⟨rfl, trivial⟩ ?_
  refine DN.s11 0 rfl rfl rfl rfl (o_load_obj rfl sz91 (fun _ => rfl) rfl) ⟨rfl, trivial⟩ ?_
  refine DN.s00 rfl rfl rfl (o_shr rfl (by decide)) ⟨rfl, rfl, trivial⟩ ?_
  refine DN.fin (by kernel_rfl) mixed ?_
  refine JO.s rfl (o_xor rfl) ⟨rfl, rfl, trivial⟩ ?_
  refine aq ?_
  refine nt ?_
  refine sr ?_
  refine mq ?_
  refine JO.s rfl (o_mulk rfl) ⟨rfl, rfl, trivial⟩ ?_
  refine aq ?_
  refine nt ?_
  refine sr ?_
  iterate 2 refine mq ?_
  refine JO.s rfl (o_shr rfl (by decide)) ⟨rfl, rfl, trivial⟩ ?_
  refine JO.s rfl (o_xor rfl) ⟨rfl, rfl, trivial⟩ ?_
  refine JO.s rfl (o_shr rfl (by decide)) ⟨rfl, rfl, trivial⟩ ?_
  refine aq ?_
  refine nt ?_
  refine JC.ret ?_
  obtain rfl := Option.some.inj h
  exact JN.ret () [_] 1 ⟨rfl, trivial⟩ rfl


def kit_Lots_Upto (k : Nat) (a0 : dLots) (a1 : Int) : Option (Int × dLots) :=
 if a1 < (1 : Int) then (some ((0 : Int), (a0.1, a0.2.1, a0.2.2))) else ((kit_Lots_next k (a0.1, a0.2.1, a0.2.2)).bind fun r1 =>
 (ck (a1 + (1 : Int))).bind fun x2 =>
 (chkP ((IntKind.u64.wrap x2) ≠ 0)).bind fun _ =>
 (ck (Int.tmod r1.1 (IntKind.u64.wrap x2))).bind fun x4 =>
 some (x4, (r1.2.1, r1.2.2.1, r1.2.2.2)))

theorem kit_Lots_Upto_ok (k : Nat) (a0 : dLots) (b_a0 : Nat) (a1 : Int) (r : Int × dLots) (h : kit_Lots_Upto k a0 a1 = some r) :
 Ctr Try.prog 32 [.eq (.pointer (some ⟨b_a0, 0, none⟩)), .eq (.int .i64 a1)] [.obj b_a0 93 (.agg (.pair (.rep (.slice (.int .i64)) a0.1) (.pair (.eq (.int .i64 a0.2.1)) (.eq (.int .u64 a0.2.2)))))] (fun _ : Unit => (resA [.eq (.int .i64 r.1)], [.obj b_a0 93 (.agg (.pair (.rep (.slice (.int .i64)) r.2.1) (.pair (.eq (.int .i64 r.2.2.1)) (.eq (.int .u64 r.2.2.2)))))])) := by
 unfold kit_Lots_Upto at h
 replace h := b_top h
 refine Ctr.of 14 Try.func32 rfl Try.ntmps32 rfl fun S w0 => ?_
 refine sr ?_
 refine cq ?_
 refine nt ?_
 refine JC.seq ?_
 refine sr ?_
 refine mq ?_
 refine JO.s rfl (o_lss rfl) ⟨rfl, rfl, trivial⟩ ?_
 refine nt ?_
 refine JC.cond rfl (fun hb => ?_) (fun hb => ?_)
 ·
  replace h := b_if (d_t hb) h
  refine sr ?_
  refine cq ?_
  refine nt ?_
  refine JC.ret ?_
  refine JN.then_r ?_
  obtain rfl := Option.some.inj h
  exact JN.ret () [_] 1 ⟨rfl, trivial⟩ rfl
 ·
  replace h := b_ifn (d_f hb) h
  refine JC.skip ?_
  refine JN.then_n ?_
  show JC _ _ _ _ _
  refine sr ?_
  refine mq ?_
  obtain ⟨r1, er1, h⟩ := b_bind h
  have cr1 := kit_Lots_next_ok k (a0.1, a0.2.1, a0.2.2) b_a0 r1 er1
  refine JO.s11 rfl rfl rfl (o_call [.tmp 7] rfl rfl en77 rfl cr1) ⟨rfl, trivial⟩ ?_
  refine mq ?_
  obtain ⟨x2, ex2, h⟩ := b_bind h
  refine JO.s rfl (o_add rfl ex2) ⟨rfl, rfl, trivial⟩ ?_
  refine JO.s rfl (o_conv rfl Try.underlying3 Try.underlying91) ⟨rfl, trivial⟩ ?_
  obtain ⟨u3, eu3, h⟩ := b_bind h
  refine JO.s rfl (o_rem rfl (chkP_some eu3)) ⟨rfl, rfl, trivial⟩ ?_
  obtain ⟨x4, ex4, h⟩ := b_bind h
  refine JO.s rfl (o_conv64 rfl Try.underlying91 Try.underlying3 ex4) ⟨rfl, trivial⟩ ?_
  refine aq ?_
  refine nt ?_
  refine JC.ret ?_
  obtain rfl := Option.some.inj h
  exact JN.ret () [_] 1 ⟨rfl, trivial⟩ rfl


def kit_Lots_In (k : Nat) (a0 : dLots) (a1 : Int) (a2 : Int) : Option (Int × dLots) :=
 (ck (a2 - a1)).bind fun x1 =>
 (kit_Lots_Upto k (a0.1, a0.2.1, a0.2.2) x1).bind fun r2 =>
 (ck (a1 + r2.1)).bind fun x3 =>
 some (x3, (r2.2.1, r2.2.2.1, r2.2.2.2))

theorem kit_Lots_In_ok (k : Nat) (a0 : dLots) (b_a0 : Nat) (a1 : Int) (a2 : Int) (r : Int × dLots) (h : kit_Lots_In k a0 a1 a2 = some r) :
 Ctr Try.prog 60 [.eq (.pointer (some ⟨b_a0, 0, none⟩)), .eq (.int .i64 a1), .eq (.int .i64 a2)] [.obj b_a0 93 (.agg (.pair (.rep (.slice (.int .i64)) a0.1) (.pair (.eq (.int .i64 a0.2.1)) (.eq (.int .u64 a0.2.2)))))] (fun _ : Unit => (resA [.eq (.int .i64 r.1)], [.obj b_a0 93 (.agg (.pair (.rep (.slice (.int .i64)) r.2.1) (.pair (.eq (.int .i64 r.2.2.1)) (.eq (.int .u64 r.2.2.2)))))])) := by
 unfold kit_Lots_In at h
 replace h := b_top h
 refine Ctr.of 14 Try.func60 rfl Try.ntmps60 rfl fun S w0 => ?_
 refine sr ?_
 refine cq ?_
 refine nt ?_
 refine sr ?_
 iterate 4 refine mq ?_
 obtain ⟨x1, ex1, h⟩ := b_bind h
 refine JO.s rfl (o_sub rfl ex1) ⟨rfl, rfl, trivial⟩ ?_
 obtain ⟨r2, er2, h⟩ := b_bind h
 have cr2 := kit_Lots_Upto_ok k (a0.1, a0.2.1, a0.2.2) b_a0 x1 r2 er2
 refine JO.s11 rfl rfl rfl (o_call [.tmp 8, .tmp 11] rfl rfl en32 rfl cr2) ⟨rfl, rfl, trivial⟩ ?_
 obtain ⟨x3, ex3, h⟩ := b_bind h
 refine JO.s rfl (o_add rfl ex3) ⟨rfl, rfl, trivial⟩ ?_
 refine aq ?_
 refine nt ?_
 refine JC.ret ?_
 obtain rfl := Option.some.inj h
 exact JN.ret () [_] 1 ⟨rfl, trivial⟩ rfl


def kit_Lots_Rare (k : Nat) (a0 : dLots) (a1 : Int) : Option (Bool × dLots) :=
 (ck (a1 - (1 : Int))).bind fun x1 =>
 (kit_Lots_Upto k (a0.1, a0.2.1, a0.2.2) x1).bind fun r2 =>
 some (decide (r2.1 = (0 : Int)), (r2.2.1, r2.2.2.1, r2.2.2.2))

theorem kit_Lots_Rare_ok (k : Nat) (a0 : dLots) (b_a0 : Nat) (a1 : Int) (r : Bool × dLots) (h : kit_Lots_Rare k a0 a1 = some r) :
 Ctr Try.prog 61 [.eq (.pointer (some ⟨b_a0, 0, none⟩)), .eq (.int .i64 a1)] [.obj b_a0 93 (.agg (.pair (.rep (.slice (.int .i64)) a0.1) (.pair (.eq (.int .i64 a0.2.1)) (.eq (.int .u64 a0.2.2)))))] (fun _ : Unit => (resA [.eq (.bool r.1)], [.obj b_a0 93 (.agg (.pair (.rep (.slice (.int .i64)) r.2.1) (.pair (.eq (.int .i64 r.2.2.1)) (.eq (.int .u64 r.2.2.2)))))])) := by
 unfold kit_Lots_Rare at h
 replace h := b_top h
 refine Ctr.of 10 Try.func61 rfl Try.ntmps61 rfl fun S w0 => ?_
 refine sr ?_
 refine cq ?_
 refine nt ?_
 refine sr ?_
 iterate 2 refine mq ?_
 obtain ⟨x1, ex1, h⟩ := b_bind h
 refine JO.s rfl (o_sub rfl ex1) ⟨rfl, rfl, trivial⟩ ?_
 obtain ⟨r2, er2, h⟩ := b_bind h
 have cr2 := kit_Lots_Upto_ok k (a0.1, a0.2.1, a0.2.2) b_a0 x1 r2 er2
 refine JO.s11 rfl rfl rfl (o_call [.tmp 5, .tmp 7] rfl rfl en32 rfl cr2) ⟨rfl, rfl, trivial⟩ ?_
 refine JO.s rfl (o_eql rfl) ⟨rfl, rfl, trivial⟩ ?_
 refine aq ?_
 refine nt ?_
 refine JC.ret ?_
 obtain rfl := Option.some.inj h
 exact JN.ret () [_] 1 ⟨rfl, trivial⟩ rfl


def kit_Lots_Of (k : Nat) (a0 : dLots) (a1 : (List Int)) : Option (Int × dLots) :=
 (ck ((a1.length : Int) - (1 : Int))).bind fun x1 =>
 (kit_Lots_Upto k (a0.1, a0.2.1, a0.2.2) x1).bind fun r2 =>
 (geti a1 r2.1).bind fun x3 =>
 some (x3, (r2.2.1, r2.2.2.1, r2.2.2.2))

theorem kit_Lots_Of_ok (k : Nat) (a0 : dLots) (b_a0 : Nat) (a1 : (List Int)) (r : Int × dLots) (h : kit_Lots_Of k a0 a1 = some r) :
 Ctr Try.prog 62 [.eq (.pointer (some ⟨b_a0, 0, none⟩)), .rep (.slice (.int .i64)) a1] [.obj b_a0 93 (.agg (.pair (.rep (.slice (.int .i64)) a0.1) (.pair (.eq (.int .i64 a0.2.1)) (.eq (.int .u64 a0.2.2)))))] (fun _ : Unit => (resA [.eq (.int .i64 r.1)], [.obj b_a0 93 (.agg (.pair (.rep (.slice (.int .i64)) r.2.1) (.pair (.eq (.int .i64 r.2.2.1)) (.eq (.int .u64 r.2.2.2)))))])) := by
 unfold kit_Lots_Of at h
 replace h := b_top h
 refine Ctr.of 13 Try.func62 rfl Try.ntmps62 rfl fun S w0 => ?_
 refine sr ?_
 refine cq ?_
 refine nt ?_
 refine sr ?_
 iterate 3 refine mq ?_
 refine JO.s rfl (o_len rfl rfl Try.underlying22) ⟨rfl, trivial⟩ ?_
 obtain ⟨x1, ex1, h⟩ := b_bind h
 refine JO.s rfl (o_sub rfl ex1) ⟨rfl, rfl, trivial⟩ ?_
 obtain ⟨r2, er2, h⟩ := b_bind h
 have cr2 := kit_Lots_Upto_ok k (a0.1, a0.2.1, a0.2.2) b_a0 x1 r2 er2
 refine JO.s11 rfl rfl rfl (o_call [.tmp 6, .tmp 9] rfl rfl en32 rfl cr2) ⟨rfl, rfl, trivial⟩ ?_
 obtain ⟨x3, ex3, h⟩ := b_bind h
 refine JO.s rfl (o_index (t := (.int .i64)) rfl Try.underlying22 sz3 ex3) ⟨rfl, rfl, trivial⟩ ?_
 refine JO.s rfl (o_load_at (t := (.int .i64)) rfl sz3 rfl) ⟨rfl, trivial⟩ ?_
 refine aq ?_
 refine nt ?_
 refine JC.ret ?_
 obtain rfl := Option.some.inj h
 exact JN.ret () [_] 1 ⟨rfl, trivial⟩ rfl


def kit_ChangeOf_l2 (k : Nat) (r3 : Int × dLots) (r4 : Bool × dLots) (y7 : (List Int) × Int × Int × (List dThing) × (List Int) × (List Int) × Int) : Nat → ((List Int) × Int × Int × (List Int) × Int) → Option ((List Int) × Int × Int × (List Int))
 | 0, _ => none
 | n + 1, y22 =>
  if y22.2.2.2.2 < r3.1 then (((((if (decide (y7.2.2.2.2.2.2 < y22.2.2.2.2)) = r4.1 then (if ¬ (y22.2.2.2.2 = y7.2.2.2.2.2.2) then ((kit_Lots_Rare k (y22.1, y22.2.1, y22.2.2.1) (3 : Int)).bind fun r28 =>
  some (r28.2.1, r28.2.2.1, r28.2.2.2, r28.1)) else (some (y22.1, y22.2.1, y22.2.2.1, false))) else (some (y22.1, y22.2.1, y22.2.2.1, false))) : Option ((List Int) × Int × Int × Bool)).bind fun x26 =>
  if x26.2.2.2 = true then ((chkP (okLen (List.length y22.2.2.2.1 + List.length [y22.2.2.2.2]))).bind fun _ =>
  some (x26.1, x26.2.1, x26.2.2.1, y22.2.2.2.1 ++ [y22.2.2.2.2])) else (some (x26.1, x26.2.1, x26.2.2.1, y22.2.2.2.1))) : Option ((List Int) × Int × Int × (List Int))).bind fun x24 =>
  (ck (y22.2.2.2.2 + (1 : Int))).bind fun x32 =>
  kit_ChangeOf_l2 k r3 r4 y7 n (x24.1, x24.2.1, x24.2.2.1, x24.2.2.2, x32)) else (some (y22.1, y22.2.1, y22.2.2.1, y22.2.2.2.1))

def kit_ChangeOf_l1 (k : Nat) (r3 : Int × dLots) (r4 : Bool × dLots) : Nat → ((List Int) × Int × Int × (List dThing) × (List Int) × (List Int) × Int) → Option ((List Int) × Int × Int × (List dThing) × (List Int) × (List Int))
 | 0, _ => none
 | n + 1, y7 =>
  if y7.2.2.2.2.2.2 < r3.1 then ((((kit_Lots_In k (y7.1, y7.2.1, y7.2.2.1) (1 : Int) (4 : Int)).bind fun r11 =>
  (kit_Lots_Of k (r11.2.1, r11.2.2.1, r11.2.2.2) [(1 : Int), (1 : Int), (2 : Int), r11.1]).bind fun r12 =>
  (kit_Lots_In k (r12.2.1, r12.2.2.1, r12.2.2.2) (1 : Int) (4 : Int)).bind fun r13 =>
  (kit_Lots_Of k (r13.2.1, r13.2.2.1, r13.2.2.2) [(1 : Int), (2 : Int), (2 : Int), r13.1]).bind fun r14 =>
  (kit_Lots_Of k (r14.2.1, r14.2.2.1, r14.2.2.2) [(0 : Int), (0 : Int), (1 : Int), (2 : Int)]).bind fun r15 =>
  (kit_Lots_In k (r15.2.1, r15.2.2.1, r15.2.2.2) (1 : Int) (6 : Int)).bind fun r16 =>
  (kit_Lots_In k (r16.2.1, r16.2.2.1, r16.2.2.2) (3 : Int) (12 : Int)).bind fun r17 =>
  (kit_Lots_Of k (r17.2.1, r17.2.2.1, r17.2.2.2) [(0 : Int), (0 : Int), r16.1, r17.1]).bind fun r18 =>
  ((kit_ChangeOf_l2 k r3 r4 y7 k (r18.2.1, r18.2.2.1, r18.2.2.2, ([] : (List Int)), (0 : Int))) : Option ((List Int) × Int × Int × (List Int))).bind fun x20 =>
  (chkP (okLen (List.length y7.2.2.2.1 + List.length [(x20.2.2.2, r12.1, r14.1, r15.1, r18.1)]))).bind fun _ =>
  (kit_Lots_Upto k (x20.1, x20.2.1, x20.2.2.1) (5 : Int)).bind fun r36 =>
  if r36.1 = (0 : Int) then (some (r36.2.1, r36.2.2.1, r36.2.2.2, y7.2.2.2.1 ++ [(x20.2.2.2, r12.1, r14.1, r15.1, r18.1)], y7.2.2.2.2.1, y7.2.2.2.2.2.1)) else (((if r36.1 = (1 : Int) then (some (decide (r36.1 = (1 : Int)))) else (some (decide (r36.1 = (2 : Int))))) : Option (Bool)).bind fun x37 =>
  if x37 = true then ((chkP (okLen (List.length y7.2.2.2.2.1 + List.length [y7.2.2.2.2.2.2]))).bind fun _ =>
  some (r36.2.1, r36.2.2.1, r36.2.2.2, y7.2.2.2.1 ++ [(x20.2.2.2, r12.1, r14.1, r15.1, r18.1)], y7.2.2.2.2.1 ++ [y7.2.2.2.2.2.2], y7.2.2.2.2.2.1)) else (if r36.1 = (3 : Int) then ((chkP (okLen (List.length y7.2.2.2.2.2.1 + List.length [y7.2.2.2.2.2.2]))).bind fun _ =>
  some (r36.2.1, r36.2.2.1, r36.2.2.2, y7.2.2.2.1 ++ [(x20.2.2.2, r12.1, r14.1, r15.1, r18.1)], y7.2.2.2.2.1, y7.2.2.2.2.2.1 ++ [y7.2.2.2.2.2.2])) else ((chkP (okLen (List.length y7.2.2.2.2.1 + List.length [y7.2.2.2.2.2.2]))).bind fun _ =>
  (chkP (okLen (List.length y7.2.2.2.2.2.1 + List.length [y7.2.2.2.2.2.2]))).bind fun _ =>
  some (r36.2.1, r36.2.2.1, r36.2.2.2, y7.2.2.2.1 ++ [(x20.2.2.2, r12.1, r14.1, r15.1, r18.1)], y7.2.2.2.2.1 ++ [y7.2.2.2.2.2.2], y7.2.2.2.2.2.1 ++ [y7.2.2.2.2.2.2]))))) : Option ((List Int) × Int × Int × (List dThing) × (List Int) × (List Int))).bind fun x9 =>
  (ck (y7.2.2.2.2.2.2 + (1 : Int))).bind fun x51 =>
  kit_ChangeOf_l1 k r3 r4 n (x9.1, x9.2.1, x9.2.2.1, x9.2.2.2.1, x9.2.2.2.2.1, x9.2.2.2.2.2, x51)) else (some (y7.1, y7.2.1, y7.2.2.1, y7.2.2.2.1, y7.2.2.2.2.1, y7.2.2.2.2.2.1))

def kit_ChangeOf_l4 (k : Nat) (r3 : Int × dLots) : Nat → ((List Int) × Int × Int × (List Int) × Int) → Option ((List Int) × Int × Int × (List Int))
 | 0, _ => none
 | n + 1, y65 =>
  if y65.2.2.2.2 < r3.1 then ((((kit_Lots_Rare k (y65.1, y65.2.1, y65.2.2.1) (4 : Int)).bind fun r69 =>
  if ¬ (r69.1 = true) then ((chkP (okLen (List.length y65.2.2.2.1 + List.length [y65.2.2.2.2]))).bind fun _ =>
  some (r69.2.1, r69.2.2.1, r69.2.2.2, y65.2.2.2.1 ++ [y65.2.2.2.2])) else (some (r69.2.1, r69.2.2.1, r69.2.2.2, y65.2.2.2.1))) : Option ((List Int) × Int × Int × (List Int))).bind fun x67 =>
  (ck (y65.2.2.2.2 + (1 : Int))).bind fun x73 =>
  kit_ChangeOf_l4 k r3 n (x67.1, x67.2.1, x67.2.2.1, x67.2.2.2, x73)) else (some (y65.1, y65.2.1, y65.2.2.1, y65.2.2.2.1))

def kit_ChangeOf_l3 (k : Nat) (r3 : Int × dLots) : Nat → ((List Int) × Int × Int × (List dDresser) × Int) → Option ((List Int) × Int × Int × (List dDresser))
 | 0, _ => none
 | n + 1, y55 =>
  if (0 : Int) < y55.2.2.2.2 then ((((kit_Lots_Of k (y55.1, y55.2.1, y55.2.2.1) [(0 : Int), (0 : Int), (1 : Int), (2 : Int)]).bind fun r59 =>
  (kit_Lots_Upto k (r59.2.1, r59.2.2.1, r59.2.2.2) (4 : Int)).bind fun r60 =>
  (kit_Lots_Of k (r60.2.1, r60.2.2.1, r60.2.2.2) [(0 : Int), (0 : Int), (1 : Int), r60.1]).bind fun r61 =>
  ((kit_ChangeOf_l4 k r3 k (r61.2.1, r61.2.2.1, r61.2.2.2, ([] : (List Int)), (0 : Int))) : Option ((List Int) × Int × Int × (List Int))).bind fun x63 =>
  (chkP (okLen (List.length y55.2.2.2.1 + List.length [(x63.2.2.2, r59.1, r61.1)]))).bind fun _ =>
  some (x63.1, x63.2.1, x63.2.2.1, y55.2.2.2.1 ++ [(x63.2.2.2, r59.1, r61.1)])) : Option ((List Int) × Int × Int × (List dDresser))).bind fun x57 =>
  (ck (y55.2.2.2.2 - (1 : Int))).bind fun x77 =>
  kit_ChangeOf_l3 k r3 n (x57.1, x57.2.1, x57.2.2.1, x57.2.2.2, x77)) else (some (y55.1, y55.2.1, y55.2.2.1, y55.2.2.2.1))

def kit_ChangeOf_l5 (k : Nat) : Nat → ((List Int) × Int × Int × (List dThing) × (List dDresser) × (List Int) × (List Int)) → Option ((List dThing) × (List dDresser) × (List Int) × (List Int) × (List Int) × Int × Int)
 | 0, _ => none
 | n + 1, y80 =>
  (kit_TasksOf k (y80.2.2.2.1, y80.2.2.2.2.1, y80.2.2.2.2.2.1, y80.2.2.2.2.2.2)).bind fun r82 =>
  if (4 : Int) < (r82.length : Int) then (((if (0 : Int) < (y80.2.2.2.2.2.2.length : Int) then ((kit_Lots_Rare k (y80.1, y80.2.1, y80.2.2.1) (2 : Int)).bind fun r85 =>
  some (r85.2.1, r85.2.2.1, r85.2.2.2, r85.1)) else (some (y80.1, y80.2.1, y80.2.2.1, false))) : Option ((List Int) × Int × Int × Bool)).bind fun x83 =>
  if x83.2.2.2 = true then ((ck ((y80.2.2.2.2.2.2.length : Int) - (1 : Int))).bind fun x86 =>
  (chkP (0 ≤ x86 ∧ x86 ≤ (y80.2.2.2.2.2.2.length : Int))).bind fun _ =>
  kit_ChangeOf_l5 k n (x83.1, x83.2.1, x83.2.2.1, y80.2.2.2.1, y80.2.2.2.2.1, y80.2.2.2.2.2.1, List.take (Int.toNat x86) y80.2.2.2.2.2.2)) else (if (0 : Int) < (y80.2.2.2.2.2.1.length : Int) then ((ck ((y80.2.2.2.2.2.1.length : Int) - (1 : Int))).bind fun x88 =>
  (chkP (0 ≤ x88 ∧ x88 ≤ (y80.2.2.2.2.2.1.length : Int))).bind fun _ =>
  kit_ChangeOf_l5 k n (x83.1, x83.2.1, x83.2.2.1, y80.2.2.2.1, y80.2.2.2.2.1, List.take (Int.toNat x88) y80.2.2.2.2.2.1, y80.2.2.2.2.2.2)) else (kit_ChangeOf_l5 k n (x83.1, x83.2.1, x83.2.2.1, y80.2.2.2.1, y80.2.2.2.2.1, y80.2.2.2.2.2.1, [])))) else (some (y80.2.2.2.1, y80.2.2.2.2.1, y80.2.2.2.2.2.1, y80.2.2.2.2.2.2, y80.1, y80.2.1, y80.2.2.1))
def kit_ChangeOf (k : Nat) (a0 : dLots) : Option (dChange × dLots) :=
 (kit_Lots_In k (a0.1, a0.2.1, a0.2.2) (1 : Int) (4 : Int)).bind fun r3 =>
 (kit_Lots_Rare k (r3.2.1, r3.2.2.1, r3.2.2.2) (2 : Int)).bind fun r4 =>
 ((kit_ChangeOf_l1 k r3 r4 k (r4.2.1, r4.2.2.1, r4.2.2.2, ([] : (List dThing)), ([] : (List Int)), ([] : (List Int)), (0 : Int))) : Option ((List Int) × Int × Int × (List dThing) × (List Int) × (List Int))).bind fun x5 =>
 (((kit_Lots_In k (x5.1, x5.2.1, x5.2.2.1) (1 : Int) (3 : Int)).bind fun r54 =>
 kit_ChangeOf_l3 k r3 k (r54.2.1, r54.2.2.1, r54.2.2.2, ([] : (List dDresser)), r54.1)) : Option ((List Int) × Int × Int × (List dDresser))).bind fun x52 =>
 ((kit_ChangeOf_l5 k k (x52.1, x52.2.1, x52.2.2.1, x5.2.2.2.1, x52.2.2.2, x5.2.2.2.2.1, x5.2.2.2.2.2)) : Option ((List dThing) × (List dDresser) × (List Int) × (List Int) × (List Int) × Int × Int)).bind fun x78 =>
 some ((x78.1, x78.2.1, x78.2.2.1, x78.2.2.2.1), (x78.2.2.2.2.1, x78.2.2.2.2.2.1, x78.2.2.2.2.2.2))

theorem kit_ChangeOf_ok (k : Nat) (a0 : dLots) (b_a0 : Nat) (r : dChange × dLots) (h : kit_ChangeOf k a0 = some r) :
 Ctr Try.prog 18 [.eq (.pointer (some ⟨b_a0, 0, none⟩))] [.obj b_a0 93 (.agg (.pair (.rep (.slice (.int .i64)) a0.1) (.pair (.eq (.int .i64 a0.2.1)) (.eq (.int .u64 a0.2.2)))))] (fun _ : Unit => (resA [.rep tChange r.1], [.obj b_a0 93 (.agg (.pair (.rep (.slice (.int .i64)) r.2.1) (.pair (.eq (.int .i64 r.2.2.1)) (.eq (.int .u64 r.2.2.2)))))])) := by
 unfold kit_ChangeOf at h
 replace h := b_top h
 refine Ctr.of 175 Try.func18 rfl Try.ntmps18 rfl fun S w0 => ?_
 refine sr ?_
 refine JO.s01 rfl rfl rfl (o_alloc rfl za28 al28) trivial fun b1 => ?_
 refine nt ?_
 refine sr ?_
 refine JO.s01 rfl rfl rfl (o_alloc rfl za28 al28) trivial fun b2 => ?_
 refine nt ?_
 refine sr ?_
 refine mq ?_
 obtain ⟨r3, er3, h⟩ := b_bind h
 have cr3 := kit_Lots_In_ok k (a0.1, a0.2.1, a0.2.2) b_a0 (1 : Int) (4 : Int) r3 er3
 refine JO.front 2 rfl ?_
 refine JO.s11 rfl rfl rfl (o_call [.tmp 12, .const (.int .i64 (1)), .const (.int .i64 (4))] rfl rfl en60 rfl cr3) ⟨rfl, rfl, rfl, trivial⟩ ?_
 refine aq ?_
 refine nt ?_
 refine sr ?_
 refine mq ?_
 obtain ⟨r4, er4, h⟩ := b_bind h
 have cr4 := kit_Lots_Rare_ok k (r3.2.1, r3.2.2.1, r3.2.2.2) b_a0 (2 : Int) r4 er4
 refine JO.s11 rfl rfl rfl (o_call [.tmp 14, .const (.int .i64 (2))] rfl rfl en61 rfl cr4) ⟨rfl, rfl, trivial⟩ ?_
 refine aq ?_
 refine nt ?_
 refine JC.cutB (Z := Value × Value × Value) (α := (List Int) × Int × Int × (List dThing) × (List Int) × (List Int)) (fun z6 x5 => [(0, .eq (.pointer (some ⟨b_a0, 0, none⟩))), (2, .eq (.pointer (some ⟨b1, 0, none⟩))), (3, .eq (.pointer (some ⟨b2, 0, none⟩))), (4, .eq (.int .i64 r3.1))]) (fun z6 x5 => [.obj b_a0 93 (.agg (.pair (.rep (.slice (.int .i64)) x5.1) (.pair (.eq (.int .i64 x5.2.1)) (.eq (.int .u64 x5.2.2.1))))), .obj b1 28 (.agg (.pair (.eq (.slice none 0 0)) (.pair (.eq (.slice none 0 0)) (.pair (.eq (.slice none 0 0)) (.eq (.slice none 0 0)))))), .obj b2 28 (.agg (.pair (.eq z6.1) (.pair (.eq (.slice none 0 0)) (.pair (.eq z6.2.1) (.eq z6.2.2))))), .sl z6.1 45 tThing x5.2.2.2.1, .sl z6.2.1 3 (.int .i64) x5.2.2.2.2.1, .sl z6.2.2 3 (.int .i64) x5.2.2.2.2.2]) h (fun K h => ?_) (fun z6 x5 h => ?_)
 ·
  refine sr ?_
  refine cq ?_
  refine nt ?_
  refine JC.block ?_
  refine JC.se (SE.nil 45 tThing) ?_
  refine JC.se (SE.nil 3 (.int .i64)) ?_
  refine JC.se (SE.nil 3 (.int .i64)) ?_
  refine JC.loopB (Z := Value × Value × Value) (α := (List Int) × Int × Int × (List dThing) × (List Int) × (List Int) × Int) (fun z8 y7 => [(0, .eq (.pointer (some ⟨b_a0, 0, none⟩))), (2, .eq (.pointer (some ⟨b1, 0, none⟩))), (3, .eq (.pointer (some ⟨b2, 0, none⟩))), (4, .eq (.int .i64 r3.1)), (5, .eq (.bool r4.1)), (6, .eq (.int .i64 y7.2.2.2.2.2.2))]) (fun z8 y7 => [.obj b_a0 93 (.agg (.pair (.rep (.slice (.int .i64)) y7.1) (.pair (.eq (.int .i64 y7.2.1)) (.eq (.int .u64 y7.2.2.1))))), .obj b1 28 (.agg (.pair (.eq (.slice none 0 0)) (.pair (.eq (.slice none 0 0)) (.pair (.eq (.slice none 0 0)) (.eq (.slice none 0 0)))))), .obj b2 28 (.agg (.pair (.eq z8.1) (.pair (.eq (.slice none 0 0)) (.pair (.eq z8.2.1) (.eq z8.2.2))))), .sl z8.1 45 tThing y7.2.2.2.1, .sl z8.2.1 3 (.int .i64) y7.2.2.2.2.1, .sl z8.2.2 3 (.int .i64) y7.2.2.2.2.2.1]) (kit_ChangeOf_l1 k r3 r4) k ((.slice none 0 0), (.slice none 0 0), (.slice none 0 0)) (r4.2.1, r4.2.2.1, r4.2.2.2, ([] : (List dThing)), ([] : (List Int)), ([] : (List Int)), (0 : Int)) (fun _ => rfl) h (SE.fin [3, 5, 4, 2, 1, 0] ⟨rfl, rfl, rfl, rfl, rfl, rfl, trivial⟩ rfl) (fun n z8 y7 h => ?_)
  unfold kit_ChangeOf_l1 at h
  refine JC.seq ?_
  refine sr ?_
  iterate 2 refine mq ?_
  refine JO.s rfl (o_lss rfl) ⟨rfl, rfl, trivial⟩ ?_
  refine nt ?_
  refine JC.cond rfl (fun hb => ?_) (fun hb => ?_)
  ·
   replace h := b_if (d_t hb) h
   refine JC.skip ?_
   refine JN.then_n ?_
   show JC _ _ _ _ _
   refine JC.cutB (Z := Value × Value × Value) (α := (List Int) × Int × Int × (List dThing) × (List Int) × (List Int)) (fun z10 x9 => [(0, .eq (.pointer (some ⟨b_a0, 0, none⟩))), (2, .eq (.pointer (some ⟨b1, 0, none⟩))), (3, .eq (.pointer (some ⟨b2, 0, none⟩))), (4, .eq (.int .i64 r3.1)), (5, .eq (.bool r4.1)), (6, .eq (.int .i64 y7.2.2.2.2.2.2))]) (fun z10 x9 => [.obj b_a0 93 (.agg (.pair (.rep (.slice (.int .i64)) x9.1) (.pair (.eq (.int .i64 x9.2.1)) (.eq (.int .u64 x9.2.2.1))))), .obj b1 28 (.agg (.pair (.eq (.slice none 0 0)) (.pair (.eq (.slice none 0 0)) (.pair (.eq (.slice none 0 0)) (.eq (.slice none 0 0)))))), .obj b2 28 (.agg (.pair (.eq z10.1) (.pair (.eq (.slice none 0 0)) (.pair (.eq z10.2.1) (.eq z10.2.2))))), .sl z10.1 45 tThing x9.2.2.2.1, .sl z10.2.1 3 (.int .i64) x9.2.2.2.2.1, .sl z10.2.2 3 (.int .i64) x9.2.2.2.2.2]) h (fun K h => ?_) (fun z10 x9 h => ?_)
   ·
    refine JC.block ?_
    refine sr ?_
    iterate 2 refine mq ?_
    obtain ⟨r11, er11, h⟩ := b_bind h
    have cr11 := kit_Lots_In_ok k (y7.1, y7.2.1, y7.2.2.1) b_a0 (1 : Int) (4 : Int) r11 er11
    refine JO.s11 rfl rfl rfl (o_call [.tmp 22, .const (.int .i64 (1)), .const (.int .i64 (4))] rfl rfl en60 rfl cr11) ⟨rfl, rfl, rfl, trivial⟩ ?_
    refine JO.s rfl (o_litB (t := (.int .i64)) [(.const (.int .i64 (1)), _), (.const (.int .i64 (1)), _), (.const (.int .i64 (2)), _), (.tmp 23, _)] [(1 : Int), (1 : Int), (2 : Int), r11.1] rfl rfl sl22 (.cons rfl .int (.cons rfl .int (.cons rfl .int (.cons rfl .int .nil)))) rfl rfl) ⟨rfl, rfl, rfl, rfl, trivial⟩ ?_
    obtain ⟨r12, er12, h⟩ := b_bind h
    have cr12 := kit_Lots_Of_ok k (r11.2.1, r11.2.2.1, r11.2.2.2) b_a0 [(1 : Int), (1 : Int), (2 : Int), r11.1] r12 er12
    refine JO.s11 rfl rfl rfl (o_call [.tmp 21, .tmp 24] rfl rfl en62 rfl cr12) ⟨rfl, rfl, trivial⟩ ?_
    iterate 2 refine mq ?_
    obtain ⟨r13, er13, h⟩ := b_bind h
    have cr13 := kit_Lots_In_ok k (r12.2.1, r12.2.2.1, r12.2.2.2) b_a0 (1 : Int) (4 : Int) r13 er13
    refine JO.s11 rfl rfl rfl (o_call [.tmp 27, .const (.int .i64 (1)), .const (.int .i64 (4))] rfl rfl en60 rfl cr13) ⟨rfl, rfl, rfl, trivial⟩ ?_
    refine JO.s rfl (o_litB (t := (.int .i64)) [(.const (.int .i64 (1)), _), (.const (.int .i64 (2)), _), (.const (.int .i64 (2)), _), (.tmp 28, _)] [(1 : Int), (2 : Int), (2 : Int), r13.1] rfl rfl sl22 (.cons rfl .int (.cons rfl .int (.cons rfl .int (.cons rfl .int .nil)))) rfl rfl) ⟨rfl, rfl, rfl, rfl, trivial⟩ ?_
    obtain ⟨r14, er14, h⟩ := b_bind h
    have cr14 := kit_Lots_Of_ok k (r13.2.1, r13.2.2.1, r13.2.2.2) b_a0 [(1 : Int), (2 : Int), (2 : Int), r13.1] r14 er14
    refine JO.s11 rfl rfl rfl (o_call [.tmp 26, .tmp 29] rfl rfl en62 rfl cr14) ⟨rfl, rfl, trivial⟩ ?_
    refine mq ?_
    refine JO.s rfl (o_litB (t := (.int .i64)) [(.const (.int .i64 (0)), _), (.const (.int .i64 (0)), _), (.const (.int .i64 (1)), _), (.const (.int .i64 (2)), _)] [(0 : Int), (0 : Int), (1 : Int), (2 : Int)] rfl rfl sl22 (.cons rfl .int (.cons rfl .int (.cons rfl .int (.cons rfl .int .nil)))) rfl rfl) ⟨rfl, rfl, rfl, rfl, trivial⟩ ?_
    obtain ⟨r15, er15, h⟩ := b_bind h
    have cr15 := kit_Lots_Of_ok k (r14.2.1, r14.2.2.1, r14.2.2.2) b_a0 [(0 : Int), (0 : Int), (1 : Int), (2 : Int)] r15 er15
    refine JO.s11 rfl rfl rfl (o_call [.tmp 31, .tmp 32] rfl rfl en62 rfl cr15) ⟨rfl, rfl, trivial⟩ ?_
    iterate 2 refine mq ?_
    obtain ⟨r16, er16, h⟩ := b_bind h
    have cr16 := kit_Lots_In_ok k (r15.2.1, r15.2.2.1, r15.2.2.2) b_a0 (1 : Int) (6 : Int) r16 er16
    refine JO.s11 rfl rfl rfl (o_call [.tmp 35, .const (.int .i64 (1)), .const (.int .i64 (6))] rfl rfl en60 rfl cr16) ⟨rfl, rfl, rfl, trivial⟩ ?_
    refine mq ?_
    obtain ⟨r17, er17, h⟩ := b_bind h
    have cr17 := kit_Lots_In_ok k (r16.2.1, r16.2.2.1, r16.2.2.2) b_a0 (3 : Int) (12 : Int) r17 er17
    refine JO.s11 rfl rfl rfl (o_call [.tmp 37, .const (.int .i64 (3)), .const (.int .i64 (12))] rfl rfl en60 rfl cr17) ⟨rfl, rfl, rfl, trivial⟩ ?_
    refine JO.s rfl (o_litB (t := (.int .i64)) [(.const (.int .i64 (0)), _), (.const (.int .i64 (0)), _), (.tmp 36, _), (.tmp 38, _)] [(0 : Int), (0 : Int), r16.1, r17.1] rfl rfl sl22 (.cons rfl .int (.cons rfl .int (.cons rfl .int (.cons rfl .int .nil)))) rfl rfl) ⟨rfl, rfl, rfl, rfl, trivial⟩ ?_
    obtain ⟨r18, er18, h⟩ := b_bind h
    have cr18 := kit_Lots_Of_ok k (r17.2.1, r17.2.2.1, r17.2.2.2) b_a0 [(0 : Int), (0 : Int), r16.1, r17.1] r18 er18
    refine JO.s11 rfl rfl rfl (o_call [.tmp 34, .tmp 39] rfl rfl en62 rfl cr18) ⟨rfl, rfl, trivial⟩ ?_
    refine JO.s rfl (o_buildT [(1, .tmp 25, _), (2, .tmp 30, _), (3, .tmp 33, _), (4, .tmp 40, _)] rfl pl45 za45 alb45 (stors ⟨rfl, rfl, rfl, rfl, trivial⟩) rfl) ⟨rfl, rfl, rfl, rfl, trivial⟩ ?_
    refine JO.s01 rfl rfl rfl (o_alloc rfl za45 al45) trivial fun b19 => ?_
    refine JO.n11 rfl rfl (o_store rfl sz45 trivial rfl rfl) ⟨rfl, rfl, trivial⟩ ?_
    refine nt ?_
    refine JC.cutB (Z := Value) (α := (List Int) × Int × Int × (List Int)) (fun z21 x20 => [(0, .eq (.pointer (some ⟨b_a0, 0, none⟩))), (2, .eq (.pointer (some ⟨b1, 0, none⟩))), (3, .eq (.pointer (some ⟨b2, 0, none⟩))), (4, .eq (.int .i64 r3.1)), (5, .eq (.bool r4.1)), (6, .eq (.int .i64 y7.2.2.2.2.2.2)), (7, .eq (.pointer (some ⟨b19, 0, none⟩)))]) (fun z21 x20 => [.obj b_a0 93 (.agg (.pair (.rep (.slice (.int .i64)) x20.1) (.pair (.eq (.int .i64 x20.2.1)) (.eq (.int .u64 x20.2.2.1))))), .obj b1 28 (.agg (.pair (.eq (.slice none 0 0)) (.pair (.eq (.slice none 0 0)) (.pair (.eq (.slice none 0 0)) (.eq (.slice none 0 0)))))), .obj b2 28 (.agg (.pair (.eq z8.1) (.pair (.eq (.slice none 0 0)) (.pair (.eq z8.2.1) (.eq z8.2.2))))), .sl z8.1 45 tThing y7.2.2.2.1, .sl z8.2.1 3 (.int .i64) y7.2.2.2.2.1, .sl z8.2.2 3 (.int .i64) y7.2.2.2.2.2.1, .obj b19 45 (.agg (.pair (.eq z21) (.pair (.eq (.int .i64 r12.1)) (.pair (.eq (.int .i64 r14.1)) (.pair (.eq (.int .i64 r15.1)) (.eq (.int .i64 r18.1))))))), .sl z21 3 (.int .i64) x20.2.2.2]) h (fun K h => ?_) (fun z21 x20 h => ?_)
    ·
     refine sr ?_
     refine cq ?_
     refine nt ?_
     refine JC.block ?_
     refine JC.se (SE.nil 3 (.int .i64)) ?_
     refine JC.loopB (Z := Value) (α := (List Int) × Int × Int × (List Int) × Int) (fun z23 y22 => [(0, .eq (.pointer (some ⟨b_a0, 0, none⟩))), (2, .eq (.pointer (some ⟨b1, 0, none⟩))), (3, .eq (.pointer (some ⟨b2, 0, none⟩))), (4, .eq (.int .i64 r3.1)), (5, .eq (.bool r4.1)), (6, .eq (.int .i64 y7.2.2.2.2.2.2)), (7, .eq (.pointer (some ⟨b19, 0, none⟩))), (8, .eq (.int .i64 y22.2.2.2.2))]) (fun z23 y22 => [.obj b_a0 93 (.agg (.pair (.rep (.slice (.int .i64)) y22.1) (.pair (.eq (.int .i64 y22.2.1)) (.eq (.int .u64 y22.2.2.1))))), .obj b1 28 (.agg (.pair (.eq (.slice none 0 0)) (.pair (.eq (.slice none 0 0)) (.pair (.eq (.slice none 0 0)) (.eq (.slice none 0 0)))))), .obj b2 28 (.agg (.pair (.eq z8.1) (.pair (.eq (.slice none 0 0)) (.pair (.eq z8.2.1) (.eq z8.2.2))))), .sl z8.1 45 tThing y7.2.2.2.1, .sl z8.2.1 3 (.int .i64) y7.2.2.2.2.1, .sl z8.2.2 3 (.int .i64) y7.2.2.2.2.2.1, .obj b19 45 (.agg (.pair (.eq z23) (.pair (.eq (.int .i64 r12.1)) (.pair (.eq (.int .i64 r14.1)) (.pair (.eq (.int .i64 r15.1)) (.eq (.int .i64 r18.1))))))), .sl z23 3 (.int .i64) y22.2.2.2.1]) (kit_ChangeOf_l2 k r3 r4 y7) k (.slice none 0 0) (r18.2.1, r18.2.2.1, r18.2.2.2, ([] : (List Int)), (0 : Int)) (fun _ => rfl) h (SE.fin [2, 3, 4, 5, 6, 7, 1, 0] ⟨rfl, rfl, rfl, rfl, rfl, rfl, rfl, rfl, trivial⟩ rfl) (fun n z23 y22 h => ?_)
     unfold kit_ChangeOf_l2 at h
     refine JC.seq ?_
     refine sr ?_
     iterate 2 refine mq ?_
     refine JO.s rfl (o_lss rfl) ⟨rfl, rfl, trivial⟩ ?_
     refine nt ?_
     refine JC.cond rfl (fun hb => ?_) (fun hb => ?_)
     ·
      replace h := b_if (d_t hb) h
      refine JC.skip ?_
      refine JN.then_n ?_
      show JC _ _ _ _ _
      refine JC.cutB (Z := Value) (α := (List Int) × Int × Int × (List Int)) (fun z25 x24 => [(0, .eq (.pointer (some ⟨b_a0, 0, none⟩))), (2, .eq (.pointer (some ⟨b1, 0, none⟩))), (3, .eq (.pointer (some ⟨b2, 0, none⟩))), (4, .eq (.int .i64 r3.1)), (5, .eq (.bool r4.1)), (6, .eq (.int .i64 y7.2.2.2.2.2.2)), (7, .eq (.pointer (some ⟨b19, 0, none⟩))), (8, .eq (.int .i64 y22.2.2.2.2))]) (fun z25 x24 => [.obj b_a0 93 (.agg (.pair (.rep (.slice (.int .i64)) x24.1) (.pair (.eq (.int .i64 x24.2.1)) (.eq (.int .u64 x24.2.2.1))))), .obj b1 28 (.agg (.pair (.eq (.slice none 0 0)) (.pair (.eq (.slice none 0 0)) (.pair (.eq (.slice none 0 0)) (.eq (.slice none 0 0)))))), .obj b2 28 (.agg (.pair (.eq z8.1) (.pair (.eq (.slice none 0 0)) (.pair (.eq z8.2.1) (.eq z8.2.2))))), .sl z8.1 45 tThing y7.2.2.2.1, .sl z8.2.1 3 (.int .i64) y7.2.2.2.2.1, .sl z8.2.2 3 (.int .i64) y7.2.2.2.2.2.1, .obj b19 45 (.agg (.pair (.eq z25) (.pair (.eq (.int .i64 r12.1)) (.pair (.eq (.int .i64 r14.1)) (.pair (.eq (.int .i64 r15.1)) (.eq (.int .i64 r18.1))))))), .sl z25 3 (.int .i64) x24.2.2.2]) h (fun K h => ?_) (fun z25 x24 h => ?_)
      ·
       refine JC.block ?_
       refine JC.cutB (Z := Unit) (α := (List Int) × Int × Int × Bool) (fun z27 x26 => [(0, .eq (.pointer (some ⟨b_a0, 0, none⟩))), (2, .eq (.pointer (some ⟨b1, 0, none⟩))), (3, .eq (.pointer (some ⟨b2, 0, none⟩))), (4, .eq (.int .i64 r3.1)), (5, .eq (.bool r4.1)), (6, .eq (.int .i64 y7.2.2.2.2.2.2)), (7, .eq (.pointer (some ⟨b19, 0, none⟩))), (8, .eq (.int .i64 y22.2.2.2.2)), (60, .eq (.bool x26.2.2.2))]) (fun z27 x26 => [.obj b_a0 93 (.agg (.pair (.rep (.slice (.int .i64)) x26.1) (.pair (.eq (.int .i64 x26.2.1)) (.eq (.int .u64 x26.2.2.1))))), .obj b1 28 (.agg (.pair (.eq (.slice none 0 0)) (.pair (.eq (.slice none 0 0)) (.pair (.eq (.slice none 0 0)) (.eq (.slice none 0 0)))))), .obj b2 28 (.agg (.pair (.eq z8.1) (.pair (.eq (.slice none 0 0)) (.pair (.eq z8.2.1) (.eq z8.2.2))))), .sl z8.1 45 tThing y7.2.2.2.1, .sl z8.2.1 3 (.int .i64) y7.2.2.2.2.1, .sl z8.2.2 3 (.int .i64) y7.2.2.2.2.2.1, .obj b19 45 (.agg (.pair (.eq z23) (.pair (.eq (.int .i64 r12.1)) (.pair (.eq (.int .i64 r14.1)) (.pair (.eq (.int .i64 r15.1)) (.eq (.int .i64 r18.1))))))), .sl z23 3 (.int .i64) y22.2.2.2.1]) h (fun K h => ?_) (fun z27 x26 h => ?_)
       ·
        refine JC.region ?_
        iterate 2 refine mq ?_
        refine JO.s rfl (o_gtr rfl) ⟨rfl, rfl, trivial⟩ ?_
        refine mq ?_
        refine JO.s rfl (o_eqlb rfl Try.underlying4) ⟨rfl, rfl, trivial⟩ ?_
        refine mq ?_
        refine JO.bool (s := 52) rfl (fun hb => ?_) (fun hb => ?_)
        ·
         replace h := b_if (d_t hb) h
         refine gm ?_
         refine gm ?_
         refine JO.g00 rfl rfl rfl rfl rfl rfl (o_neq rfl) ⟨rfl, rfl, trivial⟩ ?_
         refine pt ?_
         refine mq ?_
         refine JO.bool (s := 57) rfl (fun hb => ?_) (fun hb => ?_)
         ·
          replace h := b_if (n_t hb) h
          refine gm ?_
          obtain ⟨r28, er28, h⟩ := b_bind h
          have cr28 := kit_Lots_Rare_ok k (y22.1, y22.2.1, y22.2.2.1) b_a0 (3 : Int) r28 er28
          refine JO.g11 rfl rfl rfl rfl rfl rfl (o_call [.tmp 58, .const (.int .i64 (3))] rfl rfl en61 rfl cr28) ⟨rfl, rfl, trivial⟩ ?_
          refine pt ?_
          refine JO.nil ?_
          refine JN.then_n ?_
          exact JN.z ((), (r28.2.1, r28.2.2.1, r28.2.2.2, r28.1)) h (SE.fin [0, 1, 2, 3, 4, 5, 6, 7] ⟨rfl, rfl, rfl, rfl, rfl, rfl, rfl, rfl, rfl, trivial⟩ rfl)
         ·
          replace h := b_ifn (n_fn hb) h
          iterate 2 refine gn ?_
          refine pf ?_
          refine JO.nil ?_
          refine JN.then_n ?_
          exact JN.z ((), (y22.1, y22.2.1, y22.2.2.1, false)) h (SE.fin [0, 1, 2, 3, 4, 5, 6, 7] ⟨rfl, rfl, rfl, rfl, rfl, rfl, rfl, rfl, rfl, trivial⟩ rfl)
        ·
         replace h := b_ifn (d_f hb) h
         iterate 3 refine gn ?_
         refine pf ?_
         refine mq ?_
         iterate 2 refine gn ?_
         refine pf ?_
         refine JO.nil ?_
         refine JN.then_n ?_
         exact JN.z ((), (y22.1, y22.2.1, y22.2.2.1, false)) h (SE.fin [0, 1, 2, 3, 4, 5, 6, 7] ⟨rfl, rfl, rfl, rfl, rfl, rfl, rfl, rfl, rfl, trivial⟩ rfl)
       ·
        refine JC.cond rfl (fun hb => ?_) (fun hb => ?_)
        ·
         replace h := b_if (v_t hb) h
         refine JC.region ?_
         refine JO.s rfl (o_field_obj rfl fo45_0) ⟨rfl, trivial⟩ ?_
         refine JO.front 6 rfl ?_
         refine JO.s11 rfl rfl rfl (o_load_obj rfl sz22 (fun _ => rfl) rfl) ⟨rfl, trivial⟩ ?_
         refine mq ?_
         refine JO.s rfl (o_litB (t := (.int .i64)) [(.tmp 63, _)] [y22.2.2.2.2] rfl rfl sl22 (.cons rfl .int .nil) rfl rfl) ⟨rfl, trivial⟩ ?_
         obtain ⟨u29, eu29, h⟩ := b_bind h
         refine JO.front 7 rfl ?_
         refine JO.s1x rfl rfl rfl (o_append rfl rfl sl22 (chkP_some eu29)) ⟨rfl, rfl, trivial⟩ fun v30 => ?_
         refine JO.s rfl (o_field_obj rfl fo45_0) ⟨rfl, trivial⟩ ?_
         refine JO.one fun o31 => ?_
         refine JO.front 1 rfl ?_
         refine JO.n11 rfl rfl (o_store rfl sz22 o31 rfl rfl) ⟨rfl, rfl, trivial⟩ ?_
         refine JO.nil ?_
         refine JN.blk_n ?_
         refine JN.then_n ?_
         exact JN.z (v30, (x26.1, x26.2.1, x26.2.2.1, y22.2.2.2.1 ++ [y22.2.2.2.2])) h (SE.fin [2, 3, 4, 5, 6, 7, 0, 1] ⟨rfl, rfl, rfl, rfl, rfl, rfl, rfl, rfl, trivial⟩ rfl)
        ·
         replace h := b_ifn (v_f hb) h
         refine JC.skip ?_
         refine JN.blk_n ?_
         refine JN.then_n ?_
         exact JN.z (z23, (x26.1, x26.2.1, x26.2.2.1, y22.2.2.2.1)) h (SE.fin [0, 1, 2, 3, 4, 5, 6, 7] ⟨rfl, rfl, rfl, rfl, rfl, rfl, rfl, rfl, trivial⟩ rfl)
      ·
       refine JC.region ?_
       refine mq ?_
       obtain ⟨x32, ex32, h⟩ := b_bind h
       refine JO.s rfl (o_add rfl ex32) ⟨rfl, rfl, trivial⟩ ?_
       refine aq ?_
       refine JO.nil ?_
       refine JN.then_n ?_
       exact JN.z (z25, (x24.1, x24.2.1, x24.2.2.1, x24.2.2.2, x32)) h (SE.fin [0, 1, 2, 3, 4, 5, 6, 7] ⟨rfl, rfl, rfl, rfl, rfl, rfl, rfl, rfl, trivial⟩ rfl)
     ·
      replace h := b_ifn (d_f hb) h
      refine JC.exit ?_
      refine JN.then_x ?_
      refine JN.then_x ?_
      refine JN.blk_hit ?_
      refine JN.then_n ?_
      exact JN.z (z23, (y22.1, y22.2.1, y22.2.2.1, y22.2.2.2.1)) h (SE.fin [0, 1, 2, 3, 4, 5, 6, 7] ⟨rfl, rfl, rfl, rfl, rfl, rfl, rfl, trivial⟩ rfl)
    ·
     refine sr ?_
     refine JO.s rfl (o_field_obj rfl fo28_0) ⟨rfl, trivial⟩ ?_
     refine JO.front 2 rfl ?_
     refine JO.s11 rfl rfl rfl (o_load_obj rfl sz25 (fun _ => rfl) rfl) ⟨rfl, trivial⟩ ?_
     refine JO.front 6 rfl ?_
     refine JO.front 7 rfl ?_
     refine JO.se (SE.frzBoth (off := 0) [] trivial rfl rfl) ?_
     refine JO.s11 rfl rfl rfl (o_load_obj rfl sz45 (nfn) rfl) ⟨rfl, trivial⟩ ?_
     refine JO.s rfl (o_litB (t := tThing) [(.tmp 69, _)] [(x20.2.2.2, r12.1, r14.1, r15.1, r18.1)] rfl rfl sl25 (.cons trivial (.agg (.pair .rep (.pair .int (.pair .int (.pair .int .int))))) .nil) rfl rfl) ⟨rfl, trivial⟩ ?_
     obtain ⟨u33, eu33, h⟩ := b_bind h
     refine JO.front 4 rfl ?_
     refine JO.s1x rfl rfl rfl (o_append rfl rfl sl25 (chkP_some eu33)) ⟨rfl, rfl, trivial⟩ fun v34 => ?_
     refine JO.s rfl (o_field_obj rfl fo28_0) ⟨rfl, trivial⟩ ?_
     refine JO.one fun o35 => ?_
     refine JO.front 2 rfl ?_
     refine JO.n11 rfl rfl (o_store rfl sz25 o35 rfl rfl) ⟨rfl, rfl, trivial⟩ ?_
     refine nt ?_
     refine sr ?_
     refine mq ?_
     obtain ⟨r36, er36, h⟩ := b_bind h
     have cr36 := kit_Lots_Upto_ok k (x20.1, x20.2.1, x20.2.2.1) b_a0 (5 : Int) r36 er36
     refine JO.front 3 rfl ?_
     refine JO.s11 rfl rfl rfl (o_call [.tmp 73, .const (.int .i64 (5))] rfl rfl en32 rfl cr36) ⟨rfl, rfl, trivial⟩ ?_
     refine nt ?_
     refine JC.block ?_
     refine sr ?_
     refine JO.s rfl (o_eql rfl) ⟨rfl, rfl, trivial⟩ ?_
     refine aq ?_
     refine nt ?_
     refine JC.cond rfl (fun hb => ?_) (fun hb => ?_)
     ·
      replace h := b_if (d_t hb) h
      refine JC.skip ?_
      refine JN.blk_n ?_
      refine JN.blk_n ?_
      refine JN.then_n ?_
      exact JN.z ((v34, z8.2.1, z8.2.2), (r36.2.1, r36.2.2.1, r36.2.2.2, y7.2.2.2.1 ++ [(x20.2.2.2, r12.1, r14.1, r15.1, r18.1)], y7.2.2.2.2.1, y7.2.2.2.2.2.1)) h (SE.fin [0, 4, 1, 2, 5, 6] ⟨rfl, rfl, rfl, rfl, rfl, rfl, trivial⟩ rfl)
     ·
      replace h := b_ifn (d_f hb) h
      refine JC.cutB (Z := Unit) (α := Bool) (fun z38 x37 => [(0, .eq (.pointer (some ⟨b_a0, 0, none⟩))), (2, .eq (.pointer (some ⟨b1, 0, none⟩))), (3, .eq (.pointer (some ⟨b2, 0, none⟩))), (4, .eq (.int .i64 r3.1)), (5, .eq (.bool r4.1)), (6, .eq (.int .i64 y7.2.2.2.2.2.2)), (74, .eq (.int .i64 r36.1)), (89, .eq (.bool x37))]) (fun z38 x37 => [.obj b_a0 93 (.agg (.pair (.rep (.slice (.int .i64)) r36.2.1) (.pair (.eq (.int .i64 r36.2.2.1)) (.eq (.int .u64 r36.2.2.2))))), .obj b1 28 (.agg (.pair (.eq (.slice none 0 0)) (.pair (.eq (.slice none 0 0)) (.pair (.eq (.slice none 0 0)) (.eq (.slice none 0 0)))))), .obj b2 28 (.agg (.pair (.eq v34) (.pair (.eq (.slice none 0 0)) (.pair (.eq z8.2.1) (.eq z8.2.2))))), .sl v34 45 tThing (y7.2.2.2.1 ++ [(x20.2.2.2, r12.1, r14.1, r15.1, r18.1)]), .sl z8.2.1 3 (.int .i64) y7.2.2.2.2.1, .sl z8.2.2 3 (.int .i64) y7.2.2.2.2.2.1]) h (fun K h => ?_) (fun z38 x37 h => ?_)
      ·
       refine sr ?_
       refine JO.s rfl (o_eql rfl) ⟨rfl, rfl, trivial⟩ ?_
       refine aq ?_
       refine nt ?_
       refine JC.cond rfl (fun hb => ?_) (fun hb => ?_)
       ·
        replace h := b_if (d_t hb) h
        refine JC.skip ?_
        refine JN.then_n ?_
        exact JN.z ((), decide (r36.1 = (1 : Int))) h (SE.fin [0, 4, 1, 2, 5, 6] ⟨rfl, rfl, rfl, rfl, rfl, rfl, rfl, rfl, trivial⟩ rfl)
       ·
        replace h := b_ifn (d_f hb) h
        refine JC.region ?_
        refine JO.s rfl (o_eql rfl) ⟨rfl, rfl, trivial⟩ ?_
        refine aq ?_
        refine JO.nil ?_
        refine JN.then_n ?_
        exact JN.z ((), decide (r36.1 = (2 : Int))) h (SE.fin [0, 4, 1, 2, 5, 6] ⟨rfl, rfl, rfl, rfl, rfl, rfl, rfl, rfl, trivial⟩ rfl)
      ·
       refine JC.cond rfl (fun hb => ?_) (fun hb => ?_)
       ·
        replace h := b_if (v_t hb) h
        refine JC.region ?_
        refine JO.s rfl (o_field_obj rfl fo28_2) ⟨rfl, trivial⟩ ?_
        refine JO.front 2 rfl ?_
        refine JO.s11 rfl rfl rfl (o_load_obj rfl sz22 (fun _ => rfl) rfl) ⟨rfl, trivial⟩ ?_
        refine mq ?_
        refine JO.s rfl (o_litB (t := (.int .i64)) [(.tmp 94, _)] [y7.2.2.2.2.2.2] rfl rfl sl22 (.cons rfl .int .nil) rfl rfl) ⟨rfl, trivial⟩ ?_
        obtain ⟨u39, eu39, h⟩ := b_bind h
        refine JO.front 4 rfl ?_
        refine JO.s1x rfl rfl rfl (o_append rfl rfl sl22 (chkP_some eu39)) ⟨rfl, rfl, trivial⟩ fun v40 => ?_
        refine JO.s rfl (o_field_obj rfl fo28_2) ⟨rfl, trivial⟩ ?_
        refine JO.one fun o41 => ?_
        refine JO.front 1 rfl ?_
        refine JO.n11 rfl rfl (o_store rfl sz22 o41 rfl rfl) ⟨rfl, rfl, trivial⟩ ?_
        refine JO.nil ?_
        refine JN.blk_n ?_
        refine JN.blk_n ?_
        refine JN.then_n ?_
        exact JN.z ((v34, v40, z8.2.2), (r36.2.1, r36.2.2.1, r36.2.2.2, y7.2.2.2.1 ++ [(x20.2.2.2, r12.1, r14.1, r15.1, r18.1)], y7.2.2.2.2.1 ++ [y7.2.2.2.2.2.2], y7.2.2.2.2.2.1)) h (SE.fin [2, 3, 0, 4, 1, 5] ⟨rfl, rfl, rfl, rfl, rfl, rfl, trivial⟩ rfl)
       ·
        replace h := b_ifn (v_f hb) h
        refine sr ?_
        refine JO.s rfl (o_eql rfl) ⟨rfl, rfl, trivial⟩ ?_
        refine aq ?_
        refine nt ?_
        refine JC.cond rfl (fun hb => ?_) (fun hb => ?_)
        ·
         replace h := b_if (d_t hb) h
         refine JC.region ?_
         refine JO.s rfl (o_field_obj rfl fo28_3) ⟨rfl, trivial⟩ ?_
         refine JO.front 2 rfl ?_
         refine JO.s11 rfl rfl rfl (o_load_obj rfl sz22 (fun _ => rfl) rfl) ⟨rfl, trivial⟩ ?_
         refine mq ?_
         refine JO.s rfl (o_litB (t := (.int .i64)) [(.tmp 102, _)] [y7.2.2.2.2.2.2] rfl rfl sl22 (.cons rfl .int .nil) rfl rfl) ⟨rfl, trivial⟩ ?_
         obtain ⟨u42, eu42, h⟩ := b_bind h
         refine JO.front 5 rfl ?_
         refine JO.s1x rfl rfl rfl (o_append rfl rfl sl22 (chkP_some eu42)) ⟨rfl, rfl, trivial⟩ fun v43 => ?_
         refine JO.s rfl (o_field_obj rfl fo28_3) ⟨rfl, trivial⟩ ?_
         refine JO.one fun o44 => ?_
         refine JO.front 1 rfl ?_
         refine JO.n11 rfl rfl (o_store rfl sz22 o44 rfl rfl) ⟨rfl, rfl, trivial⟩ ?_
         refine JO.nil ?_
         refine JN.blk_n ?_
         refine JN.blk_n ?_
         refine JN.then_n ?_
         exact JN.z ((v34, z8.2.1, v43), (r36.2.1, r36.2.2.1, r36.2.2.2, y7.2.2.2.1 ++ [(x20.2.2.2, r12.1, r14.1, r15.1, r18.1)], y7.2.2.2.2.1, y7.2.2.2.2.2.1 ++ [y7.2.2.2.2.2.2])) h (SE.fin [2, 3, 0, 4, 5, 1] ⟨rfl, rfl, rfl, rfl, rfl, rfl, trivial⟩ rfl)
        ·
         replace h := b_ifn (d_f hb) h
         refine JC.drawW ?_
         refine DW.t00 rfl rfl rfl (o_field_obj rfl fo28_2) ⟨rfl, trivial⟩ ?_
         refine DW.t11 2 rfl rfl rfl rfl (o_load_obj rfl sz22 (fun _ => rfl) rfl) ⟨rfl, trivial⟩ ?_
         refine DW.t00 rfl rfl rfl (o_move rfl) ⟨rfl, trivial⟩ ?_
         refine DW.t00 rfl rfl rfl (o_litB (t := (.int .i64)) [(.tmp 77, _)] [y7.2.2.2.2.2.2] rfl rfl sl22 (.cons rfl .int .nil) rfl rfl) ⟨rfl, trivial⟩ ?_
         obtain ⟨u45, eu45, h⟩ := b_bind h
         refine DW.tTurn 4 rfl (fun v => [.sl v 3 (.int .i64) (y7.2.2.2.2.1 ++ [y7.2.2.2.2.2.2])]) (fun _ => rfl) rfl rfl rfl (o_append rfl rfl sl22 (chkP_some eu45)) ⟨rfl, rfl, trivial⟩ ?_
         refine DW.t00 rfl rfl rfl (o_field_obj rfl fo28_3) ⟨rfl, trivial⟩ ?_
         refine DW.t11 2 rfl rfl rfl rfl (o_load_obj rfl sz22 (fun _ => rfl) rfl) ⟨rfl, trivial⟩ ?_
         refine DW.t00 rfl rfl rfl (o_move rfl) ⟨rfl, trivial⟩ ?_
         refine DW.t00 rfl rfl rfl (o_litB (t := (.int .i64)) [(.tmp 82, _)] [y7.2.2.2.2.2.2] rfl rfl sl22 (.cons rfl .int .nil) rfl rfl) ⟨rfl, trivial⟩ ?_
         obtain ⟨u47, eu47, h⟩ := b_bind h
         refine DW.tTurn 5 rfl (fun v => [.sl v 3 (.int .i64) (y7.2.2.2.2.2.1 ++ [y7.2.2.2.2.2.2])]) (fun _ => rfl) rfl rfl rfl (o_append rfl rfl sl22 (chkP_some eu47)) ⟨rfl, rfl, trivial⟩ ?_
         refine DW.t00 rfl rfl rfl (o_field_obj rfl fo28_2) ⟨rfl, trivial⟩ ?_
         refine DW.fin 11 [true, true, true, true, true, true, true, true, true, true, true] [86] [] [] rfl (by kernel_rfl) (by kernel_rfl) (by kernel_rfl) mixed (fun vs hv hB => ?_)
         obtain ⟨w0, vs1, rfl, hv1⟩ := len_cons hv
         obtain ⟨w1, vs2, rfl, hv2⟩ := len_cons hv1
         obtain ⟨w2, vs3, rfl, hv3⟩ := len_cons hv2
         obtain ⟨w3, vs4, rfl, hv4⟩ := len_cons hv3
         obtain ⟨v46, vs5, rfl, hv5⟩ := len_cons hv4
         obtain ⟨w5, vs6, rfl, hv6⟩ := len_cons hv5
         obtain ⟨w6, vs7, rfl, hv7⟩ := len_cons hv6
         obtain ⟨w7, vs8, rfl, hv8⟩ := len_cons hv7
         obtain ⟨w8, vs9, rfl, hv9⟩ := len_cons hv8
         obtain ⟨v48, vs10, rfl, hv10⟩ := len_cons hv9
         obtain ⟨w10, vs11, rfl, hv11⟩ := len_cons hv10
         obtain rfl := len_nil hv11
         refine ⟨[0, 1, 2, 3, 4, 5], [.obj b_a0 93 (.agg (.pair (.rep (.slice (.int .i64)) r36.2.1) (.pair (.eq (.int .i64 r36.2.2.1)) (.eq (.int .u64 r36.2.2.2))))), .obj b1 28 (.agg (.pair (.eq (.slice none 0 0)) (.pair (.eq (.slice none 0 0)) (.pair (.eq (.slice none 0 0)) (.eq (.slice none 0 0)))))), .obj b2 28 (.agg (.pair (.eq v34) (.pair (.eq (.slice none 0 0)) (.pair (.eq z8.2.1) (.eq z8.2.2))))), .sl v34 45 tThing (y7.2.2.2.1 ++ [(x20.2.2.2, r12.1, r14.1, r15.1, r18.1)]), .sl v46 3 (.int .i64) (y7.2.2.2.2.1 ++ [y7.2.2.2.2.2.2]), .sl v48 3 (.int .i64) (y7.2.2.2.2.2.1 ++ [y7.2.2.2.2.2.2])], by kernel_rfl, by decide, ?_⟩
         refine JT.front 4 rfl ?_
         refine JT.one fun o49 => ?_
         refine JT.front 3 rfl ?_
         refine JT.n11 rfl rfl (o_store rfl sz22 o49 rfl rfl) ⟨rfl, rfl, trivial⟩ (by kernel_rfl) ?_
         refine JT.y00 rfl rfl rfl rfl (o_field_obj rfl fo28_3) ⟨rfl, trivial⟩ (by kernel_rfl) ?_
         refine JT.front 5 rfl ?_
         refine JT.one fun o50 => ?_
         refine JT.front 1 rfl ?_
         refine JT.n11 rfl rfl (o_store rfl sz22 o50 rfl rfl) ⟨rfl, rfl, trivial⟩ (by kernel_rfl) ?_
         refine JT.nil ?_
         refine JN.se (SE.fin (Γ' := [(0, .eq (.pointer (some ⟨b_a0, 0, none⟩))), (2, .eq (.pointer (some ⟨b1, 0, none⟩))), (3, .eq (.pointer (some ⟨b2, 0, none⟩))), (4, .eq (.int .i64 r3.1)), (5, .eq (.bool r4.1)), (6, .eq (.int .i64 y7.2.2.2.2.2.2))]) (Δ' := [.obj b2 28 (.agg (.pair (.eq v34) (.pair (.eq (.slice none 0 0)) (.pair (.eq v46) (.eq v48))))), .sl v48 3 (.int .i64) (y7.2.2.2.2.2.1 ++ [y7.2.2.2.2.2.2]), .sl v46 3 (.int .i64) (y7.2.2.2.2.1 ++ [y7.2.2.2.2.2.2]), .obj b_a0 93 (.agg (.pair (.rep (.slice (.int .i64)) r36.2.1) (.pair (.eq (.int .i64 r36.2.2.1)) (.eq (.int .u64 r36.2.2.2))))), .obj b1 28 (.agg (.pair (.eq (.slice none 0 0)) (.pair (.eq (.slice none 0 0)) (.pair (.eq (.slice none 0 0)) (.eq (.slice none 0 0)))))), .sl v34 45 tThing (y7.2.2.2.1 ++ [(x20.2.2.2, r12.1, r14.1, r15.1, r18.1)])]) [0, 1, 2, 3, 4, 5] ⟨rfl, rfl, rfl, rfl, rfl, rfl, trivial⟩ rfl) ?_
         refine JN.blk_n ?_
         refine JN.blk_n ?_
         refine JN.then_n ?_
         exact JN.z ((v34, v46, v48), (r36.2.1, r36.2.2.1, r36.2.2.2, y7.2.2.2.1 ++ [(x20.2.2.2, r12.1, r14.1, r15.1, r18.1)], y7.2.2.2.2.1 ++ [y7.2.2.2.2.2.2], y7.2.2.2.2.2.1 ++ [y7.2.2.2.2.2.2])) h (SE.fin [3, 4, 0, 5, 2, 1] ⟨rfl, rfl, rfl, rfl, rfl, rfl, trivial⟩ rfl)
   ·
    refine JC.region ?_
    refine mq ?_
    obtain ⟨x51, ex51, h⟩ := b_bind h
    refine JO.s rfl (o_add rfl ex51) ⟨rfl, rfl, trivial⟩ ?_
    refine aq ?_
    refine JO.nil ?_
    refine JN.then_n ?_
    exact JN.z ((z10.1, z10.2.1, z10.2.2), (x9.1, x9.2.1, x9.2.2.1, x9.2.2.2.1, x9.2.2.2.2.1, x9.2.2.2.2.2, x51)) h (SE.fin [0, 1, 2, 3, 4, 5] ⟨rfl, rfl, rfl, rfl, rfl, rfl, trivial⟩ rfl)
  ·
   replace h := b_ifn (d_f hb) h
   refine JC.exit ?_
   refine JN.then_x ?_
   refine JN.then_x ?_
   refine JN.blk_hit ?_
   refine JN.then_n ?_
   exact JN.z ((z8.1, z8.2.1, z8.2.2), (y7.1, y7.2.1, y7.2.2.1, y7.2.2.2.1, y7.2.2.2.2.1, y7.2.2.2.2.2.1)) h (SE.fin [0, 1, 2, 3, 4, 5] ⟨rfl, rfl, rfl, rfl, trivial⟩ rfl)
 ·
  refine JC.cutB (Z := Value) (α := (List Int) × Int × Int × (List dDresser)) (fun z53 x52 => [(0, .eq (.pointer (some ⟨b_a0, 0, none⟩))), (2, .eq (.pointer (some ⟨b1, 0, none⟩))), (3, .eq (.pointer (some ⟨b2, 0, none⟩)))]) (fun z53 x52 => [.obj b_a0 93 (.agg (.pair (.rep (.slice (.int .i64)) x52.1) (.pair (.eq (.int .i64 x52.2.1)) (.eq (.int .u64 x52.2.2.1))))), .obj b1 28 (.agg (.pair (.eq (.slice none 0 0)) (.pair (.eq (.slice none 0 0)) (.pair (.eq (.slice none 0 0)) (.eq (.slice none 0 0)))))), .obj b2 28 (.agg (.pair (.eq z6.1) (.pair (.eq z53) (.pair (.eq z6.2.1) (.eq z6.2.2))))), .sl z6.1 45 tThing x5.2.2.2.1, .sl z53 53 tDresser x52.2.2.2, .sl z6.2.1 3 (.int .i64) x5.2.2.2.2.1, .sl z6.2.2 3 (.int .i64) x5.2.2.2.2.2]) h (fun K h => ?_) (fun z53 x52 h => ?_)
  ·
   refine sr ?_
   refine mq ?_
   obtain ⟨r54, er54, h⟩ := b_bind h
   have cr54 := kit_Lots_In_ok k (x5.1, x5.2.1, x5.2.2.1) b_a0 (1 : Int) (3 : Int) r54 er54
   refine JO.s11 rfl rfl rfl (o_call [.tmp 106, .const (.int .i64 (1)), .const (.int .i64 (3))] rfl rfl en60 rfl cr54) ⟨rfl, rfl, rfl, trivial⟩ ?_
   refine aq ?_
   refine nt ?_
   refine JC.block ?_
   refine JC.se (SE.nil 53 tDresser) ?_
   refine JC.loopB (Z := Value) (α := (List Int) × Int × Int × (List dDresser) × Int) (fun z56 y55 => [(0, .eq (.pointer (some ⟨b_a0, 0, none⟩))), (2, .eq (.pointer (some ⟨b1, 0, none⟩))), (3, .eq (.pointer (some ⟨b2, 0, none⟩))), (4, .eq (.int .i64 r3.1)), (9, .eq (.int .i64 y55.2.2.2.2))]) (fun z56 y55 => [.obj b_a0 93 (.agg (.pair (.rep (.slice (.int .i64)) y55.1) (.pair (.eq (.int .i64 y55.2.1)) (.eq (.int .u64 y55.2.2.1))))), .obj b1 28 (.agg (.pair (.eq (.slice none 0 0)) (.pair (.eq (.slice none 0 0)) (.pair (.eq (.slice none 0 0)) (.eq (.slice none 0 0)))))), .obj b2 28 (.agg (.pair (.eq z6.1) (.pair (.eq z56) (.pair (.eq z6.2.1) (.eq z6.2.2))))), .sl z6.1 45 tThing x5.2.2.2.1, .sl z56 53 tDresser y55.2.2.2.1, .sl z6.2.1 3 (.int .i64) x5.2.2.2.2.1, .sl z6.2.2 3 (.int .i64) x5.2.2.2.2.2]) (kit_ChangeOf_l3 k r3) k (.slice none 0 0) (r54.2.1, r54.2.2.1, r54.2.2.2, ([] : (List dDresser)), r54.1) (fun _ => rfl) h (SE.fin [1, 2, 3, 4, 0, 5, 6] ⟨rfl, rfl, rfl, rfl, rfl, trivial⟩ rfl) (fun n z56 y55 h => ?_)
   unfold kit_ChangeOf_l3 at h
   refine JC.seq ?_
   refine sr ?_
   refine mq ?_
   refine JO.s rfl (o_gtr rfl) ⟨rfl, rfl, trivial⟩ ?_
   refine nt ?_
   refine JC.cond rfl (fun hb => ?_) (fun hb => ?_)
   ·
    replace h := b_if (d_t hb) h
    refine JC.skip ?_
    refine JN.then_n ?_
    show JC _ _ _ _ _
    refine JC.cutB (Z := Value) (α := (List Int) × Int × Int × (List dDresser)) (fun z58 x57 => [(0, .eq (.pointer (some ⟨b_a0, 0, none⟩))), (2, .eq (.pointer (some ⟨b1, 0, none⟩))), (3, .eq (.pointer (some ⟨b2, 0, none⟩))), (4, .eq (.int .i64 r3.1)), (9, .eq (.int .i64 y55.2.2.2.2))]) (fun z58 x57 => [.obj b_a0 93 (.agg (.pair (.rep (.slice (.int .i64)) x57.1) (.pair (.eq (.int .i64 x57.2.1)) (.eq (.int .u64 x57.2.2.1))))), .obj b1 28 (.agg (.pair (.eq (.slice none 0 0)) (.pair (.eq (.slice none 0 0)) (.pair (.eq (.slice none 0 0)) (.eq (.slice none 0 0)))))), .obj b2 28 (.agg (.pair (.eq z6.1) (.pair (.eq z58) (.pair (.eq z6.2.1) (.eq z6.2.2))))), .sl z6.1 45 tThing x5.2.2.2.1, .sl z58 53 tDresser x57.2.2.2, .sl z6.2.1 3 (.int .i64) x5.2.2.2.2.1, .sl z6.2.2 3 (.int .i64) x5.2.2.2.2.2]) h (fun K h => ?_) (fun z58 x57 h => ?_)
    ·
     refine JC.block ?_
     refine sr ?_
     refine mq ?_
     refine JO.s rfl (o_litB (t := (.int .i64)) [(.const (.int .i64 (0)), _), (.const (.int .i64 (0)), _), (.const (.int .i64 (1)), _), (.const (.int .i64 (2)), _)] [(0 : Int), (0 : Int), (1 : Int), (2 : Int)] rfl rfl sl22 (.cons rfl .int (.cons rfl .int (.cons rfl .int (.cons rfl .int .nil)))) rfl rfl) ⟨rfl, rfl, rfl, rfl, trivial⟩ ?_
     obtain ⟨r59, er59, h⟩ := b_bind h
     have cr59 := kit_Lots_Of_ok k (y55.1, y55.2.1, y55.2.2.1) b_a0 [(0 : Int), (0 : Int), (1 : Int), (2 : Int)] r59 er59
     refine JO.s11 rfl rfl rfl (o_call [.tmp 112, .tmp 113] rfl rfl en62 rfl cr59) ⟨rfl, rfl, trivial⟩ ?_
     iterate 2 refine mq ?_
     obtain ⟨r60, er60, h⟩ := b_bind h
     have cr60 := kit_Lots_Upto_ok k (r59.2.1, r59.2.2.1, r59.2.2.2) b_a0 (4 : Int) r60 er60
     refine JO.s11 rfl rfl rfl (o_call [.tmp 116, .const (.int .i64 (4))] rfl rfl en32 rfl cr60) ⟨rfl, rfl, trivial⟩ ?_
     refine JO.s rfl (o_litB (t := (.int .i64)) [(.const (.int .i64 (0)), _), (.const (.int .i64 (0)), _), (.const (.int .i64 (1)), _), (.tmp 117, _)] [(0 : Int), (0 : Int), (1 : Int), r60.1] rfl rfl sl22 (.cons rfl .int (.cons rfl .int (.cons rfl .int (.cons rfl .int .nil)))) rfl rfl) ⟨rfl, rfl, rfl, rfl, trivial⟩ ?_
     obtain ⟨r61, er61, h⟩ := b_bind h
     have cr61 := kit_Lots_Of_ok k (r60.2.1, r60.2.2.1, r60.2.2.2) b_a0 [(0 : Int), (0 : Int), (1 : Int), r60.1] r61 er61
     refine JO.s11 rfl rfl rfl (o_call [.tmp 115, .tmp 118] rfl rfl en62 rfl cr61) ⟨rfl, rfl, trivial⟩ ?_
     refine JO.s rfl (o_buildT [(1, .tmp 114, _), (2, .tmp 119, _)] rfl pl53 za53 alb53 (stors ⟨rfl, rfl, trivial⟩) rfl) ⟨rfl, rfl, trivial⟩ ?_
     refine JO.s01 rfl rfl rfl (o_alloc rfl za53 al53) trivial fun b62 => ?_
     refine JO.n11 rfl rfl (o_store rfl sz53 trivial rfl rfl) ⟨rfl, rfl, trivial⟩ ?_
     refine nt ?_
     refine JC.cutB (Z := Value) (α := (List Int) × Int × Int × (List Int)) (fun z64 x63 => [(0, .eq (.pointer (some ⟨b_a0, 0, none⟩))), (2, .eq (.pointer (some ⟨b1, 0, none⟩))), (3, .eq (.pointer (some ⟨b2, 0, none⟩))), (4, .eq (.int .i64 r3.1)), (9, .eq (.int .i64 y55.2.2.2.2)), (10, .eq (.pointer (some ⟨b62, 0, none⟩)))]) (fun z64 x63 => [.obj b_a0 93 (.agg (.pair (.rep (.slice (.int .i64)) x63.1) (.pair (.eq (.int .i64 x63.2.1)) (.eq (.int .u64 x63.2.2.1))))), .obj b1 28 (.agg (.pair (.eq (.slice none 0 0)) (.pair (.eq (.slice none 0 0)) (.pair (.eq (.slice none 0 0)) (.eq (.slice none 0 0)))))), .obj b2 28 (.agg (.pair (.eq z6.1) (.pair (.eq z56) (.pair (.eq z6.2.1) (.eq z6.2.2))))), .sl z6.1 45 tThing x5.2.2.2.1, .sl z56 53 tDresser y55.2.2.2.1, .sl z6.2.1 3 (.int .i64) x5.2.2.2.2.1, .sl z6.2.2 3 (.int .i64) x5.2.2.2.2.2, .obj b62 53 (.agg (.pair (.eq z64) (.pair (.eq (.int .i64 r59.1)) (.eq (.int .i64 r61.1))))), .sl z64 3 (.int .i64) x63.2.2.2]) h (fun K h => ?_) (fun z64 x63 h => ?_)
     ·
      refine sr ?_
      refine cq ?_
      refine nt ?_
      refine JC.block ?_
      refine JC.se (SE.nil 3 (.int .i64)) ?_
      refine JC.loopB (Z := Value) (α := (List Int) × Int × Int × (List Int) × Int) (fun z66 y65 => [(0, .eq (.pointer (some ⟨b_a0, 0, none⟩))), (2, .eq (.pointer (some ⟨b1, 0, none⟩))), (3, .eq (.pointer (some ⟨b2, 0, none⟩))), (4, .eq (.int .i64 r3.1)), (9, .eq (.int .i64 y55.2.2.2.2)), (10, .eq (.pointer (some ⟨b62, 0, none⟩))), (11, .eq (.int .i64 y65.2.2.2.2))]) (fun z66 y65 => [.obj b_a0 93 (.agg (.pair (.rep (.slice (.int .i64)) y65.1) (.pair (.eq (.int .i64 y65.2.1)) (.eq (.int .u64 y65.2.2.1))))), .obj b1 28 (.agg (.pair (.eq (.slice none 0 0)) (.pair (.eq (.slice none 0 0)) (.pair (.eq (.slice none 0 0)) (.eq (.slice none 0 0)))))), .obj b2 28 (.agg (.pair (.eq z6.1) (.pair (.eq z56) (.pair (.eq z6.2.1) (.eq z6.2.2))))), .sl z6.1 45 tThing x5.2.2.2.1, .sl z56 53 tDresser y55.2.2.2.1, .sl z6.2.1 3 (.int .i64) x5.2.2.2.2.1, .sl z6.2.2 3 (.int .i64) x5.2.2.2.2.2, .obj b62 53 (.agg (.pair (.eq z66) (.pair (.eq (.int .i64 r59.1)) (.eq (.int .i64 r61.1))))), .sl z66 3 (.int .i64) y65.2.2.2.1]) (kit_ChangeOf_l4 k r3) k (.slice none 0 0) (r61.2.1, r61.2.2.1, r61.2.2.2, ([] : (List Int)), (0 : Int)) (fun _ => rfl) h (SE.fin [2, 3, 4, 5, 6, 7, 8, 1, 0] ⟨rfl, rfl, rfl, rfl, rfl, rfl, rfl, trivial⟩ rfl) (fun n z66 y65 h => ?_)
      unfold kit_ChangeOf_l4 at h
      refine JC.seq ?_
      refine sr ?_
      iterate 2 refine mq ?_
      refine JO.s rfl (o_lss rfl) ⟨rfl, rfl, trivial⟩ ?_
      refine nt ?_
      refine JC.cond rfl (fun hb => ?_) (fun hb => ?_)
      ·
       replace h := b_if (d_t hb) h
       refine JC.skip ?_
       refine JN.then_n ?_
       show JC _ _ _ _ _
       refine JC.cutB (Z := Value) (α := (List Int) × Int × Int × (List Int)) (fun z68 x67 => [(0, .eq (.pointer (some ⟨b_a0, 0, none⟩))), (2, .eq (.pointer (some ⟨b1, 0, none⟩))), (3, .eq (.pointer (some ⟨b2, 0, none⟩))), (4, .eq (.int .i64 r3.1)), (9, .eq (.int .i64 y55.2.2.2.2)), (10, .eq (.pointer (some ⟨b62, 0, none⟩))), (11, .eq (.int .i64 y65.2.2.2.2))]) (fun z68 x67 => [.obj b_a0 93 (.agg (.pair (.rep (.slice (.int .i64)) x67.1) (.pair (.eq (.int .i64 x67.2.1)) (.eq (.int .u64 x67.2.2.1))))), .obj b1 28 (.agg (.pair (.eq (.slice none 0 0)) (.pair (.eq (.slice none 0 0)) (.pair (.eq (.slice none 0 0)) (.eq (.slice none 0 0)))))), .obj b2 28 (.agg (.pair (.eq z6.1) (.pair (.eq z56) (.pair (.eq z6.2.1) (.eq z6.2.2))))), .sl z6.1 45 tThing x5.2.2.2.1, .sl z56 53 tDresser y55.2.2.2.1, .sl z6.2.1 3 (.int .i64) x5.2.2.2.2.1, .sl z6.2.2 3 (.int .i64) x5.2.2.2.2.2, .obj b62 53 (.agg (.pair (.eq z68) (.pair (.eq (.int .i64 r59.1)) (.eq (.int .i64 r61.1))))), .sl z68 3 (.int .i64) x67.2.2.2]) h (fun K h => ?_) (fun z68 x67 h => ?_)
       ·
        refine JC.block ?_
        refine sr ?_
        refine mq ?_
        obtain ⟨r69, er69, h⟩ := b_bind h
        have cr69 := kit_Lots_Rare_ok k (y65.1, y65.2.1, y65.2.2.1) b_a0 (4 : Int) r69 er69
        refine JO.s11 rfl rfl rfl (o_call [.tmp 126, .const (.int .i64 (4))] rfl rfl en61 rfl cr69) ⟨rfl, rfl, trivial⟩ ?_
        refine JO.s rfl (o_not rfl) ⟨rfl, trivial⟩ ?_
        refine nt ?_
        refine JC.cond rfl (fun hb => ?_) (fun hb => ?_)
        ·
         replace h := b_if (nv_t hb) h
         refine JC.region ?_
         refine JO.s rfl (o_field_obj rfl fo53_0) ⟨rfl, trivial⟩ ?_
         refine JO.front 7 rfl ?_
         refine JO.s11 rfl rfl rfl (o_load_obj rfl sz22 (fun _ => rfl) rfl) ⟨rfl, trivial⟩ ?_
         refine mq ?_
         refine JO.s rfl (o_litB (t := (.int .i64)) [(.tmp 131, _)] [y65.2.2.2.2] rfl rfl sl22 (.cons rfl .int .nil) rfl rfl) ⟨rfl, trivial⟩ ?_
         obtain ⟨u70, eu70, h⟩ := b_bind h
         refine JO.front 8 rfl ?_
         refine JO.s1x rfl rfl rfl (o_append rfl rfl sl22 (chkP_some eu70)) ⟨rfl, rfl, trivial⟩ fun v71 => ?_
         refine JO.s rfl (o_field_obj rfl fo53_0) ⟨rfl, trivial⟩ ?_
         refine JO.one fun o72 => ?_
         refine JO.front 1 rfl ?_
         refine JO.n11 rfl rfl (o_store rfl sz22 o72 rfl rfl) ⟨rfl, rfl, trivial⟩ ?_
         refine JO.nil ?_
         refine JN.blk_n ?_
         refine JN.then_n ?_
         exact JN.z (v71, (r69.2.1, r69.2.2.1, r69.2.2.2, y65.2.2.2.1 ++ [y65.2.2.2.2])) h (SE.fin [2, 3, 4, 5, 6, 7, 8, 0, 1] ⟨rfl, rfl, rfl, rfl, rfl, rfl, rfl, trivial⟩ rfl)
        ·
         replace h := b_ifn (nv_fn hb) h
         refine JC.skip ?_
         refine JN.blk_n ?_
         refine JN.then_n ?_
         exact JN.z (z66, (r69.2.1, r69.2.2.1, r69.2.2.2, y65.2.2.2.1)) h (SE.fin [0, 1, 2, 3, 4, 5, 6, 7, 8] ⟨rfl, rfl, rfl, rfl, rfl, rfl, rfl, trivial⟩ rfl)
       ·
        refine JC.region ?_
        refine mq ?_
        obtain ⟨x73, ex73, h⟩ := b_bind h
        refine JO.s rfl (o_add rfl ex73) ⟨rfl, rfl, trivial⟩ ?_
        refine aq ?_
        refine JO.nil ?_
        refine JN.then_n ?_
        exact JN.z (z68, (x67.1, x67.2.1, x67.2.2.1, x67.2.2.2, x73)) h (SE.fin [0, 1, 2, 3, 4, 5, 6, 7, 8] ⟨rfl, rfl, rfl, rfl, rfl, rfl, rfl, trivial⟩ rfl)
      ·
       replace h := b_ifn (d_f hb) h
       refine JC.exit ?_
       refine JN.then_x ?_
       refine JN.then_x ?_
       refine JN.blk_hit ?_
       refine JN.then_n ?_
       exact JN.z (z66, (y65.1, y65.2.1, y65.2.2.1, y65.2.2.2.1)) h (SE.fin [0, 1, 2, 3, 4, 5, 6, 7, 8] ⟨rfl, rfl, rfl, rfl, rfl, rfl, trivial⟩ rfl)
     ·
      refine JC.region ?_
      refine JO.s rfl (o_field_obj rfl fo28_1) ⟨rfl, trivial⟩ ?_
      refine JO.front 2 rfl ?_
      refine JO.s11 rfl rfl rfl (o_load_obj rfl sz26 (fun _ => rfl) rfl) ⟨rfl, trivial⟩ ?_
      refine JO.front 7 rfl ?_
      refine JO.front 8 rfl ?_
      refine JO.se (SE.frzBoth (off := 0) [] trivial rfl rfl) ?_
      refine JO.s11 rfl rfl rfl (o_load_obj rfl sz53 (nfn) rfl) ⟨rfl, trivial⟩ ?_
      refine JO.s rfl (o_litB (t := tDresser) [(.tmp 137, _)] [(x63.2.2.2, r59.1, r61.1)] rfl rfl sl26 (.cons trivial (.agg (.pair .rep (.pair .int .int))) .nil) rfl rfl) ⟨rfl, trivial⟩ ?_
      obtain ⟨u74, eu74, h⟩ := b_bind h
      refine JO.front 5 rfl ?_
      refine JO.s1x rfl rfl rfl (o_append rfl rfl sl26 (chkP_some eu74)) ⟨rfl, rfl, trivial⟩ fun v75 => ?_
      refine JO.s rfl (o_field_obj rfl fo28_1) ⟨rfl, trivial⟩ ?_
      refine JO.one fun o76 => ?_
      refine JO.front 2 rfl ?_
      refine JO.n11 rfl rfl (o_store rfl sz26 o76 rfl rfl) ⟨rfl, rfl, trivial⟩ ?_
      refine JO.nil ?_
      refine JN.blk_n ?_
      refine JN.then_n ?_
      exact JN.z (v75, (x63.1, x63.2.1, x63.2.2.1, y55.2.2.2.1 ++ [(x63.2.2.2, r59.1, r61.1)])) h (SE.fin [3, 4, 0, 5, 1, 6, 7] ⟨rfl, rfl, rfl, rfl, rfl, trivial⟩ rfl)
    ·
     refine JC.region ?_
     refine mq ?_
     obtain ⟨x77, ex77, h⟩ := b_bind h
     refine JO.s rfl (o_sub rfl ex77) ⟨rfl, rfl, trivial⟩ ?_
     refine aq ?_
     refine JO.nil ?_
     refine JN.then_n ?_
     exact JN.z (z58, (x57.1, x57.2.1, x57.2.2.1, x57.2.2.2, x77)) h (SE.fin [0, 1, 2, 3, 4, 5, 6] ⟨rfl, rfl, rfl, rfl, rfl, trivial⟩ rfl)
   ·
    replace h := b_ifn (d_f hb) h
    refine JC.exit ?_
    refine JN.then_x ?_
    refine JN.then_x ?_
    refine JN.blk_hit ?_
    refine JN.then_n ?_
    exact JN.z (z56, (y55.1, y55.2.1, y55.2.2.1, y55.2.2.2.1)) h (SE.fin [0, 1, 2, 3, 4, 5, 6] ⟨rfl, rfl, rfl, trivial⟩ rfl)
  ·
   refine JC.cutB (Z := Unit) (α := (List dThing) × (List dDresser) × (List Int) × (List Int) × (List Int) × Int × Int) (fun z79 x78 => [(2, .eq (.pointer (some ⟨b1, 0, none⟩))), (3, .eq (.pointer (some ⟨b2, 0, none⟩)))]) (fun z79 x78 => [.obj b1 28 (.agg (.pair (.eq (.slice none 0 0)) (.pair (.eq (.slice none 0 0)) (.pair (.eq (.slice none 0 0)) (.eq (.slice none 0 0)))))), .obj b2 28 (.agg (.pair (.rep (.slice tThing) x78.1) (.pair (.rep (.slice tDresser) x78.2.1) (.pair (.rep (.slice (.int .i64)) x78.2.2.1) (.rep (.slice (.int .i64)) x78.2.2.2.1))))), .obj b_a0 93 (.agg (.pair (.rep (.slice (.int .i64)) x78.2.2.2.2.1) (.pair (.eq (.int .i64 x78.2.2.2.2.2.1)) (.eq (.int .u64 x78.2.2.2.2.2.2)))))]) h (fun K h => ?_) (fun z79 x78 h => ?_)
   ·
    refine JC.block ?_
    refine JC.front 2 rfl ?_
    refine JC.front 3 rfl ?_
    refine JC.se (SE.frzBoth (off := 0) [] trivial rfl rfl) ?_
    refine JC.front 3 rfl ?_
    refine JC.se (SE.frzBoth (off := 1) [] trivial rfl rfl) ?_
    refine JC.front 3 rfl ?_
    refine JC.se (SE.frzBoth (off := 2) [] trivial rfl rfl) ?_
    refine JC.front 3 rfl ?_
    refine JC.se (SE.frzBoth (off := 3) [] trivial rfl rfl) ?_
    refine JC.loopB (Z := Unit) (α := (List Int) × Int × Int × (List dThing) × (List dDresser) × (List Int) × (List Int)) (fun z81 y80 => [(0, .eq (.pointer (some ⟨b_a0, 0, none⟩))), (2, .eq (.pointer (some ⟨b1, 0, none⟩))), (3, .eq (.pointer (some ⟨b2, 0, none⟩)))]) (fun z81 y80 => [.obj b_a0 93 (.agg (.pair (.rep (.slice (.int .i64)) y80.1) (.pair (.eq (.int .i64 y80.2.1)) (.eq (.int .u64 y80.2.2.1))))), .obj b1 28 (.agg (.pair (.eq (.slice none 0 0)) (.pair (.eq (.slice none 0 0)) (.pair (.eq (.slice none 0 0)) (.eq (.slice none 0 0)))))), .obj b2 28 (.agg (.pair (.rep (.slice tThing) y80.2.2.2.1) (.pair (.rep (.slice tDresser) y80.2.2.2.2.1) (.pair (.rep (.slice (.int .i64)) y80.2.2.2.2.2.1) (.rep (.slice (.int .i64)) y80.2.2.2.2.2.2)))))]) (kit_ChangeOf_l5 k) k () (x52.1, x52.2.1, x52.2.2.1, x5.2.2.2.1, x52.2.2.2, x5.2.2.2.2.1, x5.2.2.2.2.2) (fun _ => rfl) h (SE.fin [1, 2, 0] ⟨rfl, rfl, rfl, trivial⟩ rfl) (fun n z81 y80 h => ?_)
    unfold kit_ChangeOf_l5 at h
    refine JC.seq ?_
    refine sr ?_
    refine JO.front 2 rfl ?_
    refine JO.s11 rfl rfl rfl (o_load_obj rfl sz28 (nfn) rfl) ⟨rfl, trivial⟩ ?_
    obtain ⟨r82, er82, h⟩ := b_bind h
    have cr82 := kit_TasksOf_ok k (y80.2.2.2.1, y80.2.2.2.2.1, y80.2.2.2.2.2.1, y80.2.2.2.2.2.2) r82 er82
    refine JO.s rfl (OpT.need (N := [(.tmp 141, .agg (.pair (.rep (.slice tThing) y80.2.2.2.1) (.pair (.rep (.slice tDresser) y80.2.2.2.2.1) (.pair (.rep (.slice (.int .i64)) y80.2.2.2.2.2.1) (.rep (.slice (.int .i64)) y80.2.2.2.2.2.2)))))]) (o_call [.tmp 141] rfl rfl en23 rfl cr82) fun _ _ _ hn => ⟨(ent_holds (t := tChange) (x := (y80.2.2.2.1, y80.2.2.2.2.1, y80.2.2.2.2.2.1, y80.2.2.2.2.2.2)) (.agg (.pair .rep (.pair .rep (.pair .rep .rep)))) trivial rfl hn.1), trivial⟩) ⟨rfl, trivial⟩ ?_
    refine JO.s rfl (o_len rfl rfl Try.underlying38) ⟨rfl, trivial⟩ ?_
    refine JO.s rfl (o_gtr rfl) ⟨rfl, rfl, trivial⟩ ?_
    refine nt ?_
    refine JC.cond rfl (fun hb => ?_) (fun hb => ?_)
    ·
     replace h := b_if (d_t hb) h
     refine JC.skip ?_
     refine JN.then_n ?_
     show JC _ _ _ _ _
     refine JC.block ?_
     refine JC.cutB (Z := Unit) (α := (List Int) × Int × Int × Bool) (fun z84 x83 => [(0, .eq (.pointer (some ⟨b_a0, 0, none⟩))), (2, .eq (.pointer (some ⟨b1, 0, none⟩))), (3, .eq (.pointer (some ⟨b2, 0, none⟩))), (152, .eq (.bool x83.2.2.2))]) (fun z84 x83 => [.obj b_a0 93 (.agg (.pair (.rep (.slice (.int .i64)) x83.1) (.pair (.eq (.int .i64 x83.2.1)) (.eq (.int .u64 x83.2.2.1))))), .obj b1 28 (.agg (.pair (.eq (.slice none 0 0)) (.pair (.eq (.slice none 0 0)) (.pair (.eq (.slice none 0 0)) (.eq (.slice none 0 0)))))), .obj b2 28 (.agg (.pair (.rep (.slice tThing) y80.2.2.2.1) (.pair (.rep (.slice tDresser) y80.2.2.2.2.1) (.pair (.rep (.slice (.int .i64)) y80.2.2.2.2.2.1) (.rep (.slice (.int .i64)) y80.2.2.2.2.2.2)))))]) h (fun K h => ?_) (fun z84 x83 h => ?_)
     ·
      refine JC.region ?_
      refine JO.s rfl (o_field_obj rfl fo28_3) ⟨rfl, trivial⟩ ?_
      refine JO.s11 rfl rfl rfl (o_load_obj rfl sz22 (fun _ => rfl) rfl) ⟨rfl, trivial⟩ ?_
      refine JO.s rfl (o_len rfl rfl Try.underlying22) ⟨rfl, trivial⟩ ?_
      refine JO.s rfl (o_gtr rfl) ⟨rfl, rfl, trivial⟩ ?_
      refine mq ?_
      refine JO.bool (s := 149) rfl (fun hb => ?_) (fun hb => ?_)
      ·
       replace h := b_if (d_t hb) h
       refine gm ?_
       obtain ⟨r85, er85, h⟩ := b_bind h
       have cr85 := kit_Lots_Rare_ok k (y80.1, y80.2.1, y80.2.2.1) b_a0 (2 : Int) r85 er85
       refine JO.front 1 rfl ?_
       refine JO.g11 rfl rfl rfl rfl rfl rfl (o_call [.tmp 150, .const (.int .i64 (2))] rfl rfl en61 rfl cr85) ⟨rfl, rfl, trivial⟩ ?_
       refine pt ?_
       refine JO.nil ?_
       refine JN.then_n ?_
       exact JN.z ((), (r85.2.1, r85.2.2.1, r85.2.2.2, r85.1)) h (SE.fin [0, 2, 1] ⟨rfl, rfl, rfl, rfl, trivial⟩ rfl)
      ·
       replace h := b_ifn (d_f hb) h
       iterate 2 refine gn ?_
       refine pf ?_
       refine JO.nil ?_
       refine JN.then_n ?_
       exact JN.z ((), (y80.1, y80.2.1, y80.2.2.1, false)) h (SE.fin [1, 2, 0] ⟨rfl, rfl, rfl, rfl, trivial⟩ rfl)
     ·
      refine JC.cond rfl (fun hb => ?_) (fun hb => ?_)
      ·
       replace h := b_if (v_t hb) h
       refine JC.region ?_
       refine JO.s rfl (o_field_obj rfl fo28_3) ⟨rfl, trivial⟩ ?_
       refine JO.front 2 rfl ?_
       refine JO.s11 rfl rfl rfl (o_load_obj rfl sz22 (fun _ => rfl) rfl) ⟨rfl, trivial⟩ ?_
       refine JO.s rfl (o_field_obj rfl fo28_3) ⟨rfl, trivial⟩ ?_
       refine JO.s11 rfl rfl rfl (o_load_obj rfl sz22 (fun _ => rfl) rfl) ⟨rfl, trivial⟩ ?_
       refine JO.s rfl (o_len rfl rfl Try.underlying22) ⟨rfl, trivial⟩ ?_
       obtain ⟨x86, ex86, h⟩ := b_bind h
       refine JO.s rfl (o_sub rfl ex86) ⟨rfl, rfl, trivial⟩ ?_
       obtain ⟨u87, eu87, h⟩ := b_bind h
       refine JO.s rfl (o_slice_h (t := (.int .i64)) rfl Try.underlying22 sz3 (chkP_some eu87).1 (chkP_some eu87).2) ⟨rfl, rfl, trivial⟩ ?_
       refine JO.s rfl (o_field_obj rfl fo28_3) ⟨rfl, trivial⟩ ?_
       refine JO.n11 rfl rfl (o_store rfl sz22 rfl rfl rfl) ⟨rfl, rfl, trivial⟩ ?_
       refine JO.nil ?_
       refine JN.blk_n ?_
       refine JN.then_n ?_
       exact JN.z ((), (x83.1, x83.2.1, x83.2.2.1, y80.2.2.2.1, y80.2.2.2.2.1, y80.2.2.2.2.2.1, List.take (Int.toNat x86) y80.2.2.2.2.2.2)) h (SE.fin [1, 2, 0] ⟨rfl, rfl, rfl, trivial⟩ rfl)
      ·
       replace h := b_ifn (v_f hb) h
       refine sr ?_
       refine JO.s rfl (o_field_obj rfl fo28_2) ⟨rfl, trivial⟩ ?_
       refine JO.front 2 rfl ?_
       refine JO.s11 rfl rfl rfl (o_load_obj rfl sz22 (fun _ => rfl) rfl) ⟨rfl, trivial⟩ ?_
       refine JO.s rfl (o_len rfl rfl Try.underlying22) ⟨rfl, trivial⟩ ?_
       refine JO.s rfl (o_gtr rfl) ⟨rfl, rfl, trivial⟩ ?_
       refine nt ?_
       refine JC.cond rfl (fun hb => ?_) (fun hb => ?_)
       ·
        replace h := b_if (d_t hb) h
        refine JC.region ?_
        refine JO.s rfl (o_field_obj rfl fo28_2) ⟨rfl, trivial⟩ ?_
        refine JO.s11 rfl rfl rfl (o_load_obj rfl sz22 (fun _ => rfl) rfl) ⟨rfl, trivial⟩ ?_
        refine JO.s rfl (o_field_obj rfl fo28_2) ⟨rfl, trivial⟩ ?_
        refine JO.s11 rfl rfl rfl (o_load_obj rfl sz22 (fun _ => rfl) rfl) ⟨rfl, trivial⟩ ?_
        refine JO.s rfl (o_len rfl rfl Try.underlying22) ⟨rfl, trivial⟩ ?_
        obtain ⟨x88, ex88, h⟩ := b_bind h
        refine JO.s rfl (o_sub rfl ex88) ⟨rfl, rfl, trivial⟩ ?_
        obtain ⟨u89, eu89, h⟩ := b_bind h
        refine JO.s rfl (o_slice_h (t := (.int .i64)) rfl Try.underlying22 sz3 (chkP_some eu89).1 (chkP_some eu89).2) ⟨rfl, rfl, trivial⟩ ?_
        refine JO.s rfl (o_field_obj rfl fo28_2) ⟨rfl, trivial⟩ ?_
        refine JO.n11 rfl rfl (o_store rfl sz22 rfl rfl rfl) ⟨rfl, rfl, trivial⟩ ?_
        refine JO.nil ?_
        refine JN.blk_n ?_
        refine JN.then_n ?_
        exact JN.z ((), (x83.1, x83.2.1, x83.2.2.1, y80.2.2.2.1, y80.2.2.2.2.1, List.take (Int.toNat x88) y80.2.2.2.2.2.1, y80.2.2.2.2.2.2)) h (SE.fin [1, 2, 0] ⟨rfl, rfl, rfl, trivial⟩ rfl)
       ·
        replace h := b_ifn (d_f hb) h
        refine JC.region ?_
        refine JO.s rfl (o_field_obj rfl fo28_3) ⟨rfl, trivial⟩ ?_
        refine JO.n11 rfl rfl (o_store rfl sz22 rfl rfl rfl) ⟨rfl, rfl, trivial⟩ ?_
        refine JO.nil ?_
        refine JN.blk_n ?_
        refine JN.then_n ?_
        refine JN.se (SE.objE (a := .agg (.pair (.rep (.slice tThing) y80.2.2.2.1) (.pair (.rep (.slice tDresser) y80.2.2.2.2.1) (.pair (.rep (.slice (.int .i64)) y80.2.2.2.2.2.1) (.eq (.slice none 0 0)))))) (a' := .agg (.pair (.rep (.slice tThing) y80.2.2.2.1) (.pair (.rep (.slice tDresser) y80.2.2.2.2.1) (.pair (.rep (.slice (.int .i64)) y80.2.2.2.2.2.1) (.rep (.slice (.int .i64)) []))))) (AE.agg (AE.pair AE.rfl (AE.pair AE.rfl (AE.pair AE.rfl (AE.ent .nil)))))) ?_
        exact JN.z ((), (x83.1, x83.2.1, x83.2.2.1, y80.2.2.2.1, y80.2.2.2.2.1, y80.2.2.2.2.2.1, [])) h (SE.fin [1, 2, 0] ⟨rfl, rfl, rfl, trivial⟩ rfl)
    ·
     replace h := b_ifn (d_f hb) h
     refine JC.exit ?_
     refine JN.then_x ?_
     refine JN.then_x ?_
     refine JN.blk_hit ?_
     refine JN.then_n ?_
     exact JN.z ((), (y80.2.2.2.1, y80.2.2.2.2.1, y80.2.2.2.2.2.1, y80.2.2.2.2.2.2, y80.1, y80.2.1, y80.2.2.1)) h (SE.fin [2, 0, 1] ⟨rfl, rfl, trivial⟩ rfl)
   ·
    refine sr ?_
    refine JO.front 1 rfl ?_
    refine JO.s11 rfl rfl rfl (o_load_obj rfl sz28 (nfn) rfl) ⟨rfl, trivial⟩ ?_
    refine JO.front 1 rfl ?_
    refine JO.n11 rfl rfl (o_store rfl sz28 trivial rfl rfl) ⟨rfl, rfl, trivial⟩ ?_
    refine nt ?_
    refine JC.ret ?_
    refine JN.se (SE.objE (a := .agg (.pair (.rep (.slice tThing) x78.1) (.pair (.rep (.slice tDresser) x78.2.1) (.pair (.rep (.slice (.int .i64)) x78.2.2.1) (.rep (.slice (.int .i64)) x78.2.2.2.1))))) (a' := .rep tChange (x78.1, x78.2.1, x78.2.2.1, x78.2.2.2.1)) (AE.ent (.agg (.pair .rep (.pair .rep (.pair .rep .rep)))))) ?_
    refine JN.se (SE.fin (Γ' := [(2, _)]) [2, 0, 1] ⟨rfl, trivial⟩ rfl) ?_
    obtain rfl := Option.some.inj h
    exact JN.ret () [.rep tChange (x78.1, x78.2.1, x78.2.2.1, x78.2.2.2.1)] 1 ⟨⟨_, _, _, _, _, rfl, (.tail _ (.head _)), sz28, (nfn), rfl⟩, trivial⟩ rfl


def kit_Lots_Mixed_l1 (k : Nat) (a1 : Int) : Nat → ((List Int) × Int × Int × (List Int) × Int) → Option ((List Int) × (List Int) × Int × Int)
 | 0, _ => none
 | n + 1, y3 =>
  if y3.2.2.2.2 < a1 then ((kit_Lots_Upto k (y3.1, y3.2.1, y3.2.2.1) y3.2.2.2.2).bind fun r5 =>
  (chkP (okLen (List.length y3.2.2.2.1 + List.length [y3.2.2.2.2]))).bind fun _ =>
  (geti (y3.2.2.2.1 ++ [y3.2.2.2.2]) r5.1).bind fun x8 =>
  (geti (y3.2.2.2.1 ++ [y3.2.2.2.2]) y3.2.2.2.2).bind fun x9 =>
  (geti (List.set (y3.2.2.2.1 ++ [y3.2.2.2.2]) (Int.toNat y3.2.2.2.2) x8) r5.1).bind fun x10 =>
  (ck (y3.2.2.2.2 + (1 : Int))).bind fun x11 =>
  kit_Lots_Mixed_l1 k a1 n (r5.2.1, r5.2.2.1, r5.2.2.2, List.set (List.set (y3.2.2.2.1 ++ [y3.2.2.2.2]) (Int.toNat y3.2.2.2.2) x8) (Int.toNat r5.1) y3.2.2.2.2, x11)) else (some (y3.2.2.2.1, y3.1, y3.2.1, y3.2.2.1))
def kit_Lots_Mixed (k : Nat) (a0 : dLots) (a1 : Int) : Option ((List Int) × dLots) :=
 ((kit_Lots_Mixed_l1 k a1 k (a0.1, a0.2.1, a0.2.2, ([] : (List Int)), (0 : Int))) : Option ((List Int) × (List Int) × Int × Int)).bind fun x1 =>
 some (x1.1, (x1.2.1, x1.2.2.1, x1.2.2.2))

theorem kit_Lots_Mixed_ok (k : Nat) (a0 : dLots) (b_a0 : Nat) (a1 : Int) (r : (List Int) × dLots) (h : kit_Lots_Mixed k a0 a1 = some r) :
 Ctr Try.prog 63 [.eq (.pointer (some ⟨b_a0, 0, none⟩)), .eq (.int .i64 a1)] [.obj b_a0 93 (.agg (.pair (.rep (.slice (.int .i64)) a0.1) (.pair (.eq (.int .i64 a0.2.1)) (.eq (.int .u64 a0.2.2)))))] (fun _ : Unit => (resA [.rep (.slice (.int .i64)) r.1], [.obj b_a0 93 (.agg (.pair (.rep (.slice (.int .i64)) r.2.1) (.pair (.eq (.int .i64 r.2.2.1)) (.eq (.int .u64 r.2.2.2)))))])) := by
 unfold kit_Lots_Mixed at h
 replace h := b_top h
 refine Ctr.of 32 Try.func63 rfl Try.ntmps63 rfl fun S w0 => ?_
 refine sr ?_
 refine cq ?_
 refine nt ?_
 refine sr ?_
 refine cq ?_
 refine nt ?_
 refine JC.cutB (Z := Value) (α := (List Int) × (List Int) × Int × Int) (fun z2 x1 => [(5, .eq z2)]) (fun z2 x1 => [.sl z2 3 (.int .i64) x1.1, .obj b_a0 93 (.agg (.pair (.rep (.slice (.int .i64)) x1.2.1) (.pair (.eq (.int .i64 x1.2.2.1)) (.eq (.int .u64 x1.2.2.2)))))]) h (fun K h => ?_) (fun z2 x1 h => ?_)
 ·
  refine sr ?_
  refine cq ?_
  refine nt ?_
  refine JC.block ?_
  refine JC.se (SE.nil 3 (.int .i64)) ?_
  refine JC.loopB (Z := Value) (α := (List Int) × Int × Int × (List Int) × Int) (fun z4 y3 => [(0, .eq (.pointer (some ⟨b_a0, 0, none⟩))), (1, .eq (.int .i64 a1)), (5, .eq z4), (6, .eq (.int .i64 y3.2.2.2.2))]) (fun z4 y3 => [.obj b_a0 93 (.agg (.pair (.rep (.slice (.int .i64)) y3.1) (.pair (.eq (.int .i64 y3.2.1)) (.eq (.int .u64 y3.2.2.1))))), .sl z4 3 (.int .i64) y3.2.2.2.1]) (kit_Lots_Mixed_l1 k a1) k (.slice none 0 0) (a0.1, a0.2.1, a0.2.2, ([] : (List Int)), (0 : Int)) (fun _ => rfl) h (SE.fin [1, 0] ⟨rfl, rfl, rfl, rfl, trivial⟩ rfl) (fun n z4 y3 h => ?_)
  unfold kit_Lots_Mixed_l1 at h
  refine JC.seq ?_
  refine sr ?_
  iterate 2 refine mq ?_
  refine JO.s rfl (o_lss rfl) ⟨rfl, rfl, trivial⟩ ?_
  refine nt ?_
  refine JC.cond rfl (fun hb => ?_) (fun hb => ?_)
  ·
   replace h := b_if (d_t hb) h
   refine JC.skip ?_
   refine JN.then_n ?_
   show JC _ _ _ _ _
   refine JC.seq ?_
   refine JC.block ?_
   refine sr ?_
   iterate 2 refine mq ?_
   obtain ⟨r5, er5, h⟩ := b_bind h
   have cr5 := kit_Lots_Upto_ok k (y3.1, y3.2.1, y3.2.2.1) b_a0 y3.2.2.2.2 r5 er5
   refine JO.s11 rfl rfl rfl (o_call [.tmp 13, .tmp 14] rfl rfl en32 rfl cr5) ⟨rfl, rfl, trivial⟩ ?_
   refine aq ?_
   refine nt ?_
   refine sr ?_
   iterate 2 refine mq ?_
   refine JO.s rfl (o_litB (t := (.int .i64)) [(.tmp 17, _)] [y3.2.2.2.2] rfl rfl sl22 (.cons rfl .int .nil) rfl rfl) ⟨rfl, trivial⟩ ?_
   obtain ⟨u6, eu6, h⟩ := b_bind h
   refine JO.front 1 rfl ?_
   refine JO.s1x rfl rfl rfl (o_append rfl rfl sl22 (chkP_some eu6)) ⟨rfl, rfl, trivial⟩ fun v7 => ?_
   refine aq ?_
   refine nt ?_
   refine JC.region ?_
   iterate 6 refine mq ?_
   obtain ⟨x8, ex8, h⟩ := b_bind h
   refine JO.s11 rfl rfl rfl (o_index_own (t := (.int .i64)) rfl Try.underlying22 sz3 ex8) ⟨rfl, rfl, trivial⟩ ?_
   refine JO.s11 rfl rfl rfl (o_load_el (i := Int.toNat r5.1) (off := 0) rfl sz3 (fun _ => rfl) rfl (geti_some ex8).2.2 rfl) ⟨rfl, trivial⟩ ?_
   refine mq ?_
   obtain ⟨x9, ex9, h⟩ := b_bind h
   refine JO.s11 rfl rfl rfl (o_index_own (t := (.int .i64)) rfl Try.underlying22 sz3 ex9) ⟨rfl, rfl, trivial⟩ ?_
   refine JO.n11 rfl rfl (o_store_elW (i := Int.toNat y3.2.2.2.2) rfl sz3 rfl (geti_lt ex9) rfl .int rfl) ⟨rfl, rfl, trivial⟩ ?_
   obtain ⟨x10, ex10, h⟩ := b_bind h
   refine JO.s11 rfl rfl rfl (o_index_own (t := (.int .i64)) rfl Try.underlying22 sz3 ex10) ⟨rfl, rfl, trivial⟩ ?_
   refine JO.n11 rfl rfl (o_store_elW (i := Int.toNat r5.1) rfl sz3 rfl (geti_lt ex10) rfl .int rfl) ⟨rfl, rfl, trivial⟩ ?_
   refine JO.nil ?_
   refine JN.blk_n ?_
   refine JN.then_n ?_
   show JC _ _ _ _ _
   refine JC.region ?_
   refine mq ?_
   obtain ⟨x11, ex11, h⟩ := b_bind h
   refine JO.s rfl (o_add rfl ex11) ⟨rfl, rfl, trivial⟩ ?_
   refine aq ?_
   refine JO.nil ?_
   refine JN.then_n ?_
   exact JN.z (v7, (r5.2.1, r5.2.2.1, r5.2.2.2, List.set (List.set (y3.2.2.2.1 ++ [y3.2.2.2.2]) (Int.toNat y3.2.2.2.2) x8) (Int.toNat r5.1) y3.2.2.2.2, x11)) h (SE.fin [1, 0] ⟨rfl, rfl, rfl, rfl, trivial⟩ rfl)
  ·
   replace h := b_ifn (d_f hb) h
   refine JC.exit ?_
   refine JN.then_x ?_
   refine JN.then_x ?_
   refine JN.blk_hit ?_
   refine JN.then_n ?_
   exact JN.z (z4, (y3.2.2.2.1, y3.1, y3.2.1, y3.2.2.1)) h (SE.fin [1, 0] ⟨rfl, trivial⟩ rfl)
 ·
  refine sr ?_
  refine mq ?_
  refine aq ?_
  refine nt ?_
  refine JC.ret ?_
  refine JN.se (SE.frz [4, 5, 31] ⟨rfl, rfl, rfl, trivial⟩) ?_
  obtain rfl := Option.some.inj h
  exact JN.ret () [_] 1 ⟨rfl, trivial⟩ rfl


def kit_PlanOf_l4 (k : Nat) (y6 : (List Int) × Int × Int × (List dStep)) (y21 : Bool × Int) : Nat → (Bool × Int) → Option Bool
 | 0, _ => none
 | n + 1, y29 =>
  if y29.2 < (y6.2.2.2.length : Int) then (((if y29.1 = true then (some true) else ((geti y6.2.2.2 y29.2).bind fun x33 =>
  some (decide (x33.1 = y21.2)))) : Option (Bool)).bind fun x31 =>
  (ck (y29.2 + (1 : Int))).bind fun x34 =>
  kit_PlanOf_l4 k y6 y21 n (x31, x34)) else (some y29.1)

def kit_PlanOf_l3 (k : Nat) (a1 : dChange) (r2 : (List dTask)) (r3 : (List Int) × dLots) (y6 : (List Int) × Int × Int × (List dStep)) (y12 : Int × Int) (x17 : dTask) : Nat → (Bool × Int) → Option Bool
 | 0, _ => none
 | n + 1, y21 =>
  if y21.2 < (r2.length : Int) then ((((geti r2 y21.2).bind fun x25 =>
  ((kit_PlanOf_l4 k y6 y21 k (false, (0 : Int))) : Option (Bool)).bind fun x27 =>
  (geti r3.1 y12.2).bind fun x35 =>
  if y21.2 = x35 then (((if y21.1 = true then (some (!x27)) else (some false)) : Option (Bool)).bind fun x36 =>
  some x36) else (((if x25.1 = x17.1 then (if ¬ (x25.2 = true) then (some true) else (if ¬ (x25.2 = true) then ((geti a1.1 x17.1).bind fun x40 =>
  (kit_At k x40.1 x25.1).bind fun r41 =>
  if (0 : Int) ≤ r41 then (some true) else (if x17.2 = true then ((geti a1.1 x25.1).bind fun x42 =>
  (kit_At k x42.1 x17.1).bind fun r43 =>
  some (decide ((0 : Int) ≤ r43))) else (some false))) else (if x17.2 = true then ((geti a1.1 x25.1).bind fun x44 =>
  (kit_At k x44.1 x17.1).bind fun r45 =>
  some (decide ((0 : Int) ≤ r45))) else (some false)))) else (if ¬ (x25.2 = true) then ((geti a1.1 x17.1).bind fun x46 =>
  (kit_At k x46.1 x25.1).bind fun r47 =>
  if (0 : Int) ≤ r47 then (some true) else (if x17.2 = true then ((geti a1.1 x25.1).bind fun x48 =>
  (kit_At k x48.1 x17.1).bind fun r49 =>
  some (decide ((0 : Int) ≤ r49))) else (some false))) else (if x17.2 = true then ((geti a1.1 x25.1).bind fun x50 =>
  (kit_At k x50.1 x17.1).bind fun r51 =>
  some (decide ((0 : Int) ≤ r51))) else (some false)))) : Option (Bool)).bind fun x38 =>
  if y21.1 = true then (if x27 = true then (some true) else (some (!x38))) else (some false))) : Option (Bool)).bind fun x23 =>
  (ck (y21.2 + (1 : Int))).bind fun x52 =>
  kit_PlanOf_l3 k a1 r2 r3 y6 y12 x17 n (x23, x52)) else (some y21.1)

def kit_PlanOf_l2 (k : Nat) (a1 : dChange) (r2 : (List dTask)) (r3 : (List Int) × dLots) (y6 : (List Int) × Int × Int × (List dStep)) : Nat → (Int × Int) → Option Int
 | 0, _ => none
 | n + 1, y12 =>
  if y12.2 < (r3.1.length : Int) then ((((geti r3.1 y12.2).bind fun x16 =>
  (geti r2 x16).bind fun x17 =>
  ((kit_PlanOf_l3 k a1 r2 r3 y6 y12 x17 k (true, (0 : Int))) : Option (Bool)).bind fun x19 =>
  ((if x19 = true then (some (decide (y12.1 < (0 : Int)))) else (some false)) : Option (Bool)).bind fun x53 =>
  if x53 = true then ((geti r3.1 y12.2).bind fun x55 =>
  some x55) else (some y12.1)) : Option (Int)).bind fun x14 =>
  (ck (y12.2 + (1 : Int))).bind fun x56 =>
  kit_PlanOf_l2 k a1 r2 r3 y6 n (x14, x56)) else (some y12.1)

def kit_PlanOf_l5 (k : Nat) (a1 : dChange) (r2 : (List dTask)) (x10 : Int) : Nat → (Int × Int) → Option Int
 | 0, _ => none
 | n + 1, y61 =>
  if y61.2 < (a1.2.1.length : Int) then ((geti a1.2.1 y61.1).bind fun x63 =>
  (geti r2 x10).bind fun x64 =>
  (geti a1.1 x64.1).bind fun x65 =>
  (((geti r2 x10).bind fun x69 =>
  (kit_At k x63.1 x69.1).bind fun r70 =>
  if (0 : Int) ≤ r70 then (if x65.2.2.2.1 = (0 : Int) then (some true) else (if x63.2.1 = (0 : Int) then (some true) else (some (decide (x65.2.2.2.1 = x63.2.1))))) else (some false)) : Option (Bool)).bind fun x67 =>
  if x67 = true then (some y61.1) else ((ck (y61.1 + (1 : Int))).bind fun x71 =>
  (chkP ((a1.2.1.length : Int) ≠ 0)).bind fun _ =>
  (ck (y61.2 + (1 : Int))).bind fun x73 =>
  kit_PlanOf_l5 k a1 r2 x10 n (Int.tmod x71 (a1.2.1.length : Int), x73))) else (some y61.1)

def kit_PlanOf_l1 (k : Nat) (a1 : dChange) (r2 : (List dTask)) (r3 : (List Int) × dLots) : Nat → ((List Int) × Int × Int × (List dStep)) → Option (Except ((List dStep) × dLots) ((List dStep) × (List Int) × Int × Int))
 | 0, _ => none
 | n + 1, y6 =>
  if (y6.2.2.2.length : Int) < (r2.length : Int) then (bE (α := (List Int) × Int × Int × (List dStep)) (((kit_PlanOf_l2 k a1 r2 r3 y6 k ((-1 : Int), (0 : Int))) : Option (Int)).bind fun x10 =>
  if x10 < (0 : Int) then (some (.error (y6.2.2.2, (y6.1, y6.2.1, y6.2.2.1)))) else ((ck ((a1.2.1.length : Int) - (1 : Int))).bind fun x57 =>
  (kit_Lots_Upto k (y6.1, y6.2.1, y6.2.2.1) x57).bind fun r58 =>
  ((kit_PlanOf_l5 k a1 r2 x10 k (r58.1, (0 : Int))) : Option (Int)).bind fun x59 =>
  (chkP (okLen (List.length y6.2.2.2 + List.length [(x10, x59)]))).bind fun _ =>
  some (.ok (r58.2.1, r58.2.2.1, r58.2.2.2, y6.2.2.2 ++ [(x10, x59)])))) (fun e => some (.error e)) fun x8 =>
  kit_PlanOf_l1 k a1 r2 r3 n (x8.1, x8.2.1, x8.2.2.1, x8.2.2.2)) else (some (.ok (y6.2.2.2, y6.1, y6.2.1, y6.2.2.1)))
def kit_PlanOf (k : Nat) (a0 : dLots) (a1 : dChange) : Option ((List dStep) × dLots) :=
 (kit_TasksOf k a1).bind fun r2 =>
 (kit_Lots_Mixed k (a0.1, a0.2.1, a0.2.2) (r2.length : Int)).bind fun r3 =>
 bE (α := (List dStep) × (List Int) × Int × Int) (kit_PlanOf_l1 k a1 r2 r3 k (r3.2.1, r3.2.2.1, r3.2.2.2, ([] : (List dStep)))) (some) fun x4 =>
 some (x4.1, (x4.2.1, x4.2.2.1, x4.2.2.2))

theorem kit_PlanOf_ok (k : Nat) (a0 : dLots) (b_a0 : Nat) (a1 : dChange) (r : (List dStep) × dLots) (h : kit_PlanOf k a0 a1 = some r) :
 Ctr Try.prog 19 [.eq (.pointer (some ⟨b_a0, 0, none⟩)), .rep tChange a1] [.obj b_a0 93 (.agg (.pair (.rep (.slice (.int .i64)) a0.1) (.pair (.eq (.int .i64 a0.2.1)) (.eq (.int .u64 a0.2.2)))))] (fun _ : Unit => (resA [.rep (.slice tStep) r.1], [.obj b_a0 93 (.agg (.pair (.rep (.slice (.int .i64)) r.2.1) (.pair (.eq (.int .i64 r.2.2.1)) (.eq (.int .u64 r.2.2.2)))))])) := by
 unfold kit_PlanOf at h
 replace h := b_top h
 refine Ctr.of 212 Try.func19 rfl Try.ntmps19 rfl fun S w0 => ?_
 refine sr ?_
 refine JO.s01 rfl rfl rfl (o_box rfl rfl) ⟨rfl, trivial⟩ fun b1 => ?_
 refine cq ?_
 refine nt ?_
 refine sr ?_
 refine JO.s11 rfl rfl rfl (o_load_obj rfl sz28 (nfn) rfl) ⟨rfl, trivial⟩ ?_
 obtain ⟨r2, er2, h⟩ := b_bind h
 have cr2 := kit_TasksOf_ok k a1 r2 er2
 refine JO.s rfl (o_call [.tmp 21] rfl rfl en23 rfl cr2) ⟨rfl, trivial⟩ ?_
 refine aq ?_
 refine nt ?_
 refine sr ?_
 refine cq ?_
 refine nt ?_
 refine sr ?_
 iterate 2 refine mq ?_
 refine JO.s rfl (o_len rfl rfl Try.underlying38) ⟨rfl, trivial⟩ ?_
 obtain ⟨r3, er3, h⟩ := b_bind h
 have cr3 := kit_Lots_Mixed_ok k (a0.1, a0.2.1, a0.2.2) b_a0 (r2.length : Int) r3 er3
 refine JO.front 1 rfl ?_
 refine JO.s11 rfl rfl rfl (o_call [.tmp 23, .tmp 25] rfl rfl en63 rfl cr3) ⟨rfl, rfl, trivial⟩ ?_
 refine aq ?_
 refine nt ?_
 refine JC.cutE (Z := Value) (α := (List dStep) × (List Int) × Int × Int) (fun z5 x4 => [(6, .eq z5)]) (fun z5 x4 => [.sl z5 43 tStep x4.1, .obj b_a0 93 (.agg (.pair (.rep (.slice (.int .i64)) x4.2.1) (.pair (.eq (.int .i64 x4.2.2.1)) (.eq (.int .u64 x4.2.2.2)))))]) (fun e => e = r) h (fun e h => Option.some.inj h) (fun K hR h => ?_) (fun z5 x4 h => ?_)
 ·
  refine JC.block ?_
  refine JC.se (SE.nil 43 tStep) ?_
  refine JC.loopB (Z := Value) (α := (List Int) × Int × Int × (List dStep)) (fun z7 y6 => [(0, .eq (.pointer (some ⟨b_a0, 0, none⟩))), (3, .eq (.pointer (some ⟨b1, 0, none⟩))), (5, .rep (.slice tTask) r2), (6, .eq z7), (7, .rep (.slice (.int .i64)) r3.1)]) (fun z7 y6 => [.obj b_a0 93 (.agg (.pair (.rep (.slice (.int .i64)) y6.1) (.pair (.eq (.int .i64 y6.2.1)) (.eq (.int .u64 y6.2.2.1))))), .obj b1 28 (.rep tChange a1), .sl z7 43 tStep y6.2.2.2]) (kit_PlanOf_l1 k a1 r2 r3) k (.slice none 0 0) (r3.2.1, r3.2.2.1, r3.2.2.2, ([] : (List dStep))) (fun _ => rfl) h (SE.fin [1, 2, 0] ⟨rfl, rfl, rfl, rfl, rfl, trivial⟩ rfl) (fun n z7 y6 h => ?_)
  unfold kit_PlanOf_l1 at h
  refine JC.seq ?_
  refine sr ?_
  refine mq ?_
  refine JO.front 2 rfl ?_
  refine JO.s11 rfl rfl rfl (o_len_own rfl rfl Try.underlying30) ⟨rfl, trivial⟩ ?_
  refine mq ?_
  refine JO.s rfl (o_len rfl rfl Try.underlying38) ⟨rfl, trivial⟩ ?_
  refine JO.s rfl (o_lss rfl) ⟨rfl, rfl, trivial⟩ ?_
  refine nt ?_
  refine JC.cond rfl (fun hb => ?_) (fun hb => ?_)
  ·
   replace h := b_if (d_t hb) h
   refine JC.skip ?_
   refine JN.then_n ?_
   show JC _ _ _ _ _
   refine JC.cutEN (Z := Value) (α := (List Int) × Int × Int × (List dStep)) (fun z9 x8 => [(0, .eq (.pointer (some ⟨b_a0, 0, none⟩))), (3, .eq (.pointer (some ⟨b1, 0, none⟩))), (5, .rep (.slice tTask) r2), (6, .eq z9), (7, .rep (.slice (.int .i64)) r3.1)]) (fun z9 x8 => [.obj b_a0 93 (.agg (.pair (.rep (.slice (.int .i64)) x8.1) (.pair (.eq (.int .i64 x8.2.1)) (.eq (.int .u64 x8.2.2.1))))), .obj b1 28 (.rep tChange a1), .sl z9 43 tStep x8.2.2.2]) (fun e => e = r) h (fun e h => hR e h) (fun K hR h => ?_) (fun z9 x8 h => ?_)
   ·
    refine JC.block ?_
    refine sr ?_
    refine cq ?_
    refine nt ?_
    refine JC.cutB (Z := Unit) (α := Int) (fun z11 x10 => [(0, .eq (.pointer (some ⟨b_a0, 0, none⟩))), (3, .eq (.pointer (some ⟨b1, 0, none⟩))), (5, .rep (.slice tTask) r2), (6, .eq z7), (7, .rep (.slice (.int .i64)) r3.1), (8, .eq (.int .i64 x10))]) (fun z11 x10 => [.obj b_a0 93 (.agg (.pair (.rep (.slice (.int .i64)) y6.1) (.pair (.eq (.int .i64 y6.2.1)) (.eq (.int .u64 y6.2.2.1))))), .obj b1 28 (.rep tChange a1), .sl z7 43 tStep y6.2.2.2]) h (fun K h => ?_) (fun z11 x10 h => ?_)
    ·
     refine sr ?_
     refine cq ?_
     refine nt ?_
     refine JC.block ?_
     refine JC.loopB (Z := Unit) (α := Int × Int) (fun z13 y12 => [(0, .eq (.pointer (some ⟨b_a0, 0, none⟩))), (3, .eq (.pointer (some ⟨b1, 0, none⟩))), (5, .rep (.slice tTask) r2), (6, .eq z7), (7, .rep (.slice (.int .i64)) r3.1), (8, .eq (.int .i64 y12.1)), (9, .eq (.int .i64 y12.2))]) (fun z13 y12 => [.obj b_a0 93 (.agg (.pair (.rep (.slice (.int .i64)) y6.1) (.pair (.eq (.int .i64 y6.2.1)) (.eq (.int .u64 y6.2.2.1))))), .obj b1 28 (.rep tChange a1), .sl z7 43 tStep y6.2.2.2]) (kit_PlanOf_l2 k a1 r2 r3 y6) k () ((-1 : Int), (0 : Int)) (fun _ => rfl) h (SE.fin [1, 2, 0] ⟨rfl, rfl, rfl, rfl, rfl, rfl, rfl, trivial⟩ rfl) (fun n z13 y12 h => ?_)
     unfold kit_PlanOf_l2 at h
     refine JC.seq ?_
     refine sr ?_
     iterate 2 refine mq ?_
     refine JO.s rfl (o_len rfl rfl Try.underlying22) ⟨rfl, trivial⟩ ?_
     refine JO.s rfl (o_lss rfl) ⟨rfl, rfl, trivial⟩ ?_
     refine nt ?_
     refine JC.cond rfl (fun hb => ?_) (fun hb => ?_)
     ·
      replace h := b_if (d_t hb) h
      refine JC.skip ?_
      refine JN.then_n ?_
      show JC _ _ _ _ _
      refine JC.cutB (Z := Unit) (α := Int) (fun z15 x14 => [(0, .eq (.pointer (some ⟨b_a0, 0, none⟩))), (3, .eq (.pointer (some ⟨b1, 0, none⟩))), (5, .rep (.slice tTask) r2), (6, .eq z7), (7, .rep (.slice (.int .i64)) r3.1), (8, .eq (.int .i64 x14)), (9, .eq (.int .i64 y12.2))]) (fun z15 x14 => [.obj b_a0 93 (.agg (.pair (.rep (.slice (.int .i64)) y6.1) (.pair (.eq (.int .i64 y6.2.1)) (.eq (.int .u64 y6.2.2.1))))), .obj b1 28 (.rep tChange a1), .sl z7 43 tStep y6.2.2.2]) h (fun K h => ?_) (fun z15 x14 h => ?_)
      ·
       refine JC.block ?_
       refine sr ?_
       iterate 3 refine mq ?_
       obtain ⟨x16, ex16, h⟩ := b_bind h
       refine JO.s rfl (o_index (t := (.int .i64)) rfl Try.underlying22 sz3 ex16) ⟨rfl, rfl, trivial⟩ ?_
       refine JO.s rfl (o_load_at (t := (.int .i64)) rfl sz3 rfl) ⟨rfl, trivial⟩ ?_
       obtain ⟨x17, ex17, h⟩ := b_bind h
       refine JO.s rfl (o_index (t := tTask) rfl Try.underlying38 sz41 ex17) ⟨rfl, rfl, trivial⟩ ?_
       refine JO.s rfl (o_load_at (t := tTask) rfl sz41 rfl) ⟨rfl, trivial⟩ ?_
       refine JO.s01 rfl rfl rfl (o_alloc rfl za41 al41) trivial fun b18 => ?_
       refine JO.n11 rfl rfl (o_store rfl sz41 rfl rfl rfl) ⟨rfl, rfl, trivial⟩ ?_
       refine nt ?_
       refine sr ?_
       refine cq ?_
       refine nt ?_
       refine JC.cutB (Z := Unit) (α := Bool) (fun z20 x19 => [(0, .eq (.pointer (some ⟨b_a0, 0, none⟩))), (3, .eq (.pointer (some ⟨b1, 0, none⟩))), (5, .rep (.slice tTask) r2), (6, .eq z7), (7, .rep (.slice (.int .i64)) r3.1), (8, .eq (.int .i64 y12.1)), (9, .eq (.int .i64 y12.2)), (11, .eq (.bool x19))]) (fun z20 x19 => [.obj b_a0 93 (.agg (.pair (.rep (.slice (.int .i64)) y6.1) (.pair (.eq (.int .i64 y6.2.1)) (.eq (.int .u64 y6.2.2.1))))), .obj b1 28 (.rep tChange a1), .sl z7 43 tStep y6.2.2.2]) h (fun K h => ?_) (fun z20 x19 h => ?_)
       ·
        refine sr ?_
        refine cq ?_
        refine nt ?_
        refine JC.block ?_
        refine JC.loopB (Z := Unit) (α := Bool × Int) (fun z22 y21 => [(0, .eq (.pointer (some ⟨b_a0, 0, none⟩))), (3, .eq (.pointer (some ⟨b1, 0, none⟩))), (5, .rep (.slice tTask) r2), (6, .eq z7), (7, .rep (.slice (.int .i64)) r3.1), (8, .eq (.int .i64 y12.1)), (9, .eq (.int .i64 y12.2)), (10, .eq (.pointer (some ⟨b18, 0, none⟩))), (11, .eq (.bool y21.1)), (12, .eq (.int .i64 y21.2))]) (fun z22 y21 => [.obj b_a0 93 (.agg (.pair (.rep (.slice (.int .i64)) y6.1) (.pair (.eq (.int .i64 y6.2.1)) (.eq (.int .u64 y6.2.2.1))))), .obj b1 28 (.rep tChange a1), .sl z7 43 tStep y6.2.2.2, .obj b18 41 (.rep tTask x17)]) (kit_PlanOf_l3 k a1 r2 r3 y6 y12 x17) k () (true, (0 : Int)) (fun _ => rfl) h (SE.fin [1, 2, 3, 0] ⟨rfl, rfl, rfl, rfl, rfl, rfl, rfl, rfl, rfl, rfl, trivial⟩ rfl) (fun n z22 y21 h => ?_)
        unfold kit_PlanOf_l3 at h
        refine JC.seq ?_
        refine sr ?_
        iterate 2 refine mq ?_
        refine JO.s rfl (o_len rfl rfl Try.underlying38) ⟨rfl, trivial⟩ ?_
        refine JO.s rfl (o_lss rfl) ⟨rfl, rfl, trivial⟩ ?_
        refine nt ?_
        refine JC.cond rfl (fun hb => ?_) (fun hb => ?_)
        ·
         replace h := b_if (d_t hb) h
         refine JC.skip ?_
         refine JN.then_n ?_
         show JC _ _ _ _ _
         refine JC.cutB (Z := Unit) (α := Bool) (fun z24 x23 => [(0, .eq (.pointer (some ⟨b_a0, 0, none⟩))), (3, .eq (.pointer (some ⟨b1, 0, none⟩))), (5, .rep (.slice tTask) r2), (6, .eq z7), (7, .rep (.slice (.int .i64)) r3.1), (8, .eq (.int .i64 y12.1)), (9, .eq (.int .i64 y12.2)), (10, .eq (.pointer (some ⟨b18, 0, none⟩))), (11, .eq (.bool x23)), (12, .eq (.int .i64 y21.2))]) (fun z24 x23 => [.obj b_a0 93 (.agg (.pair (.rep (.slice (.int .i64)) y6.1) (.pair (.eq (.int .i64 y6.2.1)) (.eq (.int .u64 y6.2.2.1))))), .obj b1 28 (.rep tChange a1), .sl z7 43 tStep y6.2.2.2, .obj b18 41 (.rep tTask x17)]) h (fun K h => ?_) (fun z24 x23 h => ?_)
         ·
          refine JC.block ?_
          refine sr ?_
          iterate 2 refine mq ?_
          obtain ⟨x25, ex25, h⟩ := b_bind h
          refine JO.s rfl (o_index (t := tTask) rfl Try.underlying38 sz41 ex25) ⟨rfl, rfl, trivial⟩ ?_
          refine JO.s rfl (o_load_at (t := tTask) rfl sz41 rfl) ⟨rfl, trivial⟩ ?_
          refine JO.s01 rfl rfl rfl (o_alloc rfl za41 al41) trivial fun b26 => ?_
          refine JO.n11 rfl rfl (o_store rfl sz41 rfl rfl rfl) ⟨rfl, rfl, trivial⟩ ?_
          refine nt ?_
          refine sr ?_
          refine cq ?_
          refine nt ?_
          refine JC.cutB (Z := Unit) (α := Bool) (fun z28 x27 => [(0, .eq (.pointer (some ⟨b_a0, 0, none⟩))), (3, .eq (.pointer (some ⟨b1, 0, none⟩))), (5, .rep (.slice tTask) r2), (6, .eq z7), (7, .rep (.slice (.int .i64)) r3.1), (8, .eq (.int .i64 y12.1)), (9, .eq (.int .i64 y12.2)), (10, .eq (.pointer (some ⟨b18, 0, none⟩))), (11, .eq (.bool y21.1)), (12, .eq (.int .i64 y21.2)), (13, .eq (.pointer (some ⟨b26, 0, none⟩))), (14, .eq (.bool x27))]) (fun z28 x27 => [.obj b_a0 93 (.agg (.pair (.rep (.slice (.int .i64)) y6.1) (.pair (.eq (.int .i64 y6.2.1)) (.eq (.int .u64 y6.2.2.1))))), .obj b1 28 (.rep tChange a1), .sl z7 43 tStep y6.2.2.2, .obj b18 41 (.rep tTask x17), .obj b26 41 (.rep tTask x25)]) h (fun K h => ?_) (fun z28 x27 h => ?_)
          ·
           refine sr ?_
           refine cq ?_
           refine nt ?_
           refine JC.block ?_
           refine JC.loopB (Z := Unit) (α := Bool × Int) (fun z30 y29 => [(0, .eq (.pointer (some ⟨b_a0, 0, none⟩))), (3, .eq (.pointer (some ⟨b1, 0, none⟩))), (5, .rep (.slice tTask) r2), (6, .eq z7), (7, .rep (.slice (.int .i64)) r3.1), (8, .eq (.int .i64 y12.1)), (9, .eq (.int .i64 y12.2)), (10, .eq (.pointer (some ⟨b18, 0, none⟩))), (11, .eq (.bool y21.1)), (12, .eq (.int .i64 y21.2)), (13, .eq (.pointer (some ⟨b26, 0, none⟩))), (14, .eq (.bool y29.1)), (15, .eq (.int .i64 y29.2))]) (fun z30 y29 => [.obj b_a0 93 (.agg (.pair (.rep (.slice (.int .i64)) y6.1) (.pair (.eq (.int .i64 y6.2.1)) (.eq (.int .u64 y6.2.2.1))))), .obj b1 28 (.rep tChange a1), .sl z7 43 tStep y6.2.2.2, .obj b18 41 (.rep tTask x17), .obj b26 41 (.rep tTask x25)]) (kit_PlanOf_l4 k y6 y21) k () (false, (0 : Int)) (fun _ => rfl) h (SE.fin [1, 2, 3, 4, 0] ⟨rfl, rfl, rfl, rfl, rfl, rfl, rfl, rfl, rfl, rfl, rfl, rfl, rfl, trivial⟩ rfl) (fun n z30 y29 h => ?_)
           unfold kit_PlanOf_l4 at h
           refine JC.seq ?_
           refine sr ?_
           iterate 2 refine mq ?_
           refine JO.front 2 rfl ?_
           refine JO.s11 rfl rfl rfl (o_len_own rfl rfl Try.underlying30) ⟨rfl, trivial⟩ ?_
           refine JO.s rfl (o_lss rfl) ⟨rfl, rfl, trivial⟩ ?_
           refine nt ?_
           refine JC.cond rfl (fun hb => ?_) (fun hb => ?_)
           ·
            replace h := b_if (d_t hb) h
            refine JC.skip ?_
            refine JN.then_n ?_
            show JC _ _ _ _ _
            refine JC.cutB (Z := Unit) (α := Bool) (fun z32 x31 => [(0, .eq (.pointer (some ⟨b_a0, 0, none⟩))), (3, .eq (.pointer (some ⟨b1, 0, none⟩))), (5, .rep (.slice tTask) r2), (6, .eq z7), (7, .rep (.slice (.int .i64)) r3.1), (8, .eq (.int .i64 y12.1)), (9, .eq (.int .i64 y12.2)), (10, .eq (.pointer (some ⟨b18, 0, none⟩))), (11, .eq (.bool y21.1)), (12, .eq (.int .i64 y21.2)), (13, .eq (.pointer (some ⟨b26, 0, none⟩))), (14, .eq (.bool x31)), (15, .eq (.int .i64 y29.2))]) (fun z32 x31 => [.obj b_a0 93 (.agg (.pair (.rep (.slice (.int .i64)) y6.1) (.pair (.eq (.int .i64 y6.2.1)) (.eq (.int .u64 y6.2.2.1))))), .obj b1 28 (.rep tChange a1), .sl z7 43 tStep y6.2.2.2, .obj b18 41 (.rep tTask x17), .obj b26 41 (.rep tTask x25)]) h (fun K h => ?_) (fun z32 x31 h => ?_)
            ·
             refine JC.block ?_
             refine JC.region ?_
             iterate 2 refine mq ?_
             refine JO.bool (s := 62) rfl (fun hb => ?_) (fun hb => ?_)
             ·
              replace h := b_if (v_t hb) h
              iterate 7 refine gn ?_
              refine pt ?_
              refine aq ?_
              refine JO.nil ?_
              refine JN.blk_n ?_
              refine JN.then_n ?_
              exact JN.z ((), true) h (SE.fin [1, 2, 0, 3, 4] ⟨rfl, rfl, rfl, rfl, rfl, rfl, rfl, rfl, rfl, rfl, rfl, rfl, rfl, trivial⟩ rfl)
             ·
              replace h := b_ifn (v_f hb) h
              refine gm ?_
              refine gm ?_
              obtain ⟨x33, ex33, h⟩ := b_bind h
              refine JO.g11 rfl rfl rfl rfl rfl rfl (o_index_own (t := tStep) rfl Try.underlying30 sz43 ex33) ⟨rfl, rfl, trivial⟩ ?_
              refine JO.g11 rfl rfl rfl rfl rfl rfl (o_field_el rfl fo43_0 (geti_ne ex33)) ⟨rfl, trivial⟩ ?_
              refine JO.g11 rfl rfl rfl rfl rfl rfl (o_load_el (i := Int.toNat y29.2) (off := 0) rfl sz3 (fun _ => rfl) rfl (geti_some ex33).2.2 rfl) ⟨rfl, trivial⟩ ?_
              refine gm ?_
              refine JO.g00 rfl rfl rfl rfl rfl rfl (o_eql rfl) ⟨rfl, rfl, trivial⟩ ?_
              refine pf ?_
              refine aq ?_
              refine JO.nil ?_
              refine JN.blk_n ?_
              refine JN.then_n ?_
              exact JN.z ((), decide (x33.1 = y21.2)) h (SE.fin [1, 2, 0, 3, 4] ⟨rfl, rfl, rfl, rfl, rfl, rfl, rfl, rfl, rfl, rfl, rfl, rfl, rfl, trivial⟩ rfl)
            ·
             refine JC.region ?_
             refine mq ?_
             obtain ⟨x34, ex34, h⟩ := b_bind h
             refine JO.s rfl (o_add rfl ex34) ⟨rfl, rfl, trivial⟩ ?_
             refine aq ?_
             refine JO.nil ?_
             refine JN.then_n ?_
             exact JN.z ((), (x31, x34)) h (SE.fin [0, 1, 2, 3, 4] ⟨rfl, rfl, rfl, rfl, rfl, rfl, rfl, rfl, rfl, rfl, rfl, rfl, rfl, trivial⟩ rfl)
           ·
            replace h := b_ifn (d_f hb) h
            refine JC.exit ?_
            refine JN.then_x ?_
            refine JN.then_x ?_
            refine JN.blk_hit ?_
            refine JN.then_n ?_
            exact JN.z ((), y29.1) h (SE.fin [1, 2, 0, 3, 4] ⟨rfl, rfl, rfl, rfl, rfl, rfl, rfl, rfl, rfl, rfl, rfl, rfl, trivial⟩ rfl)
          ·
           refine JC.seq ?_
           refine sr ?_
           iterate 3 refine mq ?_
           obtain ⟨x35, ex35, h⟩ := b_bind h
           refine JO.s rfl (o_index (t := (.int .i64)) rfl Try.underlying22 sz3 ex35) ⟨rfl, rfl, trivial⟩ ?_
           refine JO.s rfl (o_load_at (t := (.int .i64)) rfl sz3 rfl) ⟨rfl, trivial⟩ ?_
           refine JO.s rfl (o_eql rfl) ⟨rfl, rfl, trivial⟩ ?_
           refine nt ?_
           refine JC.cond rfl (fun hb => ?_) (fun hb => ?_)
           ·
            replace h := b_if (d_t hb) h
            refine JC.cutB (Z := Unit) (α := Bool) (fun z37 x36 => [(0, .eq (.pointer (some ⟨b_a0, 0, none⟩))), (3, .eq (.pointer (some ⟨b1, 0, none⟩))), (5, .rep (.slice tTask) r2), (6, .eq z7), (7, .rep (.slice (.int .i64)) r3.1), (8, .eq (.int .i64 y12.1)), (9, .eq (.int .i64 y12.2)), (10, .eq (.pointer (some ⟨b18, 0, none⟩))), (11, .eq (.bool x36)), (12, .eq (.int .i64 y21.2))]) (fun z37 x36 => [.obj b_a0 93 (.agg (.pair (.rep (.slice (.int .i64)) y6.1) (.pair (.eq (.int .i64 y6.2.1)) (.eq (.int .u64 y6.2.2.1))))), .obj b1 28 (.rep tChange a1), .sl z7 43 tStep y6.2.2.2, .obj b18 41 (.rep tTask x17)]) h (fun K h => ?_) (fun z37 x36 h => ?_)
            ·
             refine JC.region ?_
             iterate 2 refine mq ?_
             refine JO.bool (s := 78) rfl (fun hb => ?_) (fun hb => ?_)
             ·
              replace h := b_if (v_t hb) h
              refine gm ?_
              refine JO.g00 rfl rfl rfl rfl rfl rfl (o_not rfl) ⟨rfl, trivial⟩ ?_
              refine pt ?_
              refine aq ?_
              refine JO.nil ?_
              refine JN.then_n ?_
              exact JN.z ((), !x27) h (SE.fin [0, 1, 2, 3] ⟨rfl, rfl, rfl, rfl, rfl, rfl, rfl, rfl, rfl, rfl, trivial⟩ rfl)
             ·
              replace h := b_ifn (v_f hb) h
              iterate 2 refine gn ?_
              refine pf ?_
              refine aq ?_
              refine JO.nil ?_
              refine JN.then_n ?_
              exact JN.z ((), false) h (SE.fin [0, 1, 2, 3] ⟨rfl, rfl, rfl, rfl, rfl, rfl, rfl, rfl, rfl, rfl, trivial⟩ rfl)
            ·
             refine JC.exit ?_
             refine JN.then_x ?_
             refine JN.blk_hit ?_
             refine JN.then_n ?_
             exact JN.z ((), x36) h (SE.fin [0, 1, 2, 3] ⟨rfl, rfl, rfl, rfl, rfl, rfl, rfl, rfl, rfl, rfl, trivial⟩ rfl)
           ·
            replace h := b_ifn (d_f hb) h
            refine JC.skip ?_
            refine JN.then_n ?_
            show JC _ _ _ _ _
            refine JC.cutB (Z := Unit) (α := Bool) (fun z39 x38 => [(0, .eq (.pointer (some ⟨b_a0, 0, none⟩))), (3, .eq (.pointer (some ⟨b1, 0, none⟩))), (5, .rep (.slice tTask) r2), (6, .eq z7), (7, .rep (.slice (.int .i64)) r3.1), (8, .eq (.int .i64 y12.1)), (9, .eq (.int .i64 y12.2)), (10, .eq (.pointer (some ⟨b18, 0, none⟩))), (11, .eq (.bool y21.1)), (12, .eq (.int .i64 y21.2)), (14, .eq (.bool x27)), (16, .eq (.bool x38))]) (fun z39 x38 => [.obj b_a0 93 (.agg (.pair (.rep (.slice (.int .i64)) y6.1) (.pair (.eq (.int .i64 y6.2.1)) (.eq (.int .u64 y6.2.2.1))))), .obj b1 28 (.rep tChange a1), .sl z7 43 tStep y6.2.2.2, .obj b18 41 (.rep tTask x17)]) h (fun K h => ?_) (fun z39 x38 h => ?_)
            ·
             refine JC.drawN ?_
             refine DN.s00 rfl rfl rfl (o_field_obj rfl fo41_0) ⟨rfl, trivial⟩ ?_
             refine DN.s11 4 rfl rfl rfl rfl (o_load_obj rfl sz3 (fun _ => rfl) rfl) ⟨rfl, trivial⟩ ?_
             refine DN.s00 rfl rfl rfl (o_field_obj rfl fo41_0) ⟨rfl, trivial⟩ ?_
             refine DN.s11 3 rfl rfl rfl rfl (o_load_obj rfl sz3 (fun _ => rfl) rfl) ⟨rfl, trivial⟩ ?_
             refine DN.s00 rfl rfl rfl (o_eql rfl) ⟨rfl, rfl, trivial⟩ ?_
             refine DN.fork rfl rfl rfl (o_move rfl) ⟨rfl, trivial⟩ (fun hb => ?_) (fun hb => ?_)
             ·
              replace h := b_if (d_t hb) h
              refine DN.sg00 rfl rfl rfl rfl rfl (o_field_obj rfl fo41_1) ⟨rfl, rfl, trivial⟩ ?_
              refine DN.sg11 4 rfl rfl rfl rfl rfl rfl (o_load_obj rfl sz4 (fun _ => rfl) rfl) ⟨rfl, rfl, trivial⟩ ?_
              refine DN.sg00 rfl rfl rfl rfl rfl (o_not rfl) ⟨rfl, rfl, trivial⟩ ?_
              refine DN.s00 rfl rfl rfl (o_pick_t rfl) ⟨rfl, rfl, trivial⟩ ?_
              refine DN.fork rfl rfl rfl (o_move rfl) ⟨rfl, trivial⟩ (fun hb => ?_) (fun hb => ?_)
              ·
               replace h := b_if (nv_t hb) h
               iterate 4 refine dg ?_
               refine DN.sgnou rfl rfl rfl rfl rfl rfl ?_
               refine DN.sgnou rfl rfl rfl rfl rfl rfl ?_
               refine DN.sgnou rfl rfl rfl rfl rfl rfl ?_
               refine DN.sgnou rfl rfl rfl rfl rfl rfl ?_
               refine DN.sgnou rfl rfl rfl rfl rfl rfl ?_
               refine DN.sgnou rfl rfl rfl rfl rfl rfl ?_
               refine DN.sgnou rfl rfl rfl rfl rfl rfl ?_
               refine DN.sgnou rfl rfl rfl rfl rfl rfl ?_
               refine DN.sgnou rfl rfl rfl rfl rfl rfl ?_
               refine DN.sgnou rfl rfl rfl rfl rfl rfl ?_
               refine DN.sgnou rfl rfl rfl rfl rfl rfl ?_
               refine dg ?_
               refine DN.s00 rfl rfl rfl (o_pick_t rfl) ⟨rfl, rfl, trivial⟩ ?_
               refine dm ?_
               iterate 3 refine dg ?_
               refine DN.sgnou rfl rfl rfl rfl rfl rfl ?_
               refine DN.sgnou rfl rfl rfl rfl rfl rfl ?_
               refine DN.sgnou rfl rfl rfl rfl rfl rfl ?_
               refine DN.sgnou rfl rfl rfl rfl rfl rfl ?_
               refine DN.sgnou rfl rfl rfl rfl rfl rfl ?_
               refine DN.sgnou rfl rfl rfl rfl rfl rfl ?_
               refine DN.sgnou rfl rfl rfl rfl rfl rfl ?_
               refine DN.sgnou rfl rfl rfl rfl rfl rfl ?_
               refine DN.sgnou rfl rfl rfl rfl rfl rfl ?_
               refine DN.fin (by kernel_rfl) mixed ?_
               refine JO.gnou rfl rfl rfl rfl rfl rfl ?_
               refine JO.gnou rfl rfl rfl rfl rfl rfl ?_
               refine gn ?_
               refine pt ?_
               refine aq ?_
               refine JO.nil ?_
               refine JN.then_n ?_
               exact JN.z ((), true) h (SE.fin [0, 1, 2, 3] ⟨rfl, rfl, rfl, rfl, rfl, rfl, rfl, rfl, rfl, rfl, rfl, rfl, trivial⟩ rfl)
              ·
               replace h := b_ifn (nv_fn hb) h
               refine DN.sg00 rfl rfl rfl rfl rfl (o_field_obj rfl fo41_1) ⟨rfl, rfl, trivial⟩ ?_
               refine DN.sg11 4 rfl rfl rfl rfl rfl rfl (o_load_obj rfl sz4 (fun _ => rfl) rfl) ⟨rfl, rfl, trivial⟩ ?_
               refine DN.sg00 rfl rfl rfl rfl rfl (o_not rfl) ⟨rfl, rfl, trivial⟩ ?_
               refine DN.forkg rfl rfl rfl rfl rfl (o_move rfl) ⟨rfl, rfl, trivial⟩ (fun hb => ?_) (fun hb => ?_)
               ·
                replace h := b_if (nv_t hb) h
                refine DN.sg00 rfl rfl rfl rfl rfl (o_field_obj rfl fo28_0) ⟨rfl, rfl, trivial⟩ ?_
                refine DN.sg11 1 rfl rfl rfl rfl rfl rfl (o_load_obj rfl sz25 (fun _ => rfl) rfl) ⟨rfl, rfl, trivial⟩ ?_
                refine DN.sg00 rfl rfl rfl rfl rfl (o_field_obj rfl fo41_0) ⟨rfl, rfl, trivial⟩ ?_
                refine DN.sg11 3 rfl rfl rfl rfl rfl rfl (o_load_obj rfl sz3 (fun _ => rfl) rfl) ⟨rfl, rfl, trivial⟩ ?_
                obtain ⟨x40, ex40, h⟩ := b_bind h
                refine DN.sg00 rfl rfl rfl rfl rfl (o_index (t := tThing) rfl Try.underlying25 sz45 ex40) ⟨rfl, rfl, rfl, trivial⟩ ?_
                refine DN.sg00 rfl rfl rfl rfl rfl (o_field_at 1 false rfl fo45_0 rfl) ⟨rfl, rfl, trivial⟩ ?_
                refine DN.sg00 rfl rfl rfl rfl rfl (o_load_at (t := (.slice (.int .i64))) rfl sz22 rfl) ⟨rfl, rfl, trivial⟩ ?_
                refine DN.sg00 rfl rfl rfl rfl rfl (o_field_obj rfl fo41_0) ⟨rfl, rfl, trivial⟩ ?_
                refine DN.sg11 4 rfl rfl rfl rfl rfl rfl (o_load_obj rfl sz3 (fun _ => rfl) rfl) ⟨rfl, rfl, trivial⟩ ?_
                obtain ⟨r41, er41, h⟩ := b_bind h
                have cr41 := kit_At_ok k x40.1 x25.1 r41 er41
                refine DN.sg00 rfl rfl rfl rfl rfl (o_call [.tmp 103, .tmp 105] rfl rfl en30 rfl cr41) ⟨rfl, rfl, rfl, trivial⟩ ?_
                refine DN.sg00 rfl rfl rfl rfl rfl (o_geq rfl) ⟨rfl, rfl, rfl, trivial⟩ ?_
                refine DN.sg00 rfl rfl rfl rfl rfl (o_pick_t rfl) ⟨rfl, rfl, rfl, trivial⟩ ?_
                refine DN.s00 rfl rfl rfl (o_pick_f rfl) ⟨rfl, rfl, trivial⟩ ?_
                refine DN.fork rfl rfl rfl (o_move rfl) ⟨rfl, trivial⟩ (fun hb => ?_) (fun hb => ?_)
                ·
                 replace h := b_if (d_t hb) h
                 iterate 3 refine dg ?_
                 refine DN.sgnou rfl rfl rfl rfl rfl rfl ?_
                 refine DN.sgnou rfl rfl rfl rfl rfl rfl ?_
                 refine DN.sgnou rfl rfl rfl rfl rfl rfl ?_
                 refine DN.sgnou rfl rfl rfl rfl rfl rfl ?_
                 refine DN.sgnou rfl rfl rfl rfl rfl rfl ?_
                 refine DN.sgnou rfl rfl rfl rfl rfl rfl ?_
                 refine DN.sgnou rfl rfl rfl rfl rfl rfl ?_
                 refine DN.sgnou rfl rfl rfl rfl rfl rfl ?_
                 refine DN.sgnou rfl rfl rfl rfl rfl rfl ?_
                 refine DN.fin (by kernel_rfl) mixed ?_
                 refine JO.gnou rfl rfl rfl rfl rfl rfl ?_
                 refine JO.gnou rfl rfl rfl rfl rfl rfl ?_
                 refine gn ?_
                 refine pt ?_
                 refine aq ?_
                 refine JO.nil ?_
                 refine JN.then_n ?_
                 exact JN.z ((), true) h (SE.fin [0, 1, 2, 3] ⟨rfl, rfl, rfl, rfl, rfl, rfl, rfl, rfl, rfl, rfl, rfl, rfl, trivial⟩ rfl)
                ·
                 replace h := b_ifn (d_f hb) h
                 refine DN.sg00 rfl rfl rfl rfl rfl (o_field_obj rfl fo41_1) ⟨rfl, rfl, trivial⟩ ?_
                 refine DN.sg11 3 rfl rfl rfl rfl rfl rfl (o_load_obj rfl sz4 (fun _ => rfl) rfl) ⟨rfl, rfl, trivial⟩ ?_
                 refine DN.forkg rfl rfl rfl rfl rfl (o_move rfl) ⟨rfl, rfl, trivial⟩ (fun hb => ?_) (fun hb => ?_)
                 ·
                  replace h := b_if (v_t hb) h
                  refine DN.sg00 rfl rfl rfl rfl rfl (o_field_obj rfl fo28_0) ⟨rfl, rfl, trivial⟩ ?_
                  refine DN.sg11 1 rfl rfl rfl rfl rfl rfl (o_load_obj rfl sz25 (fun _ => rfl) rfl) ⟨rfl, rfl, trivial⟩ ?_
                  refine DN.sg00 rfl rfl rfl rfl rfl (o_field_obj rfl fo41_0) ⟨rfl, rfl, trivial⟩ ?_
                  refine DN.sg11 4 rfl rfl rfl rfl rfl rfl (o_load_obj rfl sz3 (fun _ => rfl) rfl) ⟨rfl, rfl, trivial⟩ ?_
                  obtain ⟨x42, ex42, h⟩ := b_bind h
                  refine DN.sg00 rfl rfl rfl rfl rfl (o_index (t := tThing) rfl Try.underlying25 sz45 ex42) ⟨rfl, rfl, rfl, trivial⟩ ?_
                  refine DN.sg00 rfl rfl rfl rfl rfl (o_field_at 1 false rfl fo45_0 rfl) ⟨rfl, rfl, trivial⟩ ?_
                  refine DN.sg00 rfl rfl rfl rfl rfl (o_load_at (t := (.slice (.int .i64))) rfl sz22 rfl) ⟨rfl, rfl, trivial⟩ ?_
                  refine DN.sg00 rfl rfl rfl rfl rfl (o_field_obj rfl fo41_0) ⟨rfl, rfl, trivial⟩ ?_
                  refine DN.sg11 3 rfl rfl rfl rfl rfl rfl (o_load_obj rfl sz3 (fun _ => rfl) rfl) ⟨rfl, rfl, trivial⟩ ?_
                  refine DN.fin (by kernel_rfl) mixed ?_
                  obtain ⟨r43, er43, h⟩ := b_bind h
                  have cr43 := kit_At_ok k x42.1 x17.1 r43 er43
                  refine JO.g00 rfl rfl rfl rfl rfl rfl (o_call [.tmp 120, .tmp 122] rfl rfl en30 rfl cr43) ⟨rfl, rfl, trivial⟩ ?_
                  refine JO.g00 rfl rfl rfl rfl rfl rfl (o_geq rfl) ⟨rfl, rfl, trivial⟩ ?_
                  refine JO.g00 rfl rfl rfl rfl rfl rfl (o_pick_t rfl) ⟨rfl, rfl, trivial⟩ ?_
                  refine pf ?_
                  refine aq ?_
                  refine JO.nil ?_
                  refine JN.then_n ?_
                  exact JN.z ((), decide ((0 : Int) ≤ r43)) h (SE.fin [0, 1, 2, 3] ⟨rfl, rfl, rfl, rfl, rfl, rfl, rfl, rfl, rfl, rfl, rfl, rfl, trivial⟩ rfl)
                 ·
                  replace h := b_ifn (v_f hb) h
                  iterate 9 refine dg ?_
                  refine DN.fin (by kernel_rfl) mixed ?_
                  iterate 2 refine gn ?_
                  refine JO.g00 rfl rfl rfl rfl rfl rfl (o_pick_f rfl) ⟨rfl, rfl, trivial⟩ ?_
                  refine pf ?_
                  refine aq ?_
                  refine JO.nil ?_
                  refine JN.then_n ?_
                  exact JN.z ((), false) h (SE.fin [0, 1, 2, 3] ⟨rfl, rfl, rfl, rfl, rfl, rfl, rfl, rfl, rfl, rfl, rfl, rfl, trivial⟩ rfl)
               ·
                replace h := b_ifn (nv_fn hb) h
                iterate 11 refine dg ?_
                refine DN.sg00 rfl rfl rfl rfl rfl (o_pick_f rfl) ⟨rfl, rfl, rfl, trivial⟩ ?_
                refine DN.s00 rfl rfl rfl (o_pick_f rfl) ⟨rfl, rfl, trivial⟩ ?_
                refine dm ?_
                refine DN.sg00 rfl rfl rfl rfl rfl (o_field_obj rfl fo41_1) ⟨rfl, rfl, trivial⟩ ?_
                refine DN.sg11 3 rfl rfl rfl rfl rfl rfl (o_load_obj rfl sz4 (fun _ => rfl) rfl) ⟨rfl, rfl, trivial⟩ ?_
                refine DN.forkg rfl rfl rfl rfl rfl (o_move rfl) ⟨rfl, rfl, trivial⟩ (fun hb => ?_) (fun hb => ?_)
                ·
                 replace h := b_if (v_t hb) h
                 refine DN.sg00 rfl rfl rfl rfl rfl (o_field_obj rfl fo28_0) ⟨rfl, rfl, trivial⟩ ?_
                 refine DN.sg11 1 rfl rfl rfl rfl rfl rfl (o_load_obj rfl sz25 (fun _ => rfl) rfl) ⟨rfl, rfl, trivial⟩ ?_
                 refine DN.sg00 rfl rfl rfl rfl rfl (o_field_obj rfl fo41_0) ⟨rfl, rfl, trivial⟩ ?_
                 refine DN.sg11 4 rfl rfl rfl rfl rfl rfl (o_load_obj rfl sz3 (fun _ => rfl) rfl) ⟨rfl, rfl, trivial⟩ ?_
                 obtain ⟨x44, ex44, h⟩ := b_bind h
                 refine DN.sg00 rfl rfl rfl rfl rfl (o_index (t := tThing) rfl Try.underlying25 sz45 ex44) ⟨rfl, rfl, rfl, trivial⟩ ?_
                 refine DN.sg00 rfl rfl rfl rfl rfl (o_field_at 1 false rfl fo45_0 rfl) ⟨rfl, rfl, trivial⟩ ?_
                 refine DN.sg00 rfl rfl rfl rfl rfl (o_load_at (t := (.slice (.int .i64))) rfl sz22 rfl) ⟨rfl, rfl, trivial⟩ ?_
                 refine DN.sg00 rfl rfl rfl rfl rfl (o_field_obj rfl fo41_0) ⟨rfl, rfl, trivial⟩ ?_
                 refine DN.sg11 3 rfl rfl rfl rfl rfl rfl (o_load_obj rfl sz3 (fun _ => rfl) rfl) ⟨rfl, rfl, trivial⟩ ?_
                 refine DN.fin (by kernel_rfl) mixed ?_
                 obtain ⟨r45, er45, h⟩ := b_bind h
                 have cr45 := kit_At_ok k x44.1 x17.1 r45 er45
                 refine JO.g00 rfl rfl rfl rfl rfl rfl (o_call [.tmp 120, .tmp 122] rfl rfl en30 rfl cr45) ⟨rfl, rfl, trivial⟩ ?_
                 refine JO.g00 rfl rfl rfl rfl rfl rfl (o_geq rfl) ⟨rfl, rfl, trivial⟩ ?_
                 refine JO.g00 rfl rfl rfl rfl rfl rfl (o_pick_t rfl) ⟨rfl, rfl, trivial⟩ ?_
                 refine pf ?_
                 refine aq ?_
                 refine JO.nil ?_
                 refine JN.then_n ?_
                 exact JN.z ((), decide ((0 : Int) ≤ r45)) h (SE.fin [0, 1, 2, 3] ⟨rfl, rfl, rfl, rfl, rfl, rfl, rfl, rfl, rfl, rfl, rfl, rfl, trivial⟩ rfl)
                ·
                 replace h := b_ifn (v_f hb) h
                 iterate 9 refine dg ?_
                 refine DN.fin (by kernel_rfl) mixed ?_
                 iterate 2 refine gn ?_
                 refine JO.g00 rfl rfl rfl rfl rfl rfl (o_pick_f rfl) ⟨rfl, rfl, trivial⟩ ?_
                 refine pf ?_
                 refine aq ?_
                 refine JO.nil ?_
                 refine JN.then_n ?_
                 exact JN.z ((), false) h (SE.fin [0, 1, 2, 3] ⟨rfl, rfl, rfl, rfl, rfl, rfl, rfl, rfl, rfl, rfl, rfl, rfl, trivial⟩ rfl)
             ·
              replace h := b_ifn (d_f hb) h
              iterate 3 refine dg ?_
              refine DN.s00 rfl rfl rfl (o_pick_f rfl) ⟨rfl, rfl, trivial⟩ ?_
              refine dm ?_
              refine DN.sg00 rfl rfl rfl rfl rfl (o_field_obj rfl fo41_1) ⟨rfl, rfl, trivial⟩ ?_
              refine DN.sg11 4 rfl rfl rfl rfl rfl rfl (o_load_obj rfl sz4 (fun _ => rfl) rfl) ⟨rfl, rfl, trivial⟩ ?_
              refine DN.sg00 rfl rfl rfl rfl rfl (o_not rfl) ⟨rfl, rfl, trivial⟩ ?_
              refine DN.forkg rfl rfl rfl rfl rfl (o_move rfl) ⟨rfl, rfl, trivial⟩ (fun hb => ?_) (fun hb => ?_)
              ·
               replace h := b_if (nv_t hb) h
               refine DN.sg00 rfl rfl rfl rfl rfl (o_field_obj rfl fo28_0) ⟨rfl, rfl, trivial⟩ ?_
               refine DN.sg11 1 rfl rfl rfl rfl rfl rfl (o_load_obj rfl sz25 (fun _ => rfl) rfl) ⟨rfl, rfl, trivial⟩ ?_
               refine DN.sg00 rfl rfl rfl rfl rfl (o_field_obj rfl fo41_0) ⟨rfl, rfl, trivial⟩ ?_
               refine DN.sg11 3 rfl rfl rfl rfl rfl rfl (o_load_obj rfl sz3 (fun _ => rfl) rfl) ⟨rfl, rfl, trivial⟩ ?_
               obtain ⟨x46, ex46, h⟩ := b_bind h
               refine DN.sg00 rfl rfl rfl rfl rfl (o_index (t := tThing) rfl Try.underlying25 sz45 ex46) ⟨rfl, rfl, rfl, trivial⟩ ?_
               refine DN.sg00 rfl rfl rfl rfl rfl (o_field_at 1 false rfl fo45_0 rfl) ⟨rfl, rfl, trivial⟩ ?_
               refine DN.sg00 rfl rfl rfl rfl rfl (o_load_at (t := (.slice (.int .i64))) rfl sz22 rfl) ⟨rfl, rfl, trivial⟩ ?_
               refine DN.sg00 rfl rfl rfl rfl rfl (o_field_obj rfl fo41_0) ⟨rfl, rfl, trivial⟩ ?_
               refine DN.sg11 4 rfl rfl rfl rfl rfl rfl (o_load_obj rfl sz3 (fun _ => rfl) rfl) ⟨rfl, rfl, trivial⟩ ?_
               obtain ⟨r47, er47, h⟩ := b_bind h
               have cr47 := kit_At_ok k x46.1 x25.1 r47 er47
               refine DN.sg00 rfl rfl rfl rfl rfl (o_call [.tmp 103, .tmp 105] rfl rfl en30 rfl cr47) ⟨rfl, rfl, rfl, trivial⟩ ?_
               refine DN.sg00 rfl rfl rfl rfl rfl (o_geq rfl) ⟨rfl, rfl, rfl, trivial⟩ ?_
               refine DN.sg00 rfl rfl rfl rfl rfl (o_pick_t rfl) ⟨rfl, rfl, rfl, trivial⟩ ?_
               refine DN.s00 rfl rfl rfl (o_pick_f rfl) ⟨rfl, rfl, trivial⟩ ?_
               refine DN.fork rfl rfl rfl (o_move rfl) ⟨rfl, trivial⟩ (fun hb => ?_) (fun hb => ?_)
               ·
                replace h := b_if (d_t hb) h
                iterate 3 refine dg ?_
                refine DN.sgnou rfl rfl rfl rfl rfl rfl ?_
                refine DN.sgnou rfl rfl rfl rfl rfl rfl ?_
                refine DN.sgnou rfl rfl rfl rfl rfl rfl ?_
                refine DN.sgnou rfl rfl rfl rfl rfl rfl ?_
                refine DN.sgnou rfl rfl rfl rfl rfl rfl ?_
                refine DN.sgnou rfl rfl rfl rfl rfl rfl ?_
                refine DN.sgnou rfl rfl rfl rfl rfl rfl ?_
                refine DN.sgnou rfl rfl rfl rfl rfl rfl ?_
                refine DN.sgnou rfl rfl rfl rfl rfl rfl ?_
                refine DN.fin (by kernel_rfl) mixed ?_
                refine JO.gnou rfl rfl rfl rfl rfl rfl ?_
                refine JO.gnou rfl rfl rfl rfl rfl rfl ?_
                refine gn ?_
                refine pt ?_
                refine aq ?_
                refine JO.nil ?_
                refine JN.then_n ?_
                exact JN.z ((), true) h (SE.fin [0, 1, 2, 3] ⟨rfl, rfl, rfl, rfl, rfl, rfl, rfl, rfl, rfl, rfl, rfl, rfl, trivial⟩ rfl)
               ·
                replace h := b_ifn (d_f hb) h
                refine DN.sg00 rfl rfl rfl rfl rfl (o_field_obj rfl fo41_1) ⟨rfl, rfl, trivial⟩ ?_
                refine DN.sg11 3 rfl rfl rfl rfl rfl rfl (o_load_obj rfl sz4 (fun _ => rfl) rfl) ⟨rfl, rfl, trivial⟩ ?_
                refine DN.forkg rfl rfl rfl rfl rfl (o_move rfl) ⟨rfl, rfl, trivial⟩ (fun hb => ?_) (fun hb => ?_)
                ·
                 replace h := b_if (v_t hb) h
                 refine DN.sg00 rfl rfl rfl rfl rfl (o_field_obj rfl fo28_0) ⟨rfl, rfl, trivial⟩ ?_
                 refine DN.sg11 1 rfl rfl rfl rfl rfl rfl (o_load_obj rfl sz25 (fun _ => rfl) rfl) ⟨rfl, rfl, trivial⟩ ?_
                 refine DN.sg00 rfl rfl rfl rfl rfl (o_field_obj rfl fo41_0) ⟨rfl, rfl, trivial⟩ ?_
                 refine DN.sg11 4 rfl rfl rfl rfl rfl rfl (o_load_obj rfl sz3 (fun _ => rfl) rfl) ⟨rfl, rfl, trivial⟩ ?_
                 obtain ⟨x48, ex48, h⟩ := b_bind h
                 refine DN.sg00 rfl rfl rfl rfl rfl (o_index (t := tThing) rfl Try.underlying25 sz45 ex48) ⟨rfl, rfl, rfl, trivial⟩ ?_
                 refine DN.sg00 rfl rfl rfl rfl rfl (o_field_at 1 false rfl fo45_0 rfl) ⟨rfl, rfl, trivial⟩ ?_
                 refine DN.sg00 rfl rfl rfl rfl rfl (o_load_at (t := (.slice (.int .i64))) rfl sz22 rfl) ⟨rfl, rfl, trivial⟩ ?_
                 refine DN.sg00 rfl rfl rfl rfl rfl (o_field_obj rfl fo41_0) ⟨rfl, rfl, trivial⟩ ?_
                 refine DN.sg11 3 rfl rfl rfl rfl rfl rfl (o_load_obj rfl sz3 (fun _ => rfl) rfl) ⟨rfl, rfl, trivial⟩ ?_
                 refine DN.fin (by kernel_rfl) mixed ?_
                 obtain ⟨r49, er49, h⟩ := b_bind h
                 have cr49 := kit_At_ok k x48.1 x17.1 r49 er49
                 refine JO.g00 rfl rfl rfl rfl rfl rfl (o_call [.tmp 120, .tmp 122] rfl rfl en30 rfl cr49) ⟨rfl, rfl, trivial⟩ ?_
                 refine JO.g00 rfl rfl rfl rfl rfl rfl (o_geq rfl) ⟨rfl, rfl, trivial⟩ ?_
                 refine JO.g00 rfl rfl rfl rfl rfl rfl (o_pick_t rfl) ⟨rfl, rfl, trivial⟩ ?_
                 refine pf ?_
                 refine aq ?_
                 refine JO.nil ?_
                 refine JN.then_n ?_
                 exact JN.z ((), decide ((0 : Int) ≤ r49)) h (SE.fin [0, 1, 2, 3] ⟨rfl, rfl, rfl, rfl, rfl, rfl, rfl, rfl, rfl, rfl, rfl, rfl, trivial⟩ rfl)
                ·
                 replace h := b_ifn (v_f hb) h
                 iterate 9 refine dg ?_
                 refine DN.fin (by kernel_rfl) mixed ?_
                 iterate 2 refine gn ?_
                 refine JO.g00 rfl rfl rfl rfl rfl rfl (o_pick_f rfl) ⟨rfl, rfl, trivial⟩ ?_
                 refine pf ?_
                 refine aq ?_
                 refine JO.nil ?_
                 refine JN.then_n ?_
                 exact JN.z ((), false) h (SE.fin [0, 1, 2, 3] ⟨rfl, rfl, rfl, rfl, rfl, rfl, rfl, rfl, rfl, rfl, rfl, rfl, trivial⟩ rfl)
              ·
               replace h := b_ifn (nv_fn hb) h
               iterate 11 refine dg ?_
               refine DN.sg00 rfl rfl rfl rfl rfl (o_pick_f rfl) ⟨rfl, rfl, rfl, trivial⟩ ?_
               refine DN.s00 rfl rfl rfl (o_pick_f rfl) ⟨rfl, rfl, trivial⟩ ?_
               refine dm ?_
               refine DN.sg00 rfl rfl rfl rfl rfl (o_field_obj rfl fo41_1) ⟨rfl, rfl, trivial⟩ ?_
               refine DN.sg11 3 rfl rfl rfl rfl rfl rfl (o_load_obj rfl sz4 (fun _ => rfl) rfl) ⟨rfl, rfl, trivial⟩ ?_
               refine DN.forkg rfl rfl rfl rfl rfl (o_move rfl) ⟨rfl, rfl, trivial⟩ (fun hb => ?_) (fun hb => ?_)
               ·
                replace h := b_if (v_t hb) h
                refine DN.sg00 rfl rfl rfl rfl rfl (o_field_obj rfl fo28_0) ⟨rfl, rfl, trivial⟩ ?_
                refine DN.sg11 1 rfl rfl rfl rfl rfl rfl (o_load_obj rfl sz25 (fun _ => rfl) rfl) ⟨rfl, rfl, trivial⟩ ?_
                refine DN.sg00 rfl rfl rfl rfl rfl (o_field_obj rfl fo41_0) ⟨rfl, rfl, trivial⟩ ?_
                refine DN.sg11 4 rfl rfl rfl rfl rfl rfl (o_load_obj rfl sz3 (fun _ => rfl) rfl) ⟨rfl, rfl, trivial⟩ ?_
                obtain ⟨x50, ex50, h⟩ := b_bind h
                refine DN.sg00 rfl rfl rfl rfl rfl (o_index (t := tThing) rfl Try.underlying25 sz45 ex50) ⟨rfl, rfl, rfl, trivial⟩ ?_
                refine DN.sg00 rfl rfl rfl rfl rfl (o_field_at 1 false rfl fo45_0 rfl) ⟨rfl, rfl, trivial⟩ ?_
                refine DN.sg00 rfl rfl rfl rfl rfl (o_load_at (t := (.slice (.int .i64))) rfl sz22 rfl) ⟨rfl, rfl, trivial⟩ ?_
                refine DN.sg00 rfl rfl rfl rfl rfl (o_field_obj rfl fo41_0) ⟨rfl, rfl, trivial⟩ ?_
                refine DN.sg11 3 rfl rfl rfl rfl rfl rfl (o_load_obj rfl sz3 (fun _ => rfl) rfl) ⟨rfl, rfl, trivial⟩ ?_
                refine DN.fin (by kernel_rfl) mixed ?_
                obtain ⟨r51, er51, h⟩ := b_bind h
                have cr51 := kit_At_ok k x50.1 x17.1 r51 er51
                refine JO.g00 rfl rfl rfl rfl rfl rfl (o_call [.tmp 120, .tmp 122] rfl rfl en30 rfl cr51) ⟨rfl, rfl, trivial⟩ ?_
                refine JO.g00 rfl rfl rfl rfl rfl rfl (o_geq rfl) ⟨rfl, rfl, trivial⟩ ?_
                refine JO.g00 rfl rfl rfl rfl rfl rfl (o_pick_t rfl) ⟨rfl, rfl, trivial⟩ ?_
                refine pf ?_
                refine aq ?_
                refine JO.nil ?_
                refine JN.then_n ?_
                exact JN.z ((), decide ((0 : Int) ≤ r51)) h (SE.fin [0, 1, 2, 3] ⟨rfl, rfl, rfl, rfl, rfl, rfl, rfl, rfl, rfl, rfl, rfl, rfl, trivial⟩ rfl)
               ·
                replace h := b_ifn (v_f hb) h
                iterate 9 refine dg ?_
                refine DN.fin (by kernel_rfl) mixed ?_
                iterate 2 refine gn ?_
                refine JO.g00 rfl rfl rfl rfl rfl rfl (o_pick_f rfl) ⟨rfl, rfl, trivial⟩ ?_
                refine pf ?_
                refine aq ?_
                refine JO.nil ?_
                refine JN.then_n ?_
                exact JN.z ((), false) h (SE.fin [0, 1, 2, 3] ⟨rfl, rfl, rfl, rfl, rfl, rfl, rfl, rfl, rfl, rfl, rfl, rfl, trivial⟩ rfl)
            ·
             refine JC.region ?_
             iterate 2 refine mq ?_
             refine JO.bool (s := 128) rfl (fun hb => ?_) (fun hb => ?_)
             ·
              replace h := b_if (v_t hb) h
              refine gm ?_
              refine gm ?_
              refine JO.bool (s := 130) rfl (fun hb => ?_) (fun hb => ?_)
              ·
               replace h := b_if (v_t hb) h
               iterate 2 refine gn ?_
               refine JO.g00 rfl rfl rfl rfl rfl rfl (o_pick_t rfl) ⟨rfl, rfl, trivial⟩ ?_
               refine pt ?_
               refine aq ?_
               refine JO.nil ?_
               refine JN.blk_n ?_
               refine JN.then_n ?_
               exact JN.z ((), true) h (SE.fin [0, 1, 2, 3] ⟨rfl, rfl, rfl, rfl, rfl, rfl, rfl, rfl, rfl, rfl, trivial⟩ rfl)
              ·
               replace h := b_ifn (v_f hb) h
               refine gm ?_
               refine JO.g00 rfl rfl rfl rfl rfl rfl (o_not rfl) ⟨rfl, trivial⟩ ?_
               refine JO.g00 rfl rfl rfl rfl rfl rfl (o_pick_f rfl) ⟨rfl, rfl, trivial⟩ ?_
               refine pt ?_
               refine aq ?_
               refine JO.nil ?_
               refine JN.blk_n ?_
               refine JN.then_n ?_
               exact JN.z ((), !x38) h (SE.fin [0, 1, 2, 3] ⟨rfl, rfl, rfl, rfl, rfl, rfl, rfl, rfl, rfl, rfl, trivial⟩ rfl)
             ·
              replace h := b_ifn (v_f hb) h
              iterate 2 refine gn ?_
              refine JO.gnou rfl rfl rfl rfl rfl rfl ?_
              refine JO.gnou rfl rfl rfl rfl rfl rfl ?_
              refine gn ?_
              refine pf ?_
              refine aq ?_
              refine JO.nil ?_
              refine JN.blk_n ?_
              refine JN.then_n ?_
              exact JN.z ((), false) h (SE.fin [0, 1, 2, 3] ⟨rfl, rfl, rfl, rfl, rfl, rfl, rfl, rfl, rfl, rfl, trivial⟩ rfl)
         ·
          refine JC.region ?_
          refine mq ?_
          obtain ⟨x52, ex52, h⟩ := b_bind h
          refine JO.s rfl (o_add rfl ex52) ⟨rfl, rfl, trivial⟩ ?_
          refine aq ?_
          refine JO.nil ?_
          refine JN.then_n ?_
          exact JN.z ((), (x23, x52)) h (SE.fin [0, 1, 2, 3] ⟨rfl, rfl, rfl, rfl, rfl, rfl, rfl, rfl, rfl, rfl, trivial⟩ rfl)
        ·
         replace h := b_ifn (d_f hb) h
         refine JC.exit ?_
         refine JN.then_x ?_
         refine JN.then_x ?_
         refine JN.blk_hit ?_
         refine JN.then_n ?_
         exact JN.z ((), y21.1) h (SE.fin [0, 1, 2] ⟨rfl, rfl, rfl, rfl, rfl, rfl, rfl, rfl, trivial⟩ rfl)
       ·
        refine JC.cutB (Z := Unit) (α := Bool) (fun z54 x53 => [(0, .eq (.pointer (some ⟨b_a0, 0, none⟩))), (3, .eq (.pointer (some ⟨b1, 0, none⟩))), (5, .rep (.slice tTask) r2), (6, .eq z7), (7, .rep (.slice (.int .i64)) r3.1), (8, .eq (.int .i64 y12.1)), (9, .eq (.int .i64 y12.2)), (139, .eq (.bool x53))]) (fun z54 x53 => [.obj b_a0 93 (.agg (.pair (.rep (.slice (.int .i64)) y6.1) (.pair (.eq (.int .i64 y6.2.1)) (.eq (.int .u64 y6.2.2.1))))), .obj b1 28 (.rep tChange a1), .sl z7 43 tStep y6.2.2.2]) h (fun K h => ?_) (fun z54 x53 h => ?_)
        ·
         refine JC.region ?_
         iterate 2 refine mq ?_
         refine JO.bool (s := 136) rfl (fun hb => ?_) (fun hb => ?_)
         ·
          replace h := b_if (v_t hb) h
          refine gm ?_
          refine JO.g00 rfl rfl rfl rfl rfl rfl (o_lss rfl) ⟨rfl, rfl, trivial⟩ ?_
          refine pt ?_
          refine JO.nil ?_
          refine JN.then_n ?_
          exact JN.z ((), decide (y12.1 < (0 : Int))) h (SE.fin [0, 1, 2] ⟨rfl, rfl, rfl, rfl, rfl, rfl, rfl, rfl, trivial⟩ rfl)
         ·
          replace h := b_ifn (v_f hb) h
          iterate 2 refine gn ?_
          refine pf ?_
          refine JO.nil ?_
          refine JN.then_n ?_
          exact JN.z ((), false) h (SE.fin [0, 1, 2] ⟨rfl, rfl, rfl, rfl, rfl, rfl, rfl, rfl, trivial⟩ rfl)
        ·
         refine JC.cond rfl (fun hb => ?_) (fun hb => ?_)
         ·
          replace h := b_if (v_t hb) h
          refine JC.region ?_
          iterate 2 refine mq ?_
          obtain ⟨x55, ex55, h⟩ := b_bind h
          refine JO.s rfl (o_index (t := (.int .i64)) rfl Try.underlying22 sz3 ex55) ⟨rfl, rfl, trivial⟩ ?_
          refine JO.s rfl (o_load_at (t := (.int .i64)) rfl sz3 rfl) ⟨rfl, trivial⟩ ?_
          refine aq ?_
          refine JO.nil ?_
          refine JN.blk_n ?_
          refine JN.then_n ?_
          exact JN.z ((), x55) h (SE.fin [0, 1, 2] ⟨rfl, rfl, rfl, rfl, rfl, rfl, rfl, trivial⟩ rfl)
         ·
          replace h := b_ifn (v_f hb) h
          refine JC.skip ?_
          refine JN.blk_n ?_
          refine JN.then_n ?_
          exact JN.z ((), y12.1) h (SE.fin [0, 1, 2] ⟨rfl, rfl, rfl, rfl, rfl, rfl, rfl, trivial⟩ rfl)
      ·
       refine JC.region ?_
       refine mq ?_
       obtain ⟨x56, ex56, h⟩ := b_bind h
       refine JO.s rfl (o_add rfl ex56) ⟨rfl, rfl, trivial⟩ ?_
       refine aq ?_
       refine JO.nil ?_
       refine JN.then_n ?_
       exact JN.z ((), (x14, x56)) h (SE.fin [0, 1, 2] ⟨rfl, rfl, rfl, rfl, rfl, rfl, rfl, trivial⟩ rfl)
     ·
      replace h := b_ifn (d_f hb) h
      refine JC.exit ?_
      refine JN.then_x ?_
      refine JN.then_x ?_
      refine JN.blk_hit ?_
      refine JN.then_n ?_
      exact JN.z ((), y12.1) h (SE.fin [0, 1, 2] ⟨rfl, rfl, rfl, rfl, rfl, rfl, trivial⟩ rfl)
    ·
     refine JC.seq ?_
     refine sr ?_
     refine mq ?_
     refine JO.s rfl (o_lss rfl) ⟨rfl, rfl, trivial⟩ ?_
     refine nt ?_
     refine JC.cond rfl (fun hb => ?_) (fun hb => ?_)
     ·
      replace h := b_if (d_t hb) h
      refine sr ?_
      refine mq ?_
      refine aq ?_
      refine nt ?_
      refine JC.ret ?_
      refine JN.then_r ?_
      refine JN.blk_r ?_
      refine JN.then_r ?_
      refine JN.then_r ?_
      refine JN.blk_r ?_
      refine JN.then_r ?_
      refine JN.front 2 rfl ?_
      refine JN.se (SE.frz [4, 6, 146] ⟨rfl, rfl, rfl, trivial⟩) ?_
      obtain rfl := hR _ h
      exact JN.ret () [_] 1 ⟨rfl, trivial⟩ rfl
     ·
      replace h := b_ifn (d_f hb) h
      refine JC.skip ?_
      refine JN.then_n ?_
      show JC _ _ _ _ _
      refine sr ?_
      refine mq ?_
      refine JO.s rfl (o_field_obj rfl fo28_1) ⟨rfl, trivial⟩ ?_
      refine JO.front 1 rfl ?_
      refine JO.s11 rfl rfl rfl (o_load_obj rfl sz26 (fun _ => rfl) rfl) ⟨rfl, trivial⟩ ?_
      refine JO.s rfl (o_len rfl rfl Try.underlying26) ⟨rfl, trivial⟩ ?_
      obtain ⟨x57, ex57, h⟩ := b_bind h
      refine JO.s rfl (o_sub rfl ex57) ⟨rfl, rfl, trivial⟩ ?_
      obtain ⟨r58, er58, h⟩ := b_bind h
      have cr58 := kit_Lots_Upto_ok k (y6.1, y6.2.1, y6.2.2.1) b_a0 x57 r58 er58
      refine JO.front 1 rfl ?_
      refine JO.s11 rfl rfl rfl (o_call [.tmp 147, .tmp 151] rfl rfl en32 rfl cr58) ⟨rfl, rfl, trivial⟩ ?_
      refine aq ?_
      refine nt ?_
      refine JC.cutB (Z := Unit) (α := Int) (fun z60 x59 => [(0, .eq (.pointer (some ⟨b_a0, 0, none⟩))), (3, .eq (.pointer (some ⟨b1, 0, none⟩))), (5, .rep (.slice tTask) r2), (6, .eq z7), (7, .rep (.slice (.int .i64)) r3.1), (8, .eq (.int .i64 x10)), (17, .eq (.int .i64 x59))]) (fun z60 x59 => [.obj b_a0 93 (.agg (.pair (.rep (.slice (.int .i64)) r58.2.1) (.pair (.eq (.int .i64 r58.2.2.1)) (.eq (.int .u64 r58.2.2.2))))), .obj b1 28 (.rep tChange a1), .sl z7 43 tStep y6.2.2.2]) h (fun K h => ?_) (fun z60 x59 h => ?_)
      ·
       refine sr ?_
       refine cq ?_
       refine nt ?_
       refine JC.block ?_
       refine JC.loopB (Z := Unit) (α := Int × Int) (fun z62 y61 => [(0, .eq (.pointer (some ⟨b_a0, 0, none⟩))), (3, .eq (.pointer (some ⟨b1, 0, none⟩))), (5, .rep (.slice tTask) r2), (6, .eq z7), (7, .rep (.slice (.int .i64)) r3.1), (8, .eq (.int .i64 x10)), (17, .eq (.int .i64 y61.1)), (18, .eq (.int .i64 y61.2))]) (fun z62 y61 => [.obj b_a0 93 (.agg (.pair (.rep (.slice (.int .i64)) r58.2.1) (.pair (.eq (.int .i64 r58.2.2.1)) (.eq (.int .u64 r58.2.2.2))))), .obj b1 28 (.rep tChange a1), .sl z7 43 tStep y6.2.2.2]) (kit_PlanOf_l5 k a1 r2 x10) k () (r58.1, (0 : Int)) (fun _ => rfl) h (SE.fin [0, 1, 2] ⟨rfl, rfl, rfl, rfl, rfl, rfl, rfl, rfl, trivial⟩ rfl) (fun n z62 y61 h => ?_)
       unfold kit_PlanOf_l5 at h
       refine JC.seq ?_
       refine sr ?_
       refine mq ?_
       refine JO.s rfl (o_field_obj rfl fo28_1) ⟨rfl, trivial⟩ ?_
       refine JO.front 1 rfl ?_
       refine JO.s11 rfl rfl rfl (o_load_obj rfl sz26 (fun _ => rfl) rfl) ⟨rfl, trivial⟩ ?_
       refine JO.s rfl (o_len rfl rfl Try.underlying26) ⟨rfl, trivial⟩ ?_
       refine JO.s rfl (o_lss rfl) ⟨rfl, rfl, trivial⟩ ?_
       refine nt ?_
       refine JC.cond rfl (fun hb => ?_) (fun hb => ?_)
       ·
        replace h := b_if (d_t hb) h
        refine JC.skip ?_
        refine JN.then_n ?_
        show JC _ _ _ _ _
        refine JC.seq ?_
        refine JC.block ?_
        refine JC.seq ?_
        refine JC.drawW ?_
        refine DW.t00 rfl rfl rfl (o_field_obj rfl fo28_1) ⟨rfl, trivial⟩ ?_
        refine DW.t11 0 rfl rfl rfl rfl (o_load_obj rfl sz26 (fun _ => rfl) rfl) ⟨rfl, trivial⟩ ?_
        refine DW.t00 rfl rfl rfl (o_move rfl) ⟨rfl, trivial⟩ ?_
        obtain ⟨x63, ex63, h⟩ := b_bind h
        refine DW.t00 rfl rfl rfl (o_index (t := tDresser) rfl Try.underlying26 sz53 ex63) ⟨rfl, rfl, trivial⟩ ?_
        refine DW.t00 rfl rfl rfl (o_load_at (t := tDresser) rfl sz53 rfl) ⟨rfl, trivial⟩ ?_
        refine DW.t00 rfl rfl rfl (o_field_obj rfl fo28_0) ⟨rfl, trivial⟩ ?_
        refine DW.t11 0 rfl rfl rfl rfl (o_load_obj rfl sz25 (fun _ => rfl) rfl) ⟨rfl, trivial⟩ ?_
        refine DW.t00 rfl rfl rfl (o_move rfl) ⟨rfl, trivial⟩ ?_
        refine DW.t00 rfl rfl rfl (o_move rfl) ⟨rfl, trivial⟩ ?_
        obtain ⟨x64, ex64, h⟩ := b_bind h
        refine DW.t00 rfl rfl rfl (o_index (t := tTask) rfl Try.underlying38 sz41 ex64) ⟨rfl, rfl, trivial⟩ ?_
        refine DW.t00 rfl rfl rfl (o_field_at 1 false rfl fo41_0 rfl) ⟨rfl, trivial⟩ ?_
        refine DW.t00 rfl rfl rfl (o_load_at (t := (.int .i64)) rfl sz3 rfl) ⟨rfl, trivial⟩ ?_
        obtain ⟨x65, ex65, h⟩ := b_bind h
        refine DW.t00 rfl rfl rfl (o_index (t := tThing) rfl Try.underlying25 sz45 ex65) ⟨rfl, rfl, trivial⟩ ?_
        refine DW.t00 rfl rfl rfl (o_field_at 1 false rfl fo45_3 rfl) ⟨rfl, trivial⟩ ?_
        refine DW.t00 rfl rfl rfl (o_load_at (t := (.int .i64)) rfl sz3 rfl) ⟨rfl, trivial⟩ ?_
        refine DW.tNew (ptrD 53 (.agg (.pair (.eq (.slice none 0 0)) (.pair (.eq (.int .i64 (0 : Int))) (.eq (.int .i64 (0 : Int))))))) (fun _ => rfl) rfl rfl rfl (o_alloc rfl za53 al53) trivial ?_
        refine DW.fin 16 [true, true, true, true, true, false, false, false, false, false, false, false, false, false, false, true] [20] [0] [.obj b1 28 (.rep tChange a1)] rfl (by kernel_rfl) (by kernel_rfl) (by kernel_rfl) mixed (fun vs hv hB => ?_)
        obtain ⟨w0, vs1, rfl, hv1⟩ := len_cons hv
        obtain ⟨w1, vs2, rfl, hv2⟩ := len_cons hv1
        obtain ⟨w2, vs3, rfl, hv3⟩ := len_cons hv2
        obtain ⟨w3, vs4, rfl, hv4⟩ := len_cons hv3
        obtain ⟨w4, vs5, rfl, hv5⟩ := len_cons hv4
        obtain ⟨w5, vs6, rfl, hv6⟩ := len_cons hv5
        obtain ⟨w6, vs7, rfl, hv7⟩ := len_cons hv6
        obtain ⟨w7, vs8, rfl, hv8⟩ := len_cons hv7
        obtain ⟨w8, vs9, rfl, hv9⟩ := len_cons hv8
        obtain ⟨w9, vs10, rfl, hv10⟩ := len_cons hv9
        obtain ⟨w10, vs11, rfl, hv11⟩ := len_cons hv10
        obtain ⟨w11, vs12, rfl, hv12⟩ := len_cons hv11
        obtain ⟨w12, vs13, rfl, hv13⟩ := len_cons hv12
        obtain ⟨w13, vs14, rfl, hv14⟩ := len_cons hv13
        obtain ⟨w14, vs15, rfl, hv15⟩ := len_cons hv14
        obtain ⟨w15, vs16, rfl, hv16⟩ := len_cons hv15
        obtain rfl := len_nil hv16
        obtain ⟨b66, rfl⟩ := ptr_of hB.2.2.2.2.2.2.2.2.2.2.2.2.2.2.2.1
        refine ⟨[0, 1, 2, 3], [.obj b_a0 93 (.agg (.pair (.rep (.slice (.int .i64)) r58.2.1) (.pair (.eq (.int .i64 r58.2.2.1)) (.eq (.int .u64 r58.2.2.2))))), .sl z7 43 tStep y6.2.2.2, .obj b66 53 (.agg (.pair (.eq (.slice none 0 0)) (.pair (.eq (.int .i64 (0 : Int))) (.eq (.int .i64 (0 : Int))))))], by kernel_rfl, by decide, ?_⟩
        refine JT.front 2 rfl ?_
        refine JT.n11 rfl rfl (o_store rfl sz53 rfl rfl rfl) ⟨rfl, rfl, trivial⟩ (by kernel_rfl) ?_
        refine JT.y00 rfl rfl rfl rfl (o_assign rfl) ⟨rfl, trivial⟩ (by kernel_rfl) ?_
        refine JT.nil ?_
        refine JN.se (SE.fin (Γ' := [(0, .eq (.pointer (some ⟨b_a0, 0, none⟩))), (3, .eq (.pointer (some ⟨b1, 0, none⟩))), (5, .rep (.slice tTask) r2), (6, .eq z7), (7, .rep (.slice (.int .i64)) r3.1), (8, .eq (.int .i64 x10)), (17, .eq (.int .i64 y61.1)), (18, .eq (.int .i64 y61.2)), (19, .eq (.pointer (some ⟨b66, 0, none⟩))), (20, .eq (.int .i64 x65.2.2.2.1))]) (Δ' := [.obj b1 28 (.rep tChange a1), .obj b66 53 (.rep tDresser x63), .obj b_a0 93 (.agg (.pair (.rep (.slice (.int .i64)) r58.2.1) (.pair (.eq (.int .i64 r58.2.2.1)) (.eq (.int .u64 r58.2.2.2))))), .sl z7 43 tStep y6.2.2.2]) [0, 1, 2, 3] ⟨rfl, rfl, rfl, rfl, rfl, rfl, rfl, rfl, rfl, rfl, trivial⟩ rfl) ?_
        refine JN.then_n ?_
        show JC _ _ _ _ _
        refine JC.seq ?_
        refine JC.cutB (Z := Unit) (α := Bool) (fun z68 x67 => [(0, .eq (.pointer (some ⟨b_a0, 0, none⟩))), (3, .eq (.pointer (some ⟨b1, 0, none⟩))), (5, .rep (.slice tTask) r2), (6, .eq z7), (7, .rep (.slice (.int .i64)) r3.1), (8, .eq (.int .i64 x10)), (17, .eq (.int .i64 y61.1)), (18, .eq (.int .i64 y61.2)), (198, .eq (.bool x67))]) (fun z68 x67 => [.obj b_a0 93 (.agg (.pair (.rep (.slice (.int .i64)) r58.2.1) (.pair (.eq (.int .i64 r58.2.2.1)) (.eq (.int .u64 r58.2.2.2))))), .obj b1 28 (.rep tChange a1), .sl z7 43 tStep y6.2.2.2]) h (fun K h => ?_) (fun z68 x67 h => ?_)
        ·
         refine JC.drawN ?_
         refine DN.s00 rfl rfl rfl (o_field_obj rfl fo53_0) ⟨rfl, trivial⟩ ?_
         refine DN.s11 1 rfl rfl rfl rfl (o_load_obj rfl sz22 (fun _ => rfl) rfl) ⟨rfl, trivial⟩ ?_
         refine dm ?_
         refine dm ?_
         obtain ⟨x69, ex69, h⟩ := b_bind h
         refine DN.s00 rfl rfl rfl (o_index (t := tTask) rfl Try.underlying38 sz41 ex69) ⟨rfl, rfl, trivial⟩ ?_
         refine DN.s00 rfl rfl rfl (o_field_at 1 false rfl fo41_0 rfl) ⟨rfl, trivial⟩ ?_
         refine DN.s00 rfl rfl rfl (o_load_at (t := (.int .i64)) rfl sz3 rfl) ⟨rfl, trivial⟩ ?_
         obtain ⟨r70, er70, h⟩ := b_bind h
         have cr70 := kit_At_ok k x63.1 x69.1 r70 er70
         refine DN.s00 rfl rfl rfl (o_call [.tmp 176, .tmp 181] rfl rfl en30 rfl cr70) ⟨rfl, rfl, trivial⟩ ?_
         refine DN.s00 rfl rfl rfl (o_geq rfl) ⟨rfl, rfl, trivial⟩ ?_
         refine DN.fork rfl rfl rfl (o_move rfl) ⟨rfl, trivial⟩ (fun hb => ?_) (fun hb => ?_)
         ·
          replace h := b_if (d_t hb) h
          refine DN.sg00 rfl rfl rfl rfl rfl (o_move rfl) ⟨rfl, rfl, trivial⟩ ?_
          refine DN.sg00 rfl rfl rfl rfl rfl (o_eql rfl) ⟨rfl, rfl, rfl, trivial⟩ ?_
          refine DN.forkg rfl rfl rfl rfl rfl (o_move rfl) ⟨rfl, rfl, trivial⟩ (fun hb => ?_) (fun hb => ?_)
          ·
           replace h := b_if (d_t hb) h
           iterate 3 refine dg ?_
           refine DN.sg00 rfl rfl rfl rfl rfl (o_pick_t rfl) ⟨rfl, rfl, rfl, trivial⟩ ?_
           refine DN.sg00 rfl rfl rfl rfl rfl (o_move rfl) ⟨rfl, rfl, trivial⟩ ?_
           iterate 3 refine dg ?_
           refine DN.fin (by kernel_rfl) mixed ?_
           refine gn ?_
           refine JO.g00 rfl rfl rfl rfl rfl rfl (o_pick_t rfl) ⟨rfl, rfl, trivial⟩ ?_
           refine pt ?_
           refine JO.nil ?_
           refine JN.then_n ?_
           exact JN.z ((), true) h (SE.fin [2, 0, 3] ⟨rfl, rfl, rfl, rfl, rfl, rfl, rfl, rfl, rfl, trivial⟩ rfl)
          ·
           replace h := b_ifn (d_f hb) h
           refine DN.sg00 rfl rfl rfl rfl rfl (o_field_obj rfl fo53_1) ⟨rfl, rfl, trivial⟩ ?_
           refine DN.sg11 1 rfl rfl rfl rfl rfl rfl (o_load_obj rfl sz3 (fun _ => rfl) rfl) ⟨rfl, rfl, trivial⟩ ?_
           refine DN.sg00 rfl rfl rfl rfl rfl (o_eql rfl) ⟨rfl, rfl, rfl, trivial⟩ ?_
           refine DN.sg00 rfl rfl rfl rfl rfl (o_pick_f rfl) ⟨rfl, rfl, rfl, trivial⟩ ?_
           refine DN.forkg rfl rfl rfl rfl rfl (o_move rfl) ⟨rfl, rfl, trivial⟩ (fun hb => ?_) (fun hb => ?_)
           ·
            replace h := b_if (d_t hb) h
            iterate 3 refine dg ?_
            refine DN.fin (by kernel_rfl) mixed ?_
            refine gn ?_
            refine JO.g00 rfl rfl rfl rfl rfl rfl (o_pick_t rfl) ⟨rfl, rfl, trivial⟩ ?_
            refine pt ?_
            refine JO.nil ?_
            refine JN.then_n ?_
            exact JN.z ((), true) h (SE.fin [2, 0, 3] ⟨rfl, rfl, rfl, rfl, rfl, rfl, rfl, rfl, rfl, trivial⟩ rfl)
           ·
            replace h := b_ifn (d_f hb) h
            refine DN.sg00 rfl rfl rfl rfl rfl (o_move rfl) ⟨rfl, rfl, trivial⟩ ?_
            refine DN.sg00 rfl rfl rfl rfl rfl (o_field_obj rfl fo53_1) ⟨rfl, rfl, trivial⟩ ?_
            refine DN.sg11 1 rfl rfl rfl rfl rfl rfl (o_load_obj rfl sz3 (fun _ => rfl) rfl) ⟨rfl, rfl, trivial⟩ ?_
            refine DN.fin (by kernel_rfl) mixed ?_
            refine JO.g00 rfl rfl rfl rfl rfl rfl (o_eql rfl) ⟨rfl, rfl, trivial⟩ ?_
            refine JO.g00 rfl rfl rfl rfl rfl rfl (o_pick_f rfl) ⟨rfl, rfl, trivial⟩ ?_
            refine pt ?_
            refine JO.nil ?_
            refine JN.then_n ?_
            exact JN.z ((), decide (x65.2.2.2.1 = x63.2.1)) h (SE.fin [2, 0, 3] ⟨rfl, rfl, rfl, rfl, rfl, rfl, rfl, rfl, rfl, trivial⟩ rfl)
         ·
          replace h := b_ifn (d_f hb) h
          iterate 3 refine dg ?_
          refine DN.sgnou rfl rfl rfl rfl rfl rfl ?_
          refine DN.sgnou rfl rfl rfl rfl rfl rfl ?_
          refine DN.sgnou rfl rfl rfl rfl rfl rfl ?_
          iterate 2 refine dg ?_
          refine DN.sgnou rfl rfl rfl rfl rfl rfl ?_
          refine DN.sgnou rfl rfl rfl rfl rfl rfl ?_
          refine DN.sgnou rfl rfl rfl rfl rfl rfl ?_
          refine DN.fin (by kernel_rfl) mixed ?_
          refine JO.gnou rfl rfl rfl rfl rfl rfl ?_
          refine gn ?_
          refine pf ?_
          refine JO.nil ?_
          refine JN.then_n ?_
          exact JN.z ((), false) h (SE.fin [2, 0, 3] ⟨rfl, rfl, rfl, rfl, rfl, rfl, rfl, rfl, rfl, trivial⟩ rfl)
        ·
         refine JC.cond rfl (fun hb => ?_) (fun hb => ?_)
         ·
          replace h := b_if (v_t hb) h
          refine JC.exit ?_
          refine JN.then_x ?_
          refine JN.blk_miss (eq_false (by decide)) ?_
          refine JN.then_x ?_
          refine JN.then_x ?_
          refine JN.blk_hit ?_
          refine JN.then_n ?_
          exact JN.z ((), y61.1) h (SE.fin [0, 1, 2] ⟨rfl, rfl, rfl, rfl, rfl, rfl, rfl, trivial⟩ rfl)
         ·
          replace h := b_ifn (v_f hb) h
          refine JC.skip ?_
          refine JN.then_n ?_
          show JC _ _ _ _ _
          refine JC.region ?_
          refine mq ?_
          obtain ⟨x71, ex71, h⟩ := b_bind h
          refine JO.s rfl (o_add rfl ex71) ⟨rfl, rfl, trivial⟩ ?_
          refine JO.s rfl (o_field_obj rfl fo28_1) ⟨rfl, trivial⟩ ?_
          refine JO.front 1 rfl ?_
          refine JO.s11 rfl rfl rfl (o_load_obj rfl sz26 (fun _ => rfl) rfl) ⟨rfl, trivial⟩ ?_
          refine JO.s rfl (o_len rfl rfl Try.underlying26) ⟨rfl, trivial⟩ ?_
          obtain ⟨u72, eu72, h⟩ := b_bind h
          refine JO.s rfl (o_rem rfl (chkP_some eu72)) ⟨rfl, rfl, trivial⟩ ?_
          refine aq ?_
          refine JO.nil ?_
          refine JN.blk_n ?_
          refine JN.then_n ?_
          show JC _ _ _ _ _
          refine JC.region ?_
          refine mq ?_
          obtain ⟨x73, ex73, h⟩ := b_bind h
          refine JO.s rfl (o_add rfl ex73) ⟨rfl, rfl, trivial⟩ ?_
          refine aq ?_
          refine JO.nil ?_
          refine JN.then_n ?_
          exact JN.z ((), (Int.tmod x71 (a1.2.1.length : Int), x73)) h (SE.fin [1, 0, 2] ⟨rfl, rfl, rfl, rfl, rfl, rfl, rfl, rfl, trivial⟩ rfl)
       ·
        replace h := b_ifn (d_f hb) h
        refine JC.exit ?_
        refine JN.then_x ?_
        refine JN.then_x ?_
        refine JN.blk_hit ?_
        refine JN.then_n ?_
        exact JN.z ((), y61.1) h (SE.fin [1, 0, 2] ⟨rfl, rfl, rfl, rfl, rfl, rfl, rfl, trivial⟩ rfl)
      ·
       refine JC.region ?_
       iterate 3 refine mq ?_
       refine JO.s rfl (o_buildT [(0, .tmp 206, _), (1, .tmp 207, _)] rfl pl43 za43 alb43 (stors ⟨rfl, rfl, trivial⟩) rfl) ⟨rfl, rfl, trivial⟩ ?_
       refine JO.s rfl (o_litB (t := tStep) [(.tmp 208, _)] [(x10, x59)] rfl rfl sl30 (.cons trivial (.agg (.pair .int .int)) .nil) rfl rfl) ⟨rfl, trivial⟩ ?_
       obtain ⟨u74, eu74, h⟩ := b_bind h
       refine JO.front 2 rfl ?_
       refine JO.s1x rfl rfl rfl (o_append rfl rfl sl30 (chkP_some eu74)) ⟨rfl, rfl, trivial⟩ fun v75 => ?_
       refine aq ?_
       refine JO.nil ?_
       refine JN.blk_n ?_
       refine JN.then_n ?_
       exact JN.z (v75, (r58.2.1, r58.2.2.1, r58.2.2.2, y6.2.2.2 ++ [(x10, x59)])) h (SE.fin [1, 2, 0] ⟨rfl, rfl, rfl, rfl, rfl, trivial⟩ rfl)
   ·
    refine JN.then_n ?_
    exact JN.z (z9, (x8.1, x8.2.1, x8.2.2.1, x8.2.2.2)) h (SE.fin [0, 1, 2] ⟨rfl, rfl, rfl, rfl, rfl, trivial⟩ rfl)
  ·
   replace h := b_ifn (d_f hb) h
   refine JC.exit ?_
   refine JN.then_x ?_
   refine JN.then_x ?_
   refine JN.blk_hit ?_
   refine JN.then_n ?_
   exact JN.z (z7, (y6.2.2.2, y6.1, y6.2.1, y6.2.2.1)) h (SE.fin [0, 1] ⟨rfl, trivial⟩ rfl)
 ·
  refine sr ?_
  refine mq ?_
  refine aq ?_
  refine nt ?_
  refine JC.ret ?_
  refine JN.se (SE.frz [4, 6, 211] ⟨rfl, rfl, rfl, trivial⟩) ?_
  obtain rfl := Option.some.inj h
  exact JN.ret () [_] 1 ⟨rfl, trivial⟩ rfl


def chg_outside (k : Nat) (a0 : Int) (a1 : Int) (a2 : Int) : Option Bool :=
 ((if a0 < a1 then (some true) else (some (decide (a2 < a0)))) : Option (Bool)).bind fun x1 =>
 some x1

theorem chg_outside_ok (k : Nat) (a0 : Int) (a1 : Int) (a2 : Int) (r : Bool) (h : chg_outside k a0 a1 a2 = some r) :
 Ctr Try.prog 71 [.eq (.int .i64 a0), .eq (.int .i64 a1), .eq (.int .i64 a2)] [] (fun _ : Unit => (resA [.eq (.bool r)], [])) := by
 unfold chg_outside at h
 replace h := b_top h
 refine Ctr.of 15 Try.func71 rfl Try.ntmps71 rfl fun S w0 => ?_
 refine sr ?_
 refine cq ?_
 refine nt ?_
 refine JC.cutB (Z := Unit) (α := Bool) (fun z2 x1 => [(6, .eq (.bool x1))]) (fun z2 x1 => []) h (fun K h => ?_) (fun z2 x1 h => ?_)
 ·
  refine JC.region ?_
  iterate 2 refine mq ?_
  refine JO.s rfl (o_lss rfl) ⟨rfl, rfl, trivial⟩ ?_
  refine mq ?_
  refine JO.bool (s := 10) rfl (fun hb => ?_) (fun hb => ?_)
  ·
   replace h := b_if (d_t hb) h
   iterate 3 refine gn ?_
   refine pt ?_
   refine aq ?_
   refine JO.nil ?_
   refine JN.then_n ?_
   exact JN.z ((), true) h (SE.fin [] ⟨rfl, trivial⟩ rfl)
  ·
   replace h := b_ifn (d_f hb) h
   refine gm ?_
   refine gm ?_
   refine JO.g00 rfl rfl rfl rfl rfl rfl (o_gtr rfl) ⟨rfl, rfl, trivial⟩ ?_
   refine pf ?_
   refine aq ?_
   refine JO.nil ?_
   refine JN.then_n ?_
   exact JN.z ((), decide (a2 < a0)) h (SE.fin [] ⟨rfl, trivial⟩ rfl)
 ·
  refine JC.ret ?_
  obtain rfl := Option.some.inj h
  exact JN.ret () [_] 0 ⟨rfl, trivial⟩ rfl


def chg_sized (k : Nat) (a0 : Int) (a1 : Int) : Option Int :=
 if a0 = (0 : Int) then (some (7 : Int)) else (if a1 < a0 then (some (6 : Int)) else (some (0 : Int)))

theorem chg_sized_ok (k : Nat) (a0 : Int) (a1 : Int) (r : Int) (h : chg_sized k a0 a1 = some r) :
 Ctr Try.prog 78 [.eq (.int .i64 a0), .eq (.int .i64 a1)] [] (fun _ : Unit => (resA [.eq (.int .i64 r)], [])) := by
 unfold chg_sized at h
 replace h := b_top h
 refine Ctr.of 12 Try.func78 rfl Try.ntmps78 rfl fun S w0 => ?_
 refine sr ?_
 refine cq ?_
 refine nt ?_
 refine JC.seq ?_
 refine JC.block ?_
 refine sr ?_
 refine mq ?_
 refine JO.s rfl (o_eql rfl) ⟨rfl, rfl, trivial⟩ ?_
 refine aq ?_
 refine nt ?_
 refine JC.cond rfl (fun hb => ?_) (fun hb => ?_)
 ·
  replace h := b_if (d_t hb) h
  refine sr ?_
  refine cq ?_
  refine nt ?_
  refine JC.ret ?_
  refine JN.blk_r ?_
  refine JN.then_r ?_
  obtain rfl := Option.some.inj h
  exact JN.ret () [_] 0 ⟨rfl, trivial⟩ rfl
 ·
  replace h := b_ifn (d_f hb) h
  refine sr ?_
  iterate 2 refine mq ?_
  refine JO.s rfl (o_gtr rfl) ⟨rfl, rfl, trivial⟩ ?_
  refine aq ?_
  refine nt ?_
  refine JC.cond rfl (fun hb => ?_) (fun hb => ?_)
  ·
   replace h := b_if (d_t hb) h
   refine sr ?_
   refine cq ?_
   refine nt ?_
   refine JC.ret ?_
   refine JN.blk_r ?_
   refine JN.then_r ?_
   obtain rfl := Option.some.inj h
   exact JN.ret () [_] 0 ⟨rfl, trivial⟩ rfl
  ·
   replace h := b_ifn (d_f hb) h
   refine JC.skip ?_
   refine JN.blk_n ?_
   refine JN.then_n ?_
   show JC _ _ _ _ _
   refine sr ?_
   refine cq ?_
   refine nt ?_
   refine JC.ret ?_
   obtain rfl := Option.some.inj h
   exact JN.ret () [_] 0 ⟨rfl, trivial⟩ rfl


def chg_of_l1 (k : Nat) (a0 : (List Int)) : Nat → (Int × Int) → Option Int
 | 0, _ => none
 | n + 1, y3 =>
  if y3.2 < (a0.length : Int) then ((geti a0 y3.2).bind fun x5 =>
  (chkP (0 ≤ x5)).bind fun _ =>
  (ck (y3.2 + (1 : Int))).bind fun x7 =>
  chg_of_l1 k a0 n (ior .u8 y3.1 (ishl .u8 (1 : Int) x5), x7)) else (some y3.1)
def chg_of (k : Nat) (a0 : (List Int)) : Option Int :=
 ((chg_of_l1 k a0 k ((0 : Int), (0 : Int))) : Option (Int)).bind fun x1 =>
 some x1

theorem chg_of_ok (k : Nat) (a0 : (List Int)) (r : Int) (h : chg_of k a0 = some r) :
 Ctr Try.prog 81 [.rep (.slice (.int .i64)) a0] [] (fun _ : Unit => (resA [.eq (.int .u8 r)], [])) := by
 unfold chg_of at h
 replace h := b_top h
 refine Ctr.of 18 Try.func81 rfl Try.ntmps81 rfl fun S w0 => ?_
 refine sr ?_
 refine cq ?_
 refine nt ?_
 refine sr ?_
 refine cq ?_
 refine nt ?_
 refine JC.cutB (Z := Unit) (α := Int) (fun z2 x1 => [(3, .eq (.int .u8 x1))]) (fun z2 x1 => []) h (fun K h => ?_) (fun z2 x1 h => ?_)
 ·
  refine sr ?_
  refine mq ?_
  refine JO.s rfl (o_len rfl rfl Try.underlying22) ⟨rfl, trivial⟩ ?_
  refine JO.mc rfl ?_
  refine nt ?_
  refine JC.block ?_
  refine JC.loopB (Z := Unit) (α := Int × Int) (fun z4 y3 => [(3, .eq (.int .u8 y3.1)), (6, .rep (.slice (.int .i64)) a0), (7, .eq (.int .i64 (a0.length : Int))), (8, .eq (.int .i64 y3.2))]) (fun z4 y3 => []) (chg_of_l1 k a0) k () ((0 : Int), (0 : Int)) (fun _ => rfl) h (SE.fin [] ⟨rfl, rfl, rfl, rfl, trivial⟩ rfl) (fun n z4 y3 h => ?_)
  unfold chg_of_l1 at h
  refine sr ?_
  refine JO.s rfl (o_lss rfl) ⟨rfl, rfl, trivial⟩ ?_
  refine nt ?_
  refine JC.seq ?_
  refine JC.cond rfl (fun hb => ?_) (fun hb => ?_)
  ·
   replace h := b_if (d_t hb) h
   refine JC.skip ?_
   refine JN.then_n ?_
   show JC _ _ _ _ _
   refine JC.seq ?_
   refine JC.block ?_
   refine sr ?_
   obtain ⟨x5, ex5, h⟩ := b_bind h
   refine JO.s rfl (o_index (t := (.int .i64)) rfl Try.underlying22 sz3 ex5) ⟨rfl, rfl, trivial⟩ ?_
   refine JO.s rfl (o_load_at (t := (.int .i64)) rfl sz3 rfl) ⟨rfl, trivial⟩ ?_
   refine aq ?_
   refine nt ?_
   refine JC.region ?_
   iterate 2 refine mq ?_
   obtain ⟨u6, eu6, h⟩ := b_bind h
   refine JO.s rfl (o_shl rfl (chkP_some eu6)) ⟨rfl, rfl, trivial⟩ ?_
   refine JO.s rfl (o_or rfl) ⟨rfl, rfl, trivial⟩ ?_
   refine aq ?_
   refine JO.nil ?_
   refine JN.blk_n ?_
   refine JN.then_n ?_
   show JC _ _ _ _ _
   refine JC.region ?_
   obtain ⟨x7, ex7, h⟩ := b_bind h
   refine JO.s rfl (o_add rfl ex7) ⟨rfl, rfl, trivial⟩ ?_
   refine mq ?_
   refine JO.nil ?_
   refine JN.then_n ?_
   exact JN.z ((), (ior .u8 y3.1 (ishl .u8 (1 : Int) x5), x7)) h (SE.fin [] ⟨rfl, rfl, rfl, rfl, trivial⟩ rfl)
  ·
   replace h := b_ifn (d_f hb) h
   refine JC.exit ?_
   refine JN.then_x ?_
   refine JN.then_x ?_
   refine JN.blk_hit ?_
   refine JN.then_n ?_
   exact JN.z ((), y3.1) h (SE.fin [] ⟨rfl, trivial⟩ rfl)
 ·
  refine sr ?_
  refine mq ?_
  refine aq ?_
  refine nt ?_
  refine JC.ret ?_
  obtain rfl := Option.some.inj h
  exact JN.ret () [_] 0 ⟨rfl, trivial⟩ rfl


def chg_set_has (k : Nat) (a0 : Int) (a1 : Int) : Option Bool :=
 (chkP (0 ≤ a1)).bind fun _ =>
 some (decide ((iand .u8 (ishr .u8 a0 a1) (1 : Int)) = (1 : Int)))

theorem chg_set_has_ok (k : Nat) (a0 : Int) (a1 : Int) (r : Bool) (h : chg_set_has k a0 a1 = some r) :
 Ctr Try.prog 88 [.eq (.int .u8 a0), .eq (.int .i64 a1)] [] (fun _ : Unit => (resA [.eq (.bool r)], [])) := by
 unfold chg_set_has at h
 replace h := b_top h
 refine Ctr.of 10 Try.func88 rfl Try.ntmps88 rfl fun S w0 => ?_
 refine sr ?_
 refine cq ?_
 refine nt ?_
 refine sr ?_
 iterate 2 refine mq ?_
 obtain ⟨u1, eu1, h⟩ := b_bind h
 refine JO.s rfl (o_shr rfl (chkP_some eu1)) ⟨rfl, rfl, trivial⟩ ?_
 refine JO.s rfl (o_and rfl) ⟨rfl, rfl, trivial⟩ ?_
 refine JO.s rfl (o_eql rfl) ⟨rfl, rfl, trivial⟩ ?_
 refine aq ?_
 refine nt ?_
 refine JC.ret ?_
 obtain rfl := Option.some.inj h
 exact JN.ret () [_] 0 ⟨rfl, trivial⟩ rfl


def chg_checkList_l1 (k : Nat) (a0 : (List Int)) (a1 : Int) (a2 : Int) : Nat → Int → Option (Except Int Unit)
 | 0, _ => none
 | n + 1, y3 =>
  if y3 < (a0.length : Int) then ((geti a0 y3).bind fun x5 =>
  (((ck (a1 - (1 : Int))).bind fun x8 =>
  (chg_outside k x5 (0 : Int) x8).bind fun r9 =>
  if r9 = true then (some true) else (some (decide (x5 = a2)))) : Option (Bool)).bind fun x6 =>
  if x6 = true then (some (.error (3 : Int))) else (((if (0 : Int) < y3 then ((ck (y3 - (1 : Int))).bind fun x12 =>
  (geti a0 x12).bind fun x13 =>
  some (decide (x5 ≤ x13))) else (some false)) : Option (Bool)).bind fun x10 =>
  if x10 = true then (some (.error (5 : Int))) else ((ck (y3 + (1 : Int))).bind fun x14 =>
  chg_checkList_l1 k a0 a1 a2 n x14))) else (some (.ok ()))
def chg_checkList (k : Nat) (a0 : (List Int)) (a1 : Int) (a2 : Int) : Option Int :=
 bE (α := Unit) (chg_checkList_l1 k a0 a1 a2 k (0 : Int)) (some) fun _ =>
 some (0 : Int)

theorem chg_checkList_ok (k : Nat) (a0 : (List Int)) (a1 : Int) (a2 : Int) (r : Int) (h : chg_checkList k a0 a1 a2 = some r) :
 Ctr Try.prog 91 [.rep (.slice (.int .i64)) a0, .eq (.int .i64 a1), .eq (.int .i64 a2)] [] (fun _ : Unit => (resA [.eq (.int .i64 r)], [])) := by
 unfold chg_checkList at h
 replace h := b_top h
 refine Ctr.of 37 Try.func91 rfl Try.ntmps91 rfl fun S w0 => ?_
 refine sr ?_
 refine cq ?_
 refine nt ?_
 refine JC.cutE (Z := Unit) (α := Unit) (fun z2 x1 => []) (fun z2 x1 => []) (fun e => e = r) h (fun e h => Option.some.inj h) (fun K hR h => ?_) (fun z2 x1 h => ?_)
 ·
  refine sr ?_
  refine mq ?_
  refine JO.s rfl (o_len rfl rfl Try.underlying22) ⟨rfl, trivial⟩ ?_
  refine JO.mc rfl ?_
  refine nt ?_
  refine JC.block ?_
  refine JC.loopB (Z := Unit) (α := Int) (fun z4 y3 => [(0, .rep (.slice (.int .i64)) a0), (1, .eq (.int .i64 a1)), (2, .eq (.int .i64 a2)), (9, .rep (.slice (.int .i64)) a0), (10, .eq (.int .i64 (a0.length : Int))), (11, .eq (.int .i64 y3))]) (fun z4 y3 => []) (chg_checkList_l1 k a0 a1 a2) k () (0 : Int) (fun _ => rfl) h (SE.fin [] ⟨rfl, rfl, rfl, rfl, rfl, rfl, trivial⟩ rfl) (fun n z4 y3 h => ?_)
  unfold chg_checkList_l1 at h
  refine sr ?_
  refine JO.s rfl (o_lss rfl) ⟨rfl, rfl, trivial⟩ ?_
  refine nt ?_
  refine JC.seq ?_
  refine JC.cond rfl (fun hb => ?_) (fun hb => ?_)
  ·
   replace h := b_if (d_t hb) h
   refine JC.skip ?_
   refine JN.then_n ?_
   show JC _ _ _ _ _
   refine JC.seq ?_
   refine JC.block ?_
   refine sr ?_
   refine mq ?_
   obtain ⟨x5, ex5, h⟩ := b_bind h
   refine JO.s rfl (o_index (t := (.int .i64)) rfl Try.underlying22 sz3 ex5) ⟨rfl, rfl, trivial⟩ ?_
   refine JO.s rfl (o_load_at (t := (.int .i64)) rfl sz3 rfl) ⟨rfl, trivial⟩ ?_
   refine aq ?_
   refine aq ?_
   refine nt ?_
   refine JC.seq ?_
   refine JC.cutB (Z := Unit) (α := Bool) (fun z7 x6 => [(0, .rep (.slice (.int .i64)) a0), (1, .eq (.int .i64 a1)), (2, .eq (.int .i64 a2)), (7, .eq (.int .i64 y3)), (8, .eq (.int .i64 x5)), (9, .rep (.slice (.int .i64)) a0), (10, .eq (.int .i64 (a0.length : Int))), (11, .eq (.int .i64 y3)), (24, .eq (.bool x6))]) (fun z7 x6 => []) h (fun K h => ?_) (fun z7 x6 h => ?_)
   ·
    refine JC.region ?_
    iterate 2 refine mq ?_
    obtain ⟨x8, ex8, h⟩ := b_bind h
    refine JO.s rfl (o_sub rfl ex8) ⟨rfl, rfl, trivial⟩ ?_
    obtain ⟨r9, er9, h⟩ := b_bind h
    have cr9 := chg_outside_ok k x5 (0 : Int) x8 r9 er9
    refine JO.s rfl (o_call [.tmp 16, .const (.int .i64 (0)), .tmp 18] rfl rfl en71 rfl cr9) ⟨rfl, rfl, rfl, trivial⟩ ?_
    refine mq ?_
    refine JO.bool (s := 20) rfl (fun hb => ?_) (fun hb => ?_)
    ·
     replace h := b_if (v_t hb) h
     iterate 3 refine gn ?_
     refine pt ?_
     refine JO.nil ?_
     refine JN.then_n ?_
     exact JN.z ((), true) h (SE.fin [] ⟨rfl, rfl, rfl, rfl, rfl, rfl, rfl, rfl, rfl, trivial⟩ rfl)
    ·
     replace h := b_ifn (v_f hb) h
     refine gm ?_
     refine gm ?_
     refine JO.g00 rfl rfl rfl rfl rfl rfl (o_eql rfl) ⟨rfl, rfl, trivial⟩ ?_
     refine pf ?_
     refine JO.nil ?_
     refine JN.then_n ?_
     exact JN.z ((), decide (x5 = a2)) h (SE.fin [] ⟨rfl, rfl, rfl, rfl, rfl, rfl, rfl, rfl, rfl, trivial⟩ rfl)
   ·
    refine JC.cond rfl (fun hb => ?_) (fun hb => ?_)
    ·
     replace h := b_if (v_t hb) h
     refine sr ?_
     refine cq ?_
     refine nt ?_
     refine JC.ret ?_
     refine JN.then_r ?_
     refine JN.blk_r ?_
     refine JN.then_r ?_
     refine JN.then_r ?_
     refine JN.blk_r ?_
     refine JN.then_r ?_
     obtain rfl := hR _ h
     exact JN.ret () [_] 0 ⟨rfl, trivial⟩ rfl
    ·
     replace h := b_ifn (v_f hb) h
     refine JC.skip ?_
     refine JN.then_n ?_
     show JC _ _ _ _ _
     refine JC.cutB (Z := Unit) (α := Bool) (fun z11 x10 => [(0, .rep (.slice (.int .i64)) a0), (1, .eq (.int .i64 a1)), (2, .eq (.int .i64 a2)), (9, .rep (.slice (.int .i64)) a0), (10, .eq (.int .i64 (a0.length : Int))), (11, .eq (.int .i64 y3)), (35, .eq (.bool x10))]) (fun z11 x10 => []) h (fun K h => ?_) (fun z11 x10 h => ?_)
     ·
      refine JC.region ?_
      refine mq ?_
      refine JO.s rfl (o_gtr rfl) ⟨rfl, rfl, trivial⟩ ?_
      refine mq ?_
      refine JO.bool (s := 27) rfl (fun hb => ?_) (fun hb => ?_)
      ·
       replace h := b_if (d_t hb) h
       refine gm ?_
       refine gm ?_
       refine gm ?_
       obtain ⟨x12, ex12, h⟩ := b_bind h
       refine JO.g00 rfl rfl rfl rfl rfl rfl (o_sub rfl ex12) ⟨rfl, rfl, trivial⟩ ?_
       obtain ⟨x13, ex13, h⟩ := b_bind h
       refine JO.g00 rfl rfl rfl rfl rfl rfl (o_index (t := (.int .i64)) rfl Try.underlying22 sz3 ex13) ⟨rfl, rfl, trivial⟩ ?_
       refine JO.g00 rfl rfl rfl rfl rfl rfl (o_load_at (t := (.int .i64)) rfl sz3 rfl) ⟨rfl, trivial⟩ ?_
       refine JO.g00 rfl rfl rfl rfl rfl rfl (o_leq rfl) ⟨rfl, rfl, trivial⟩ ?_
       refine pt ?_
       refine JO.nil ?_
       refine JN.then_n ?_
       exact JN.z ((), decide (x5 ≤ x13)) h (SE.fin [] ⟨rfl, rfl, rfl, rfl, rfl, rfl, rfl, trivial⟩ rfl)
      ·
       replace h := b_ifn (d_f hb) h
       iterate 7 refine gn ?_
       refine pf ?_
       refine JO.nil ?_
       refine JN.then_n ?_
       exact JN.z ((), false) h (SE.fin [] ⟨rfl, rfl, rfl, rfl, rfl, rfl, rfl, trivial⟩ rfl)
     ·
      refine JC.cond rfl (fun hb => ?_) (fun hb => ?_)
      ·
       replace h := b_if (v_t hb) h
       refine sr ?_
       refine cq ?_
       refine nt ?_
       refine JC.ret ?_
       refine JN.blk_r ?_
       refine JN.then_r ?_
       refine JN.then_r ?_
       refine JN.blk_r ?_
       refine JN.then_r ?_
       obtain rfl := hR _ h
       exact JN.ret () [_] 0 ⟨rfl, trivial⟩ rfl
      ·
       replace h := b_ifn (v_f hb) h
       refine JC.skip ?_
       refine JN.blk_n ?_
       refine JN.then_n ?_
       show JC _ _ _ _ _
       refine JC.region ?_
       obtain ⟨x14, ex14, h⟩ := b_bind h
       refine JO.s rfl (o_add rfl ex14) ⟨rfl, rfl, trivial⟩ ?_
       refine mq ?_
       refine JO.nil ?_
       refine JN.then_n ?_
       exact JN.z ((), x14) h (SE.fin [] ⟨rfl, rfl, rfl, rfl, rfl, rfl, trivial⟩ rfl)
  ·
   replace h := b_ifn (d_f hb) h
   refine JC.exit ?_
   refine JN.then_x ?_
   refine JN.then_x ?_
   refine JN.blk_hit ?_
   refine JN.then_n ?_
   exact JN.z ((), ()) h (SE.fin [] trivial rfl)
 ·
  refine sr ?_
  refine cq ?_
  refine nt ?_
  refine JC.ret ?_
  obtain rfl := Option.some.inj h
  exact JN.ret () [_] 0 ⟨rfl, trivial⟩ rfl


def chg_checkThings_l1 (k : Nat) (a0 : dChange) : Nat → Int → Option (Except Int Unit)
 | 0, _ => none
 | n + 1, y5 =>
  if y5 < (a0.1.length : Int) then ((geti a0.1 y5).bind fun x7 =>
  (chg_checkList k x7.1 (a0.1.length : Int) y5).bind fun r9 =>
  if ¬ (r9 = (0 : Int)) then (some (.error r9)) else ((((chg_outside k x7.2.1 (1 : Int) (4 : Int)).bind fun r12 =>
  if r12 = true then (some true) else ((chg_outside k x7.2.2.1 (1 : Int) (4 : Int)).bind fun r13 =>
  some r13)) : Option (Bool)).bind fun x10 =>
  if x10 = true then (some (.error (1 : Int))) else ((chg_outside k x7.2.2.2.1 (0 : Int) (2 : Int)).bind fun r14 =>
  if r14 = true then (some (.error (8 : Int))) else ((chg_outside k x7.2.2.2.2 (0 : Int) (30 : Int)).bind fun r15 =>
  if r15 = true then (some (.error (1 : Int))) else ((ck (y5 + (1 : Int))).bind fun x16 =>
  chg_checkThings_l1 k a0 n x16))))) else (some (.ok ()))

def chg_checkThings_l4 (k : Nat) (y24 : (List Int) × Int) (x28 : dThing) : Nat → ((List Int) × Int) → Option (List Int)
 | 0, _ => none
 | n + 1, y30 =>
  if y30.2 < (x28.1.length : Int) then ((geti x28.1 y30.2).bind fun x32 =>
  (chkP (0 ≤ y24.2 ∧ y24.2 < 4)).bind fun _ =>
  (geti y30.1 y24.2).bind fun x34 =>
  (chkP (0 ≤ x32 ∧ x32 < 4)).bind fun _ =>
  (geti y30.1 x32).bind fun x36 =>
  (chg_of k [x32]).bind fun r37 =>
  (chkP (0 ≤ y24.2 ∧ y24.2 < 4)).bind fun _ =>
  (ck (y30.2 + (1 : Int))).bind fun x39 =>
  chg_checkThings_l4 k y24 x28 n (List.set y30.1 (Int.toNat y24.2) (ior .u8 x34 (ior .u8 x36 r37)), x39)) else (some y30.1)

def chg_checkThings_l3 (k : Nat) (a0 : dChange) : Nat → ((List Int) × Int) → Option (List Int)
 | 0, _ => none
 | n + 1, y24 =>
  if y24.2 < (a0.1.length : Int) then ((((geti a0.1 y24.2).bind fun x28 =>
  chg_checkThings_l4 k y24 x28 k (y24.1, (0 : Int))) : Option ((List Int))).bind fun x26 =>
  (ck (y24.2 + (1 : Int))).bind fun x40 =>
  chg_checkThings_l3 k a0 n (x26, x40)) else (some y24.1)

def chg_checkThings_l2 (k : Nat) (a0 : dChange) : Nat → ((List Int) × Int) → Option (List Int)
 | 0, _ => none
 | n + 1, y20 =>
  if y20.2 < (a0.1.length : Int) then (((chg_checkThings_l3 k a0 k (y20.1, (0 : Int))) : Option ((List Int))).bind fun x22 =>
  (ck (y20.2 + (1 : Int))).bind fun x41 =>
  chg_checkThings_l2 k a0 n (x22, x41)) else (some y20.1)

def chg_checkThings_l5 (k : Nat) (a0 : dChange) (x18 : (List Int)) : Nat → Int → Option (Except Int Unit)
 | 0, _ => none
 | n + 1, y44 =>
  if y44 < (a0.1.length : Int) then ((chkP (0 ≤ y44 ∧ y44 < 4)).bind fun _ =>
  (geti x18 y44).bind fun x47 =>
  (chg_set_has k x47 y44).bind fun r48 =>
  if r48 = true then (some (.error (9 : Int))) else ((ck (y44 + (1 : Int))).bind fun x49 =>
  chg_checkThings_l5 k a0 x18 n x49)) else (some (.ok ()))
def chg_checkThings (k : Nat) (a0 : dChange) : Option Int :=
 (chg_sized k (a0.1.length : Int) (4 : Int)).bind fun r2 =>
 if ¬ (r2 = (0 : Int)) then (some r2) else (bE (α := Unit) (chg_checkThings_l1 k a0 k (0 : Int)) (some) fun _ =>
 ((chg_checkThings_l2 k a0 k ([(0 : Int), (0 : Int), (0 : Int), (0 : Int)], (0 : Int))) : Option ((List Int))).bind fun x18 =>
 bE (α := Unit) (chg_checkThings_l5 k a0 x18 k (0 : Int)) (some) fun _ =>
 some (0 : Int))

theorem chg_checkThings_ok (k : Nat) (a0 : dChange) (r : Int) (h : chg_checkThings k a0 = some r) :
 Ctr Try.prog 90 [.rep tChange a0] [] (fun _ : Unit => (resA [.eq (.int .i64 r)], [])) := by
 unfold chg_checkThings at h
 replace h := b_top h
 refine Ctr.of 103 Try.func90 rfl Try.ntmps90 rfl fun S w0 => ?_
 refine sr ?_
 refine JO.s01 rfl rfl rfl (o_box rfl rfl) ⟨rfl, trivial⟩ fun b1 => ?_
 refine cq ?_
 refine nt ?_
 refine JC.seq ?_
 refine sr ?_
 refine JO.s rfl (o_field_obj rfl fo28_0) ⟨rfl, trivial⟩ ?_
 refine JO.s11 rfl rfl rfl (o_load_obj rfl sz25 (fun _ => rfl) rfl) ⟨rfl, trivial⟩ ?_
 refine JO.s rfl (o_len rfl rfl Try.underlying25) ⟨rfl, trivial⟩ ?_
 obtain ⟨r2, er2, h⟩ := b_bind h
 have cr2 := chg_sized_ok k (a0.1.length : Int) (4 : Int) r2 er2
 refine JO.s rfl (o_call [.tmp 15, .const (.int .i64 (4))] rfl rfl en78 rfl cr2) ⟨rfl, rfl, trivial⟩ ?_
 refine aq ?_
 refine nt ?_
 refine sr ?_
 refine mq ?_
 refine JO.s rfl (o_neq rfl) ⟨rfl, rfl, trivial⟩ ?_
 refine nt ?_
 refine JC.cond rfl (fun hb => ?_) (fun hb => ?_)
 ·
  replace h := b_if (n_t hb) h
  refine sr ?_
  refine mq ?_
  refine aq ?_
  refine nt ?_
  refine JC.ret ?_
  refine JN.then_r ?_
  obtain rfl := Option.some.inj h
  exact JN.ret () [_] 0 ⟨rfl, trivial⟩ rfl
 ·
  replace h := b_ifn (n_fn hb) h
  refine JC.skip ?_
  refine JN.then_n ?_
  show JC _ _ _ _ _
  refine JC.cutE (Z := Unit) (α := Unit) (fun z4 x3 => [(1, .eq (.pointer (some ⟨b1, 0, none⟩)))]) (fun z4 x3 => [.obj b1 28 (.rep tChange a0)]) (fun e => e = r) h (fun e h => Option.some.inj h) (fun K hR h => ?_) (fun z4 x3 h => ?_)
  ·
   refine sr ?_
   refine JO.s rfl (o_field_obj rfl fo28_0) ⟨rfl, trivial⟩ ?_
   refine JO.s11 rfl rfl rfl (o_load_obj rfl sz25 (fun _ => rfl) rfl) ⟨rfl, trivial⟩ ?_
   refine JO.s rfl (o_len rfl rfl Try.underlying25) ⟨rfl, trivial⟩ ?_
   refine JO.mc rfl ?_
   refine nt ?_
   refine JC.block ?_
   refine JC.loopB (Z := Unit) (α := Int) (fun z6 y5 => [(1, .eq (.pointer (some ⟨b1, 0, none⟩))), (21, .rep (.slice tThing) a0.1), (22, .eq (.int .i64 (a0.1.length : Int))), (23, .eq (.int .i64 y5))]) (fun z6 y5 => [.obj b1 28 (.rep tChange a0)]) (chg_checkThings_l1 k a0) k () (0 : Int) (fun _ => rfl) h (SE.fin [0] ⟨rfl, rfl, rfl, rfl, trivial⟩ rfl) (fun n z6 y5 h => ?_)
   unfold chg_checkThings_l1 at h
   refine sr ?_
   refine JO.s rfl (o_lss rfl) ⟨rfl, rfl, trivial⟩ ?_
   refine nt ?_
   refine JC.seq ?_
   refine JC.cond rfl (fun hb => ?_) (fun hb => ?_)
   ·
    replace h := b_if (d_t hb) h
    refine JC.skip ?_
    refine JN.then_n ?_
    show JC _ _ _ _ _
    refine JC.seq ?_
    refine JC.block ?_
    refine sr ?_
    refine mq ?_
    obtain ⟨x7, ex7, h⟩ := b_bind h
    refine JO.s rfl (o_index (t := tThing) rfl Try.underlying25 sz45 ex7) ⟨rfl, rfl, trivial⟩ ?_
    refine JO.s rfl (o_load_at (t := tThing) rfl sz45 rfl) ⟨rfl, trivial⟩ ?_
    refine JO.s01 rfl rfl rfl (o_alloc rfl za45 al45) trivial fun b8 => ?_
    refine aq ?_
    refine JO.n11 rfl rfl (o_store rfl sz45 rfl rfl rfl) ⟨rfl, rfl, trivial⟩ ?_
    refine nt ?_
    refine JC.seq ?_
    refine sr ?_
    refine JO.s rfl (o_field_obj rfl fo45_0) ⟨rfl, trivial⟩ ?_
    refine JO.s11 rfl rfl rfl (o_load_obj rfl sz22 (fun _ => rfl) rfl) ⟨rfl, trivial⟩ ?_
    refine JO.s rfl (o_field_obj rfl fo28_0) ⟨rfl, trivial⟩ ?_
    refine JO.front 1 rfl ?_
    refine JO.s11 rfl rfl rfl (o_load_obj rfl sz25 (fun _ => rfl) rfl) ⟨rfl, trivial⟩ ?_
    refine JO.s rfl (o_len rfl rfl Try.underlying25) ⟨rfl, trivial⟩ ?_
    refine mq ?_
    obtain ⟨r9, er9, h⟩ := b_bind h
    have cr9 := chg_checkList_ok k x7.1 (a0.1.length : Int) y5 r9 er9
    refine JO.s rfl (o_call [.tmp 29, .tmp 32, .tmp 33] rfl rfl en91 rfl cr9) ⟨rfl, rfl, rfl, trivial⟩ ?_
    refine aq ?_
    refine nt ?_
    refine sr ?_
    refine mq ?_
    refine JO.s rfl (o_neq rfl) ⟨rfl, rfl, trivial⟩ ?_
    refine nt ?_
    refine JC.cond rfl (fun hb => ?_) (fun hb => ?_)
    ·
     replace h := b_if (n_t hb) h
     refine sr ?_
     refine mq ?_
     refine aq ?_
     refine nt ?_
     refine JC.ret ?_
     refine JN.then_r ?_
     refine JN.blk_r ?_
     refine JN.then_r ?_
     refine JN.then_r ?_
     refine JN.blk_r ?_
     refine JN.then_r ?_
     obtain rfl := hR _ h
     exact JN.ret () [_] 0 ⟨rfl, trivial⟩ rfl
    ·
     replace h := b_ifn (n_fn hb) h
     refine JC.skip ?_
     refine JN.then_n ?_
     show JC _ _ _ _ _
     refine JC.block ?_
     refine JC.cutB (Z := Unit) (α := Bool) (fun z11 x10 => [(1, .eq (.pointer (some ⟨b1, 0, none⟩))), (5, .eq (.pointer (some ⟨b8, 0, none⟩))), (21, .rep (.slice tThing) a0.1), (22, .eq (.int .i64 (a0.1.length : Int))), (23, .eq (.int .i64 y5)), (38, .eq (.bool x10))]) (fun z11 x10 => [.obj b1 28 (.rep tChange a0), .obj b8 45 (.rep tThing x7)]) h (fun K h => ?_) (fun z11 x10 h => ?_)
     ·
      refine JC.region ?_
      refine JO.s rfl (o_field_obj rfl fo45_1) ⟨rfl, trivial⟩ ?_
      refine JO.front 1 rfl ?_
      refine JO.s11 rfl rfl rfl (o_load_obj rfl sz3 (fun _ => rfl) rfl) ⟨rfl, trivial⟩ ?_
      obtain ⟨r12, er12, h⟩ := b_bind h
      have cr12 := chg_outside_ok k x7.2.1 (1 : Int) (4 : Int) r12 er12
      refine JO.s rfl (o_call [.tmp 40, .const (.int .i64 (1)), .const (.int .i64 (4))] rfl rfl en71 rfl cr12) ⟨rfl, rfl, rfl, trivial⟩ ?_
      refine mq ?_
      refine JO.bool (s := 42) rfl (fun hb => ?_) (fun hb => ?_)
      ·
       replace h := b_if (v_t hb) h
       iterate 3 refine gn ?_
       refine pt ?_
       refine aq ?_
       refine JO.nil ?_
       refine JN.then_n ?_
       exact JN.z ((), true) h (SE.fin [1, 0] ⟨rfl, rfl, rfl, rfl, rfl, rfl, trivial⟩ rfl)
      ·
       replace h := b_ifn (v_f hb) h
       refine JO.g00 rfl rfl rfl rfl rfl rfl (o_field_obj rfl fo45_2) ⟨rfl, trivial⟩ ?_
       refine JO.g11 rfl rfl rfl rfl rfl rfl (o_load_obj rfl sz3 (fun _ => rfl) rfl) ⟨rfl, trivial⟩ ?_
       obtain ⟨r13, er13, h⟩ := b_bind h
       have cr13 := chg_outside_ok k x7.2.2.1 (1 : Int) (4 : Int) r13 er13
       refine JO.g00 rfl rfl rfl rfl rfl rfl (o_call [.tmp 44, .const (.int .i64 (1)), .const (.int .i64 (4))] rfl rfl en71 rfl cr13) ⟨rfl, rfl, rfl, trivial⟩ ?_
       refine pf ?_
       refine aq ?_
       refine JO.nil ?_
       refine JN.then_n ?_
       exact JN.z ((), r13) h (SE.fin [1, 0] ⟨rfl, rfl, rfl, rfl, rfl, rfl, trivial⟩ rfl)
     ·
      refine JC.cond rfl (fun hb => ?_) (fun hb => ?_)
      ·
       replace h := b_if (v_t hb) h
       refine sr ?_
       refine cq ?_
       refine nt ?_
       refine JC.ret ?_
       refine JN.blk_r ?_
       refine JN.blk_r ?_
       refine JN.then_r ?_
       refine JN.then_r ?_
       refine JN.blk_r ?_
       refine JN.then_r ?_
       obtain rfl := hR _ h
       exact JN.ret () [_] 0 ⟨rfl, trivial⟩ rfl
      ·
       replace h := b_ifn (v_f hb) h
       refine sr ?_
       refine JO.s rfl (o_field_obj rfl fo45_3) ⟨rfl, trivial⟩ ?_
       refine JO.front 1 rfl ?_
       refine JO.s11 rfl rfl rfl (o_load_obj rfl sz3 (fun _ => rfl) rfl) ⟨rfl, trivial⟩ ?_
       obtain ⟨r14, er14, h⟩ := b_bind h
       have cr14 := chg_outside_ok k x7.2.2.2.1 (0 : Int) (2 : Int) r14 er14
       refine JO.s rfl (o_call [.tmp 49, .const (.int .i64 (0)), .const (.int .i64 (2))] rfl rfl en71 rfl cr14) ⟨rfl, rfl, rfl, trivial⟩ ?_
       refine aq ?_
       refine nt ?_
       refine JC.cond rfl (fun hb => ?_) (fun hb => ?_)
       ·
        replace h := b_if (v_t hb) h
        refine sr ?_
        refine cq ?_
        refine nt ?_
        refine JC.ret ?_
        refine JN.blk_r ?_
        refine JN.blk_r ?_
        refine JN.then_r ?_
        refine JN.then_r ?_
        refine JN.blk_r ?_
        refine JN.then_r ?_
        obtain rfl := hR _ h
        exact JN.ret () [_] 0 ⟨rfl, trivial⟩ rfl
       ·
        replace h := b_ifn (v_f hb) h
        refine sr ?_
        refine JO.s rfl (o_field_obj rfl fo45_4) ⟨rfl, trivial⟩ ?_
        refine JO.s11 rfl rfl rfl (o_load_obj rfl sz3 (fun _ => rfl) rfl) ⟨rfl, trivial⟩ ?_
        obtain ⟨r15, er15, h⟩ := b_bind h
        have cr15 := chg_outside_ok k x7.2.2.2.2 (0 : Int) (30 : Int) r15 er15
        refine JO.s rfl (o_call [.tmp 53, .const (.int .i64 (0)), .const (.int .i64 (30))] rfl rfl en71 rfl cr15) ⟨rfl, rfl, rfl, trivial⟩ ?_
        refine aq ?_
        refine nt ?_
        refine JC.cond rfl (fun hb => ?_) (fun hb => ?_)
        ·
         replace h := b_if (v_t hb) h
         refine sr ?_
         refine cq ?_
         refine nt ?_
         refine JC.ret ?_
         refine JN.blk_r ?_
         refine JN.blk_r ?_
         refine JN.then_r ?_
         refine JN.then_r ?_
         refine JN.blk_r ?_
         refine JN.then_r ?_
         obtain rfl := hR _ h
         exact JN.ret () [_] 0 ⟨rfl, trivial⟩ rfl
        ·
         replace h := b_ifn (v_f hb) h
         refine JC.skip ?_
         refine JN.blk_n ?_
         refine JN.blk_n ?_
         refine JN.then_n ?_
         show JC _ _ _ _ _
         refine JC.region ?_
         obtain ⟨x16, ex16, h⟩ := b_bind h
         refine JO.s rfl (o_add rfl ex16) ⟨rfl, rfl, trivial⟩ ?_
         refine mq ?_
         refine JO.nil ?_
         refine JN.then_n ?_
         exact JN.z ((), x16) h (SE.fin [1] ⟨rfl, rfl, rfl, rfl, trivial⟩ rfl)
   ·
    replace h := b_ifn (d_f hb) h
    refine JC.exit ?_
    refine JN.then_x ?_
    refine JN.then_x ?_
    refine JN.blk_hit ?_
    refine JN.then_n ?_
    exact JN.z ((), ()) h (SE.fin [0] ⟨rfl, trivial⟩ rfl)
  ·
   refine sr ?_
   refine JO.s01 rfl rfl rfl (o_alloc rfl za165 al165) trivial fun b17 => ?_
   refine nt ?_
   refine JC.cutB (Z := Unit) (α := (List Int)) (fun z19 x18 => [(1, .eq (.pointer (some ⟨b1, 0, none⟩))), (7, .eq (.pointer (some ⟨b17, 0, none⟩)))]) (fun z19 x18 => [.obj b1 28 (.rep tChange a0), .obj b17 165 (.rep (.arr 4 (.int .u8)) x18)]) h (fun K h => ?_) (fun z19 x18 h => ?_)
   ·
    refine sr ?_
    refine JO.s rfl (o_field_obj rfl fo28_0) ⟨rfl, trivial⟩ ?_
    refine JO.front 1 rfl ?_
    refine JO.s11 rfl rfl rfl (o_load_obj rfl sz25 (fun _ => rfl) rfl) ⟨rfl, trivial⟩ ?_
    refine JO.s rfl (o_len rfl rfl Try.underlying25) ⟨rfl, trivial⟩ ?_
    refine JO.mc rfl ?_
    refine nt ?_
    refine JC.block ?_
    refine JC.loopB (Z := Unit) (α := (List Int) × Int) (fun z21 y20 => [(1, .eq (.pointer (some ⟨b1, 0, none⟩))), (7, .eq (.pointer (some ⟨b17, 0, none⟩))), (58, .eq (.int .i64 (a0.1.length : Int))), (59, .eq (.int .i64 y20.2))]) (fun z21 y20 => [.obj b1 28 (.rep tChange a0), .obj b17 165 (.rep (.arr 4 (.int .u8)) y20.1)]) (chg_checkThings_l2 k a0) k () ([(0 : Int), (0 : Int), (0 : Int), (0 : Int)], (0 : Int)) (fun _ => rfl) h (SE.fin [0, 1] ⟨rfl, rfl, rfl, rfl, trivial⟩ rfl) (fun n z21 y20 h => ?_)
    unfold chg_checkThings_l2 at h
    refine sr ?_
    refine JO.s rfl (o_lss rfl) ⟨rfl, rfl, trivial⟩ ?_
    refine nt ?_
    refine JC.seq ?_
    refine JC.cond rfl (fun hb => ?_) (fun hb => ?_)
    ·
     replace h := b_if (d_t hb) h
     refine JC.skip ?_
     refine JN.then_n ?_
     show JC _ _ _ _ _
     refine JC.cutB (Z := Unit) (α := (List Int)) (fun z23 x22 => [(1, .eq (.pointer (some ⟨b1, 0, none⟩))), (7, .eq (.pointer (some ⟨b17, 0, none⟩))), (58, .eq (.int .i64 (a0.1.length : Int))), (59, .eq (.int .i64 y20.2))]) (fun z23 x22 => [.obj b1 28 (.rep tChange a0), .obj b17 165 (.rep (.arr 4 (.int .u8)) x22)]) h (fun K h => ?_) (fun z23 x22 h => ?_)
     ·
      refine JC.block ?_
      refine sr ?_
      refine JO.s rfl (o_field_obj rfl fo28_0) ⟨rfl, trivial⟩ ?_
      refine JO.s11 rfl rfl rfl (o_load_obj rfl sz25 (fun _ => rfl) rfl) ⟨rfl, trivial⟩ ?_
      refine JO.s rfl (o_len rfl rfl Try.underlying25) ⟨rfl, trivial⟩ ?_
      refine JO.mc rfl ?_
      refine nt ?_
      refine JC.block ?_
      refine JC.loopB (Z := Unit) (α := (List Int) × Int) (fun z25 y24 => [(1, .eq (.pointer (some ⟨b1, 0, none⟩))), (7, .eq (.pointer (some ⟨b17, 0, none⟩))), (58, .eq (.int .i64 (a0.1.length : Int))), (59, .eq (.int .i64 y20.2)), (62, .rep (.slice tThing) a0.1), (63, .eq (.int .i64 (a0.1.length : Int))), (64, .eq (.int .i64 y24.2))]) (fun z25 y24 => [.obj b1 28 (.rep tChange a0), .obj b17 165 (.rep (.arr 4 (.int .u8)) y24.1)]) (chg_checkThings_l3 k a0) k () (y20.1, (0 : Int)) (fun _ => rfl) h (SE.fin [0, 1] ⟨rfl, rfl, rfl, rfl, rfl, rfl, rfl, trivial⟩ rfl) (fun n z25 y24 h => ?_)
      unfold chg_checkThings_l3 at h
      refine sr ?_
      refine JO.s rfl (o_lss rfl) ⟨rfl, rfl, trivial⟩ ?_
      refine nt ?_
      refine JC.seq ?_
      refine JC.cond rfl (fun hb => ?_) (fun hb => ?_)
      ·
       replace h := b_if (d_t hb) h
       refine JC.skip ?_
       refine JN.then_n ?_
       show JC _ _ _ _ _
       refine JC.cutB (Z := Unit) (α := (List Int)) (fun z27 x26 => [(1, .eq (.pointer (some ⟨b1, 0, none⟩))), (7, .eq (.pointer (some ⟨b17, 0, none⟩))), (58, .eq (.int .i64 (a0.1.length : Int))), (59, .eq (.int .i64 y20.2)), (62, .rep (.slice tThing) a0.1), (63, .eq (.int .i64 (a0.1.length : Int))), (64, .eq (.int .i64 y24.2))]) (fun z27 x26 => [.obj b1 28 (.rep tChange a0), .obj b17 165 (.rep (.arr 4 (.int .u8)) x26)]) h (fun K h => ?_) (fun z27 x26 h => ?_)
       ·
        refine JC.block ?_
        refine sr ?_
        refine mq ?_
        obtain ⟨x28, ex28, h⟩ := b_bind h
        refine JO.s rfl (o_index (t := tThing) rfl Try.underlying25 sz45 ex28) ⟨rfl, rfl, trivial⟩ ?_
        refine JO.s rfl (o_load_at (t := tThing) rfl sz45 rfl) ⟨rfl, trivial⟩ ?_
        refine JO.s01 rfl rfl rfl (o_alloc rfl za45 al45) trivial fun b29 => ?_
        refine aq ?_
        refine JO.n11 rfl rfl (o_store rfl sz45 rfl rfl rfl) ⟨rfl, rfl, trivial⟩ ?_
        refine nt ?_
        refine sr ?_
        refine JO.s rfl (o_field_obj rfl fo45_0) ⟨rfl, trivial⟩ ?_
        refine JO.s11 rfl rfl rfl (o_load_obj rfl sz22 (fun _ => rfl) rfl) ⟨rfl, trivial⟩ ?_
        refine JO.s rfl (o_len rfl rfl Try.underlying22) ⟨rfl, trivial⟩ ?_
        refine JO.mc rfl ?_
        refine nt ?_
        refine JC.block ?_
        refine JC.loopB (Z := Unit) (α := (List Int) × Int) (fun z31 y30 => [(1, .eq (.pointer (some ⟨b1, 0, none⟩))), (7, .eq (.pointer (some ⟨b17, 0, none⟩))), (8, .eq (.int .i64 y24.2)), (58, .eq (.int .i64 (a0.1.length : Int))), (59, .eq (.int .i64 y20.2)), (62, .rep (.slice tThing) a0.1), (63, .eq (.int .i64 (a0.1.length : Int))), (64, .eq (.int .i64 y24.2)), (70, .rep (.slice (.int .i64)) x28.1), (71, .eq (.int .i64 (x28.1.length : Int))), (72, .eq (.int .i64 y30.2))]) (fun z31 y30 => [.obj b1 28 (.rep tChange a0), .obj b17 165 (.rep (.arr 4 (.int .u8)) y30.1)]) (chg_checkThings_l4 k y24 x28) k () (y24.1, (0 : Int)) (fun _ => rfl) h (SE.fin [1, 2] ⟨rfl, rfl, rfl, rfl, rfl, rfl, rfl, rfl, rfl, rfl, rfl, trivial⟩ rfl) (fun n z31 y30 h => ?_)
        unfold chg_checkThings_l4 at h
        refine sr ?_
        refine JO.s rfl (o_lss rfl) ⟨rfl, rfl, trivial⟩ ?_
        refine nt ?_
        refine JC.seq ?_
        refine JC.cond rfl (fun hb => ?_) (fun hb => ?_)
        ·
         replace h := b_if (d_t hb) h
         refine JC.skip ?_
         refine JN.then_n ?_
         show JC _ _ _ _ _
         refine JC.seq ?_
         refine JC.block ?_
         refine sr ?_
         obtain ⟨x32, ex32, h⟩ := b_bind h
         refine JO.s rfl (o_index (t := (.int .i64)) rfl Try.underlying22 sz3 ex32) ⟨rfl, rfl, trivial⟩ ?_
         refine JO.s rfl (o_load_at (t := (.int .i64)) rfl sz3 rfl) ⟨rfl, trivial⟩ ?_
         refine aq ?_
         refine nt ?_
         refine JC.drawN ?_
         refine dm ?_
         obtain ⟨u33, eu33, h⟩ := b_bind h
         refine DN.s00 rfl rfl rfl (o_index_arr rfl Try.underlying165 sz106 (chkP_some eu33).1 (chkP_some eu33).2) ⟨rfl, rfl, trivial⟩ ?_
         obtain ⟨x34, ex34, h⟩ := b_bind h
         refine DN.s11 1 rfl rfl rfl rfl (o_load_arr (t := (.int .u8)) (off := 0) (i := y24.2) (N := 4) rfl sz106 (fun _ => rfl) rfl rfl rfl rfl ex34) ⟨rfl, trivial⟩ ?_
         refine dm ?_
         obtain ⟨u35, eu35, h⟩ := b_bind h
         refine DN.s00 rfl rfl rfl (o_index_arr rfl Try.underlying165 sz106 (chkP_some eu35).1 (chkP_some eu35).2) ⟨rfl, rfl, trivial⟩ ?_
         obtain ⟨x36, ex36, h⟩ := b_bind h
         refine DN.s11 1 rfl rfl rfl rfl (o_load_arr (t := (.int .u8)) (off := 0) (i := x32) (N := 4) rfl sz106 (fun _ => rfl) rfl rfl rfl rfl ex36) ⟨rfl, trivial⟩ ?_
         refine dm ?_
         refine DN.s00 rfl rfl rfl (o_litB (t := (.int .i64)) [(.tmp 82, _)] [x32] rfl rfl sl22 (.cons rfl .int .nil) rfl rfl) ⟨rfl, trivial⟩ ?_
         obtain ⟨r37, er37, h⟩ := b_bind h
         have cr37 := chg_of_ok k [x32] r37 er37
         refine DN.s00 rfl rfl rfl (o_call [.tmp 83] rfl rfl en81 rfl cr37) ⟨rfl, trivial⟩ ?_
         refine DN.s00 rfl rfl rfl (o_or rfl) ⟨rfl, rfl, trivial⟩ ?_
         refine DN.fin (by kernel_rfl) mixed ?_
         refine JO.s rfl (o_or rfl) ⟨rfl, rfl, trivial⟩ ?_
         obtain ⟨u38, eu38, h⟩ := b_bind h
         refine JO.s rfl (o_index_arr rfl Try.underlying165 sz106 (chkP_some eu38).1 (chkP_some eu38).2) ⟨rfl, rfl, trivial⟩ ?_
         refine JO.front 1 rfl ?_
         refine JO.n11 rfl rfl (o_store_arr (t := (.int .u8)) (off := 0) (i := y24.2) (N := 4) rfl sz106 .int rfl rfl rfl rfl (chkP_some eu38).1 (chkP_some eu38).2 rfl) ⟨rfl, rfl, trivial⟩ ?_
         refine JO.nil ?_
         refine JN.blk_n ?_
         refine JN.then_n ?_
         show JC _ _ _ _ _
         refine JC.region ?_
         obtain ⟨x39, ex39, h⟩ := b_bind h
         refine JO.s rfl (o_add rfl ex39) ⟨rfl, rfl, trivial⟩ ?_
         refine mq ?_
         refine JO.nil ?_
         refine JN.then_n ?_
         exact JN.z ((), (List.set y30.1 (Int.toNat y24.2) (ior .u8 x34 (ior .u8 x36 r37)), x39)) h (SE.fin [1, 0] ⟨rfl, rfl, rfl, rfl, rfl, rfl, rfl, rfl, rfl, rfl, rfl, trivial⟩ rfl)
        ·
         replace h := b_ifn (d_f hb) h
         refine JC.exit ?_
         refine JN.then_x ?_
         refine JN.then_x ?_
         refine JN.blk_hit ?_
         refine JN.blk_n ?_
         refine JN.then_n ?_
         exact JN.z ((), y30.1) h (SE.fin [0, 1] ⟨rfl, rfl, rfl, rfl, rfl, rfl, rfl, trivial⟩ rfl)
       ·
        refine JC.region ?_
        obtain ⟨x40, ex40, h⟩ := b_bind h
        refine JO.s rfl (o_add rfl ex40) ⟨rfl, rfl, trivial⟩ ?_
        refine mq ?_
        refine JO.nil ?_
        refine JN.then_n ?_
        exact JN.z ((), (x26, x40)) h (SE.fin [0, 1] ⟨rfl, rfl, rfl, rfl, rfl, rfl, rfl, trivial⟩ rfl)
      ·
       replace h := b_ifn (d_f hb) h
       refine JC.exit ?_
       refine JN.then_x ?_
       refine JN.then_x ?_
       refine JN.blk_hit ?_
       refine JN.blk_n ?_
       refine JN.then_n ?_
       exact JN.z ((), y24.1) h (SE.fin [0, 1] ⟨rfl, rfl, rfl, rfl, trivial⟩ rfl)
     ·
      refine JC.region ?_
      obtain ⟨x41, ex41, h⟩ := b_bind h
      refine JO.s rfl (o_add rfl ex41) ⟨rfl, rfl, trivial⟩ ?_
      refine mq ?_
      refine JO.nil ?_
      refine JN.then_n ?_
      exact JN.z ((), (x22, x41)) h (SE.fin [0, 1] ⟨rfl, rfl, rfl, rfl, trivial⟩ rfl)
    ·
     replace h := b_ifn (d_f hb) h
     refine JC.exit ?_
     refine JN.then_x ?_
     refine JN.then_x ?_
     refine JN.blk_hit ?_
     refine JN.then_n ?_
     exact JN.z ((), y20.1) h (SE.fin [0, 1] ⟨rfl, rfl, trivial⟩ rfl)
   ·
    refine JC.cutE (Z := Unit) (α := Unit) (fun z43 x42 => []) (fun z43 x42 => []) (fun e => e = r) h (fun e h => Option.some.inj h) (fun K hR h => ?_) (fun z43 x42 h => ?_)
    ·
     refine sr ?_
     refine JO.s rfl (o_field_obj rfl fo28_0) ⟨rfl, trivial⟩ ?_
     refine JO.s11 rfl rfl rfl (o_load_obj rfl sz25 (fun _ => rfl) rfl) ⟨rfl, trivial⟩ ?_
     refine JO.s rfl (o_len rfl rfl Try.underlying25) ⟨rfl, trivial⟩ ?_
     refine JO.mc rfl ?_
     refine nt ?_
     refine JC.block ?_
     refine JC.loopB (Z := Unit) (α := Int) (fun z45 y44 => [(7, .eq (.pointer (some ⟨b17, 0, none⟩))), (93, .eq (.int .i64 (a0.1.length : Int))), (94, .eq (.int .i64 y44))]) (fun z45 y44 => [.obj b17 165 (.rep (.arr 4 (.int .u8)) x18)]) (chg_checkThings_l5 k a0 x18) k () (0 : Int) (fun _ => rfl) h (SE.fin [1] ⟨rfl, rfl, rfl, trivial⟩ rfl) (fun n z45 y44 h => ?_)
     unfold chg_checkThings_l5 at h
     refine sr ?_
     refine JO.s rfl (o_lss rfl) ⟨rfl, rfl, trivial⟩ ?_
     refine nt ?_
     refine JC.seq ?_
     refine JC.cond rfl (fun hb => ?_) (fun hb => ?_)
     ·
      replace h := b_if (d_t hb) h
      refine JC.skip ?_
      refine JN.then_n ?_
      show JC _ _ _ _ _
      refine JC.seq ?_
      refine JC.block ?_
      refine sr ?_
      refine mq ?_
      refine aq ?_
      refine nt ?_
      refine sr ?_
      refine mq ?_
      obtain ⟨u46, eu46, h⟩ := b_bind h
      refine JO.s rfl (o_index_arr rfl Try.underlying165 sz106 (chkP_some eu46).1 (chkP_some eu46).2) ⟨rfl, rfl, trivial⟩ ?_
      obtain ⟨x47, ex47, h⟩ := b_bind h
      refine JO.s11 rfl rfl rfl (o_load_arr (t := (.int .u8)) (off := 0) (i := y44) (N := 4) rfl sz106 (fun _ => rfl) rfl rfl rfl rfl ex47) ⟨rfl, trivial⟩ ?_
      refine mq ?_
      obtain ⟨r48, er48, h⟩ := b_bind h
      have cr48 := chg_set_has_ok k x47 y44 r48 er48
      refine JO.s rfl (o_call [.tmp 99, .tmp 100] rfl rfl en88 rfl cr48) ⟨rfl, rfl, trivial⟩ ?_
      refine nt ?_
      refine JC.cond rfl (fun hb => ?_) (fun hb => ?_)
      ·
       replace h := b_if (v_t hb) h
       refine sr ?_
       refine cq ?_
       refine nt ?_
       refine JC.ret ?_
       refine JN.blk_r ?_
       refine JN.then_r ?_
       refine JN.then_r ?_
       refine JN.blk_r ?_
       refine JN.then_r ?_
       obtain rfl := hR _ h
       exact JN.ret () [_] 0 ⟨rfl, trivial⟩ rfl
      ·
       replace h := b_ifn (v_f hb) h
       refine JC.skip ?_
       refine JN.blk_n ?_
       refine JN.then_n ?_
       show JC _ _ _ _ _
       refine JC.region ?_
       obtain ⟨x49, ex49, h⟩ := b_bind h
       refine JO.s rfl (o_add rfl ex49) ⟨rfl, rfl, trivial⟩ ?_
       refine mq ?_
       refine JO.nil ?_
       refine JN.then_n ?_
       exact JN.z ((), x49) h (SE.fin [0] ⟨rfl, rfl, rfl, trivial⟩ rfl)
     ·
      replace h := b_ifn (d_f hb) h
      refine JC.exit ?_
      refine JN.then_x ?_
      refine JN.then_x ?_
      refine JN.blk_hit ?_
      refine JN.then_n ?_
      exact JN.z ((), ()) h (SE.fin [] trivial rfl)
    ·
     refine sr ?_
     refine cq ?_
     refine nt ?_
     refine JC.ret ?_
     obtain rfl := Option.some.inj h
     exact JN.ret () [_] 0 ⟨rfl, trivial⟩ rfl


def chg_Check_l1 (k : Nat) (a0 : dChange) : Nat → Int → Option (Except Int Unit)
 | 0, _ => none
 | n + 1, y6 =>
  if y6 < (a0.2.1.length : Int) then ((geti a0.2.1 y6).bind fun x8 =>
  (chg_checkList k x8.1 (a0.1.length : Int) (-1 : Int)).bind fun r10 =>
  if ¬ (r10 = (0 : Int)) then (some (.error r10)) else ((chg_outside k x8.2.1 (0 : Int) (2 : Int)).bind fun r11 =>
  if r11 = true then (some (.error (8 : Int))) else ((chg_outside k x8.2.2 (0 : Int) (9 : Int)).bind fun r12 =>
  if r12 = true then (some (.error (1 : Int))) else ((ck (y6 + (1 : Int))).bind fun x13 =>
  chg_Check_l1 k a0 n x13)))) else (some (.ok ()))
def chg_Check (k : Nat) (a0 : dChange) : Option Int :=
 (chg_checkThings k a0).bind fun r2 =>
 if ¬ (r2 = (0 : Int)) then (some r2) else ((chg_sized k (a0.2.1.length : Int) (3 : Int)).bind fun r3 =>
 if ¬ (r3 = (0 : Int)) then (some r3) else (bE (α := Unit) (chg_Check_l1 k a0 k (0 : Int)) (some) fun _ =>
 (chg_checkList k a0.2.2.1 (a0.1.length : Int) (-1 : Int)).bind fun r14 =>
 if ¬ (r14 = (0 : Int)) then (some r14) else ((chg_checkList k a0.2.2.2 (a0.1.length : Int) (-1 : Int)).bind fun r15 =>
 some r15)))

theorem chg_Check_ok (k : Nat) (a0 : dChange) (r : Int) (h : chg_Check k a0 = some r) :
 Ctr Try.prog 50 [.rep tChange a0] [] (fun _ : Unit => (resA [.eq (.int .i64 r)], [])) := by
 unfold chg_Check at h
 replace h := b_top h
 refine Ctr.of 59 Try.func50 rfl Try.ntmps50 rfl fun S w0 => ?_
 refine sr ?_
 refine JO.s01 rfl rfl rfl (o_box rfl rfl) ⟨rfl, trivial⟩ fun b1 => ?_
 refine cq ?_
 refine nt ?_
 refine JC.seq ?_
 refine sr ?_
 refine JO.s11 rfl rfl rfl (o_load_obj rfl sz28 (nfn) rfl) ⟨rfl, trivial⟩ ?_
 obtain ⟨r2, er2, h⟩ := b_bind h
 have cr2 := chg_checkThings_ok k a0 r2 er2
 refine JO.s rfl (o_call [.tmp 9] rfl rfl en90 rfl cr2) ⟨rfl, trivial⟩ ?_
 refine aq ?_
 refine nt ?_
 refine sr ?_
 refine mq ?_
 refine JO.s rfl (o_neq rfl) ⟨rfl, rfl, trivial⟩ ?_
 refine nt ?_
 refine JC.cond rfl (fun hb => ?_) (fun hb => ?_)
 ·
  replace h := b_if (n_t hb) h
  refine sr ?_
  refine mq ?_
  refine aq ?_
  refine nt ?_
  refine JC.ret ?_
  refine JN.then_r ?_
  obtain rfl := Option.some.inj h
  exact JN.ret () [_] 0 ⟨rfl, trivial⟩ rfl
 ·
  replace h := b_ifn (n_fn hb) h
  refine JC.skip ?_
  refine JN.then_n ?_
  show JC _ _ _ _ _
  refine JC.seq ?_
  refine sr ?_
  refine JO.s rfl (o_field_obj rfl fo28_1) ⟨rfl, trivial⟩ ?_
  refine JO.s11 rfl rfl rfl (o_load_obj rfl sz26 (fun _ => rfl) rfl) ⟨rfl, trivial⟩ ?_
  refine JO.s rfl (o_len rfl rfl Try.underlying26) ⟨rfl, trivial⟩ ?_
  obtain ⟨r3, er3, h⟩ := b_bind h
  have cr3 := chg_sized_ok k (a0.2.1.length : Int) (3 : Int) r3 er3
  refine JO.s rfl (o_call [.tmp 16, .const (.int .i64 (3))] rfl rfl en78 rfl cr3) ⟨rfl, rfl, trivial⟩ ?_
  refine aq ?_
  refine nt ?_
  refine sr ?_
  refine mq ?_
  refine JO.s rfl (o_neq rfl) ⟨rfl, rfl, trivial⟩ ?_
  refine nt ?_
  refine JC.cond rfl (fun hb => ?_) (fun hb => ?_)
  ·
   replace h := b_if (n_t hb) h
   refine sr ?_
   refine mq ?_
   refine aq ?_
   refine nt ?_
   refine JC.ret ?_
   refine JN.then_r ?_
   obtain rfl := Option.some.inj h
   exact JN.ret () [_] 0 ⟨rfl, trivial⟩ rfl
  ·
   replace h := b_ifn (n_fn hb) h
   refine JC.skip ?_
   refine JN.then_n ?_
   show JC _ _ _ _ _
   refine JC.cutE (Z := Unit) (α := Unit) (fun z5 x4 => [(1, .eq (.pointer (some ⟨b1, 0, none⟩)))]) (fun z5 x4 => [.obj b1 28 (.rep tChange a0)]) (fun e => e = r) h (fun e h => Option.some.inj h) (fun K hR h => ?_) (fun z5 x4 h => ?_)
   ·
    refine sr ?_
    refine JO.s rfl (o_field_obj rfl fo28_1) ⟨rfl, trivial⟩ ?_
    refine JO.s11 rfl rfl rfl (o_load_obj rfl sz26 (fun _ => rfl) rfl) ⟨rfl, trivial⟩ ?_
    refine JO.s rfl (o_len rfl rfl Try.underlying26) ⟨rfl, trivial⟩ ?_
    refine JO.mc rfl ?_
    refine nt ?_
    refine JC.block ?_
    refine JC.loopB (Z := Unit) (α := Int) (fun z7 y6 => [(1, .eq (.pointer (some ⟨b1, 0, none⟩))), (22, .rep (.slice tDresser) a0.2.1), (23, .eq (.int .i64 (a0.2.1.length : Int))), (24, .eq (.int .i64 y6))]) (fun z7 y6 => [.obj b1 28 (.rep tChange a0)]) (chg_Check_l1 k a0) k () (0 : Int) (fun _ => rfl) h (SE.fin [0] ⟨rfl, rfl, rfl, rfl, trivial⟩ rfl) (fun n z7 y6 h => ?_)
    unfold chg_Check_l1 at h
    refine sr ?_
    refine JO.s rfl (o_lss rfl) ⟨rfl, rfl, trivial⟩ ?_
    refine nt ?_
    refine JC.seq ?_
    refine JC.cond rfl (fun hb => ?_) (fun hb => ?_)
    ·
     replace h := b_if (d_t hb) h
     refine JC.skip ?_
     refine JN.then_n ?_
     show JC _ _ _ _ _
     refine JC.seq ?_
     refine JC.block ?_
     refine sr ?_
     obtain ⟨x8, ex8, h⟩ := b_bind h
     refine JO.s rfl (o_index (t := tDresser) rfl Try.underlying26 sz53 ex8) ⟨rfl, rfl, trivial⟩ ?_
     refine JO.s rfl (o_load_at (t := tDresser) rfl sz53 rfl) ⟨rfl, trivial⟩ ?_
     refine JO.s01 rfl rfl rfl (o_alloc rfl za53 al53) trivial fun b9 => ?_
     refine JO.n11 rfl rfl (o_store rfl sz53 rfl rfl rfl) ⟨rfl, rfl, trivial⟩ ?_
     refine nt ?_
     refine JC.seq ?_
     refine sr ?_
     refine JO.s rfl (o_field_obj rfl fo53_0) ⟨rfl, trivial⟩ ?_
     refine JO.s11 rfl rfl rfl (o_load_obj rfl sz22 (fun _ => rfl) rfl) ⟨rfl, trivial⟩ ?_
     refine JO.s rfl (o_field_obj rfl fo28_0) ⟨rfl, trivial⟩ ?_
     refine JO.front 1 rfl ?_
     refine JO.s11 rfl rfl rfl (o_load_obj rfl sz25 (fun _ => rfl) rfl) ⟨rfl, trivial⟩ ?_
     refine JO.s rfl (o_len rfl rfl Try.underlying25) ⟨rfl, trivial⟩ ?_
     obtain ⟨r10, er10, h⟩ := b_bind h
     have cr10 := chg_checkList_ok k x8.1 (a0.1.length : Int) (-1 : Int) r10 er10
     refine JO.s rfl (o_call [.tmp 29, .tmp 32, .const (.int .i64 (-1))] rfl rfl en91 rfl cr10) ⟨rfl, rfl, rfl, trivial⟩ ?_
     refine aq ?_
     refine nt ?_
     refine sr ?_
     refine mq ?_
     refine JO.s rfl (o_neq rfl) ⟨rfl, rfl, trivial⟩ ?_
     refine nt ?_
     refine JC.cond rfl (fun hb => ?_) (fun hb => ?_)
     ·
      replace h := b_if (n_t hb) h
      refine sr ?_
      refine mq ?_
      refine aq ?_
      refine nt ?_
      refine JC.ret ?_
      refine JN.then_r ?_
      refine JN.blk_r ?_
      refine JN.then_r ?_
      refine JN.then_r ?_
      refine JN.blk_r ?_
      refine JN.then_r ?_
      obtain rfl := hR _ h
      exact JN.ret () [_] 0 ⟨rfl, trivial⟩ rfl
     ·
      replace h := b_ifn (n_fn hb) h
      refine JC.skip ?_
      refine JN.then_n ?_
      show JC _ _ _ _ _
      refine JC.seq ?_
      refine sr ?_
      refine JO.s rfl (o_field_obj rfl fo53_1) ⟨rfl, trivial⟩ ?_
      refine JO.front 1 rfl ?_
      refine JO.s11 rfl rfl rfl (o_load_obj rfl sz3 (fun _ => rfl) rfl) ⟨rfl, trivial⟩ ?_
      obtain ⟨r11, er11, h⟩ := b_bind h
      have cr11 := chg_outside_ok k x8.2.1 (0 : Int) (2 : Int) r11 er11
      refine JO.s rfl (o_call [.tmp 38, .const (.int .i64 (0)), .const (.int .i64 (2))] rfl rfl en71 rfl cr11) ⟨rfl, rfl, rfl, trivial⟩ ?_
      refine nt ?_
      refine JC.cond rfl (fun hb => ?_) (fun hb => ?_)
      ·
       replace h := b_if (v_t hb) h
       refine sr ?_
       refine cq ?_
       refine nt ?_
       refine JC.ret ?_
       refine JN.then_r ?_
       refine JN.blk_r ?_
       refine JN.then_r ?_
       refine JN.then_r ?_
       refine JN.blk_r ?_
       refine JN.then_r ?_
       obtain rfl := hR _ h
       exact JN.ret () [_] 0 ⟨rfl, trivial⟩ rfl
      ·
       replace h := b_ifn (v_f hb) h
       refine JC.skip ?_
       refine JN.then_n ?_
       show JC _ _ _ _ _
       refine sr ?_
       refine JO.s rfl (o_field_obj rfl fo53_2) ⟨rfl, trivial⟩ ?_
       refine JO.s11 rfl rfl rfl (o_load_obj rfl sz3 (fun _ => rfl) rfl) ⟨rfl, trivial⟩ ?_
       obtain ⟨r12, er12, h⟩ := b_bind h
       have cr12 := chg_outside_ok k x8.2.2 (0 : Int) (9 : Int) r12 er12
       refine JO.s rfl (o_call [.tmp 41, .const (.int .i64 (0)), .const (.int .i64 (9))] rfl rfl en71 rfl cr12) ⟨rfl, rfl, rfl, trivial⟩ ?_
       refine nt ?_
       refine JC.cond rfl (fun hb => ?_) (fun hb => ?_)
       ·
        replace h := b_if (v_t hb) h
        refine sr ?_
        refine cq ?_
        refine nt ?_
        refine JC.ret ?_
        refine JN.blk_r ?_
        refine JN.then_r ?_
        refine JN.then_r ?_
        refine JN.blk_r ?_
        refine JN.then_r ?_
        obtain rfl := hR _ h
        exact JN.ret () [_] 0 ⟨rfl, trivial⟩ rfl
       ·
        replace h := b_ifn (v_f hb) h
        refine JC.skip ?_
        refine JN.blk_n ?_
        refine JN.then_n ?_
        show JC _ _ _ _ _
        refine JC.region ?_
        obtain ⟨x13, ex13, h⟩ := b_bind h
        refine JO.s rfl (o_add rfl ex13) ⟨rfl, rfl, trivial⟩ ?_
        refine mq ?_
        refine JO.nil ?_
        refine JN.then_n ?_
        exact JN.z ((), x13) h (SE.fin [1] ⟨rfl, rfl, rfl, rfl, trivial⟩ rfl)
    ·
     replace h := b_ifn (d_f hb) h
     refine JC.exit ?_
     refine JN.then_x ?_
     refine JN.then_x ?_
     refine JN.blk_hit ?_
     refine JN.then_n ?_
     exact JN.z ((), ()) h (SE.fin [0] ⟨rfl, trivial⟩ rfl)
   ·
    refine JC.seq ?_
    refine sr ?_
    refine JO.s rfl (o_field_obj rfl fo28_2) ⟨rfl, trivial⟩ ?_
    refine JO.s11 rfl rfl rfl (o_load_obj rfl sz22 (fun _ => rfl) rfl) ⟨rfl, trivial⟩ ?_
    refine JO.s rfl (o_field_obj rfl fo28_0) ⟨rfl, trivial⟩ ?_
    refine JO.s11 rfl rfl rfl (o_load_obj rfl sz25 (fun _ => rfl) rfl) ⟨rfl, trivial⟩ ?_
    refine JO.s rfl (o_len rfl rfl Try.underlying25) ⟨rfl, trivial⟩ ?_
    obtain ⟨r14, er14, h⟩ := b_bind h
    have cr14 := chg_checkList_ok k a0.2.2.1 (a0.1.length : Int) (-1 : Int) r14 er14
    refine JO.s rfl (o_call [.tmp 45, .tmp 48, .const (.int .i64 (-1))] rfl rfl en91 rfl cr14) ⟨rfl, rfl, rfl, trivial⟩ ?_
    refine aq ?_
    refine nt ?_
    refine sr ?_
    refine mq ?_
    refine JO.s rfl (o_neq rfl) ⟨rfl, rfl, trivial⟩ ?_
    refine nt ?_
    refine JC.cond rfl (fun hb => ?_) (fun hb => ?_)
    ·
     replace h := b_if (n_t hb) h
     refine sr ?_
     refine mq ?_
     refine aq ?_
     refine nt ?_
     refine JC.ret ?_
     refine JN.then_r ?_
     obtain rfl := Option.some.inj h
     exact JN.ret () [_] 0 ⟨rfl, trivial⟩ rfl
    ·
     replace h := b_ifn (n_fn hb) h
     refine JC.skip ?_
     refine JN.then_n ?_
     show JC _ _ _ _ _
     refine sr ?_
     refine JO.s rfl (o_field_obj rfl fo28_3) ⟨rfl, trivial⟩ ?_
     refine JO.s11 rfl rfl rfl (o_load_obj rfl sz22 (fun _ => rfl) rfl) ⟨rfl, trivial⟩ ?_
     refine JO.s rfl (o_field_obj rfl fo28_0) ⟨rfl, trivial⟩ ?_
     refine JO.s11 rfl rfl rfl (o_load_obj rfl sz25 (fun _ => rfl) rfl) ⟨rfl, trivial⟩ ?_
     refine JO.s rfl (o_len rfl rfl Try.underlying25) ⟨rfl, trivial⟩ ?_
     obtain ⟨r15, er15, h⟩ := b_bind h
     have cr15 := chg_checkList_ok k a0.2.2.2 (a0.1.length : Int) (-1 : Int) r15 er15
     refine JO.s rfl (o_call [.tmp 54, .tmp 57, .const (.int .i64 (-1))] rfl rfl en91 rfl cr15) ⟨rfl, rfl, rfl, trivial⟩ ?_
     refine aq ?_
     refine nt ?_
     refine JC.ret ?_
     obtain rfl := Option.some.inj h
     exact JN.ret () [_] 0 ⟨rfl, trivial⟩ rfl


def chg_set_list_l1 (k : Nat) (a0 : Int) : Nat → ((List Int) × Int) → Option (List Int)
 | 0, _ => none
 | n + 1, y3 =>
  if y3.2 < (8 : Int) then ((((chg_set_has k a0 y3.2).bind fun r7 =>
  if r7 = true then ((chkP (okLen (List.length y3.1 + List.length [y3.2]))).bind fun _ =>
  some (y3.1 ++ [y3.2])) else (some y3.1)) : Option ((List Int))).bind fun x5 =>
  (ck (y3.2 + (1 : Int))).bind fun x10 =>
  chg_set_list_l1 k a0 n (x5, x10)) else (some y3.1)
def chg_set_list (k : Nat) (a0 : Int) : Option (List Int) :=
 ((chg_set_list_l1 k a0 k (([] : (List Int)), (0 : Int))) : Option ((List Int))).bind fun x1 =>
 some x1

theorem chg_set_list_ok (k : Nat) (a0 : Int) (r : (List Int)) (h : chg_set_list k a0 = some r) :
 Ctr Try.prog 82 [.eq (.int .u8 a0)] [] (fun _ : Unit => (resA [.rep (.slice (.int .i64)) r], [])) := by
 unfold chg_set_list at h
 replace h := b_top h
 refine Ctr.of 17 Try.func82 rfl Try.ntmps82 rfl fun S w0 => ?_
 refine sr ?_
 refine cq ?_
 refine nt ?_
 refine sr ?_
 refine cq ?_
 refine nt ?_
 refine JC.cutB (Z := Value) (α := (List Int)) (fun z2 x1 => [(3, .eq z2)]) (fun z2 x1 => [.sl z2 3 (.int .i64) x1]) h (fun K h => ?_) (fun z2 x1 h => ?_)
 ·
  refine sr ?_
  refine JO.mc rfl ?_
  refine nt ?_
  refine JC.block ?_
  refine JC.se (SE.nil 3 (.int .i64)) ?_
  refine JC.loopB (Z := Value) (α := (List Int) × Int) (fun z4 y3 => [(0, .eq (.int .u8 a0)), (3, .eq z4), (5, .eq (.int .i64 y3.2))]) (fun z4 y3 => [.sl z4 3 (.int .i64) y3.1]) (chg_set_list_l1 k a0) k (.slice none 0 0) (([] : (List Int)), (0 : Int)) (fun _ => rfl) h (SE.fin [0] ⟨rfl, rfl, rfl, trivial⟩ rfl) (fun n z4 y3 h => ?_)
  unfold chg_set_list_l1 at h
  refine sr ?_
  refine JO.s rfl (o_lss rfl) ⟨rfl, rfl, trivial⟩ ?_
  refine nt ?_
  refine JC.seq ?_
  refine JC.cond rfl (fun hb => ?_) (fun hb => ?_)
  ·
   replace h := b_if (d_t hb) h
   refine JC.skip ?_
   refine JN.then_n ?_
   show JC _ _ _ _ _
   refine JC.cutB (Z := Value) (α := (List Int)) (fun z6 x5 => [(0, .eq (.int .u8 a0)), (3, .eq z6), (5, .eq (.int .i64 y3.2))]) (fun z6 x5 => [.sl z6 3 (.int .i64) x5]) h (fun K h => ?_) (fun z6 x5 h => ?_)
   ·
    refine JC.block ?_
    refine sr ?_
    refine mq ?_
    refine aq ?_
    refine nt ?_
    refine sr ?_
    iterate 2 refine mq ?_
    obtain ⟨r7, er7, h⟩ := b_bind h
    have cr7 := chg_set_has_ok k a0 y3.2 r7 er7
    refine JO.s rfl (o_call [.tmp 8, .tmp 9] rfl rfl en88 rfl cr7) ⟨rfl, rfl, trivial⟩ ?_
    refine nt ?_
    refine JC.cond rfl (fun hb => ?_) (fun hb => ?_)
    ·
     replace h := b_if (v_t hb) h
     refine JC.region ?_
     iterate 2 refine mq ?_
     refine JO.s rfl (o_litB (t := (.int .i64)) [(.tmp 12, _)] [y3.2] rfl rfl sl22 (.cons rfl .int .nil) rfl rfl) ⟨rfl, trivial⟩ ?_
     obtain ⟨u8, eu8, h⟩ := b_bind h
     refine JO.s1x rfl rfl rfl (o_append rfl rfl sl22 (chkP_some eu8)) ⟨rfl, rfl, trivial⟩ fun v9 => ?_
     refine aq ?_
     refine JO.nil ?_
     refine JN.blk_n ?_
     refine JN.then_n ?_
     exact JN.z (v9, y3.1 ++ [y3.2]) h (SE.fin [0] ⟨rfl, rfl, rfl, trivial⟩ rfl)
    ·
     replace h := b_ifn (v_f hb) h
     refine JC.skip ?_
     refine JN.blk_n ?_
     refine JN.then_n ?_
     exact JN.z (z4, y3.1) h (SE.fin [0] ⟨rfl, rfl, rfl, trivial⟩ rfl)
   ·
    refine JC.region ?_
    obtain ⟨x10, ex10, h⟩ := b_bind h
    refine JO.s rfl (o_add rfl ex10) ⟨rfl, rfl, trivial⟩ ?_
    refine mq ?_
    refine JO.nil ?_
    refine JN.then_n ?_
    exact JN.z (z6, (x5, x10)) h (SE.fin [0] ⟨rfl, rfl, rfl, trivial⟩ rfl)
  ·
   replace h := b_ifn (d_f hb) h
   refine JC.exit ?_
   refine JN.then_x ?_
   refine JN.then_x ?_
   refine JN.blk_hit ?_
   refine JN.then_n ?_
   exact JN.z (z4, y3.1) h (SE.fin [0] ⟨rfl, trivial⟩ rfl)
 ·
  refine sr ?_
  refine mq ?_
  refine aq ?_
  refine nt ?_
  refine JC.ret ?_
  refine JN.se (SE.frz [2, 3, 16] ⟨rfl, rfl, rfl, trivial⟩) ?_
  obtain rfl := Option.some.inj h
  exact JN.ret () [_] 0 ⟨rfl, trivial⟩ rfl


def chg_changed_l2 (k : Nat) (a0 : dChange) (r2 : Int) (r3 : Int) : Nat → (Int × Int) → Option Int
 | 0, _ => none
 | n + 1, y10 =>
  if y10.2 < (a0.1.length : Int) then ((((geti a0.1 y10.2).bind fun x14 =>
  (chg_set_has k y10.1 y10.2).bind fun r16 =>
  if r16 = true then ((chg_of k x14.1).bind fun r17 =>
  some (ior .u8 y10.1 (iand .u8 (iand .u8 r17 r2) r3))) else (some y10.1)) : Option (Int)).bind fun x12 =>
  (ck (y10.2 + (1 : Int))).bind fun x18 =>
  chg_changed_l2 k a0 r2 r3 n (x12, x18)) else (some y10.1)

def chg_changed_l1 (k : Nat) (a0 : dChange) (r2 : Int) (r3 : Int) : Nat → (Int × Int) → Option Int
 | 0, _ => none
 | n + 1, y6 =>
  if y6.2 < (a0.1.length : Int) then (((chg_changed_l2 k a0 r2 r3 k (y6.1, (0 : Int))) : Option (Int)).bind fun x8 =>
  (ck (y6.2 + (1 : Int))).bind fun x19 =>
  chg_changed_l1 k a0 r2 r3 n (x8, x19)) else (some y6.1)
def chg_changed (k : Nat) (a0 : dChange) : Option Int :=
 (chg_of k a0.2.2.1).bind fun r2 =>
 (chg_of k a0.2.2.2).bind fun r3 =>
 ((chg_changed_l1 k a0 r2 r3 k (ixor .u8 r2 r3, (0 : Int))) : Option (Int)).bind fun x4 =>
 some x4

theorem chg_changed_ok (k : Nat) (a0 : dChange) (r : Int) (h : chg_changed k a0 = some r) :
 Ctr Try.prog 102 [.rep tChange a0] [] (fun _ : Unit => (resA [.eq (.int .u8 r)], [])) := by
 unfold chg_changed at h
 replace h := b_top h
 refine Ctr.of 45 Try.func102 rfl Try.ntmps102 rfl fun S w0 => ?_
 refine sr ?_
 refine JO.s01 rfl rfl rfl (o_box rfl rfl) ⟨rfl, trivial⟩ fun b1 => ?_
 refine cq ?_
 refine nt ?_
 refine JC.seq ?_
 refine JC.drawN ?_
 refine DN.s00 rfl rfl rfl (o_field_obj rfl fo28_2) ⟨rfl, trivial⟩ ?_
 refine DN.s11 0 rfl rfl rfl rfl (o_load_obj rfl sz22 (fun _ => rfl) rfl) ⟨rfl, trivial⟩ ?_
 obtain ⟨r2, er2, h⟩ := b_bind h
 have cr2 := chg_of_ok k a0.2.2.1 r2 er2
 refine DN.s00 rfl rfl rfl (o_call [.tmp 9] rfl rfl en81 rfl cr2) ⟨rfl, trivial⟩ ?_
 refine DN.s00 rfl rfl rfl (o_field_obj rfl fo28_3) ⟨rfl, trivial⟩ ?_
 refine DN.s11 0 rfl rfl rfl rfl (o_load_obj rfl sz22 (fun _ => rfl) rfl) ⟨rfl, trivial⟩ ?_
 refine DN.fin (by kernel_rfl) mixed ?_
 obtain ⟨r3, er3, h⟩ := b_bind h
 have cr3 := chg_of_ok k a0.2.2.2 r3 er3
 refine JO.s rfl (o_call [.tmp 12] rfl rfl en81 rfl cr3) ⟨rfl, trivial⟩ ?_
 refine aq ?_
 refine aq ?_
 refine nt ?_
 refine sr ?_
 iterate 2 refine mq ?_
 refine JO.s rfl (o_xor rfl) ⟨rfl, rfl, trivial⟩ ?_
 refine aq ?_
 refine nt ?_
 refine JC.cutB (Z := Unit) (α := Int) (fun z5 x4 => [(5, .eq (.int .u8 x4))]) (fun z5 x4 => []) h (fun K h => ?_) (fun z5 x4 h => ?_)
 ·
  refine sr ?_
  refine JO.s rfl (o_field_obj rfl fo28_0) ⟨rfl, trivial⟩ ?_
  refine JO.s11 rfl rfl rfl (o_load_obj rfl sz25 (fun _ => rfl) rfl) ⟨rfl, trivial⟩ ?_
  refine JO.s rfl (o_len rfl rfl Try.underlying25) ⟨rfl, trivial⟩ ?_
  refine JO.mc rfl ?_
  refine nt ?_
  refine JC.block ?_
  refine JC.loopB (Z := Unit) (α := Int × Int) (fun z7 y6 => [(1, .eq (.pointer (some ⟨b1, 0, none⟩))), (3, .eq (.int .u8 r2)), (4, .eq (.int .u8 r3)), (5, .eq (.int .u8 y6.1)), (19, .eq (.int .i64 (a0.1.length : Int))), (20, .eq (.int .i64 y6.2))]) (fun z7 y6 => [.obj b1 28 (.rep tChange a0)]) (chg_changed_l1 k a0 r2 r3) k () (ixor .u8 r2 r3, (0 : Int)) (fun _ => rfl) h (SE.fin [0] ⟨rfl, rfl, rfl, rfl, rfl, rfl, trivial⟩ rfl) (fun n z7 y6 h => ?_)
  unfold chg_changed_l1 at h
  refine sr ?_
  refine JO.s rfl (o_lss rfl) ⟨rfl, rfl, trivial⟩ ?_
  refine nt ?_
  refine JC.seq ?_
  refine JC.cond rfl (fun hb => ?_) (fun hb => ?_)
  ·
   replace h := b_if (d_t hb) h
   refine JC.skip ?_
   refine JN.then_n ?_
   show JC _ _ _ _ _
   refine JC.cutB (Z := Unit) (α := Int) (fun z9 x8 => [(1, .eq (.pointer (some ⟨b1, 0, none⟩))), (3, .eq (.int .u8 r2)), (4, .eq (.int .u8 r3)), (5, .eq (.int .u8 x8)), (19, .eq (.int .i64 (a0.1.length : Int))), (20, .eq (.int .i64 y6.2))]) (fun z9 x8 => [.obj b1 28 (.rep tChange a0)]) h (fun K h => ?_) (fun z9 x8 h => ?_)
   ·
    refine JC.block ?_
    refine sr ?_
    refine JO.s rfl (o_field_obj rfl fo28_0) ⟨rfl, trivial⟩ ?_
    refine JO.s11 rfl rfl rfl (o_load_obj rfl sz25 (fun _ => rfl) rfl) ⟨rfl, trivial⟩ ?_
    refine JO.s rfl (o_len rfl rfl Try.underlying25) ⟨rfl, trivial⟩ ?_
    refine JO.mc rfl ?_
    refine nt ?_
    refine JC.block ?_
    refine JC.loopB (Z := Unit) (α := Int × Int) (fun z11 y10 => [(1, .eq (.pointer (some ⟨b1, 0, none⟩))), (3, .eq (.int .u8 r2)), (4, .eq (.int .u8 r3)), (5, .eq (.int .u8 y10.1)), (19, .eq (.int .i64 (a0.1.length : Int))), (20, .eq (.int .i64 y6.2)), (23, .rep (.slice tThing) a0.1), (24, .eq (.int .i64 (a0.1.length : Int))), (25, .eq (.int .i64 y10.2))]) (fun z11 y10 => [.obj b1 28 (.rep tChange a0)]) (chg_changed_l2 k a0 r2 r3) k () (y6.1, (0 : Int)) (fun _ => rfl) h (SE.fin [0] ⟨rfl, rfl, rfl, rfl, rfl, rfl, rfl, rfl, rfl, trivial⟩ rfl) (fun n z11 y10 h => ?_)
    unfold chg_changed_l2 at h
    refine sr ?_
    refine JO.s rfl (o_lss rfl) ⟨rfl, rfl, trivial⟩ ?_
    refine nt ?_
    refine JC.seq ?_
    refine JC.cond rfl (fun hb => ?_) (fun hb => ?_)
    ·
     replace h := b_if (d_t hb) h
     refine JC.skip ?_
     refine JN.then_n ?_
     show JC _ _ _ _ _
     refine JC.cutB (Z := Unit) (α := Int) (fun z13 x12 => [(1, .eq (.pointer (some ⟨b1, 0, none⟩))), (3, .eq (.int .u8 r2)), (4, .eq (.int .u8 r3)), (5, .eq (.int .u8 x12)), (19, .eq (.int .i64 (a0.1.length : Int))), (20, .eq (.int .i64 y6.2)), (23, .rep (.slice tThing) a0.1), (24, .eq (.int .i64 (a0.1.length : Int))), (25, .eq (.int .i64 y10.2))]) (fun z13 x12 => [.obj b1 28 (.rep tChange a0)]) h (fun K h => ?_) (fun z13 x12 h => ?_)
     ·
      refine JC.block ?_
      refine sr ?_
      refine mq ?_
      obtain ⟨x14, ex14, h⟩ := b_bind h
      refine JO.s rfl (o_index (t := tThing) rfl Try.underlying25 sz45 ex14) ⟨rfl, rfl, trivial⟩ ?_
      refine JO.s rfl (o_load_at (t := tThing) rfl sz45 rfl) ⟨rfl, trivial⟩ ?_
      refine JO.s01 rfl rfl rfl (o_alloc rfl za45 al45) trivial fun b15 => ?_
      refine aq ?_
      refine JO.n11 rfl rfl (o_store rfl sz45 rfl rfl rfl) ⟨rfl, rfl, trivial⟩ ?_
      refine nt ?_
      refine sr ?_
      iterate 2 refine mq ?_
      obtain ⟨r16, er16, h⟩ := b_bind h
      have cr16 := chg_set_has_ok k y10.1 y10.2 r16 er16
      refine JO.s rfl (o_call [.tmp 30, .tmp 31] rfl rfl en88 rfl cr16) ⟨rfl, rfl, trivial⟩ ?_
      refine nt ?_
      refine JC.cond rfl (fun hb => ?_) (fun hb => ?_)
      ·
       replace h := b_if (v_t hb) h
       refine JC.region ?_
       refine mq ?_
       refine JO.s rfl (o_field_obj rfl fo45_0) ⟨rfl, trivial⟩ ?_
       refine JO.s11 rfl rfl rfl (o_load_obj rfl sz22 (fun _ => rfl) rfl) ⟨rfl, trivial⟩ ?_
       obtain ⟨r17, er17, h⟩ := b_bind h
       have cr17 := chg_of_ok k x14.1 r17 er17
       refine JO.s rfl (o_call [.tmp 35] rfl rfl en81 rfl cr17) ⟨rfl, trivial⟩ ?_
       refine mq ?_
       refine JO.s rfl (o_and rfl) ⟨rfl, rfl, trivial⟩ ?_
       refine mq ?_
       refine JO.s rfl (o_and rfl) ⟨rfl, rfl, trivial⟩ ?_
       refine JO.s rfl (o_or rfl) ⟨rfl, rfl, trivial⟩ ?_
       refine aq ?_
       refine JO.nil ?_
       refine JN.blk_n ?_
       refine JN.then_n ?_
       exact JN.z ((), ior .u8 y10.1 (iand .u8 (iand .u8 r17 r2) r3)) h (SE.fin [1] ⟨rfl, rfl, rfl, rfl, rfl, rfl, rfl, rfl, rfl, trivial⟩ rfl)
      ·
       replace h := b_ifn (v_f hb) h
       refine JC.skip ?_
       refine JN.blk_n ?_
       refine JN.then_n ?_
       exact JN.z ((), y10.1) h (SE.fin [1] ⟨rfl, rfl, rfl, rfl, rfl, rfl, rfl, rfl, rfl, trivial⟩ rfl)
     ·
      refine JC.region ?_
      obtain ⟨x18, ex18, h⟩ := b_bind h
      refine JO.s rfl (o_add rfl ex18) ⟨rfl, rfl, trivial⟩ ?_
      refine mq ?_
      refine JO.nil ?_
      refine JN.then_n ?_
      exact JN.z ((), (x12, x18)) h (SE.fin [0] ⟨rfl, rfl, rfl, rfl, rfl, rfl, rfl, rfl, rfl, trivial⟩ rfl)
    ·
     replace h := b_ifn (d_f hb) h
     refine JC.exit ?_
     refine JN.then_x ?_
     refine JN.then_x ?_
     refine JN.blk_hit ?_
     refine JN.blk_n ?_
     refine JN.then_n ?_
     exact JN.z ((), y10.1) h (SE.fin [0] ⟨rfl, rfl, rfl, rfl, rfl, rfl, trivial⟩ rfl)
   ·
    refine JC.region ?_
    obtain ⟨x19, ex19, h⟩ := b_bind h
    refine JO.s rfl (o_add rfl ex19) ⟨rfl, rfl, trivial⟩ ?_
    refine mq ?_
    refine JO.nil ?_
    refine JN.then_n ?_
    exact JN.z ((), (x8, x19)) h (SE.fin [0] ⟨rfl, rfl, rfl, rfl, rfl, rfl, trivial⟩ rfl)
  ·
   replace h := b_ifn (d_f hb) h
   refine JC.exit ?_
   refine JN.then_x ?_
   refine JN.then_x ?_
   refine JN.blk_hit ?_
   refine JN.then_n ?_
   exact JN.z ((), y6.1) h (SE.fin [] ⟨rfl, trivial⟩ rfl)
 ·
  refine sr ?_
  refine mq ?_
  refine aq ?_
  refine nt ?_
  refine JC.ret ?_
  obtain rfl := Option.some.inj h
  exact JN.ret () [_] 0 ⟨rfl, trivial⟩ rfl


def chg_quick_order_1 (k : Nat) (a0 : Int) (a1 : Int) (a2 : (dChange × (List (Bool × Int)) × (List Int))) : Option (dChange × (List (Bool × Int)) × (List Int)) :=
 ((if (0 : Int) ≤ a0 then (some (decide ((0 : Int) ≤ a1))) else (some false)) : Option (Bool)).bind fun x1 =>
 if x1 = true then ((chkP (0 ≤ a1 ∧ a1 < 8)).bind fun _ =>
 (geti a2.2.2 a1).bind fun x4 =>
 (chg_of k [a0]).bind fun r5 =>
 (chkP (0 ≤ a1 ∧ a1 < 8)).bind fun _ =>
 some ((a2.1.1, a2.1.2.1, a2.1.2.2.1, a2.1.2.2.2), a2.2.1, List.set a2.2.2 (Int.toNat a1) (ior .u8 x4 r5))) else (some ((a2.1.1, a2.1.2.1, a2.1.2.2.1, a2.1.2.2.2), a2.2.1, a2.2.2))

theorem chg_quick_order_1_ok (k : Nat) (a0 : Int) (a1 : Int) (a2 : (dChange × (List (Bool × Int)) × (List Int))) (b_a2 : Nat) (m_a2 : Value) (c_a2 : Nat) (r : (dChange × (List (Bool × Int)) × (List Int))) (h : chg_quick_order_1 k a0 a1 a2 = some r) :
 Ctr Try.prog 118 [.eq (.int .i64 a0), .eq (.int .i64 a1), .eq (.pointer (some ⟨c_a2, 0, none⟩))] [.obj b_a2 120 (.agg (.pair (.agg (.pair (.rep (.slice tThing) a2.1.1) (.pair (.rep (.slice tDresser) a2.1.2.1) (.pair (.rep (.slice (.int .i64)) a2.1.2.2.1) (.rep (.slice (.int .i64)) a2.1.2.2.2))))) (.pair (.rep (.slice (.tag 131 133)) a2.2.1) (.pair (.rep (.arr 8 (.int .u8)) a2.2.2) (.eq m_a2))))), .obj c_a2 98 (.eq (.pointer (some ⟨b_a2, 0, none⟩)))] (fun _ : Unit => (resA [], [.obj b_a2 120 (.agg (.pair (.agg (.pair (.rep (.slice tThing) r.1.1) (.pair (.rep (.slice tDresser) r.1.2.1) (.pair (.rep (.slice (.int .i64)) r.1.2.2.1) (.rep (.slice (.int .i64)) r.1.2.2.2))))) (.pair (.rep (.slice (.tag 131 133)) r.2.1) (.pair (.rep (.arr 8 (.int .u8)) r.2.2) (.eq m_a2))))), .obj c_a2 98 (.eq (.pointer (some ⟨b_a2, 0, none⟩)))])) := by
 unfold chg_quick_order_1 at h
 replace h := b_top h
 refine Ctr.of 24 Try.func118 rfl Try.ntmps118 rfl fun S w0 => ?_
 refine JC.cutB (Z := Unit) (α := Bool) (fun z2 x1 => [(0, .eq (.int .i64 a0)), (1, .eq (.int .i64 a1)), (2, .eq (.pointer (some ⟨c_a2, 0, none⟩))), (10, .eq (.bool x1))]) (fun z2 x1 => [.obj c_a2 98 (.eq (.pointer (some ⟨b_a2, 0, none⟩))), .obj b_a2 120 (.agg (.pair (.agg (.pair (.rep (.slice tThing) a2.1.1) (.pair (.rep (.slice tDresser) a2.1.2.1) (.pair (.rep (.slice (.int .i64)) a2.1.2.2.1) (.rep (.slice (.int .i64)) a2.1.2.2.2))))) (.pair (.rep (.slice (.tag 131 133)) a2.2.1) (.pair (.rep (.arr 8 (.int .u8)) a2.2.2) (.eq m_a2)))))]) h (fun K h => ?_) (fun z2 x1 h => ?_)
 ·
  refine JC.region ?_
  refine mq ?_
  refine JO.s rfl (o_geq rfl) ⟨rfl, rfl, trivial⟩ ?_
  refine mq ?_
  refine JO.bool (s := 7) rfl (fun hb => ?_) (fun hb => ?_)
  ·
   replace h := b_if (d_t hb) h
   refine gm ?_
   refine JO.g00 rfl rfl rfl rfl rfl rfl (o_geq rfl) ⟨rfl, rfl, trivial⟩ ?_
   refine pt ?_
   refine JO.nil ?_
   refine JN.then_n ?_
   exact JN.z ((), decide ((0 : Int) ≤ a1)) h (SE.fin [1, 0] ⟨rfl, rfl, rfl, rfl, trivial⟩ rfl)
  ·
   replace h := b_ifn (d_f hb) h
   iterate 2 refine gn ?_
   refine pf ?_
   refine JO.nil ?_
   refine JN.then_n ?_
   exact JN.z ((), false) h (SE.fin [1, 0] ⟨rfl, rfl, rfl, rfl, trivial⟩ rfl)
 ·
  refine JC.cond rfl (fun hb => ?_) (fun hb => ?_)
  ·
   replace h := b_if (v_t hb) h
   refine JC.drawN ?_
   refine DN.s11 0 rfl rfl rfl rfl (o_load_obj rfl sz98 (fun _ => rfl) rfl) ⟨rfl, trivial⟩ ?_
   refine dm ?_
   refine DN.s00 rfl rfl rfl (o_nil_obj rfl) ⟨rfl, trivial⟩ ?_
   refine DN.s00 rfl rfl rfl (o_field_obj rfl fo120_2) ⟨rfl, trivial⟩ ?_
   obtain ⟨u3, eu3, h⟩ := b_bind h
   refine DN.s00 rfl rfl rfl (o_index_arr rfl Try.underlying117 sz106 (chkP_some eu3).1 (chkP_some eu3).2) ⟨rfl, rfl, trivial⟩ ?_
   obtain ⟨x4, ex4, h⟩ := b_bind h
   refine DN.s11 1 rfl rfl rfl rfl (o_load_arr (t := (.int .u8)) (off := 5) (i := a1) (N := 8) rfl sz106 (fun _ => rfl) rfl rfl rfl rfl ex4) ⟨rfl, trivial⟩ ?_
   refine dm ?_
   refine DN.s00 rfl rfl rfl (o_litB (t := (.int .i64)) [(.tmp 17, _)] [a0] rfl rfl sl22 (.cons rfl .int .nil) rfl rfl) ⟨rfl, trivial⟩ ?_
   obtain ⟨r5, er5, h⟩ := b_bind h
   have cr5 := chg_of_ok k [a0] r5 er5
   refine DN.s00 rfl rfl rfl (o_call [.tmp 18] rfl rfl en81 rfl cr5) ⟨rfl, trivial⟩ ?_
   refine DN.s00 rfl rfl rfl (o_or rfl) ⟨rfl, rfl, trivial⟩ ?_
   refine DN.s00 rfl rfl rfl (o_nil_obj rfl) ⟨rfl, trivial⟩ ?_
   refine DN.s00 rfl rfl rfl (o_field_obj rfl fo120_2) ⟨rfl, trivial⟩ ?_
   refine DN.fin (by kernel_rfl) mixed ?_
   obtain ⟨u6, eu6, h⟩ := b_bind h
   refine JO.s rfl (o_index_arr rfl Try.underlying117 sz106 (chkP_some eu6).1 (chkP_some eu6).2) ⟨rfl, rfl, trivial⟩ ?_
   refine JO.front 1 rfl ?_
   refine JO.n11 rfl rfl (o_store_arr (t := (.int .u8)) (off := 5) (i := a1) (N := 8) rfl sz106 .int rfl rfl rfl rfl (chkP_some eu6).1 (chkP_some eu6).2 rfl) ⟨rfl, rfl, trivial⟩ ?_
   refine JO.nil ?_
   refine JN.end_n ?_
   obtain rfl := Option.some.inj h
   exact JN.ret () [] 2 trivial rfl
  ·
   replace h := b_ifn (v_f hb) h
   refine JC.skip ?_
   refine JN.end_n ?_
   refine JN.se (SE.fin (Γ' := []) [1, 0] trivial rfl) ?_
   obtain rfl := Option.some.inj h
   exact JN.ret () [] 2 trivial rfl


def chg_off_thing (k : Nat) (a0 : Int) : Option Int :=
 some a0

theorem chg_off_thing_ok (k : Nat) (a0 : Int) (r : Int) (h : chg_off_thing k a0 = some r) :
 Ctr Try.prog 79 [.eq (.int .i64 a0)] [] (fun _ : Unit => (resA [.eq (.int .i64 r)], [])) := by
 unfold chg_off_thing at h
 replace h := b_top h
 refine Ctr.of 4 Try.func79 rfl Try.ntmps79 rfl fun S w0 => ?_
 refine sr ?_
 refine cq ?_
 refine nt ?_
 refine sr ?_
 refine mq ?_
 refine aq ?_
 refine nt ?_
 refine JC.ret ?_
 obtain rfl := Option.some.inj h
 exact JN.ret () [_] 0 ⟨rfl, trivial⟩ rfl


def chg_on_thing (k : Nat) (a0 : Int) : Option Int :=
 some a0

theorem chg_on_thing_ok (k : Nat) (a0 : Int) (r : Int) (h : chg_on_thing k a0 = some r) :
 Ctr Try.prog 80 [.eq (.int .i64 a0)] [] (fun _ : Unit => (resA [.eq (.int .i64 r)], [])) := by
 unfold chg_on_thing at h
 replace h := b_top h
 refine Ctr.of 4 Try.func80 rfl Try.ntmps80 rfl fun S w0 => ?_
 refine sr ?_
 refine cq ?_
 refine nt ?_
 refine sr ?_
 refine mq ?_
 refine aq ?_
 refine nt ?_
 refine JC.ret ?_
 obtain rfl := Option.some.inj h
 exact JN.ret () [_] 0 ⟨rfl, trivial⟩ rfl


def chg_quick_number_l1 (k : Nat) (a0 : (dChange × (List (Bool × Int)) × (List Int))) (a1 : Int) (a2 : Bool) : Nat → Int → Option (Except Int Unit)
 | 0, _ => none
 | n + 1, y3 =>
  if y3 < (a0.2.1.length : Int) then (bE (α := Unit) ((geti a0.2.1 y3).bind fun x7 =>
  if ¬ (x7.1 = true) then (((if ¬ (a2 = true) then ((cond x7.1 (chg_on_thing k x7.2) (chg_off_thing k x7.2)).bind fun r10 =>
  some (decide (r10 = a1))) else (some false)) : Option (Bool)).bind fun x8 =>
  if x8 = true then (some (.error y3)) else (some (.ok ()))) else (if x7.1 = true then (((if a2 = true then ((cond x7.1 (chg_on_thing k x7.2) (chg_off_thing k x7.2)).bind fun r13 =>
  some (decide (r13 = a1))) else (some false)) : Option (Bool)).bind fun x11 =>
  if x11 = true then (some (.error y3)) else (some (.ok ()))) else (some (.ok ())))) (fun e => some (.error e)) fun _ =>
  (ck (y3 + (1 : Int))).bind fun x14 =>
  chg_quick_number_l1 k a0 a1 a2 n x14) else (some (.ok ()))
def chg_quick_number (k : Nat) (a0 : (dChange × (List (Bool × Int)) × (List Int))) (a1 : Int) (a2 : Bool) : Option Int :=
 bE (α := Unit) (chg_quick_number_l1 k a0 a1 a2 k (0 : Int)) (some) fun _ =>
 some (-1 : Int)

theorem chg_quick_number_ok (k : Nat) (a0 : (dChange × (List (Bool × Int)) × (List Int))) (b_a0 : Nat) (m_a0 : Value) (a1 : Int) (a2 : Bool) (r : Int) (h : chg_quick_number k a0 a1 a2 = some r) :
 Ctr Try.prog 119 [.eq (.pointer (some ⟨b_a0, 0, none⟩)), .eq (.int .i64 a1), .eq (.bool a2)] [.obj b_a0 120 (.agg (.pair (.agg (.pair (.rep (.slice tThing) a0.1.1) (.pair (.rep (.slice tDresser) a0.1.2.1) (.pair (.rep (.slice (.int .i64)) a0.1.2.2.1) (.rep (.slice (.int .i64)) a0.1.2.2.2))))) (.pair (.rep (.slice (.tag 131 133)) a0.2.1) (.pair (.rep (.arr 8 (.int .u8)) a0.2.2) (.eq m_a0)))))] (fun _ : Unit => (resA [.eq (.int .i64 r)], [.obj b_a0 120 (.agg (.pair (.agg (.pair (.rep (.slice tThing) a0.1.1) (.pair (.rep (.slice tDresser) a0.1.2.1) (.pair (.rep (.slice (.int .i64)) a0.1.2.2.1) (.rep (.slice (.int .i64)) a0.1.2.2.2))))) (.pair (.rep (.slice (.tag 131 133)) a0.2.1) (.pair (.rep (.arr 8 (.int .u8)) a0.2.2) (.eq m_a0)))))])) := by
 unfold chg_quick_number at h
 replace h := b_top h
 refine Ctr.of 44 Try.func119 rfl Try.ntmps119 rfl fun S w0 => ?_
 refine sr ?_
 refine cq ?_
 refine nt ?_
 refine JC.cutE (Z := Unit) (α := Unit) (fun z2 x1 => []) (fun z2 x1 => [.obj b_a0 120 (.agg (.pair (.agg (.pair (.rep (.slice tThing) a0.1.1) (.pair (.rep (.slice tDresser) a0.1.2.1) (.pair (.rep (.slice (.int .i64)) a0.1.2.2.1) (.rep (.slice (.int .i64)) a0.1.2.2.2))))) (.pair (.rep (.slice (.tag 131 133)) a0.2.1) (.pair (.rep (.arr 8 (.int .u8)) a0.2.2) (.eq m_a0)))))]) (fun e => e = r) h (fun e h => Option.some.inj h) (fun K hR h => ?_) (fun z2 x1 h => ?_)
 ·
  refine sr ?_
  refine mq ?_
  refine JO.s rfl (o_nil_obj rfl) ⟨rfl, trivial⟩ ?_
  refine JO.s rfl (o_field_obj rfl fo120_1) ⟨rfl, trivial⟩ ?_
  refine JO.s11 rfl rfl rfl (o_load_obj rfl sz116 (fun _ => rfl) rfl) ⟨rfl, trivial⟩ ?_
  refine JO.s rfl (o_len rfl rfl Try.underlying116) ⟨rfl, trivial⟩ ?_
  refine JO.mc rfl ?_
  refine nt ?_
  refine JC.block ?_
  refine JC.loopB (Z := Unit) (α := Int) (fun z4 y3 => [(1, .eq (.int .i64 a1)), (2, .eq (.bool a2)), (12, .rep (.slice (.tag 131 133)) a0.2.1), (13, .eq (.int .i64 (a0.2.1.length : Int))), (14, .eq (.int .i64 y3))]) (fun z4 y3 => [.obj b_a0 120 (.agg (.pair (.agg (.pair (.rep (.slice tThing) a0.1.1) (.pair (.rep (.slice tDresser) a0.1.2.1) (.pair (.rep (.slice (.int .i64)) a0.1.2.2.1) (.rep (.slice (.int .i64)) a0.1.2.2.2))))) (.pair (.rep (.slice (.tag 131 133)) a0.2.1) (.pair (.rep (.arr 8 (.int .u8)) a0.2.2) (.eq m_a0)))))]) (chg_quick_number_l1 k a0 a1 a2) k () (0 : Int) (fun _ => rfl) h (SE.fin [0] ⟨rfl, rfl, rfl, rfl, rfl, trivial⟩ rfl) (fun n z4 y3 h => ?_)
  unfold chg_quick_number_l1 at h
  refine sr ?_
  refine JO.s rfl (o_lss rfl) ⟨rfl, rfl, trivial⟩ ?_
  refine nt ?_
  refine JC.seq ?_
  refine JC.cond rfl (fun hb => ?_) (fun hb => ?_)
  ·
   replace h := b_if (d_t hb) h
   refine JC.skip ?_
   refine JN.then_n ?_
   show JC _ _ _ _ _
   refine JC.cutE (Z := Unit) (α := Unit) (fun z6 x5 => [(1, .eq (.int .i64 a1)), (2, .eq (.bool a2)), (12, .rep (.slice (.tag 131 133)) a0.2.1), (13, .eq (.int .i64 (a0.2.1.length : Int))), (14, .eq (.int .i64 y3))]) (fun z6 x5 => [.obj b_a0 120 (.agg (.pair (.agg (.pair (.rep (.slice tThing) a0.1.1) (.pair (.rep (.slice tDresser) a0.1.2.1) (.pair (.rep (.slice (.int .i64)) a0.1.2.2.1) (.rep (.slice (.int .i64)) a0.1.2.2.2))))) (.pair (.rep (.slice (.tag 131 133)) a0.2.1) (.pair (.rep (.arr 8 (.int .u8)) a0.2.2) (.eq m_a0)))))]) (fun e => e = r) h (fun e h => hR e h) (fun K hR h => ?_) (fun z6 x5 h => ?_)
   ·
    refine JC.block ?_
    refine sr ?_
    refine mq ?_
    obtain ⟨x7, ex7, h⟩ := b_bind h
    refine JO.s rfl (o_index (t := (.tag 131 133)) rfl Try.underlying116 sz130 ex7) ⟨rfl, rfl, trivial⟩ ?_
    refine JO.s rfl (o_load_at (t := (.tag 131 133)) rfl sz130 rfl) ⟨rfl, trivial⟩ ?_
    refine aq ?_
    refine aq ?_
    refine nt ?_
    refine sr ?_
    refine mq ?_
    refine nt ?_
    refine JC.block ?_
    refine sr ?_
    refine JO.s rfl (o_as0 rfl ta131 (by decide)) ⟨rfl, trivial⟩ ?_
    refine JO.s rfl (o_extract rfl rfl) ⟨rfl, trivial⟩ ?_
    refine JO.s rfl (o_extract rfl rfl) ⟨rfl, trivial⟩ ?_
    refine nt ?_
    refine JC.cond rfl (fun hb => ?_) (fun hb => ?_)
    ·
     replace h := b_if (nv_t hb) h
     refine JC.cutB (Z := Unit) (α := Bool) (fun z9 x8 => [(1, .eq (.int .i64 a1)), (2, .eq (.bool a2)), (7, .eq (.int .i64 y3)), (12, .rep (.slice (.tag 131 133)) a0.2.1), (13, .eq (.int .i64 (a0.2.1.length : Int))), (14, .eq (.int .i64 y3)), (30, .eq (.bool x8))]) (fun z9 x8 => [.obj b_a0 120 (.agg (.pair (.agg (.pair (.rep (.slice tThing) a0.1.1) (.pair (.rep (.slice tDresser) a0.1.2.1) (.pair (.rep (.slice (.int .i64)) a0.1.2.2.1) (.rep (.slice (.int .i64)) a0.1.2.2.2))))) (.pair (.rep (.slice (.tag 131 133)) a0.2.1) (.pair (.rep (.arr 8 (.int .u8)) a0.2.2) (.eq m_a0)))))]) h (fun K h => ?_) (fun z9 x8 h => ?_)
     ·
      refine JC.region ?_
      refine mq ?_
      refine JO.s rfl (o_not rfl) ⟨rfl, trivial⟩ ?_
      refine mq ?_
      refine JO.bool (s := 25) rfl (fun hb => ?_) (fun hb => ?_)
      ·
       replace h := b_if (nv_t hb) h
       refine gm ?_
       obtain ⟨r10, er10, h⟩ := b_bind h
       refine JO.g00 rfl rfl rfl rfl rfl rfl (o_invoke rfl rfl mt131_thing mt133_thing (ctr_cond (fun hb => chg_off_thing_ok k x7.2 r10 (by simpa [hb] using er10)) (fun hb => chg_on_thing_ok k x7.2 r10 (by simpa [hb] using er10)))) ⟨rfl, trivial⟩ ?_
       refine gm ?_
       refine JO.g00 rfl rfl rfl rfl rfl rfl (o_eql rfl) ⟨rfl, rfl, trivial⟩ ?_
       refine pt ?_
       refine JO.nil ?_
       refine JN.then_n ?_
       exact JN.z ((), decide (r10 = a1)) h (SE.fin [0] ⟨rfl, rfl, rfl, rfl, rfl, rfl, rfl, trivial⟩ rfl)
      ·
       replace h := b_ifn (nv_fn hb) h
       iterate 4 refine gn ?_
       refine pf ?_
       refine JO.nil ?_
       refine JN.then_n ?_
       exact JN.z ((), false) h (SE.fin [0] ⟨rfl, rfl, rfl, rfl, rfl, rfl, rfl, trivial⟩ rfl)
     ·
      refine JC.cond rfl (fun hb => ?_) (fun hb => ?_)
      ·
       replace h := b_if (v_t hb) h
       refine sr ?_
       refine mq ?_
       refine aq ?_
       refine nt ?_
       refine JC.ret ?_
       refine JN.blk_r ?_
       refine JN.blk_r ?_
       refine JN.then_r ?_
       refine JN.then_r ?_
       refine JN.blk_r ?_
       refine JN.then_r ?_
       obtain rfl := hR _ h
       exact JN.ret () [_] 1 ⟨rfl, trivial⟩ rfl
      ·
       replace h := b_ifn (v_f hb) h
       refine JC.skip ?_
       refine JN.blk_n ?_
       refine JN.blk_n ?_
       refine JN.then_n ?_
       exact JN.z ((), ()) h (SE.fin [0] ⟨rfl, rfl, rfl, rfl, rfl, trivial⟩ rfl)
    ·
     replace h := b_ifn (nv_fn hb) h
     refine sr ?_
     refine JO.s rfl (o_as1 rfl ta133 (by decide)) ⟨rfl, trivial⟩ ?_
     refine JO.s rfl (o_extract rfl rfl) ⟨rfl, trivial⟩ ?_
     refine JO.s rfl (o_extract rfl rfl) ⟨rfl, trivial⟩ ?_
     refine nt ?_
     refine JC.cond rfl (fun hb => ?_) (fun hb => ?_)
     ·
      replace h := b_if (v_t hb) h
      refine JC.cutB (Z := Unit) (α := Bool) (fun z12 x11 => [(1, .eq (.int .i64 a1)), (2, .eq (.bool a2)), (7, .eq (.int .i64 y3)), (12, .rep (.slice (.tag 131 133)) a0.2.1), (13, .eq (.int .i64 (a0.2.1.length : Int))), (14, .eq (.int .i64 y3)), (41, .eq (.bool x11))]) (fun z12 x11 => [.obj b_a0 120 (.agg (.pair (.agg (.pair (.rep (.slice tThing) a0.1.1) (.pair (.rep (.slice tDresser) a0.1.2.1) (.pair (.rep (.slice (.int .i64)) a0.1.2.2.1) (.rep (.slice (.int .i64)) a0.1.2.2.2))))) (.pair (.rep (.slice (.tag 131 133)) a0.2.1) (.pair (.rep (.arr 8 (.int .u8)) a0.2.2) (.eq m_a0)))))]) h (fun K h => ?_) (fun z12 x11 h => ?_)
      ·
       refine JC.region ?_
       iterate 2 refine mq ?_
       refine JO.bool (s := 36) rfl (fun hb => ?_) (fun hb => ?_)
       ·
        replace h := b_if (v_t hb) h
        refine gm ?_
        obtain ⟨r13, er13, h⟩ := b_bind h
        refine JO.g00 rfl rfl rfl rfl rfl rfl (o_invoke rfl rfl mt131_thing mt133_thing (ctr_cond (fun hb => chg_off_thing_ok k x7.2 r13 (by simpa [hb] using er13)) (fun hb => chg_on_thing_ok k x7.2 r13 (by simpa [hb] using er13)))) ⟨rfl, trivial⟩ ?_
        refine gm ?_
        refine JO.g00 rfl rfl rfl rfl rfl rfl (o_eql rfl) ⟨rfl, rfl, trivial⟩ ?_
        refine pt ?_
        refine JO.nil ?_
        refine JN.then_n ?_
        exact JN.z ((), decide (r13 = a1)) h (SE.fin [0] ⟨rfl, rfl, rfl, rfl, rfl, rfl, rfl, trivial⟩ rfl)
       ·
        replace h := b_ifn (v_f hb) h
        iterate 4 refine gn ?_
        refine pf ?_
        refine JO.nil ?_
        refine JN.then_n ?_
        exact JN.z ((), false) h (SE.fin [0] ⟨rfl, rfl, rfl, rfl, rfl, rfl, rfl, trivial⟩ rfl)
      ·
       refine JC.cond rfl (fun hb => ?_) (fun hb => ?_)
       ·
        replace h := b_if (v_t hb) h
        refine sr ?_
        refine mq ?_
        refine aq ?_
        refine nt ?_
        refine JC.ret ?_
        refine JN.blk_r ?_
        refine JN.blk_r ?_
        refine JN.then_r ?_
        refine JN.then_r ?_
        refine JN.blk_r ?_
        refine JN.then_r ?_
        obtain rfl := hR _ h
        exact JN.ret () [_] 1 ⟨rfl, trivial⟩ rfl
       ·
        replace h := b_ifn (v_f hb) h
        refine JC.skip ?_
        refine JN.blk_n ?_
        refine JN.blk_n ?_
        refine JN.then_n ?_
        exact JN.z ((), ()) h (SE.fin [0] ⟨rfl, rfl, rfl, rfl, rfl, trivial⟩ rfl)
     ·
      replace h := b_ifn (v_f hb) h
      refine JC.skip ?_
      refine JN.blk_n ?_
      refine JN.blk_n ?_
      refine JN.then_n ?_
      exact JN.z ((), ()) h (SE.fin [0] ⟨rfl, rfl, rfl, rfl, rfl, trivial⟩ rfl)
   ·
    refine JC.region ?_
    obtain ⟨x14, ex14, h⟩ := b_bind h
    refine JO.s rfl (o_add rfl ex14) ⟨rfl, rfl, trivial⟩ ?_
    refine mq ?_
    refine JO.nil ?_
    refine JN.then_n ?_
    exact JN.z ((), x14) h (SE.fin [0] ⟨rfl, rfl, rfl, rfl, rfl, trivial⟩ rfl)
  ·
   replace h := b_ifn (d_f hb) h
   refine JC.exit ?_
   refine JN.then_x ?_
   refine JN.then_x ?_
   refine JN.blk_hit ?_
   refine JN.then_n ?_
   exact JN.z ((), ()) h (SE.fin [0] trivial rfl)
 ·
  refine sr ?_
  refine cq ?_
  refine nt ?_
  refine JC.ret ?_
  obtain rfl := Option.some.inj h
  exact JN.ret () [_] 1 ⟨rfl, trivial⟩ rfl


end Go.Proofs.Ytfhdclhbdmhnmaa
