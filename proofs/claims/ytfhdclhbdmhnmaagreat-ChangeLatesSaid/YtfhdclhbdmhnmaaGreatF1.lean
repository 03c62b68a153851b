/- The program's functions, part 3: what each computes, and that the code computes it. Printed by a program of this proof's own. -/
import Derived.Test.YtfhdclhbdmhnmaaGreatP2
set_option linter.unusedVariables false
set_option maxRecDepth 4000
namespace Go.Proofs.YtfhdclhbdmhnmaaGreat
open K Go Go.Proofs
def kit_PlanOf_l4 (k : Nat) (y6 : (List Int) × Int × Int × (List dStep)) (y21 : Bool × Int) : Nat → (Bool × Int) → Option Bool
 | 0, _ => none
 | n + 1, y29 =>
  if y29.2 < (y6.2.2.2.length : Int) then (((if y29.1 = true then (some true) else ((geti y6.2.2.2 y29.2).bind fun x33 =>
  some (decide (x33.1 = y21.2)))) : Option (Bool)).bind fun x31 =>
  (ck (y29.2 + (1 : Int))).bind fun x34 =>
  kit_PlanOf_l4 k y6 y21 n (x31, x34)) else (some y29.1)

def kit_PlanOf_l3 (k : Nat) (a1 : dChange) (r2 : (List dTask)) (r3 : (List Int) × dLots) (y6 : (List Int) × Int × Int × (List dStep)) (y12 : Int × Int) (x17 : dTask) : Nat → (Bool × Int) → Option Bool
 | 0, _ => none
 | n + 1, y21 =>
  if y21.2 < (r2.length : Int) then ((((geti r2 y21.2).bind fun x25 =>
  ((kit_PlanOf_l4 k y6 y21 k (false, (0 : Int))) : Option (Bool)).bind fun x27 =>
  (geti r3.1 y12.2).bind fun x35 =>
  if y21.2 = x35 then (((if y21.1 = true then (some (!x27)) else (some false)) : Option (Bool)).bind fun x36 =>
  some x36) else (((if x25.1 = x17.1 then (if ¬ (x25.2 = true) then (some true) else (if ¬ (x25.2 = true) then ((geti a1.1 x17.1).bind fun x40 =>
  (kit_At k x40.1 x25.1).bind fun r41 =>
  if (0 : Int) ≤ r41 then (some true) else (if x17.2 = true then ((geti a1.1 x25.1).bind fun x42 =>
  (kit_At k x42.1 x17.1).bind fun r43 =>
  some (decide ((0 : Int) ≤ r43))) else (some false))) else (if x17.2 = true then ((geti a1.1 x25.1).bind fun x44 =>
  (kit_At k x44.1 x17.1).bind fun r45 =>
  some (decide ((0 : Int) ≤ r45))) else (some false)))) else (if ¬ (x25.2 = true) then ((geti a1.1 x17.1).bind fun x46 =>
  (kit_At k x46.1 x25.1).bind fun r47 =>
  if (0 : Int) ≤ r47 then (some true) else (if x17.2 = true then ((geti a1.1 x25.1).bind fun x48 =>
  (kit_At k x48.1 x17.1).bind fun r49 =>
  some (decide ((0 : Int) ≤ r49))) else (some false))) else (if x17.2 = true then ((geti a1.1 x25.1).bind fun x50 =>
  (kit_At k x50.1 x17.1).bind fun r51 =>
  some (decide ((0 : Int) ≤ r51))) else (some false)))) : Option (Bool)).bind fun x38 =>
  if y21.1 = true then (if x27 = true then (some true) else (some (!x38))) else (some false))) : Option (Bool)).bind fun x23 =>
  (ck (y21.2 + (1 : Int))).bind fun x52 =>
  kit_PlanOf_l3 k a1 r2 r3 y6 y12 x17 n (x23, x52)) else (some y21.1)

def kit_PlanOf_l2 (k : Nat) (a1 : dChange) (r2 : (List dTask)) (r3 : (List Int) × dLots) (y6 : (List Int) × Int × Int × (List dStep)) : Nat → (Int × Int) → Option Int
 | 0, _ => none
 | n + 1, y12 =>
  if y12.2 < (r3.1.length : Int) then ((((geti r3.1 y12.2).bind fun x16 =>
  (geti r2 x16).bind fun x17 =>
  ((kit_PlanOf_l3 k a1 r2 r3 y6 y12 x17 k (true, (0 : Int))) : Option (Bool)).bind fun x19 =>
  ((if x19 = true then (some (decide (y12.1 < (0 : Int)))) else (some false)) : Option (Bool)).bind fun x53 =>
  if x53 = true then ((geti r3.1 y12.2).bind fun x55 =>
  some x55) else (some y12.1)) : Option (Int)).bind fun x14 =>
  (ck (y12.2 + (1 : Int))).bind fun x56 =>
  kit_PlanOf_l2 k a1 r2 r3 y6 n (x14, x56)) else (some y12.1)

def kit_PlanOf_l5 (k : Nat) (a1 : dChange) (r2 : (List dTask)) (x10 : Int) : Nat → (Int × Int) → Option Int
 | 0, _ => none
 | n + 1, y61 =>
  if y61.2 < (a1.2.1.length : Int) then ((geti a1.2.1 y61.1).bind fun x63 =>
  (geti r2 x10).bind fun x64 =>
  (geti a1.1 x64.1).bind fun x65 =>
  (((geti r2 x10).bind fun x69 =>
  (kit_At k x63.1 x69.1).bind fun r70 =>
  if (0 : Int) ≤ r70 then (if x65.2.2.2.1 = (0 : Int) then (some true) else (if x63.2.1 = (0 : Int) then (some true) else (some (decide (x65.2.2.2.1 = x63.2.1))))) else (some false)) : Option (Bool)).bind fun x67 =>
  if x67 = true then (some y61.1) else ((ck (y61.1 + (1 : Int))).bind fun x71 =>
  (chkP ((a1.2.1.length : Int) ≠ 0)).bind fun _ =>
  (ck (y61.2 + (1 : Int))).bind fun x73 =>
  kit_PlanOf_l5 k a1 r2 x10 n (Int.tmod x71 (a1.2.1.length : Int), x73))) else (some y61.1)

def kit_PlanOf_l1 (k : Nat) (a1 : dChange) (r2 : (List dTask)) (r3 : (List Int) × dLots) : Nat → ((List Int) × Int × Int × (List dStep)) → Option (Except ((List dStep) × dLots) ((List dStep) × (List Int) × Int × Int))
 | 0, _ => none
 | n + 1, y6 =>
  if (y6.2.2.2.length : Int) < (r2.length : Int) then (bE (α := (List Int) × Int × Int × (List dStep)) (((kit_PlanOf_l2 k a1 r2 r3 y6 k ((-1 : Int), (0 : Int))) : Option (Int)).bind fun x10 =>
  if x10 < (0 : Int) then (some (.error (y6.2.2.2, (y6.1, y6.2.1, y6.2.2.1)))) else ((ck ((a1.2.1.length : Int) - (1 : Int))).bind fun x57 =>
  (kit_Lots_Upto k (y6.1, y6.2.1, y6.2.2.1) x57).bind fun r58 =>
  ((kit_PlanOf_l5 k a1 r2 x10 k (r58.1, (0 : Int))) : Option (Int)).bind fun x59 =>
  (chkP (okLen (List.length y6.2.2.2 + List.length [(x10, x59)]))).bind fun _ =>
  some (.ok (r58.2.1, r58.2.2.1, r58.2.2.2, y6.2.2.2 ++ [(x10, x59)])))) (fun e => some (.error e)) fun x8 =>
  kit_PlanOf_l1 k a1 r2 r3 n (x8.1, x8.2.1, x8.2.2.1, x8.2.2.2)) else (some (.ok (y6.2.2.2, y6.1, y6.2.1, y6.2.2.1)))
def kit_PlanOf (k : Nat) (a0 : dLots) (a1 : dChange) : Option ((List dStep) × dLots) :=
 (kit_TasksOf k a1).bind fun r2 =>
 (kit_Lots_Mixed k (a0.1, a0.2.1, a0.2.2) (r2.length : Int)).bind fun r3 =>
 bE (α := (List dStep) × (List Int) × Int × Int) (kit_PlanOf_l1 k a1 r2 r3 k (r3.2.1, r3.2.2.1, r3.2.2.2, ([] : (List dStep)))) (some) fun x4 =>
 some (x4.1, (x4.2.1, x4.2.2.1, x4.2.2.2))

theorem kit_PlanOf_ok (k : Nat) (a0 : dLots) (b_a0 : Nat) (a1 : dChange) (r : (List dStep) × dLots) (h : kit_PlanOf k a0 a1 = some r) :
 Ctr Tryz.prog 55 [Pt b_a0, .rep tChange a1] [.obj b_a0 79 (.agg (.pair (Ri a0.1) (.pair (I a0.2.1) (.eq (.int .u64 a0.2.2)))))] (fun _ : Unit => (resA [Rs tStep r.1], [.obj b_a0 79 (.agg (.pair (Ri r.2.1) (.pair (I r.2.2.1) (.eq (.int .u64 r.2.2.2)))))])) := by
 unfold kit_PlanOf at h;replace h := b_top h;refine Ctr.of 212 Tryz.func55 rfl Tryz.ntmps55 rfl fun S w0 => ?_;refine sr (bx fun b1 => ?_);refine cq (nt (sr ?_));refine lo sz26 ?_;obtain ⟨r2, er2, h⟩ := b_bind h;refine ja (o_call [.tmp 21] rfl rfl en65 rfl (kit_TasksOf_ok k a1 r2 er2)) ?_;refine aq (nt (sr ?_));refine cq (nt (sr ?_));iterate 2 refine mq ?_
 refine ol U112 ?_;obtain ⟨r3, er3, h⟩ := b_bind h;refine fr 1 ?_;refine kb (o_call [.tmp 23, .tmp 25] rfl rfl en100 rfl (kit_Lots_Mixed_ok k (a0.1, a0.2.1, a0.2.2) b_a0 (r2.length : Int) r3 er3)) ?_;refine aq (nt ?_);refine JC.cutE (Z := Value) (α := (List dStep) × (List Int) × Int × Int) (fun z5 x4 => [(6, .eq z5)]) (fun z5 x4 => [.sl z5 92 tStep x4.1, .obj b_a0 79 (.agg (.pair (Ri x4.2.1) (.pair (I x4.2.2.1) (.eq (.int .u64 x4.2.2.2)))))]) (fun e => e = r) h (fun e h => Option.some.inj h) (fun K hR h => ?_) (fun z5 x4 h => ?_)
 ·refine JC.block (JC.se (SE.nil 92 tStep) ?_);refine JC.loopB (Z := Value) (α := (List Int) × Int × Int × (List dStep)) (fun z7 y6 => [(0, Pt b_a0), (3, Pt b1), (5, Rs tTask r2), (6, .eq z7), (7, Ri r3.1)]) (fun z7 y6 => [.obj b_a0 79 (.agg (.pair (Ri y6.1) (.pair (I y6.2.1) (.eq (.int .u64 y6.2.2.1))))), .obj b1 26 (.rep tChange a1), .sl z7 92 tStep y6.2.2.2]) (kit_PlanOf_l1 k a1 r2 r3) k (.slice none 0 0) (r3.2.1, r3.2.2.1, r3.2.2.2, ([] : (List dStep))) (fun _ => rfl) h (SE.fin [1, 2, 0] ⟨rfl, rfl, rfl, rfl, rfl, trivial⟩ rfl) (fun n z7 y6 h => ?_);unfold kit_PlanOf_l1 at h;refine JC.seq (sr (mq ?_));refine fr 2 ?_;refine ka (o_len_own rfl rfl U34) ?_;refine mq ?_;refine ol U112 ?_;refine jb (o_lss rfl) ?_;refine nt (ci h (fun h => ?_) (fun h => ?_))
  ·refine sk (JC.cutEN (Z := Value) (α := (List Int) × Int × Int × (List dStep)) (fun z9 x8 => [(0, Pt b_a0), (3, Pt b1), (5, Rs tTask r2), (6, .eq z9), (7, Ri r3.1)]) (fun z9 x8 => [.obj b_a0 79 (.agg (.pair (Ri x8.1) (.pair (I x8.2.1) (.eq (.int .u64 x8.2.2.1))))), .obj b1 26 (.rep tChange a1), .sl z9 92 tStep x8.2.2.2]) (fun e => e = r) h (fun e h => hR e h) (fun K hR h => ?_) (fun z9 x8 h => ?_))
   ·refine JC.block (sr (cq (nt ?_)));refine JC.cutB (Z := Unit) (α := Int) (fun z11 x10 => [(0, Pt b_a0), (3, Pt b1), (5, Rs tTask r2), (6, .eq z7), (7, Ri r3.1), (8, I x10)]) (fun z11 x10 => [.obj b_a0 79 (.agg (.pair (Ri y6.1) (.pair (I y6.2.1) (.eq (.int .u64 y6.2.2.1))))), .obj b1 26 (.rep tChange a1), .sl z7 92 tStep y6.2.2.2]) h (fun K h => ?_) (fun z11 x10 h => ?_)
    ·refine sr (cq (nt (JC.block ?_)));refine JC.loopB (Z := Unit) (α := Int × Int) (fun z13 y12 => [(0, Pt b_a0), (3, Pt b1), (5, Rs tTask r2), (6, .eq z7), (7, Ri r3.1), (8, I y12.1), (9, I y12.2)]) (fun z13 y12 => [.obj b_a0 79 (.agg (.pair (Ri y6.1) (.pair (I y6.2.1) (.eq (.int .u64 y6.2.2.1))))), .obj b1 26 (.rep tChange a1), .sl z7 92 tStep y6.2.2.2]) (kit_PlanOf_l2 k a1 r2 r3 y6) k () ((-1 : Int), (0 : Int)) (fun _ => rfl) h (SE.fin [1, 2, 0] ⟨rfl, rfl, rfl, rfl, rfl, rfl, rfl, trivial⟩ rfl) (fun n z13 y12 h => ?_);unfold kit_PlanOf_l2 at h;refine JC.seq (sr ?_);iterate 2 refine mq ?_
     refine ol U24 ?_;refine jb (o_lss rfl) ?_;refine nt (ci h (fun h => ?_) (fun h => ?_))
     ·refine sk (JC.cutB (Z := Unit) (α := Int) (fun z15 x14 => [(0, Pt b_a0), (3, Pt b1), (5, Rs tTask r2), (6, .eq z7), (7, Ri r3.1), (8, I x14), (9, I y12.2)]) (fun z15 x14 => [.obj b_a0 79 (.agg (.pair (Ri y6.1) (.pair (I y6.2.1) (.eq (.int .u64 y6.2.2.1))))), .obj b1 26 (.rep tChange a1), .sl z7 92 tStep y6.2.2.2]) h (fun K h => ?_) (fun z15 x14 h => ?_))
      ·refine JC.block (sr ?_);iterate 3 refine mq ?_
       obtain ⟨x16, ex16, h⟩ := b_bind h;refine jb (o_index (t := (.int .i64)) rfl U24 sz3 ex16) ?_;refine ja (o_load_at (t := (.int .i64)) rfl sz3 rfl) ?_;obtain ⟨x17, ex17, h⟩ := b_bind h;refine jb (o_index (t := tTask) rfl U112 sz116 ex17) ?_;refine ja (o_load_at (t := tTask) rfl sz116 rfl) ?_;refine JO.s01 rfl rfl rfl (o_alloc rfl za116 al116) trivial fun b18 => ?_;refine JO.n11 rfl rfl (o_store rfl sz116 rfl rfl rfl) ⟨rfl, rfl, trivial⟩ ?_;refine nt (sr (cq (nt ?_)));refine JC.cutB (Z := Unit) (α := Bool) (fun z20 x19 => [(0, Pt b_a0), (3, Pt b1), (5, Rs tTask r2), (6, .eq z7), (7, Ri r3.1), (8, I y12.1), (9, I y12.2), (11, .eq (.bool x19))]) (fun z20 x19 => [.obj b_a0 79 (.agg (.pair (Ri y6.1) (.pair (I y6.2.1) (.eq (.int .u64 y6.2.2.1))))), .obj b1 26 (.rep tChange a1), .sl z7 92 tStep y6.2.2.2]) h (fun K h => ?_) (fun z20 x19 h => ?_)
       ·refine sr (cq (nt (JC.block ?_)));refine JC.loopB (Z := Unit) (α := Bool × Int) (fun z22 y21 => [(0, Pt b_a0), (3, Pt b1), (5, Rs tTask r2), (6, .eq z7), (7, Ri r3.1), (8, I y12.1), (9, I y12.2), (10, Pt b18), (11, .eq (.bool y21.1)), (12, I y21.2)]) (fun z22 y21 => [.obj b_a0 79 (.agg (.pair (Ri y6.1) (.pair (I y6.2.1) (.eq (.int .u64 y6.2.2.1))))), .obj b1 26 (.rep tChange a1), .sl z7 92 tStep y6.2.2.2, .obj b18 116 (.rep tTask x17)]) (kit_PlanOf_l3 k a1 r2 r3 y6 y12 x17) k () (true, (0 : Int)) (fun _ => rfl) h (SE.fin [1, 2, 3, 0] ⟨rfl, rfl, rfl, rfl, rfl, rfl, rfl, rfl, rfl, rfl, trivial⟩ rfl) (fun n z22 y21 h => ?_);unfold kit_PlanOf_l3 at h;refine JC.seq (sr ?_);iterate 2 refine mq ?_
        refine ol U112 ?_;refine jb (o_lss rfl) ?_;refine nt (ci h (fun h => ?_) (fun h => ?_))
        ·refine sk (JC.cutB (Z := Unit) (α := Bool) (fun z24 x23 => [(0, Pt b_a0), (3, Pt b1), (5, Rs tTask r2), (6, .eq z7), (7, Ri r3.1), (8, I y12.1), (9, I y12.2), (10, Pt b18), (11, .eq (.bool x23)), (12, I y21.2)]) (fun z24 x23 => [.obj b_a0 79 (.agg (.pair (Ri y6.1) (.pair (I y6.2.1) (.eq (.int .u64 y6.2.2.1))))), .obj b1 26 (.rep tChange a1), .sl z7 92 tStep y6.2.2.2, .obj b18 116 (.rep tTask x17)]) h (fun K h => ?_) (fun z24 x23 h => ?_))
         ·refine JC.block (sr ?_);iterate 2 refine mq ?_
          obtain ⟨x25, ex25, h⟩ := b_bind h;refine jb (o_index (t := tTask) rfl U112 sz116 ex25) ?_;refine ja (o_load_at (t := tTask) rfl sz116 rfl) ?_;refine JO.s01 rfl rfl rfl (o_alloc rfl za116 al116) trivial fun b26 => ?_;refine JO.n11 rfl rfl (o_store rfl sz116 rfl rfl rfl) ⟨rfl, rfl, trivial⟩ ?_;refine nt (sr (cq (nt ?_)));refine JC.cutB (Z := Unit) (α := Bool) (fun z28 x27 => [(0, Pt b_a0), (3, Pt b1), (5, Rs tTask r2), (6, .eq z7), (7, Ri r3.1), (8, I y12.1), (9, I y12.2), (10, Pt b18), (11, .eq (.bool y21.1)), (12, I y21.2), (13, Pt b26), (14, .eq (.bool x27))]) (fun z28 x27 => [.obj b_a0 79 (.agg (.pair (Ri y6.1) (.pair (I y6.2.1) (.eq (.int .u64 y6.2.2.1))))), .obj b1 26 (.rep tChange a1), .sl z7 92 tStep y6.2.2.2, .obj b18 116 (.rep tTask x17), .obj b26 116 (.rep tTask x25)]) h (fun K h => ?_) (fun z28 x27 h => ?_)
          ·refine sr (cq (nt (JC.block ?_)));refine JC.loopB (Z := Unit) (α := Bool × Int) (fun z30 y29 => [(0, Pt b_a0), (3, Pt b1), (5, Rs tTask r2), (6, .eq z7), (7, Ri r3.1), (8, I y12.1), (9, I y12.2), (10, Pt b18), (11, .eq (.bool y21.1)), (12, I y21.2), (13, Pt b26), (14, .eq (.bool y29.1)), (15, I y29.2)]) (fun z30 y29 => [.obj b_a0 79 (.agg (.pair (Ri y6.1) (.pair (I y6.2.1) (.eq (.int .u64 y6.2.2.1))))), .obj b1 26 (.rep tChange a1), .sl z7 92 tStep y6.2.2.2, .obj b18 116 (.rep tTask x17), .obj b26 116 (.rep tTask x25)]) (kit_PlanOf_l4 k y6 y21) k () (false, (0 : Int)) (fun _ => rfl) h (SE.fin [1, 2, 3, 4, 0] ⟨rfl, rfl, rfl, rfl, rfl, rfl, rfl, rfl, rfl, rfl, rfl, rfl, rfl, trivial⟩ rfl) (fun n z30 y29 h => ?_);unfold kit_PlanOf_l4 at h;refine JC.seq (sr ?_);iterate 2 refine mq ?_
           refine fr 2 ?_;refine ka (o_len_own rfl rfl U34) ?_;refine jb (o_lss rfl) ?_;refine nt (ci h (fun h => ?_) (fun h => ?_))
           ·refine sk (JC.cutB (Z := Unit) (α := Bool) (fun z32 x31 => [(0, Pt b_a0), (3, Pt b1), (5, Rs tTask r2), (6, .eq z7), (7, Ri r3.1), (8, I y12.1), (9, I y12.2), (10, Pt b18), (11, .eq (.bool y21.1)), (12, I y21.2), (13, Pt b26), (14, .eq (.bool x31)), (15, I y29.2)]) (fun z32 x31 => [.obj b_a0 79 (.agg (.pair (Ri y6.1) (.pair (I y6.2.1) (.eq (.int .u64 y6.2.2.1))))), .obj b1 26 (.rep tChange a1), .sl z7 92 tStep y6.2.2.2, .obj b18 116 (.rep tTask x17), .obj b26 116 (.rep tTask x25)]) h (fun K h => ?_) (fun z32 x31 h => ?_))
            ·refine JC.block (JC.region ?_);iterate 2 refine mq ?_
             refine JO.bool (s := 62) rfl (fun hb => ?_) (fun hb => ?_)
             ·replace h := b_if (v_t hb) h;iterate 7 refine gn ?_
              refine pt ?_;refine aq (JO.nil (bn ?_));exact jz ((), true) h [1, 2, 0, 3, 4]
             ·replace h := b_ifn (v_f hb) h;refine gm ?_;refine gm ?_;obtain ⟨x33, ex33, h⟩ := b_bind h;refine JO.g11 rfl rfl rfl rfl rfl rfl (o_index_own (t := tStep) rfl U34 sz92 ex33) ⟨rfl, rfl, trivial⟩ ?_;refine JO.g11 rfl rfl rfl rfl rfl rfl (o_field_el rfl fo92_0 (geti_ne ex33)) ⟨rfl, trivial⟩ ?_;refine JO.g11 rfl rfl rfl rfl rfl rfl (o_load_el (i := Int.toNat y29.2) (off := 0) rfl sz3 (fun _ => rfl) rfl (geti_some ex33).2.2 rfl) ⟨rfl, trivial⟩ ?_;refine gm ?_;refine gb (o_eql rfl) ?_;refine pf ?_;refine aq (JO.nil (bn ?_));exact jz ((), decide (x33.1 = y21.2)) h [1, 2, 0, 3, 4]
            ·refine JC.region (mq ?_);obtain ⟨x34, ex34, h⟩ := b_bind h;refine jb (o_add rfl ex34) ?_;refine aq (nl ?_);exact jz ((), (x31, x34)) h [0, 1, 2, 3, 4]
           ·refine xa ?_;exact jz ((), y29.1) h [1, 2, 0, 3, 4]
          ·refine JC.seq (sr ?_);iterate 3 refine mq ?_
           obtain ⟨x35, ex35, h⟩ := b_bind h;refine jb (o_index (t := (.int .i64)) rfl U24 sz3 ex35) ?_;refine ja (o_load_at (t := (.int .i64)) rfl sz3 rfl) ?_;refine jb (o_eql rfl) ?_;refine nt (ci h (fun h => ?_) (fun h => ?_))
           ·refine JC.cutB (Z := Unit) (α := Bool) (fun z37 x36 => [(0, Pt b_a0), (3, Pt b1), (5, Rs tTask r2), (6, .eq z7), (7, Ri r3.1), (8, I y12.1), (9, I y12.2), (10, Pt b18), (11, .eq (.bool x36)), (12, I y21.2)]) (fun z37 x36 => [.obj b_a0 79 (.agg (.pair (Ri y6.1) (.pair (I y6.2.1) (.eq (.int .u64 y6.2.2.1))))), .obj b1 26 (.rep tChange a1), .sl z7 92 tStep y6.2.2.2, .obj b18 116 (.rep tTask x17)]) h (fun K h => ?_) (fun z37 x36 h => ?_)
            ·refine JC.region ?_;iterate 2 refine mq ?_
             refine JO.bool (s := 78) rfl (fun hb => ?_) (fun hb => ?_)
             ·replace h := b_if (v_t hb) h;refine gm ?_;refine ga (o_not rfl) ?_;refine pt ?_;refine aq (nl ?_);exact jz ((), !x27) h [0, 1, 2, 3]
             ·replace h := b_ifn (v_f hb) h;iterate 2 refine gn ?_
              refine pf ?_;refine aq (nl ?_);exact jz ((), false) h [0, 1, 2, 3]
            ·refine JC.exit (JN.then_x (JN.blk_hit (JN.then_n ?_)));exact jz ((), x36) h [0, 1, 2, 3]
           ·refine sk (JC.cutB (Z := Unit) (α := Bool) (fun z39 x38 => [(0, Pt b_a0), (3, Pt b1), (5, Rs tTask r2), (6, .eq z7), (7, Ri r3.1), (8, I y12.1), (9, I y12.2), (10, Pt b18), (11, .eq (.bool y21.1)), (12, I y21.2), (14, .eq (.bool x27)), (16, .eq (.bool x38))]) (fun z39 x38 => [.obj b_a0 79 (.agg (.pair (Ri y6.1) (.pair (I y6.2.1) (.eq (.int .u64 y6.2.2.1))))), .obj b1 26 (.rep tChange a1), .sl z7 92 tStep y6.2.2.2, .obj b18 116 (.rep tTask x17)]) h (fun K h => ?_) (fun z39 x38 h => ?_))
            ·refine JC.drawN ?_;refine da (o_field_obj rfl fo116_0) ?_;refine ea 4 (o_load_obj rfl sz3 nfs rfl) ?_;refine da (o_field_obj rfl fo116_0) ?_;refine ea 3 (o_load_obj rfl sz3 nfs rfl) ?_;refine db (o_eql rfl) ?_;refine DN.fork rfl rfl rfl (o_move rfl) ⟨rfl, trivial⟩ (fun hb => ?_) (fun hb => ?_)
             ·replace h := b_if (d_t hb) h;refine DN.sg00 rfl rfl rfl rfl rfl (o_field_obj rfl fo116_1) ⟨rfl, rfl, trivial⟩ ?_;refine DN.sg11 4 rfl rfl rfl rfl rfl rfl (o_load_obj rfl sz4 nfs rfl) ⟨rfl, rfl, trivial⟩ ?_;refine DN.sg00 rfl rfl rfl rfl rfl (o_not rfl) ⟨rfl, rfl, trivial⟩ ?_;refine db (o_pick_t rfl) ?_;refine DN.fork rfl rfl rfl (o_move rfl) ⟨rfl, trivial⟩ (fun hb => ?_) (fun hb => ?_)
              ·replace h := b_if (nv_t hb) h;iterate 4 refine dg ?_
               refine du ?_;refine du ?_;refine du ?_;refine du ?_;refine du ?_;refine du ?_;refine du ?_;refine du ?_;refine du ?_;refine du ?_;refine du ?_;refine dg ?_;refine db (o_pick_t rfl) ?_;refine dm ?_;iterate 3 refine dg ?_
               refine du ?_;refine du ?_;refine du ?_;refine du ?_;refine du ?_;refine du ?_;refine du ?_;refine du ?_;refine du ?_;refine df mixed ?_;refine gu ?_;refine gu ?_;refine gn ?_;refine pt ?_;refine aq (nl ?_);exact jz ((), true) h [0, 1, 2, 3]
              ·replace h := b_ifn (nv_fn hb) h;refine DN.sg00 rfl rfl rfl rfl rfl (o_field_obj rfl fo116_1) ⟨rfl, rfl, trivial⟩ ?_;refine DN.sg11 4 rfl rfl rfl rfl rfl rfl (o_load_obj rfl sz4 nfs rfl) ⟨rfl, rfl, trivial⟩ ?_;refine DN.sg00 rfl rfl rfl rfl rfl (o_not rfl) ⟨rfl, rfl, trivial⟩ ?_;refine DN.forkg rfl rfl rfl rfl rfl (o_move rfl) ⟨rfl, rfl, trivial⟩ (fun hb => ?_) (fun hb => ?_)
               ·replace h := b_if (nv_t hb) h;refine DN.sg00 rfl rfl rfl rfl rfl (o_field_obj rfl fo26_0) ⟨rfl, rfl, trivial⟩ ?_;refine DN.sg11 1 rfl rfl rfl rfl rfl rfl (o_load_obj rfl sz22 nfs rfl) ⟨rfl, rfl, trivial⟩ ?_;refine DN.sg00 rfl rfl rfl rfl rfl (o_field_obj rfl fo116_0) ⟨rfl, rfl, trivial⟩ ?_;refine DN.sg11 3 rfl rfl rfl rfl rfl rfl (o_load_obj rfl sz3 nfs rfl) ⟨rfl, rfl, trivial⟩ ?_;obtain ⟨x40, ex40, h⟩ := b_bind h;refine DN.sg00 rfl rfl rfl rfl rfl (o_index (t := tThing) rfl U22 sz74 ex40) ⟨rfl, rfl, rfl, trivial⟩ ?_;refine DN.sg00 rfl rfl rfl rfl rfl (o_field_at 1 false rfl fo74_0 rfl) ⟨rfl, rfl, trivial⟩ ?_;refine DN.sg00 rfl rfl rfl rfl rfl (o_load_at (t := (.slice (.int .i64))) rfl sz24 rfl) ⟨rfl, rfl, trivial⟩ ?_;refine DN.sg00 rfl rfl rfl rfl rfl (o_field_obj rfl fo116_0) ⟨rfl, rfl, trivial⟩ ?_;refine DN.sg11 4 rfl rfl rfl rfl rfl rfl (o_load_obj rfl sz3 nfs rfl) ⟨rfl, rfl, trivial⟩ ?_;obtain ⟨r41, er41, h⟩ := b_bind h;refine DN.sg00 rfl rfl rfl rfl rfl (o_call [.tmp 103, .tmp 105] rfl rfl en101 rfl (kit_At_ok k x40.1 x25.1 r41 er41)) ⟨rfl, rfl, rfl, trivial⟩ ?_;refine DN.sg00 rfl rfl rfl rfl rfl (o_geq rfl) ⟨rfl, rfl, rfl, trivial⟩ ?_;refine DN.sg00 rfl rfl rfl rfl rfl (o_pick_t rfl) ⟨rfl, rfl, rfl, trivial⟩ ?_;refine db (o_pick_f rfl) ?_;refine DN.fork rfl rfl rfl (o_move rfl) ⟨rfl, trivial⟩ (fun hb => ?_) (fun hb => ?_)
                ·replace h := b_if (d_t hb) h;iterate 3 refine dg ?_
                 refine du ?_;refine du ?_;refine du ?_;refine du ?_;refine du ?_;refine du ?_;refine du ?_;refine du ?_;refine du ?_;refine df mixed ?_;refine gu ?_;refine gu ?_;refine gn ?_;refine pt ?_;refine aq (nl ?_);exact jz ((), true) h [0, 1, 2, 3]
                ·replace h := b_ifn (d_f hb) h;refine DN.sg00 rfl rfl rfl rfl rfl (o_field_obj rfl fo116_1) ⟨rfl, rfl, trivial⟩ ?_;refine DN.sg11 3 rfl rfl rfl rfl rfl rfl (o_load_obj rfl sz4 nfs rfl) ⟨rfl, rfl, trivial⟩ ?_;refine DN.forkg rfl rfl rfl rfl rfl (o_move rfl) ⟨rfl, rfl, trivial⟩ (fun hb => ?_) (fun hb => ?_)
                 ·replace h := b_if (v_t hb) h;refine DN.sg00 rfl rfl rfl rfl rfl (o_field_obj rfl fo26_0) ⟨rfl, rfl, trivial⟩ ?_;refine DN.sg11 1 rfl rfl rfl rfl rfl rfl (o_load_obj rfl sz22 nfs rfl) ⟨rfl, rfl, trivial⟩ ?_;refine DN.sg00 rfl rfl rfl rfl rfl (o_field_obj rfl fo116_0) ⟨rfl, rfl, trivial⟩ ?_;refine DN.sg11 4 rfl rfl rfl rfl rfl rfl (o_load_obj rfl sz3 nfs rfl) ⟨rfl, rfl, trivial⟩ ?_;obtain ⟨x42, ex42, h⟩ := b_bind h;refine DN.sg00 rfl rfl rfl rfl rfl (o_index (t := tThing) rfl U22 sz74 ex42) ⟨rfl, rfl, rfl, trivial⟩ ?_;refine DN.sg00 rfl rfl rfl rfl rfl (o_field_at 1 false rfl fo74_0 rfl) ⟨rfl, rfl, trivial⟩ ?_;refine DN.sg00 rfl rfl rfl rfl rfl (o_load_at (t := (.slice (.int .i64))) rfl sz24 rfl) ⟨rfl, rfl, trivial⟩ ?_;refine DN.sg00 rfl rfl rfl rfl rfl (o_field_obj rfl fo116_0) ⟨rfl, rfl, trivial⟩ ?_;refine DN.sg11 3 rfl rfl rfl rfl rfl rfl (o_load_obj rfl sz3 nfs rfl) ⟨rfl, rfl, trivial⟩ ?_;refine df mixed ?_;obtain ⟨r43, er43, h⟩ := b_bind h;refine gb (o_call [.tmp 120, .tmp 122] rfl rfl en101 rfl (kit_At_ok k x42.1 x17.1 r43 er43)) ?_;refine gb (o_geq rfl) ?_;refine gb (o_pick_t rfl) ?_;refine pf ?_;refine aq (nl ?_);exact jz ((), decide ((0 : Int) ≤ r43)) h [0, 1, 2, 3]
                 ·replace h := b_ifn (v_f hb) h;iterate 9 refine dg ?_
                  refine df mixed ?_;iterate 2 refine gn ?_
                  refine gb (o_pick_f rfl) ?_;refine pf ?_;refine aq (nl ?_);exact jz ((), false) h [0, 1, 2, 3]
               ·replace h := b_ifn (nv_fn hb) h;iterate 11 refine dg ?_
                refine DN.sg00 rfl rfl rfl rfl rfl (o_pick_f rfl) ⟨rfl, rfl, rfl, trivial⟩ ?_;refine db (o_pick_f rfl) ?_;refine dm ?_;refine DN.sg00 rfl rfl rfl rfl rfl (o_field_obj rfl fo116_1) ⟨rfl, rfl, trivial⟩ ?_;refine DN.sg11 3 rfl rfl rfl rfl rfl rfl (o_load_obj rfl sz4 nfs rfl) ⟨rfl, rfl, trivial⟩ ?_;refine DN.forkg rfl rfl rfl rfl rfl (o_move rfl) ⟨rfl, rfl, trivial⟩ (fun hb => ?_) (fun hb => ?_)
                ·replace h := b_if (v_t hb) h;refine DN.sg00 rfl rfl rfl rfl rfl (o_field_obj rfl fo26_0) ⟨rfl, rfl, trivial⟩ ?_;refine DN.sg11 1 rfl rfl rfl rfl rfl rfl (o_load_obj rfl sz22 nfs rfl) ⟨rfl, rfl, trivial⟩ ?_;refine DN.sg00 rfl rfl rfl rfl rfl (o_field_obj rfl fo116_0) ⟨rfl, rfl, trivial⟩ ?_;refine DN.sg11 4 rfl rfl rfl rfl rfl rfl (o_load_obj rfl sz3 nfs rfl) ⟨rfl, rfl, trivial⟩ ?_;obtain ⟨x44, ex44, h⟩ := b_bind h;refine DN.sg00 rfl rfl rfl rfl rfl (o_index (t := tThing) rfl U22 sz74 ex44) ⟨rfl, rfl, rfl, trivial⟩ ?_;refine DN.sg00 rfl rfl rfl rfl rfl (o_field_at 1 false rfl fo74_0 rfl) ⟨rfl, rfl, trivial⟩ ?_;refine DN.sg00 rfl rfl rfl rfl rfl (o_load_at (t := (.slice (.int .i64))) rfl sz24 rfl) ⟨rfl, rfl, trivial⟩ ?_;refine DN.sg00 rfl rfl rfl rfl rfl (o_field_obj rfl fo116_0) ⟨rfl, rfl, trivial⟩ ?_;refine DN.sg11 3 rfl rfl rfl rfl rfl rfl (o_load_obj rfl sz3 nfs rfl) ⟨rfl, rfl, trivial⟩ ?_;refine df mixed ?_;obtain ⟨r45, er45, h⟩ := b_bind h;refine gb (o_call [.tmp 120, .tmp 122] rfl rfl en101 rfl (kit_At_ok k x44.1 x17.1 r45 er45)) ?_;refine gb (o_geq rfl) ?_;refine gb (o_pick_t rfl) ?_;refine pf ?_;refine aq (nl ?_);exact jz ((), decide ((0 : Int) ≤ r45)) h [0, 1, 2, 3]
                ·replace h := b_ifn (v_f hb) h;iterate 9 refine dg ?_
                 refine df mixed ?_;iterate 2 refine gn ?_
                 refine gb (o_pick_f rfl) ?_;refine pf ?_;refine aq (nl ?_);exact jz ((), false) h [0, 1, 2, 3]
             ·replace h := b_ifn (d_f hb) h;iterate 3 refine dg ?_
              refine db (o_pick_f rfl) ?_;refine dm ?_;refine DN.sg00 rfl rfl rfl rfl rfl (o_field_obj rfl fo116_1) ⟨rfl, rfl, trivial⟩ ?_;refine DN.sg11 4 rfl rfl rfl rfl rfl rfl (o_load_obj rfl sz4 nfs rfl) ⟨rfl, rfl, trivial⟩ ?_;refine DN.sg00 rfl rfl rfl rfl rfl (o_not rfl) ⟨rfl, rfl, trivial⟩ ?_;refine DN.forkg rfl rfl rfl rfl rfl (o_move rfl) ⟨rfl, rfl, trivial⟩ (fun hb => ?_) (fun hb => ?_)
              ·replace h := b_if (nv_t hb) h;refine DN.sg00 rfl rfl rfl rfl rfl (o_field_obj rfl fo26_0) ⟨rfl, rfl, trivial⟩ ?_;refine DN.sg11 1 rfl rfl rfl rfl rfl rfl (o_load_obj rfl sz22 nfs rfl) ⟨rfl, rfl, trivial⟩ ?_;refine DN.sg00 rfl rfl rfl rfl rfl (o_field_obj rfl fo116_0) ⟨rfl, rfl, trivial⟩ ?_;refine DN.sg11 3 rfl rfl rfl rfl rfl rfl (o_load_obj rfl sz3 nfs rfl) ⟨rfl, rfl, trivial⟩ ?_;obtain ⟨x46, ex46, h⟩ := b_bind h;refine DN.sg00 rfl rfl rfl rfl rfl (o_index (t := tThing) rfl U22 sz74 ex46) ⟨rfl, rfl, rfl, trivial⟩ ?_;refine DN.sg00 rfl rfl rfl rfl rfl (o_field_at 1 false rfl fo74_0 rfl) ⟨rfl, rfl, trivial⟩ ?_;refine DN.sg00 rfl rfl rfl rfl rfl (o_load_at (t := (.slice (.int .i64))) rfl sz24 rfl) ⟨rfl, rfl, trivial⟩ ?_;refine DN.sg00 rfl rfl rfl rfl rfl (o_field_obj rfl fo116_0) ⟨rfl, rfl, trivial⟩ ?_;refine DN.sg11 4 rfl rfl rfl rfl rfl rfl (o_load_obj rfl sz3 nfs rfl) ⟨rfl, rfl, trivial⟩ ?_;obtain ⟨r47, er47, h⟩ := b_bind h;refine DN.sg00 rfl rfl rfl rfl rfl (o_call [.tmp 103, .tmp 105] rfl rfl en101 rfl (kit_At_ok k x46.1 x25.1 r47 er47)) ⟨rfl, rfl, rfl, trivial⟩ ?_;refine DN.sg00 rfl rfl rfl rfl rfl (o_geq rfl) ⟨rfl, rfl, rfl, trivial⟩ ?_;refine DN.sg00 rfl rfl rfl rfl rfl (o_pick_t rfl) ⟨rfl, rfl, rfl, trivial⟩ ?_;refine db (o_pick_f rfl) ?_;refine DN.fork rfl rfl rfl (o_move rfl) ⟨rfl, trivial⟩ (fun hb => ?_) (fun hb => ?_)
               ·replace h := b_if (d_t hb) h;iterate 3 refine dg ?_
                refine du ?_;refine du ?_;refine du ?_;refine du ?_;refine du ?_;refine du ?_;refine du ?_;refine du ?_;refine du ?_;refine df mixed ?_;refine gu ?_;refine gu ?_;refine gn ?_;refine pt ?_;refine aq (nl ?_);exact jz ((), true) h [0, 1, 2, 3]
               ·replace h := b_ifn (d_f hb) h;refine DN.sg00 rfl rfl rfl rfl rfl (o_field_obj rfl fo116_1) ⟨rfl, rfl, trivial⟩ ?_;refine DN.sg11 3 rfl rfl rfl rfl rfl rfl (o_load_obj rfl sz4 nfs rfl) ⟨rfl, rfl, trivial⟩ ?_;refine DN.forkg rfl rfl rfl rfl rfl (o_move rfl) ⟨rfl, rfl, trivial⟩ (fun hb => ?_) (fun hb => ?_)
                ·replace h := b_if (v_t hb) h;refine DN.sg00 rfl rfl rfl rfl rfl (o_field_obj rfl fo26_0) ⟨rfl, rfl, trivial⟩ ?_;refine DN.sg11 1 rfl rfl rfl rfl rfl rfl (o_load_obj rfl sz22 nfs rfl) ⟨rfl, rfl, trivial⟩ ?_;refine DN.sg00 rfl rfl rfl rfl rfl (o_field_obj rfl fo116_0) ⟨rfl, rfl, trivial⟩ ?_;refine DN.sg11 4 rfl rfl rfl rfl rfl rfl (o_load_obj rfl sz3 nfs rfl) ⟨rfl, rfl, trivial⟩ ?_;obtain ⟨x48, ex48, h⟩ := b_bind h;refine DN.sg00 rfl rfl rfl rfl rfl (o_index (t := tThing) rfl U22 sz74 ex48) ⟨rfl, rfl, rfl, trivial⟩ ?_;refine DN.sg00 rfl rfl rfl rfl rfl (o_field_at 1 false rfl fo74_0 rfl) ⟨rfl, rfl, trivial⟩ ?_;refine DN.sg00 rfl rfl rfl rfl rfl (o_load_at (t := (.slice (.int .i64))) rfl sz24 rfl) ⟨rfl, rfl, trivial⟩ ?_;refine DN.sg00 rfl rfl rfl rfl rfl (o_field_obj rfl fo116_0) ⟨rfl, rfl, trivial⟩ ?_;refine DN.sg11 3 rfl rfl rfl rfl rfl rfl (o_load_obj rfl sz3 nfs rfl) ⟨rfl, rfl, trivial⟩ ?_;refine df mixed ?_;obtain ⟨r49, er49, h⟩ := b_bind h;refine gb (o_call [.tmp 120, .tmp 122] rfl rfl en101 rfl (kit_At_ok k x48.1 x17.1 r49 er49)) ?_;refine gb (o_geq rfl) ?_;refine gb (o_pick_t rfl) ?_;refine pf ?_;refine aq (nl ?_);exact jz ((), decide ((0 : Int) ≤ r49)) h [0, 1, 2, 3]
                ·replace h := b_ifn (v_f hb) h;iterate 9 refine dg ?_
                 refine df mixed ?_;iterate 2 refine gn ?_
                 refine gb (o_pick_f rfl) ?_;refine pf ?_;refine aq (nl ?_);exact jz ((), false) h [0, 1, 2, 3]
              ·replace h := b_ifn (nv_fn hb) h;iterate 11 refine dg ?_
               refine DN.sg00 rfl rfl rfl rfl rfl (o_pick_f rfl) ⟨rfl, rfl, rfl, trivial⟩ ?_;refine db (o_pick_f rfl) ?_;refine dm ?_;refine DN.sg00 rfl rfl rfl rfl rfl (o_field_obj rfl fo116_1) ⟨rfl, rfl, trivial⟩ ?_;refine DN.sg11 3 rfl rfl rfl rfl rfl rfl (o_load_obj rfl sz4 nfs rfl) ⟨rfl, rfl, trivial⟩ ?_;refine DN.forkg rfl rfl rfl rfl rfl (o_move rfl) ⟨rfl, rfl, trivial⟩ (fun hb => ?_) (fun hb => ?_)
               ·replace h := b_if (v_t hb) h;refine DN.sg00 rfl rfl rfl rfl rfl (o_field_obj rfl fo26_0) ⟨rfl, rfl, trivial⟩ ?_;refine DN.sg11 1 rfl rfl rfl rfl rfl rfl (o_load_obj rfl sz22 nfs rfl) ⟨rfl, rfl, trivial⟩ ?_;refine DN.sg00 rfl rfl rfl rfl rfl (o_field_obj rfl fo116_0) ⟨rfl, rfl, trivial⟩ ?_;refine DN.sg11 4 rfl rfl rfl rfl rfl rfl (o_load_obj rfl sz3 nfs rfl) ⟨rfl, rfl, trivial⟩ ?_;obtain ⟨x50, ex50, h⟩ := b_bind h;refine DN.sg00 rfl rfl rfl rfl rfl (o_index (t := tThing) rfl U22 sz74 ex50) ⟨rfl, rfl, rfl, trivial⟩ ?_;refine DN.sg00 rfl rfl rfl rfl rfl (o_field_at 1 false rfl fo74_0 rfl) ⟨rfl, rfl, trivial⟩ ?_;refine DN.sg00 rfl rfl rfl rfl rfl (o_load_at (t := (.slice (.int .i64))) rfl sz24 rfl) ⟨rfl, rfl, trivial⟩ ?_;refine DN.sg00 rfl rfl rfl rfl rfl (o_field_obj rfl fo116_0) ⟨rfl, rfl, trivial⟩ ?_;refine DN.sg11 3 rfl rfl rfl rfl rfl rfl (o_load_obj rfl sz3 nfs rfl) ⟨rfl, rfl, trivial⟩ ?_;refine df mixed ?_;obtain ⟨r51, er51, h⟩ := b_bind h;refine gb (o_call [.tmp 120, .tmp 122] rfl rfl en101 rfl (kit_At_ok k x50.1 x17.1 r51 er51)) ?_;refine gb (o_geq rfl) ?_;refine gb (o_pick_t rfl) ?_;refine pf ?_;refine aq (nl ?_);exact jz ((), decide ((0 : Int) ≤ r51)) h [0, 1, 2, 3]
               ·replace h := b_ifn (v_f hb) h;iterate 9 refine dg ?_
                refine df mixed ?_;iterate 2 refine gn ?_
                refine gb (o_pick_f rfl) ?_;refine pf ?_;refine aq (nl ?_);exact jz ((), false) h [0, 1, 2, 3]
            ·refine JC.region ?_;iterate 2 refine mq ?_
             refine JO.bool (s := 128) rfl (fun hb => ?_) (fun hb => ?_)
             ·replace h := b_if (v_t hb) h;refine gm ?_;refine gm ?_;refine JO.bool (s := 130) rfl (fun hb => ?_) (fun hb => ?_)
              ·replace h := b_if (v_t hb) h;iterate 2 refine gn ?_
               refine gb (o_pick_t rfl) ?_;refine pt ?_;refine aq (JO.nil (bn ?_));exact jz ((), true) h [0, 1, 2, 3]
              ·replace h := b_ifn (v_f hb) h;refine gm ?_;refine ga (o_not rfl) ?_;refine gb (o_pick_f rfl) ?_;refine pt ?_;refine aq (JO.nil (bn ?_));exact jz ((), !x38) h [0, 1, 2, 3]
             ·replace h := b_ifn (v_f hb) h;iterate 2 refine gn ?_
              refine gu ?_;refine gu ?_;refine gn ?_;refine pf ?_;refine aq (JO.nil (bn ?_));exact jz ((), false) h [0, 1, 2, 3]
         ·refine JC.region (mq ?_);obtain ⟨x52, ex52, h⟩ := b_bind h;refine jb (o_add rfl ex52) ?_;refine aq (nl ?_);exact jz ((), (x23, x52)) h [0, 1, 2, 3]
        ·refine xa ?_;exact jz ((), y21.1) h [0, 1, 2]
       ·refine JC.cutB (Z := Unit) (α := Bool) (fun z54 x53 => [(0, Pt b_a0), (3, Pt b1), (5, Rs tTask r2), (6, .eq z7), (7, Ri r3.1), (8, I y12.1), (9, I y12.2), (139, .eq (.bool x53))]) (fun z54 x53 => [.obj b_a0 79 (.agg (.pair (Ri y6.1) (.pair (I y6.2.1) (.eq (.int .u64 y6.2.2.1))))), .obj b1 26 (.rep tChange a1), .sl z7 92 tStep y6.2.2.2]) h (fun K h => ?_) (fun z54 x53 h => ?_)
        ·refine JC.region ?_;iterate 2 refine mq ?_
         refine JO.bool (s := 136) rfl (fun hb => ?_) (fun hb => ?_)
         ·replace h := b_if (v_t hb) h;refine gm ?_;refine gb (o_lss rfl) ?_;refine pt (nl ?_);exact jz ((), decide (y12.1 < (0 : Int))) h [0, 1, 2]
         ·replace h := b_ifn (v_f hb) h;iterate 2 refine gn ?_
          refine pf (nl ?_);exact jz ((), false) h [0, 1, 2]
        ·refine cv h (fun h => ?_) (fun h => ?_)
         ·refine JC.region ?_;iterate 2 refine mq ?_
          obtain ⟨x55, ex55, h⟩ := b_bind h;refine jb (o_index (t := (.int .i64)) rfl U24 sz3 ex55) ?_;refine ja (o_load_at (t := (.int .i64)) rfl sz3 rfl) ?_;refine aq (JO.nil (bn ?_));exact jz ((), x55) h [0, 1, 2]
         ·refine JC.skip (bn ?_);exact jz ((), y12.1) h [0, 1, 2]
      ·refine JC.region (mq ?_);obtain ⟨x56, ex56, h⟩ := b_bind h;refine jb (o_add rfl ex56) ?_;refine aq (nl ?_);exact jz ((), (x14, x56)) h [0, 1, 2]
     ·refine xa ?_;exact jz ((), y12.1) h [0, 1, 2]
    ·refine JC.seq (sr (mq ?_));refine jb (o_lss rfl) ?_;refine nt (ci h (fun h => ?_) (fun h => ?_))
     ·refine sr (mq ?_);refine aq (nt (rx (br (JN.blk_r (JN.then_r ?_)))));refine JN.front 2 rfl ?_;refine JN.se (SE.frz [4, 6, 146] ⟨rfl, rfl, rfl, trivial⟩) ?_;obtain rfl := hR _ h;exact JN.ret () [_] 1 ⟨rfl, trivial⟩ rfl
     ·refine sk (sr (mq ?_));refine fl fo26_1 ?_;refine fr 1 ?_;refine lo sz23 ?_;refine ol U23 ?_;obtain ⟨x57, ex57, h⟩ := b_bind h;refine jb (o_sub rfl ex57) ?_;obtain ⟨r58, er58, h⟩ := b_bind h;refine fr 1 ?_;refine kb (o_call [.tmp 147, .tmp 151] rfl rfl en23 rfl (kit_Lots_Upto_ok k (y6.1, y6.2.1, y6.2.2.1) b_a0 x57 r58 er58)) ?_;refine aq (nt ?_);refine JC.cutB (Z := Unit) (α := Int) (fun z60 x59 => [(0, Pt b_a0), (3, Pt b1), (5, Rs tTask r2), (6, .eq z7), (7, Ri r3.1), (8, I x10), (17, I x59)]) (fun z60 x59 => [.obj b_a0 79 (.agg (.pair (Ri r58.2.1) (.pair (I r58.2.2.1) (.eq (.int .u64 r58.2.2.2))))), .obj b1 26 (.rep tChange a1), .sl z7 92 tStep y6.2.2.2]) h (fun K h => ?_) (fun z60 x59 h => ?_)
      ·refine sr (cq (nt (JC.block ?_)));refine JC.loopB (Z := Unit) (α := Int × Int) (fun z62 y61 => [(0, Pt b_a0), (3, Pt b1), (5, Rs tTask r2), (6, .eq z7), (7, Ri r3.1), (8, I x10), (17, I y61.1), (18, I y61.2)]) (fun z62 y61 => [.obj b_a0 79 (.agg (.pair (Ri r58.2.1) (.pair (I r58.2.2.1) (.eq (.int .u64 r58.2.2.2))))), .obj b1 26 (.rep tChange a1), .sl z7 92 tStep y6.2.2.2]) (kit_PlanOf_l5 k a1 r2 x10) k () (r58.1, (0 : Int)) (fun _ => rfl) h (SE.fin [0, 1, 2] ⟨rfl, rfl, rfl, rfl, rfl, rfl, rfl, rfl, trivial⟩ rfl) (fun n z62 y61 h => ?_);unfold kit_PlanOf_l5 at h;refine JC.seq (sr (mq ?_));refine fl fo26_1 ?_;refine fr 1 ?_;refine lo sz23 ?_;refine ol U23 ?_;refine jb (o_lss rfl) ?_;refine nt (ci h (fun h => ?_) (fun h => ?_))
       ·refine sk (JC.seq (JC.block (JC.seq (JC.drawW ?_))));refine DW.t00 rfl rfl rfl (o_field_obj rfl fo26_1) ⟨rfl, trivial⟩ ?_;refine DW.t11 0 rfl rfl rfl rfl (o_load_obj rfl sz23 nfs rfl) ⟨rfl, trivial⟩ ?_;refine DW.t00 rfl rfl rfl (o_move rfl) ⟨rfl, trivial⟩ ?_;obtain ⟨x63, ex63, h⟩ := b_bind h;refine DW.t00 rfl rfl rfl (o_index (t := tDresser) rfl U23 sz52 ex63) ⟨rfl, rfl, trivial⟩ ?_;refine DW.t00 rfl rfl rfl (o_load_at (t := tDresser) rfl sz52 rfl) ⟨rfl, trivial⟩ ?_;refine DW.t00 rfl rfl rfl (o_field_obj rfl fo26_0) ⟨rfl, trivial⟩ ?_;refine DW.t11 0 rfl rfl rfl rfl (o_load_obj rfl sz22 nfs rfl) ⟨rfl, trivial⟩ ?_;refine DW.t00 rfl rfl rfl (o_move rfl) ⟨rfl, trivial⟩ ?_;refine DW.t00 rfl rfl rfl (o_move rfl) ⟨rfl, trivial⟩ ?_;obtain ⟨x64, ex64, h⟩ := b_bind h;refine DW.t00 rfl rfl rfl (o_index (t := tTask) rfl U112 sz116 ex64) ⟨rfl, rfl, trivial⟩ ?_;refine DW.t00 rfl rfl rfl (o_field_at 1 false rfl fo116_0 rfl) ⟨rfl, trivial⟩ ?_;refine DW.t00 rfl rfl rfl (o_load_at (t := (.int .i64)) rfl sz3 rfl) ⟨rfl, trivial⟩ ?_;obtain ⟨x65, ex65, h⟩ := b_bind h;refine DW.t00 rfl rfl rfl (o_index (t := tThing) rfl U22 sz74 ex65) ⟨rfl, rfl, trivial⟩ ?_;refine DW.t00 rfl rfl rfl (o_field_at 1 false rfl fo74_3 rfl) ⟨rfl, trivial⟩ ?_;refine DW.t00 rfl rfl rfl (o_load_at (t := (.int .i64)) rfl sz3 rfl) ⟨rfl, trivial⟩ ?_;refine DW.tNew (ptrD 52 (.agg (.pair (.eq (.slice none 0 0)) (.pair (I (0 : Int)) (I (0 : Int)))))) (fun _ => rfl) rfl rfl rfl (o_alloc rfl za52 al52) trivial ?_;refine DW.fin 16 [true, true, true, true, true, false, false, false, false, false, false, false, false, false, false, true] [20] [0] [.obj b1 26 (.rep tChange a1)] rfl (by kernel_rfl) (by kernel_rfl) (by kernel_rfl) mixed (fun vs hv hB => ?_);obtain ⟨w0, vs1, rfl, hv1⟩ := len_cons hv;obtain ⟨w1, vs2, rfl, hv2⟩ := len_cons hv1;obtain ⟨w2, vs3, rfl, hv3⟩ := len_cons hv2;obtain ⟨w3, vs4, rfl, hv4⟩ := len_cons hv3;obtain ⟨w4, vs5, rfl, hv5⟩ := len_cons hv4;obtain ⟨w5, vs6, rfl, hv6⟩ := len_cons hv5;obtain ⟨w6, vs7, rfl, hv7⟩ := len_cons hv6;obtain ⟨w7, vs8, rfl, hv8⟩ := len_cons hv7;obtain ⟨w8, vs9, rfl, hv9⟩ := len_cons hv8;obtain ⟨w9, vs10, rfl, hv10⟩ := len_cons hv9;obtain ⟨w10, vs11, rfl, hv11⟩ := len_cons hv10;obtain ⟨w11, vs12, rfl, hv12⟩ := len_cons hv11;obtain ⟨w12, vs13, rfl, hv13⟩ := len_cons hv12;obtain ⟨w13, vs14, rfl, hv14⟩ := len_cons hv13;obtain ⟨w14, vs15, rfl, hv15⟩ := len_cons hv14;obtain ⟨w15, vs16, rfl, hv16⟩ := len_cons hv15;obtain rfl := len_nil hv16;obtain ⟨b66, rfl⟩ := ptr_of hB.2.2.2.2.2.2.2.2.2.2.2.2.2.2.2.1;refine ⟨[0, 1, 2, 3], [.obj b_a0 79 (.agg (.pair (Ri r58.2.1) (.pair (I r58.2.2.1) (.eq (.int .u64 r58.2.2.2))))), .sl z7 92 tStep y6.2.2.2, .obj b66 52 (.agg (.pair (.eq (.slice none 0 0)) (.pair (I (0 : Int)) (I (0 : Int)))))], by kernel_rfl, by decide, ?_⟩;refine JT.front 2 rfl ?_;refine JT.n11 rfl rfl (o_store rfl sz52 rfl rfl rfl) ⟨rfl, rfl, trivial⟩ (by kernel_rfl) ?_;refine JT.all (by kernel_rfl) ?_;refine aq (nt (JC.seq ?_));refine JC.cutB (Z := Unit) (α := Bool) (fun z68 x67 => [(0, Pt b_a0), (3, Pt b1), (5, Rs tTask r2), (6, .eq z7), (7, Ri r3.1), (8, I x10), (17, I y61.1), (18, I y61.2), (198, .eq (.bool x67))]) (fun z68 x67 => [.obj b_a0 79 (.agg (.pair (Ri r58.2.1) (.pair (I r58.2.2.1) (.eq (.int .u64 r58.2.2.2))))), .obj b1 26 (.rep tChange a1), .sl z7 92 tStep y6.2.2.2]) h (fun K h => ?_) (fun z68 x67 h => ?_)
        ·refine JC.drawN ?_;refine da (o_field_obj rfl fo52_0) ?_;refine ea 1 (o_load_obj rfl sz24 nfs rfl) ?_;refine dm ?_;refine dm ?_;obtain ⟨x69, ex69, h⟩ := b_bind h;refine db (o_index (t := tTask) rfl U112 sz116 ex69) ?_;refine da (o_field_at 1 false rfl fo116_0 rfl) ?_;refine da (o_load_at (t := (.int .i64)) rfl sz3 rfl) ?_;obtain ⟨r70, er70, h⟩ := b_bind h;refine db (o_call [.tmp 176, .tmp 181] rfl rfl en101 rfl (kit_At_ok k x63.1 x69.1 r70 er70)) ?_;refine db (o_geq rfl) ?_;refine DN.fork rfl rfl rfl (o_move rfl) ⟨rfl, trivial⟩ (fun hb => ?_) (fun hb => ?_)
         ·replace h := b_if (d_t hb) h;refine DN.sg00 rfl rfl rfl rfl rfl (o_move rfl) ⟨rfl, rfl, trivial⟩ ?_;refine DN.sg00 rfl rfl rfl rfl rfl (o_eql rfl) ⟨rfl, rfl, rfl, trivial⟩ ?_;refine DN.forkg rfl rfl rfl rfl rfl (o_move rfl) ⟨rfl, rfl, trivial⟩ (fun hb => ?_) (fun hb => ?_)
          ·replace h := b_if (d_t hb) h;iterate 3 refine dg ?_
           refine DN.sg00 rfl rfl rfl rfl rfl (o_pick_t rfl) ⟨rfl, rfl, rfl, trivial⟩ ?_;refine DN.sg00 rfl rfl rfl rfl rfl (o_move rfl) ⟨rfl, rfl, trivial⟩ ?_;iterate 3 refine dg ?_
           refine df mixed ?_;refine gn ?_;refine gb (o_pick_t rfl) ?_;refine pt (nl ?_);exact jz ((), true) h [2, 0, 3]
          ·replace h := b_ifn (d_f hb) h;refine DN.sg00 rfl rfl rfl rfl rfl (o_field_obj rfl fo52_1) ⟨rfl, rfl, trivial⟩ ?_;refine DN.sg11 1 rfl rfl rfl rfl rfl rfl (o_load_obj rfl sz3 nfs rfl) ⟨rfl, rfl, trivial⟩ ?_;refine DN.sg00 rfl rfl rfl rfl rfl (o_eql rfl) ⟨rfl, rfl, rfl, trivial⟩ ?_;refine DN.sg00 rfl rfl rfl rfl rfl (o_pick_f rfl) ⟨rfl, rfl, rfl, trivial⟩ ?_;refine DN.forkg rfl rfl rfl rfl rfl (o_move rfl) ⟨rfl, rfl, trivial⟩ (fun hb => ?_) (fun hb => ?_)
           ·replace h := b_if (d_t hb) h;iterate 3 refine dg ?_
            refine df mixed ?_;refine gn ?_;refine gb (o_pick_t rfl) ?_;refine pt (nl ?_);exact jz ((), true) h [2, 0, 3]
           ·replace h := b_ifn (d_f hb) h;refine DN.sg00 rfl rfl rfl rfl rfl (o_move rfl) ⟨rfl, rfl, trivial⟩ ?_;refine DN.sg00 rfl rfl rfl rfl rfl (o_field_obj rfl fo52_1) ⟨rfl, rfl, trivial⟩ ?_;refine DN.sg11 1 rfl rfl rfl rfl rfl rfl (o_load_obj rfl sz3 nfs rfl) ⟨rfl, rfl, trivial⟩ ?_;refine df mixed ?_;refine gb (o_eql rfl) ?_;refine gb (o_pick_f rfl) ?_;refine pt (nl ?_);exact jz ((), decide (x65.2.2.2.1 = x63.2.1)) h [2, 0, 3]
         ·replace h := b_ifn (d_f hb) h;iterate 3 refine dg ?_
          refine du ?_;refine du ?_;refine du ?_;iterate 2 refine dg ?_
          refine du ?_;refine du ?_;refine du ?_;refine df mixed ?_;refine gu ?_;refine gn ?_;refine pf (nl ?_);exact jz ((), false) h [2, 0, 3]
        ·refine cv h (fun h => ?_) (fun h => ?_)
         ·refine JC.exit (JN.then_x (JN.blk_miss (eq_false (by decide)) ?_));refine JN.then_x (JN.then_x (JN.blk_hit (JN.then_n ?_)));exact jz ((), y61.1) h [0, 1, 2]
         ·refine sk (JC.region (mq ?_));obtain ⟨x71, ex71, h⟩ := b_bind h;refine jb (o_add rfl ex71) ?_;refine fl fo26_1 ?_;refine fr 1 ?_;refine lo sz23 ?_;refine ol U23 ?_;obtain ⟨u72, eu72, h⟩ := b_bind h;refine jb (o_rem rfl (chkP_some eu72)) ?_;refine aq (JO.nil (JN.blk_n (tn (JC.region ?_))));refine mq ?_;obtain ⟨x73, ex73, h⟩ := b_bind h;refine jb (o_add rfl ex73) ?_;refine aq (nl ?_);exact jz ((), (Int.tmod x71 (a1.2.1.length : Int), x73)) h [1, 0, 2]
       ·refine xa ?_;exact jz ((), y61.1) h [1, 0, 2]
      ·refine JC.region ?_;iterate 3 refine mq ?_
       refine jb (o_buildT [(0, .tmp 206, _), (1, .tmp 207, _)] rfl pl92 za92 alb92 (stors ⟨rfl, rfl, trivial⟩) rfl) ?_;refine ja (o_litB (t := tStep) [(.tmp 208, _)] [(x10, x59)] rfl rfl sl34 (.cons trivial (.agg (.pair .int .int)) .nil) rfl rfl) ?_;obtain ⟨u74, eu74, h⟩ := b_bind h;refine fr 2 ?_;refine JO.s1x rfl rfl rfl (o_append rfl rfl sl34 (chkP_some eu74)) ⟨rfl, rfl, trivial⟩ fun v75 => ?_;refine aq (JO.nil (bn ?_));exact jz (v75, (r58.2.1, r58.2.2.1, r58.2.2.2, y6.2.2.2 ++ [(x10, x59)])) h [1, 2, 0]
   ·refine JN.then_n ?_;exact jz (z9, (x8.1, x8.2.1, x8.2.2.1, x8.2.2.2)) h [0, 1, 2]
  ·refine xa ?_;exact jz (z7, (y6.2.2.2, y6.1, y6.2.1, y6.2.2.1)) h [0, 1]
 ·refine sr (mq ?_);refine aq (nt (JC.ret ?_));refine JN.se (SE.frz [4, 6, 211] ⟨rfl, rfl, rfl, trivial⟩) ?_;cases h;exact JN.ret () [_] 1 ⟨rfl, trivial⟩ rfl


def law_planned (k : Nat) (a0 : (List dStep)) (a1 : dChange) (a2 : dLots) : Option ((List (List dStep)) × dLots) :=
 (kit_PlanOf k (a2.1, a2.2.1, a2.2.2) a1).bind fun r2 =>
 (kit_CopySteps k r2.1).bind fun r3 =>
 ((if (0 : Int) < (r2.1.length : Int) then ((ck ((r2.1.length : Int) - (1 : Int))).bind fun x7 =>
 (kit_Lots_Upto k (r2.2.1, r2.2.2.1, r2.2.2.2) x7).bind fun r8 =>
 (kit_Lots_Upto k (r8.2.1, r8.2.2.1, r8.2.2.2) (2 : Int)).bind fun r9 =>
 if r9.1 = (0 : Int) then ((kit_Lots_In k (r9.2.1, r9.2.2.1, r9.2.2.2) (-1 : Int) (3 : Int)).bind fun r10 =>
 (geti r3 r8.1).bind fun x11 =>
 some (List.set r3 (Int.toNat r8.1) (x11.1, r10.1), r10.2.1, r10.2.2.1, r10.2.2.2)) else (if r9.1 = (1 : Int) then ((kit_Lots_In k (r9.2.1, r9.2.2.1, r9.2.2.2) (-1 : Int) (r2.1.length : Int)).bind fun r12 =>
 (geti r3 r8.1).bind fun x13 =>
 some (List.set r3 (Int.toNat r8.1) (r12.1, x13.2), r12.2.1, r12.2.2.1, r12.2.2.2)) else (if r9.1 = (2 : Int) then ((geti r3 (0 : Int)).bind fun x14 =>
 (geti r3 r8.1).bind fun x15 =>
 (geti r3 r8.1).bind fun x16 =>
 (geti (List.set r3 (Int.toNat r8.1) x14) (0 : Int)).bind fun x17 =>
 some (List.set (List.set r3 (Int.toNat r8.1) x14) (Int.toNat (0 : Int)) x15, r9.2.1, r9.2.2.1, r9.2.2.2)) else (some (r3, r9.2.1, r9.2.2.1, r9.2.2.2))))) else (some (r3, r2.2.1, r2.2.2.1, r2.2.2.2))) : Option ((List dStep) × (List Int) × Int × Int)).bind fun x5 =>
 some ([a0, r2.1, x5.1, a0], (x5.2.1, x5.2.2.1, x5.2.2.2))

theorem law_planned_ok (k : Nat) (a0 : (List dStep)) (a1 : dChange) (a2 : dLots) (b_a2 : Nat) (r : (List (List dStep)) × dLots) (h : law_planned k a0 a1 a2 = some r) :
 Ctr Tryz.prog 18 [Rs tStep a0, .rep tChange a1, Pt b_a2] [.obj b_a2 79 (.agg (.pair (Ri a2.1) (.pair (I a2.2.1) (.eq (.int .u64 a2.2.2)))))] (fun _ : Unit => (resA [.rep (.slice (.slice tStep)) r.1], [.obj b_a2 79 (.agg (.pair (Ri r.2.1) (.pair (I r.2.2.1) (.eq (.int .u64 r.2.2.2)))))])) := by
 unfold law_planned at h;replace h := b_top h;refine Ctr.of 62 Tryz.func18 rfl Tryz.ntmps18 rfl fun S w0 => ?_;refine sr (bx fun b1 => ?_);refine cq (nt (sr ?_));refine mq ?_;refine lo sz26 ?_;obtain ⟨r2, er2, h⟩ := b_bind h;refine fr 1 ?_;refine kb (o_call [.tmp 11, .tmp 12] rfl rfl en55 rfl (kit_PlanOf_ok k (a2.1, a2.2.1, a2.2.2) b_a2 a1 r2 er2)) ?_;refine aq (nt (sr ?_));refine mq ?_;obtain ⟨r3, er3, h⟩ := b_bind h;refine JO.s01 rfl rfl rfl (o_call [.tmp 14] rfl rfl en19 rfl (kit_CopySteps_ok k r2.1 r3 er3)) ⟨rfl, trivial⟩ fun v4 => ?_;refine aq (nt ?_);refine JC.cutB (Z := Unit) (α := (List dStep) × (List Int) × Int × Int) (fun z6 x5 => [(0, Rs tStep a0), (7, Rs tStep r2.1), (8, .eq v4)]) (fun z6 x5 => [.sl v4 92 tStep x5.1, .obj b_a2 79 (.agg (.pair (Ri x5.2.1) (.pair (I x5.2.2.1) (.eq (.int .u64 x5.2.2.2)))))]) h (fun K h => ?_) (fun z6 x5 h => ?_)
 ·refine sr (mq ?_);refine ol U34 ?_;refine aq (nt (sr ?_));refine mq ?_;refine jb (o_gtr rfl) ?_;refine nt (ci h (fun h => ?_) (fun h => ?_))
  ·refine sr ?_;iterate 2 refine mq ?_
   obtain ⟨x7, ex7, h⟩ := b_bind h;refine jb (o_sub rfl ex7) ?_;obtain ⟨r8, er8, h⟩ := b_bind h;refine fr 1 ?_;refine kb (o_call [.tmp 20, .tmp 22] rfl rfl en23 rfl (kit_Lots_Upto_ok k (r2.2.1, r2.2.2.1, r2.2.2.2) b_a2 x7 r8 er8)) ?_;refine aq (nt (sr ?_));refine mq ?_;obtain ⟨r9, er9, h⟩ := b_bind h;refine kb (o_call [.tmp 24, .const (.int .i64 (2))] rfl rfl en23 rfl (kit_Lots_Upto_ok k (r8.2.1, r8.2.2.1, r8.2.2.2) b_a2 (2 : Int) r9 er9)) ?_;refine nt (JC.block (sr (jb (o_eql rfl) ?_)));refine aq (nt ?_);refine ci h (fun h => ?_) (fun h => ?_)
   ·refine JC.region ?_;iterate 3 refine mq ?_
    obtain ⟨r10, er10, h⟩ := b_bind h;refine kc (o_call [.tmp 30, .const (.int .i64 (-1)), .const (.int .i64 (3))] rfl rfl en27 rfl (kit_Lots_In_ok k (r9.2.1, r9.2.2.1, r9.2.2.2) b_a2 (-1 : Int) (3 : Int) r10 er10)) ?_;obtain ⟨x11, ex11, h⟩ := b_bind h;refine fr 1 ?_;refine kb (o_index_own (t := tStep) rfl U34 sz92 ex11) ?_;refine ka (o_field_el rfl fo92_1 (geti_ne ex11)) ?_;refine JO.n11 rfl rfl (o_store_el (i := Int.toNat r8.1) (off := 1) rfl sz3 rfl (geti_some ex11).2.2 .int rfl (.agg (.right .whole rfl))) ⟨rfl, rfl, trivial⟩ ?_;refine JO.nil (bn ?_);exact jz ((), (List.set r3 (Int.toNat r8.1) (x11.1, r10.1), r10.2.1, r10.2.2.1, r10.2.2.2)) h [0, 1]
   ·refine sr (jb (o_eql rfl) ?_);refine aq (nt ?_);refine ci h (fun h => ?_) (fun h => ?_)
    ·refine JC.region ?_;iterate 4 refine mq ?_
     obtain ⟨r12, er12, h⟩ := b_bind h;refine kc (o_call [.tmp 38, .const (.int .i64 (-1)), .tmp 39] rfl rfl en27 rfl (kit_Lots_In_ok k (r9.2.1, r9.2.2.1, r9.2.2.2) b_a2 (-1 : Int) (r2.1.length : Int) r12 er12)) ?_;obtain ⟨x13, ex13, h⟩ := b_bind h;refine fr 1 ?_;refine kb (o_index_own (t := tStep) rfl U34 sz92 ex13) ?_;refine ka (o_field_el rfl fo92_0 (geti_ne ex13)) ?_;refine JO.n11 rfl rfl (o_store_el (i := Int.toNat r8.1) (off := 0) rfl sz3 rfl (geti_some ex13).2.2 .int rfl (.agg (.left .whole))) ⟨rfl, rfl, trivial⟩ ?_;refine JO.nil (bn ?_);exact jz ((), (List.set r3 (Int.toNat r8.1) (r12.1, x13.2), r12.2.1, r12.2.2.1, r12.2.2.2)) h [0, 1]
    ·refine sr (jb (o_eql rfl) ?_);refine aq (nt ?_);refine ci h (fun h => ?_) (fun h => ?_)
     ·refine JC.drawW ?_;refine DW.t00 rfl rfl rfl (o_move rfl) ⟨rfl, trivial⟩ ?_;refine DW.t00 rfl rfl rfl (o_move rfl) ⟨rfl, trivial⟩ ?_;refine DW.t00 rfl rfl rfl (o_move rfl) ⟨rfl, trivial⟩ ?_;refine DW.t00 rfl rfl rfl (o_move rfl) ⟨rfl, trivial⟩ ?_;obtain ⟨x14, ex14, h⟩ := b_bind h;refine DW.t11 1 rfl rfl rfl rfl (o_index_own (t := tStep) rfl U34 sz92 ex14) ⟨rfl, rfl, trivial⟩ ?_;refine DW.t11 1 rfl rfl rfl rfl (o_load_el (i := Int.toNat (0 : Int)) (off := 0) rfl sz92 (nfn) rfl (geti_some ex14).2.2 rfl) ⟨rfl, trivial⟩ ?_;refine DW.t00 rfl rfl rfl (o_move rfl) ⟨rfl, trivial⟩ ?_;refine DW.t00 rfl rfl rfl (o_move rfl) ⟨rfl, trivial⟩ ?_;obtain ⟨x15, ex15, h⟩ := b_bind h;refine DW.t11 1 rfl rfl rfl rfl (o_index_own (t := tStep) rfl U34 sz92 ex15) ⟨rfl, rfl, trivial⟩ ?_;refine DW.t11 1 rfl rfl rfl rfl (o_load_el (i := Int.toNat r8.1) (off := 0) rfl sz92 (nfn) rfl (geti_some ex15).2.2 rfl) ⟨rfl, trivial⟩ ?_;obtain ⟨x16, ex16, h⟩ := b_bind h;refine DW.t11 1 rfl rfl rfl rfl (o_index_own (t := tStep) rfl U34 sz92 ex16) ⟨rfl, rfl, trivial⟩ ?_;refine DW.fin 11 [true, true, false, true, true, true, true, true, true, true, true] [56] [] [] rfl (by kernel_rfl) (by kernel_rfl) (by kernel_rfl) mixed (fun vs hv hB => ?_);obtain ⟨w0, vs1, rfl, hv1⟩ := len_cons hv;obtain ⟨w1, vs2, rfl, hv2⟩ := len_cons hv1;obtain ⟨w2, vs3, rfl, hv3⟩ := len_cons hv2;obtain ⟨w3, vs4, rfl, hv4⟩ := len_cons hv3;obtain ⟨w4, vs5, rfl, hv5⟩ := len_cons hv4;obtain ⟨w5, vs6, rfl, hv6⟩ := len_cons hv5;obtain ⟨w6, vs7, rfl, hv7⟩ := len_cons hv6;obtain ⟨w7, vs8, rfl, hv8⟩ := len_cons hv7;obtain ⟨w8, vs9, rfl, hv9⟩ := len_cons hv8;obtain ⟨w9, vs10, rfl, hv10⟩ := len_cons hv9;obtain ⟨w10, vs11, rfl, hv11⟩ := len_cons hv10;obtain rfl := len_nil hv11;refine ⟨[0, 1, 2], [.obj b_a2 79 (.agg (.pair (Ri r9.2.1) (.pair (I r9.2.2.1) (.eq (.int .u64 r9.2.2.2))))), .sl v4 92 tStep r3, .obj b1 26 (.rep tChange a1)], by kernel_rfl, by decide, ?_⟩;refine JT.front 1 rfl ?_;refine JT.n11 rfl rfl (o_store_elW (i := Int.toNat r8.1) rfl sz92 rfl (geti_lt ex16) rfl .rep rfl) ⟨rfl, rfl, trivial⟩ (by kernel_rfl) ?_;obtain ⟨x17, ex17, h⟩ := b_bind h;refine JT.y11 rfl rfl rfl rfl (o_index_own (t := tStep) rfl U34 sz92 ex17) ⟨rfl, rfl, trivial⟩ (by kernel_rfl) ?_;refine JT.n11 rfl rfl (o_store_elW (i := Int.toNat (0 : Int)) rfl sz92 rfl (geti_lt ex17) rfl .rep rfl) ⟨rfl, rfl, trivial⟩ (by kernel_rfl) ?_;refine JT.nil ?_;refine JN.se (SE.fin (Γ' := [(0, Rs tStep a0), (7, Rs tStep r2.1), (8, .eq v4)]) (Δ' := [.sl v4 92 tStep (List.set (List.set r3 (Int.toNat r8.1) x14) (Int.toNat (0 : Int)) x15), .obj b_a2 79 (.agg (.pair (Ri r9.2.1) (.pair (I r9.2.2.1) (.eq (.int .u64 r9.2.2.2))))), .obj b1 26 (.rep tChange a1)]) [0, 1, 2] ⟨rfl, rfl, rfl, trivial⟩ rfl) ?_;refine bn ?_;exact jz ((), (List.set (List.set r3 (Int.toNat r8.1) x14) (Int.toNat (0 : Int)) x15, r9.2.1, r9.2.2.1, r9.2.2.2)) h [0, 1]
     ·refine JC.skip (bn ?_);exact jz ((), (r3, r9.2.1, r9.2.2.1, r9.2.2.2)) h [1, 0]
  ·refine JC.skip (JN.then_n ?_);exact jz ((), (r3, r2.2.1, r2.2.2.1, r2.2.2.2)) h [0, 1]
 ·refine sr ?_;iterate 4 refine mq ?_
  refine JO.se (SE.frz [8, 59] ⟨rfl, rfl, trivial⟩) ?_;refine JO.s rfl (o_litB (t := (.slice tStep)) [(.tmp 57, _), (.tmp 58, _), (.tmp 59, _), (.tmp 60, _)] [a0, r2.1, x5.1, a0] rfl rfl sl41 (.cons rfl .rep (.cons rfl .rep (.cons rfl .rep (.cons rfl .rep .nil)))) rfl rfl) ⟨rfl, rfl, rfl, rfl, trivial⟩ ?_;refine aq (nt (JC.ret ?_));cases h;exact JN.ret () [_] 1 ⟨rfl, trivial⟩ rfl


def ref_checkPlan_l1 (k : Nat) (a0 : dChange) (a1 : (List dStep)) : Nat → Int → Option (Except Int Unit)
 | 0, _ => none
 | n + 1, y7 =>
  if y7 < (a1.length : Int) then ((chkP (0 ≤ y7 ∧ y7 ≤ (a1.length : Int))).bind fun _ =>
  (geti a1 y7).bind fun x10 =>
  (ref_checkStep k a0 (List.take (Int.toNat y7) a1) x10).bind fun r11 =>
  if ¬ (r11 = (0 : Int)) then (some (.error r11)) else ((ck (y7 + (1 : Int))).bind fun x12 =>
  ref_checkPlan_l1 k a0 a1 n x12)) else (some (.ok ()))
def ref_checkPlan (k : Nat) (a0 : dChange) (a1 : (List dStep)) : Option Int :=
 (ref_asked k a0).bind fun r2 =>
 if ¬ (r2 = (0 : Int)) then (some r2) else ((ref_tasks k a0).bind fun r3 =>
 if (a1.length : Int) < (r3.length : Int) then (some (7 : Int)) else ((ref_tasks k a0).bind fun r4 =>
 if (r4.length : Int) < (a1.length : Int) then (some (6 : Int)) else (bE (α := Unit) (ref_checkPlan_l1 k a0 a1 k (0 : Int)) (some) fun _ =>
 some (0 : Int))))

theorem ref_checkPlan_ok (k : Nat) (a0 : dChange) (a1 : (List dStep)) (r : Int) (h : ref_checkPlan k a0 a1 = some r) :
 Ctr Tryz.prog 60 [.rep tChange a0, Rs tStep a1] [] (fun _ : Unit => (resA [I r], [])) := by
 unfold ref_checkPlan at h;replace h := b_top h;refine Ctr.of 43 Tryz.func60 rfl Tryz.ntmps60 rfl fun S w0 => ?_;refine sr (bx fun b1 => ?_);refine cq (nt (JC.seq (sr ?_)));refine lo sz26 ?_;obtain ⟨r2, er2, h⟩ := b_bind h;refine ja (o_call [.tmp 8] rfl rfl en53 rfl (ref_asked_ok k a0 r2 er2)) ?_;refine aq (nt (sr ?_));refine mq ?_;refine jb (o_neq rfl) ?_;refine nt (cn h (fun h => ?_) (fun h => ?_))
 ·refine sr (mq ?_);refine aq (nt (rx ?_));cases h;exact ra
 ·refine sk (JC.seq (sr (mq ?_)));refine ol U34 ?_;refine lo sz26 ?_;obtain ⟨r3, er3, h⟩ := b_bind h;refine ja (o_call [.tmp 15] rfl rfl en61 rfl (ref_tasks_ok k a0 r3 er3)) ?_;refine ol U112 ?_;refine jb (o_lss rfl) ?_;refine nt (ci h (fun h => ?_) (fun h => ?_))
  ·refine sr (cq (nt (rx ?_)));cases h;exact ra
  ·refine sk (JC.seq (sr (mq ?_)));refine ol U34 ?_;refine lo sz26 ?_;obtain ⟨r4, er4, h⟩ := b_bind h;refine ja (o_call [.tmp 21] rfl rfl en61 rfl (ref_tasks_ok k a0 r4 er4)) ?_;refine ol U112 ?_;refine jb (o_gtr rfl) ?_;refine nt (ci h (fun h => ?_) (fun h => ?_))
   ·refine sr (cq (nt (rx ?_)));cases h;exact ra
   ·refine sk (JC.cutE (Z := Unit) (α := Unit) (fun z6 x5 => []) (fun z6 x5 => []) (fun e => e = r) h (fun e h => Option.some.inj h) (fun K hR h => ?_) (fun z6 x5 h => ?_))
    ·refine sr (cq (nt (JC.block ?_)));refine JC.loopB (Z := Unit) (α := Int) (fun z8 y7 => [(1, Rs tStep a1), (2, Pt b1), (6, I y7)]) (fun z8 y7 => [.obj b1 26 (.rep tChange a0)]) (ref_checkPlan_l1 k a0 a1) k () (0 : Int) (fun _ => rfl) h (SE.fin [0] ⟨rfl, rfl, rfl, trivial⟩ rfl) (fun n z8 y7 h => ?_);unfold ref_checkPlan_l1 at h;refine JC.seq (sr ?_);iterate 2 refine mq ?_
     refine ol U34 ?_;refine jb (o_lss rfl) ?_;refine nt (ci h (fun h => ?_) (fun h => ?_))
     ·refine sk (JC.seq (JC.block (JC.seq (JC.drawN ?_))));refine ea 0 (o_load_obj rfl sz26 (nfn) rfl) ?_;refine dm ?_;refine dm ?_;obtain ⟨u9, eu9, h⟩ := b_bind h;refine db (o_slice_h (t := tStep) rfl U34 sz92 (chkP_some eu9).1 (chkP_some eu9).2) ?_;refine dm ?_;refine dm ?_;obtain ⟨x10, ex10, h⟩ := b_bind h;refine db (o_index (t := tStep) rfl U34 sz92 ex10) ?_;refine da (o_load_at (t := tStep) rfl sz92 rfl) ?_;refine df mixed ?_;obtain ⟨r11, er11, h⟩ := b_bind h;refine jc (o_call [.tmp 31, .tmp 34, .tmp 38] rfl rfl en104 rfl (ref_checkStep_ok k a0 (List.take (Int.toNat y7) a1) x10 r11 er11)) ?_;refine aq (nt (sr ?_));refine mq ?_;refine jb (o_neq rfl) ?_;refine nt (cn h (fun h => ?_) (fun h => ?_))
      ·refine sr (mq ?_);refine aq (nt (JC.ret (br (JN.blk_r (JN.then_r ?_)))));obtain rfl := hR _ h;exact ra
      ·refine JC.skip (JN.blk_n (tn (JC.region (mq ?_))));obtain ⟨x12, ex12, h⟩ := b_bind h;refine jb (o_add rfl ex12) ?_;refine aq (nl ?_);exact jz ((), x12) h [0]
     ·refine xa ?_;exact jz ((), ()) h []
    ·refine sr (cq (nt (JC.ret ?_)));cases h;exact ra


def ref_late_l1 (k : Nat) (a0 : dChange) (a1 : (List dStep)) (r2 : (List dTask)) (r3 : (List Int)) : Nat → Int → Option (Except Int Unit)
 | 0, _ => none
 | n + 1, y6 =>
  if y6 < (a1.length : Int) then ((geti a1 y6).bind fun x8 =>
  (geti r2 x8.1).bind fun x9 =>
  (geti a0.1 x9.1).bind fun x11 =>
  ((if x9.2 = true then (if (0 : Int) < x11.2.2.2.2 then ((geti r3 y6).bind fun x14 =>
  (ref_takes k a0 x9).bind fun r15 =>
  (ck (x14 + r15)).bind fun x16 =>
  some (decide (x11.2.2.2.2 < x16))) else (some false)) else (some false)) : Option (Bool)).bind fun x12 =>
  if x12 = true then (some (.error y6)) else ((ck (y6 + (1 : Int))).bind fun x17 =>
  ref_late_l1 k a0 a1 r2 r3 n x17)) else (some (.ok ()))
def ref_late (k : Nat) (a0 : dChange) (a1 : (List dStep)) : Option Int :=
 (ref_tasks k a0).bind fun r2 =>
 (ref_begins k a0 a1).bind fun r3 =>
 bE (α := Unit) (ref_late_l1 k a0 a1 r2 r3 k (0 : Int)) (some) fun _ =>
 some (-1 : Int)

theorem ref_late_ok (k : Nat) (a0 : dChange) (a1 : (List dStep)) (r : Int) (h : ref_late k a0 a1 = some r) :
 Ctr Tryz.prog 82 [.rep tChange a0, Rs tStep a1] [] (fun _ : Unit => (resA [I r], [])) := by
 unfold ref_late at h;replace h := b_top h;refine Ctr.of 55 Tryz.func82 rfl Tryz.ntmps82 rfl fun S w0 => ?_;refine sr (bx fun b1 => ?_);refine cq (nt (JC.seq ?_));refine JC.drawN ?_;refine ea 0 (o_load_obj rfl sz26 (nfn) rfl) ?_;obtain ⟨r2, er2, h⟩ := b_bind h;refine da (o_call [.tmp 10] rfl rfl en61 rfl (ref_tasks_ok k a0 r2 er2)) ?_;refine ea 0 (o_load_obj rfl sz26 (nfn) rfl) ?_;refine dm ?_;refine df mixed ?_;obtain ⟨r3, er3, h⟩ := b_bind h;refine jb (o_call [.tmp 12, .tmp 13] rfl rfl en62 rfl (ref_begins_ok k a0 a1 r3 er3)) ?_;refine aq ?_;refine aq (nt ?_);refine JC.cutE (Z := Unit) (α := Unit) (fun z5 x4 => []) (fun z5 x4 => []) (fun e => e = r) h (fun e h => Option.some.inj h) (fun K hR h => ?_) (fun z5 x4 h => ?_)
 ·refine sr (cq (nt (JC.block ?_)));refine JC.loopB (Z := Unit) (α := Int) (fun z7 y6 => [(1, Rs tStep a1), (2, Pt b1), (5, Rs tTask r2), (6, Ri r3), (7, I y6)]) (fun z7 y6 => [.obj b1 26 (.rep tChange a0)]) (ref_late_l1 k a0 a1 r2 r3) k () (0 : Int) (fun _ => rfl) h (SE.fin [0] ⟨rfl, rfl, rfl, rfl, rfl, trivial⟩ rfl) (fun n z7 y6 h => ?_);unfold ref_late_l1 at h;refine JC.seq (sr ?_);iterate 2 refine mq ?_
  refine ol U34 ?_;refine jb (o_lss rfl) ?_;refine nt (ci h (fun h => ?_) (fun h => ?_))
  ·refine sk (JC.seq (JC.block (sr ?_)));iterate 3 refine mq ?_
   obtain ⟨x8, ex8, h⟩ := b_bind h;refine jb (o_index (t := tStep) rfl U34 sz92 ex8) ?_;refine ja (o_field_at 1 false rfl fo92_0 rfl) ?_;refine ja (o_load_at (t := (.int .i64)) rfl sz3 rfl) ?_;obtain ⟨x9, ex9, h⟩ := b_bind h;refine jb (o_index (t := tTask) rfl U112 sz116 ex9) ?_;refine ja (o_load_at (t := tTask) rfl sz116 rfl) ?_;refine JO.s01 rfl rfl rfl (o_alloc rfl za116 al116) trivial fun b10 => ?_;refine JO.n11 rfl rfl (o_store rfl sz116 rfl rfl rfl) ⟨rfl, rfl, trivial⟩ ?_;refine nt (sr (fl fo26_0 ?_));refine fr 1 ?_;refine lo sz22 ?_;refine fl fo116_0 ?_;refine fr 1 ?_;refine lo sz3 ?_;obtain ⟨x11, ex11, h⟩ := b_bind h;refine jb (o_index (t := tThing) rfl U22 sz74 ex11) ?_;refine ja (o_field_at 1 false rfl fo74_4 rfl) ?_;refine ja (o_load_at (t := (.int .i64)) rfl sz3 rfl) ?_;refine aq (nt ?_);refine JC.cutB (Z := Unit) (α := Bool) (fun z13 x12 => [(1, Rs tStep a1), (2, Pt b1), (5, Rs tTask r2), (6, Ri r3), (7, I y6), (53, .eq (.bool x12))]) (fun z13 x12 => [.obj b1 26 (.rep tChange a0)]) h (fun K h => ?_) (fun z13 x12 h => ?_)
   ·refine JC.drawN ?_;refine da (o_field_obj rfl fo116_1) ?_;refine ea 0 (o_load_obj rfl sz4 nfs rfl) ?_;refine DN.fork rfl rfl rfl (o_move rfl) ⟨rfl, trivial⟩ (fun hb => ?_) (fun hb => ?_)
    ·replace h := b_if (v_t hb) h;refine DN.sg00 rfl rfl rfl rfl rfl (o_move rfl) ⟨rfl, rfl, trivial⟩ ?_;refine DN.sg00 rfl rfl rfl rfl rfl (o_gtr rfl) ⟨rfl, rfl, rfl, trivial⟩ ?_;refine db (o_pick_t rfl) ?_;refine DN.fork rfl rfl rfl (o_move rfl) ⟨rfl, trivial⟩ (fun hb => ?_) (fun hb => ?_)
     ·replace h := b_if (d_t hb) h;refine DN.sg00 rfl rfl rfl rfl rfl (o_move rfl) ⟨rfl, rfl, trivial⟩ ?_;refine DN.sg00 rfl rfl rfl rfl rfl (o_move rfl) ⟨rfl, rfl, trivial⟩ ?_;obtain ⟨x14, ex14, h⟩ := b_bind h;refine DN.sg00 rfl rfl rfl rfl rfl (o_index (t := (.int .i64)) rfl U24 sz3 ex14) ⟨rfl, rfl, rfl, trivial⟩ ?_;refine DN.sg00 rfl rfl rfl rfl rfl (o_load_at (t := (.int .i64)) rfl sz3 rfl) ⟨rfl, rfl, trivial⟩ ?_;refine DN.sg11 1 rfl rfl rfl rfl rfl rfl (o_load_obj rfl sz26 (nfn) rfl) ⟨rfl, rfl, trivial⟩ ?_;refine DN.sg11 0 rfl rfl rfl rfl rfl rfl (o_load_obj rfl sz116 (nfn) rfl) ⟨rfl, rfl, trivial⟩ ?_;obtain ⟨r15, er15, h⟩ := b_bind h;refine DN.sg00 rfl rfl rfl rfl rfl (o_call [.tmp 47, .tmp 48] rfl rfl en63 rfl (ref_takes_ok k a0 x9 r15 er15)) ⟨rfl, rfl, rfl, trivial⟩ ?_;obtain ⟨x16, ex16, h⟩ := b_bind h;refine DN.sg00 rfl rfl rfl rfl rfl (o_add rfl ex16) ⟨rfl, rfl, rfl, trivial⟩ ?_;refine DN.sg00 rfl rfl rfl rfl rfl (o_move rfl) ⟨rfl, rfl, trivial⟩ ?_;refine df mixed ?_;refine gb (o_gtr rfl) ?_;refine pt (nl ?_);exact jz ((), decide (x11.2.2.2.2 < x16)) h [1]
     ·replace h := b_ifn (d_f hb) h;iterate 9 refine dg ?_
      refine df mixed ?_;refine gn ?_;refine pf (nl ?_);exact jz ((), false) h [1]
    ·replace h := b_ifn (v_f hb) h;iterate 2 refine dg ?_
     refine db (o_pick_f rfl) ?_;refine dm ?_;iterate 9 refine dg ?_
     refine df mixed ?_;refine gn ?_;refine pf (nl ?_);exact jz ((), false) h [1]
   ·refine cv h (fun h => ?_) (fun h => ?_)
    ·refine sr (mq ?_);refine aq (nt (JC.ret (br (JN.blk_r (JN.then_r ?_)))));obtain rfl := hR _ h;exact ra
    ·refine JC.skip (JN.blk_n (tn (JC.region (mq ?_))));obtain ⟨x17, ex17, h⟩ := b_bind h;refine jb (o_add rfl ex17) ?_;refine aq (nl ?_);exact jz ((), x17) h [0]
  ·refine xa ?_;exact jz ((), ()) h []
 ·refine sr (cq (nt (JC.ret ?_)));cases h;exact ra


def ref_Late (k : Nat) (a0 : dChange) (a1 : (List dStep)) : Option (Int × Int × Int) :=
 (ref_checkPlan k a0 a1).bind fun r2 =>
 if ¬ (r2 = (0 : Int)) then (some ((0 : Int), (0 : Int), r2)) else ((ref_late k a0 a1).bind fun r3 =>
 if r3 < (0 : Int) then (some ((-1 : Int), (0 : Int), (0 : Int))) else ((ref_tasks k a0).bind fun r4 =>
 (geti a1 r3).bind fun x5 =>
 (geti r4 x5.1).bind fun x6 =>
 (geti a0.1 x6.1).bind fun x7 =>
 some (r3, x7.2.2.2.2, (0 : Int))))

theorem ref_Late_ok (k : Nat) (a0 : dChange) (a1 : (List dStep)) (r : Int × Int × Int) (h : ref_Late k a0 a1 = some r) :
 Ctr Tryz.prog 42 [.rep tChange a0, Rs tStep a1] [] (fun _ : Unit => (resA [I r.1, I r.2.1, I r.2.2], [])) := by
 unfold ref_Late at h;replace h := b_top h;refine Ctr.of 36 Tryz.func42 rfl Tryz.ntmps42 rfl fun S w0 => ?_;refine sr (bx fun b1 => ?_);refine cq ?_;refine cq ?_;refine cq (nt (JC.seq (sr ?_)));refine lo sz26 ?_;refine mq ?_;obtain ⟨r2, er2, h⟩ := b_bind h;refine jb (o_call [.tmp 9, .tmp 10] rfl rfl en60 rfl (ref_checkPlan_ok k a0 a1 r2 er2)) ?_;refine aq (nt (sr ?_));refine mq ?_;refine jb (o_neq rfl) ?_;refine nt (cn h (fun h => ?_) (fun h => ?_))
 ·refine sr (mq ?_);refine cq ?_;refine cq ?_;refine aq (nt (rx ?_));cases h;exact JN.ret () [_, _, _] 0 ⟨rfl, rfl, rfl, trivial⟩ rfl
 ·refine sk (sr (lo sz26 ?_));refine mq ?_;obtain ⟨r3, er3, h⟩ := b_bind h;refine jb (o_call [.tmp 15, .tmp 16] rfl rfl en82 rfl (ref_late_ok k a0 a1 r3 er3)) ?_;refine aq (nt (JC.seq (sr ?_)));refine mq ?_;refine jb (o_lss rfl) ?_;refine nt (ci h (fun h => ?_) (fun h => ?_))
  ·refine sr (cq ?_);refine cq ?_;refine cq (nt (rx ?_));cases h;exact JN.ret () [_, _, _] 0 ⟨rfl, rfl, rfl, trivial⟩ rfl
  ·refine sk (JC.seq (JC.drawN ?_));refine dm ?_;refine da (o_field_obj rfl fo26_0) ?_;refine ea 0 (o_load_obj rfl sz22 nfs rfl) ?_;refine ea 0 (o_load_obj rfl sz26 (nfn) rfl) ?_;obtain ⟨r4, er4, h⟩ := b_bind h;refine da (o_call [.tmp 23] rfl rfl en61 rfl (ref_tasks_ok k a0 r4 er4)) ?_;refine dm ?_;refine dm ?_;obtain ⟨x5, ex5, h⟩ := b_bind h;refine db (o_index (t := tStep) rfl U34 sz92 ex5) ?_;refine da (o_field_at 1 false rfl fo92_0 rfl) ?_;refine da (o_load_at (t := (.int .i64)) rfl sz3 rfl) ?_;obtain ⟨x6, ex6, h⟩ := b_bind h;refine db (o_index (t := tTask) rfl U112 sz116 ex6) ?_;refine da (o_field_at 1 false rfl fo116_0 rfl) ?_;refine da (o_load_at (t := (.int .i64)) rfl sz3 rfl) ?_;obtain ⟨x7, ex7, h⟩ := b_bind h;refine db (o_index (t := tThing) rfl U22 sz74 ex7) ?_;refine da (o_field_at 1 false rfl fo74_4 rfl) ?_;refine da (o_load_at (t := (.int .i64)) rfl sz3 rfl) ?_;refine da (o_assign rfl) ?_;refine df mixed ?_;refine aq ?_;refine cq (nt (JC.ret ?_));cases h;exact JN.ret () [_, _, _] 0 ⟨rfl, rfl, rfl, trivial⟩ rfl


def chg_quick_kept (k : Nat) (a0 : (dChange × (List (Bool × Int)) × (List Int))) (a1 : Int) : Option ((List dStep) × Bool) :=
 (chg_quick_plans_1 k (stopY (fun (y6 : Bool × (List dStep)) (p8 : (List dStep)) =>
  (chg_quick_late k ((a0.1.1, a0.1.2.1, a0.1.2.2.1, a0.1.2.2.2), a0.2.1, a0.2.2) p8 a1).bind fun r10 =>
  if r10.1 < (0 : Int) then (some ((true, p8), false)) else (some ((y6.1, y6.2), true)))) ((a0.1.1, a0.1.2.1, a0.1.2.2.1, a0.1.2.2.2), a0.2.1, a0.2.2) ((false, []), false)).bind fun r9 =>
 if r9.2 = true then (some (r9.1.2, r9.1.1)) else (some ([], false))

theorem chg_quick_kept_ok (k : Nat) (a0 : (dChange × (List (Bool × Int)) × (List Int))) (b_a0 : Nat) (m_a0 : Value) (a1 : Int) (r : (List dStep) × Bool) (h : chg_quick_kept k a0 a1 = some r) :
 Ctr Tryz.prog 83 [Pt b_a0, .eq (.int .u8 a1)] [.obj b_a0 101 (Qq a0 (.eq m_a0))] (fun _ : Unit => (resA [Rs tStep r.1, .eq (.bool r.2)], [.obj b_a0 101 (Qq a0 (.eq m_a0))])) := by
 unfold chg_quick_kept at h;replace h := b_top h;refine Ctr.ofM 22 Tryz.func83 rfl Tryz.ntmps83 rfl fun S w0 => ?_;refine sr (bx fun b1 => ?_);refine bx fun b2 => ?_;refine JO.s01 rfl rfl rfl (o_alloc rfl za34 al34) trivial fun b3 => ?_;refine JO.s01 rfl rfl rfl (o_alloc rfl za4 al4) trivial fun b4 => ?_;refine nt (JC.seq (sr (fr 3 ?_)));refine lo sz80 ?_;refine JO.s01 rfl rfl rfl (o_call [.tmp 9] rfl rfl en51 rfl (chg_quick_plans_ok b_a0)) ⟨rfl, trivial⟩ fun b5 => ?_;refine nt (JC.block (JC.front 3 rfl ?_));refine JC.se (SE.objE (a := .eq (.slice none 0 0)) (a' := Rs tStep []) (AE.ent .nil)) ?_;refine JC.front 4 rfl ?_;refine JC.front 1 rfl ?_;refine JC.front 4 rfl ?_;refine JC.front 4 rfl ?_;refine JC.front 5 rfl ?_;refine JC.front 5 rfl ?_;obtain ⟨r9, er9, h⟩ := b_bind h;refine JC.rangeFunc (Δ := [.obj b5 80 (Pt b_a0), .obj b_a0 101 (Qq a0 (.eq m_a0)), .obj b1 80 (Pt b_a0), .obj b4 4 (.eq (.bool false)), .obj b3 34 (Rs tStep []), .obj b2 95 (.eq (.int .u8 a1))]) (F := []) (X := Unit) (J := fun _ => jOf r9.2) (E := fun _ => [.obj b5 80 (Pt b_a0), .obj b_a0 101 (Qq a0 (.eq m_a0)), .obj b1 80 (Pt b_a0), .obj b4 4 (.eq (.bool r9.1.1)), .obj b3 34 (Rs tStep r9.1.2), .obj b2 95 (.eq (.int .u8 a1))]) (r0 := fun _ => .tup .any) rfl rfl en91 (fun rec hp ha hb hs hpe hN hv l => ?_) (fun dl _ => stop_cases (fun hj => ?_) (fun hj => ?_))
 ·rcases rec with ⟨st0, pe0, fn0, tm0, ps0, as0, bd0, df0⟩;dsimp only at hp ha hb hs hpe hN hv;subst hp hs hpe;have vN : Vals tm0 [(2, Pt b1), (3, Pt b2), (4, Pt b3), (5, Pt b4)] := ⟨congrArg A.eq (hv 2 _ rfl).symm, congrArg A.eq (hv 3 _ rfl).symm, congrArg A.eq (hv 4 _ rfl).symm, congrArg A.eq (hv 5 _ rfl).symm, trivial⟩;refine Ctr.pick [1, 2, 0, 3, 4, 5, 6] [2, 0, 1, 3, 4, 5, 6] (chg_quick_plans_1_ok (fun (_ : Unit) (q : (Bool × (List dStep)) × Bool) => [.raw l (.loop (recEnd ⟨.ready, none, fn0, tm0, #[11], as0, bd0, df0⟩ (jOf q.2))), .obj b1 80 (Pt b_a0), .obj b4 4 (.eq (.bool q.1.1)), .obj b3 34 (Rs tStep q.1.2), .obj b2 95 (.eq (.int .u8 a1))]) l (stopY (fun (y6 : Bool × (List dStep)) (p8 : (List dStep)) =>
  (chg_quick_late k ((a0.1.1, a0.1.2.1, a0.1.2.2.1, a0.1.2.2.2), a0.2.1, a0.2.2) p8 a1).bind fun r10 =>
  if r10.1 < (0 : Int) then (some ((true, p8), false)) else (some ((y6.1, y6.2), true)))) k ((a0.1.1, a0.1.2.1, a0.1.2.2.1, a0.1.2.2.2), a0.2.1, a0.2.2) b_a0 m_a0 b5 (fun z q p r' h => ?_) () ((false, []), false) r9 er9) rfl (fun _ => rfl) (fun _ => rfl)
  obtain ⟨r2, hq, h2, rfl⟩ := stopY_some h;obtain ⟨y6, b5⟩ := q;obtain rfl : b5 = false := hq;replace h := b_top h2;obtain ⟨p8, hpv⟩ : ∃ x, x = p := ⟨_, rfl⟩;subst hpv;refine YT.pick (R' := (fun _ : Unit => (.eq (.bool r2.2), [.raw l (.loop (recEnd ⟨.ready, none, fn0, tm0, #[11], as0, bd0, df0⟩ (jOf (!r2.2)))), .obj b_a0 101 (Qq a0 (.eq m_a0)), .obj b1 80 (Pt b_a0), .obj b4 4 (.eq (.bool r2.1.1)), .obj b3 34 (Rs tStep r2.1.2), .obj b2 95 (.eq (.int .u8 a1))]))) [1, 0, 2, 3, 4, 5] [1, 0, 2, 3, 4, 5] (YT.of' ha hb (N := 22) (Γ := [(2, Pt b1), (3, Pt b2), (4, Pt b3), (5, Pt b4)]) rfl hN (by decide) vN (fun S w => ?_)) rfl (fun _ => rfl) (fun _ => rfl);refine JC.region (aq (nl ?_));refine JN.begin rfl rfl ?_;refine JC.block (sr (fr 2 ?_));refine lo sz80 ?_;refine mq ?_;refine fr 5 ?_;refine lo sz95 ?_;obtain ⟨r10, er10, h⟩ := b_bind h;refine fr 3 ?_;refine kc (o_call [.tmp 13, .tmp 14, .tmp 15] rfl rfl en81 rfl (chg_quick_late_ok k ((a0.1.1, a0.1.2.1, a0.1.2.2.1, a0.1.2.2.2), a0.2.1, a0.2.2) b_a0 m_a0 p8 a1 r10 er10)) ?_;refine mq ?_;refine xr ?_;refine xr ?_;refine aq ?_;refine aq (nt (sr ?_));refine mq ?_;refine jb (o_lss rfl) ?_;refine nt (ci h (fun h => ?_) (fun h => ?_))
  ·refine sr (mq ?_);refine fr 5 ?_;refine JO.n11 rfl rfl (o_store rfl sz34 rfl rfl rfl) ⟨rfl, rfl, trivial⟩ ?_;refine fr 5 ?_;refine JO.n11 rfl rfl (o_store rfl sz4 rfl rfl rfl) ⟨rfl, rfl, trivial⟩ ?_;refine nt (JC.ret (JN.blk_r (JN.front 3 rfl ?_)));refine JN.front 2 rfl ?_;refine JN.front 2 rfl ?_;refine JN.front 4 rfl ?_;refine JN.front 4 rfl ?_;refine JN.front 5 rfl ?_;cases h;exact JN.roundR () 5 rfl
  ·refine JC.skip (JN.blk_n (JN.front 1 rfl ?_));refine JN.front 5 rfl ?_;refine JN.front 5 rfl ?_;refine JN.front 4 rfl ?_;refine JN.front 4 rfl ?_;refine JN.front 5 rfl ?_;cases h;exact JN.roundN () 5 rfl
 ·replace h := b_ifn (v_f hj) h;refine JN.blk_n (tn (sr (fr 5 ?_)));refine JO.n11 rfl rfl (o_store rfl sz34 rfl rfl rfl) ⟨rfl, rfl, trivial⟩ ?_;refine fr 5 ?_;refine JO.n11 rfl rfl (o_store rfl sz4 rfl rfl rfl) ⟨rfl, rfl, trivial⟩ ?_;refine nt (JC.ret (JN.front 1 rfl ?_));refine JN.se (SE.objE (a := .eq (.slice none 0 0)) (a' := Rs tStep []) (AE.ent .nil)) ?_;refine JN.front 2 rfl ?_;refine JN.retM ?_;refine JN.se (SE.fin (Γ' := [(4, _), (5, _)]) [3, 0, 1, 2, 4, 5] ⟨rfl, rfl, trivial⟩ rfl) ?_;cases h;exact JN.ret () [_, _] 1 ⟨⟨_, _, _, _, _, rfl, (.tail _ (.head _)), sz34, (fun _ => rfl), rfl⟩, ⟨_, _, _, _, _, rfl, (.tail _ (.tail _ (.head _))), sz4, (fun _ => rfl), rfl⟩, trivial⟩ rfl
 ·replace h := b_if (v_t hj) h;refine JC.ret (JN.blk_r (JN.then_r (JN.retM ?_)));refine JN.se (SE.fin (Γ' := [(4, _), (5, _)]) [1, 0, 2, 3, 4, 5] ⟨rfl, rfl, trivial⟩ rfl) ?_;cases h;exact JN.ret () [_, _] 1 ⟨⟨_, _, _, _, _, rfl, (.tail _ (.tail _ (.tail _ (.tail _ (.head _))))), sz34, (fun _ => rfl), rfl⟩, ⟨_, _, _, _, _, rfl, (.tail _ (.tail _ (.tail _ (.head _)))), sz4, (fun _ => rfl), rfl⟩, trivial⟩ rfl


def chg_Kept (k : Nat) (a0 : dChange) : Option ((List dStep) × Int) :=
 (chg_begin k a0).bind fun r2 =>
 casesO r2.1 (if ¬ (r2.2 = (0 : Int)) then (some ([], r2.2)) else (none)) (fun q3 => if ¬ (r2.2 = (0 : Int)) then (some ([], r2.2)) else ((chg_quick_kept k ((q3.1.1, q3.1.2.1, q3.1.2.2.1, q3.1.2.2.2), q3.2.1, q3.2.2) (0 : Int)).bind fun r5 =>
 if ¬ (r5.2 = true) then (some ([], (11 : Int))) else (some (r5.1, (0 : Int)))))

theorem chg_Kept_ok (k : Nat) (a0 : dChange) (r : (List dStep) × Int) (h : chg_Kept k a0 = some r) :
 Ctr Tryz.prog 43 [.rep tChange a0] [] (fun _ : Unit => (resA [Rs tStep r.1, I r.2], [])) := by
 unfold chg_Kept at h;replace h := b_top h;refine Ctr.of 24 Tryz.func43 rfl Tryz.ntmps43 rfl fun S w0 => ?_;refine sr (bx fun b1 => ?_);refine cq ?_;refine cq (nt (sr ?_));refine lo sz26 ?_;obtain ⟨r2, er2, h⟩ := b_bind h;have cr2 := chg_begin_ok k a0 r2 er2;rcases hr : r2.1 with _ | q3
 ·rw [hr] at h cr2; replace h := co_n h;refine JO.stepG (Δ := []) (F := _) (fun _ _ _ => wanted_none rfl _) rfl rfl (o_call [.tmp 9] rfl rfl en49 rfl cr2) ⟨rfl, trivial⟩ fun _ => ?_;refine mq ?_;refine xr ?_;refine xr ?_;refine aq ?_;refine aq (nt (JC.seq (sr ?_)));refine mq ?_;refine jb (o_neq rfl) ?_;refine nt (cn h (fun h => ?_) (fun h => ?_))
  ·refine sr (mq ?_);refine cq ?_;refine aq (nt (rx ?_));refine JN.se (SE.ent (t := (.slice tStep)) (x := []) 2 rfl .nil rfl rfl) ?_;cases h;exact rb
  ·refine sk (sr (mq ?_));cases h
 ·rw [hr] at h cr2; replace h := co_s h;refine JO.stepG (Δ := []) (F := _) (fun _ _ _ => wanted_none rfl _) rfl rfl (o_call [.tmp 9] rfl rfl en49 rfl cr2) ⟨rfl, trivial⟩ fun z4 => ?_;refine mq ?_;refine xr ?_;refine xr ?_;refine aq ?_;refine aq (nt (JC.seq (sr ?_)));refine mq ?_;refine jb (o_neq rfl) ?_;refine nt (cn h (fun h => ?_) (fun h => ?_))
  ·refine sr (mq ?_);refine cq ?_;refine aq (nt (rx ?_));refine JN.se (SE.ent (t := (.slice tStep)) (x := []) 2 rfl .nil rfl rfl) ?_;cases h;exact rb
  ·refine sk (sr (mq ?_));obtain ⟨r5, er5, h⟩ := b_bind h;refine kb (o_call [.tmp 17, .const (.int .u8 (0))] rfl rfl en83 rfl (chg_quick_kept_ok k ((q3.1.1, q3.1.2.1, q3.1.2.2.1, q3.1.2.2.2), q3.2.1, q3.2.2) z4.1 (.map (some z4.2)) (0 : Int) r5 er5)) ?_;refine mq ?_;refine xr ?_;refine xr ?_;refine aq ?_;refine aq (nt (JC.seq (sr ?_)));refine mq ?_;refine ja (o_not rfl) ?_;refine nt (cw h (fun h => ?_) (fun h => ?_))
   ·refine sr (cq ?_);refine cq (nt (rx ?_));refine JN.se (SE.ent (t := (.slice tStep)) (x := []) 2 rfl .nil rfl rfl) ?_;cases h;exact rb
   ·refine sk (sr (mq ?_));refine aq ?_;refine cq (nt (JC.ret ?_));cases h;exact rb


def ref_kept_l1 (k : Nat) (a0 : dChange) (r2 : (List (List dStep))) : Nat → Int → Option (Except ((List dStep) × Bool) Unit)
 | 0, _ => none
 | n + 1, y5 =>
  if y5 < (r2.length : Int) then ((geti r2 y5).bind fun x7 =>
  (ref_late k a0 x7).bind fun r8 =>
  if r8 < (0 : Int) then ((geti r2 y5).bind fun x9 =>
  some (.error (x9, true))) else ((ck (y5 + (1 : Int))).bind fun x10 =>
  ref_kept_l1 k a0 r2 n x10)) else (some (.ok ()))
def ref_kept (k : Nat) (a0 : dChange) : Option ((List dStep) × Bool) :=
 (ref_Plans k a0).bind fun r2 =>
 bE (α := Unit) (ref_kept_l1 k a0 r2 k (0 : Int)) (some) fun _ =>
 some ([], false)

theorem ref_kept_ok (k : Nat) (a0 : dChange) (r : (List dStep) × Bool) (h : ref_kept k a0 = some r) :
 Ctr Tryz.prog 84 [.rep tChange a0] [] (fun _ : Unit => (resA [Rs tStep r.1, .eq (.bool r.2)], [])) := by
 unfold ref_kept at h;replace h := b_top h;refine Ctr.of 25 Tryz.func84 rfl Tryz.ntmps84 rfl fun S w0 => ?_;refine sr (bx fun b1 => ?_);refine cq ?_;refine cq (nt (sr ?_));refine lo sz26 ?_;obtain ⟨r2, er2, h⟩ := b_bind h;refine ja (o_call [.tmp 6] rfl rfl en99 rfl (ref_Plans_ok k a0 r2 er2)) ?_;refine aq (nt ?_);refine JC.cutE (Z := Unit) (α := Unit) (fun z4 x3 => []) (fun z4 x3 => []) (fun e => e = r) h (fun e h => Option.some.inj h) (fun K hR h => ?_) (fun z4 x3 h => ?_)
 ·refine sr (cq (nt (JC.block ?_)));refine JC.loopB (Z := Unit) (α := Int) (fun z6 y5 => [(1, Pt b1), (4, .rep (.slice (.slice tStep)) r2), (5, I y5)]) (fun z6 y5 => [.obj b1 26 (.rep tChange a0)]) (ref_kept_l1 k a0 r2) k () (0 : Int) (fun _ => rfl) h (SE.fin [0] ⟨rfl, rfl, rfl, trivial⟩ rfl) (fun n z6 y5 h => ?_);unfold ref_kept_l1 at h;refine JC.seq (sr ?_);iterate 2 refine mq ?_
  refine ol U41 ?_;refine jb (o_lss rfl) ?_;refine nt (ci h (fun h => ?_) (fun h => ?_))
  ·refine sk (JC.seq (JC.block (JC.seq (JC.drawN ?_))));refine ea 0 (o_load_obj rfl sz26 (nfn) rfl) ?_;refine dm ?_;refine dm ?_;obtain ⟨x7, ex7, h⟩ := b_bind h;refine db (o_index (t := (.slice tStep)) rfl U41 sz34 ex7) ?_;refine da (o_load_at (t := (.slice tStep)) rfl sz34 rfl) ?_;refine df mixed ?_;obtain ⟨r8, er8, h⟩ := b_bind h;refine jb (o_call [.tmp 14, .tmp 18] rfl rfl en82 rfl (ref_late_ok k a0 x7 r8 er8)) ?_;refine jb (o_lss rfl) ?_;refine nt (ci h (fun h => ?_) (fun h => ?_))
   ·refine sr ?_;iterate 2 refine mq ?_
    obtain ⟨x9, ex9, h⟩ := b_bind h;refine jb (o_index (t := (.slice tStep)) rfl U41 sz34 ex9) ?_;refine ja (o_load_at (t := (.slice tStep)) rfl sz34 rfl) ?_;refine aq ?_;refine cq (nt (JC.ret (br (JN.blk_r (JN.then_r ?_)))));obtain rfl := hR _ h;exact rb
   ·refine JC.skip (JN.blk_n (tn (JC.region (mq ?_))));obtain ⟨x10, ex10, h⟩ := b_bind h;refine jb (o_add rfl ex10) ?_;refine aq (nl ?_);exact jz ((), x10) h [0]
  ·refine xa ?_;exact jz ((), ()) h []
 ·refine sr (cq ?_);refine cq (nt (JC.ret ?_));refine JN.se (SE.ent (t := (.slice tStep)) (x := []) 2 rfl .nil rfl rfl) ?_;cases h;exact rb


def ref_Kept (k : Nat) (a0 : dChange) : Option ((List dStep) × Int) :=
 (ref_asked k a0).bind fun r2 =>
 if ¬ (r2 = (0 : Int)) then (some ([], r2)) else ((ref_kept k a0).bind fun r3 =>
 if ¬ (r3.2 = true) then (some ([], (11 : Int))) else (some (r3.1, (0 : Int))))

theorem ref_Kept_ok (k : Nat) (a0 : dChange) (r : (List dStep) × Int) (h : ref_Kept k a0 = some r) :
 Ctr Tryz.prog 44 [.rep tChange a0] [] (fun _ : Unit => (resA [Rs tStep r.1, I r.2], [])) := by
 unfold ref_Kept at h;replace h := b_top h;refine Ctr.of 20 Tryz.func44 rfl Tryz.ntmps44 rfl fun S w0 => ?_;refine sr (bx fun b1 => ?_);refine cq ?_;refine cq (nt (JC.seq (sr ?_)));refine lo sz26 ?_;obtain ⟨r2, er2, h⟩ := b_bind h;refine ja (o_call [.tmp 7] rfl rfl en53 rfl (ref_asked_ok k a0 r2 er2)) ?_;refine aq (nt (sr ?_));refine mq ?_;refine jb (o_neq rfl) ?_;refine nt (cn h (fun h => ?_) (fun h => ?_))
 ·refine sr (mq ?_);refine cq ?_;refine aq (nt (rx ?_));refine JN.se (SE.ent (t := (.slice tStep)) (x := []) 2 rfl .nil rfl rfl) ?_;cases h;exact rb
 ·refine sk (sr (lo sz26 ?_));obtain ⟨r3, er3, h⟩ := b_bind h;refine ja (o_call [.tmp 13] rfl rfl en84 rfl (ref_kept_ok k a0 r3 er3)) ?_;refine mq ?_;refine xr ?_;refine xr ?_;refine aq ?_;refine aq (nt (JC.seq (sr ?_)));refine mq ?_;refine ja (o_not rfl) ?_;refine nt (cw h (fun h => ?_) (fun h => ?_))
  ·refine sr (cq ?_);refine cq (nt (rx ?_));refine JN.se (SE.ent (t := (.slice tStep)) (x := []) 2 rfl .nil rfl rfl) ?_;cases h;exact rb
  ·refine sk (sr (mq ?_));refine aq ?_;refine cq (nt (JC.ret ?_));cases h;exact rb


def chg_subsets_1_1_l1 {σ : Type} (k : Nat) (a1 : Int) (a4 : Int) (self : Int → Int → (List Int) → σ → Option (Bool × (List Int) × σ)) : Nat → ((List Int) × Int × σ) → Option (Except (Bool × (List Int) × σ) ((List Int) × σ))
 | 0, _ => none
 | n + 1, y6 =>
  if y6.2.1 < a4 then ((chkP (okLen (List.length y6.1 + List.length [y6.2.1]))).bind fun _ =>
  (ck (y6.2.1 + (1 : Int))).bind fun x11 =>
  (ck (a1 - (1 : Int))).bind fun x12 =>
  (self x11 x12 (y6.1 ++ [y6.2.1]) y6.2.2).bind fun r13 =>
  (ck ((r13.2.1.length : Int) - (1 : Int))).bind fun x15 =>
  (chkP (0 ≤ x15 ∧ x15 ≤ (r13.2.1.length : Int))).bind fun _ =>
  if ¬ (r13.1 = true) then (some (.error (false, List.take (Int.toNat x15) r13.2.1, r13.2.2))) else ((ck (y6.2.1 + (1 : Int))).bind fun x19 =>
  chg_subsets_1_1_l1 k a1 a4 self n (List.take (Int.toNat x15) r13.2.1, x19, r13.2.2))) else (some (.ok (y6.1, y6.2.2)))
def chg_subsets_1_1 {σ : Type} (k : Nat) (Y : σ → (List Int) → Option (σ × Bool)) (a4 : Int) : Nat → Int → Int → (List Int) → σ → Option (Bool × (List Int) × σ)
 | 0, _, _, _, _ => none
 | m0 + 1, a0, a1, a3, s0 =>
  if a1 = (0 : Int) then ((slc_Clone_int k a3).bind fun r1 =>
  (Y s0 r1).bind fun r2 =>
  some (r2.2, a3, r2.1)) else (bE (α := (List Int) × σ) (chg_subsets_1_1_l1 k a1 a4 (chg_subsets_1_1 k Y a4 m0) k (a3, a0, s0)) (some) fun x4 =>
  some (true, x4.1, x4.2))

theorem chg_subsets_1_1_ok {σ Z : Type} (E : Z → σ → List D) (l : Nat) (Y : σ → (List Int) → Option (σ × Bool)) (k : Nat) (c_a2 : Nat) (c_a3 : Nat) (a4 : Int) (c_a4 : Nat) (c_a5 : Nat) (hY : ∀ z s p r, Y s p = some r → YT Tryz.prog l [Ri p] (E z s) (fun z' : Z => (.eq (.bool r.2), E z' r.1))) :
 ∀ (n : Nat) (a0 : Int) (a1 : Int) (a3 : (List Int)) (v_a3 : Value) (z0 : Z) (s0 : σ) (r : Bool × (List Int) × σ), chg_subsets_1_1 k Y a4 n a0 a1 a3 s0 = some r → Ctr Tryz.prog 111 [I a0, I a1, Pt c_a2, Pt c_a3, Pt c_a4, Pt c_a5] ([.obj c_a2 164 (.eq (.func (.yield l) #[] #[])), .sl v_a3 3 (.int .i64) a3, .obj c_a3 24 (.eq v_a3), .obj c_a4 3 (I a4), .obj c_a5 165 (.eq (.func (.func 111) #[] #[(Pv c_a2), (Pv c_a3), (Pv c_a4), (Pv c_a5)]))] ++ E z0 s0) (fun z : Value × Z => (resA [.eq (.bool r.1)], [.obj c_a2 164 (.eq (.func (.yield l) #[] #[])), .sl z.1 3 (.int .i64) r.2.1, .obj c_a3 24 (.eq z.1), .obj c_a4 3 (I a4), .obj c_a5 165 (.eq (.func (.func 111) #[] #[(Pv c_a2), (Pv c_a3), (Pv c_a4), (Pv c_a5)]))] ++ E z.2 r.2.2)) := by
 intro n
 induction n with
 | zero => intro a0 a1 a3 v_a3 z0 s0 r h; cases h
 | succ m0 ih =>
  intro a0 a1 a3 v_a3 z0 s0 r h;rw [chg_subsets_1_1] at h;replace h := b_top h;refine Ctr.of 40 Tryz.func111 rfl Tryz.ntmps111 rfl fun S w0 => ?_;refine sr (cq (nt (JC.seq (sr ?_))));refine mq ?_;refine jb (o_eql rfl) ?_;refine nt (ci h (fun h => ?_) (fun h => ?_))
  ·refine JC.seq (JC.drawN ?_);refine ea 0 (o_load_obj rfl sz164 nfs rfl) ?_;refine ea 2 (o_load_obj rfl sz24 nfs rfl) ?_;obtain ⟨r1, er1, h⟩ := b_bind h;refine DN.s11 1 rfl rfl rfl rfl (OpT.frzB (OpT.borrow (N := [(.tmp 14, .eq v_a3)]) (o_call [.tmp 14] rfl rfl en77 rfl (slc_Clone_int_ok k a3 r1 er1)) (fun _ _ _ hv hn => ⟨(lend hn.1 hv), trivial⟩) (fun _ => ⟨rfl, flat_all (by simp [D.flat, A.flat, Ty.flat])⟩))) ⟨rfl, trivial⟩ ?_;refine df mixed ?_;obtain ⟨r2, er2, h⟩ := b_bind h;refine fr 4 ?_;refine fr 4 ?_;refine fr 4 ?_;refine fr 4 ?_;refine fr 4 ?_;refine JO.stepT [.obj c_a2 164 (.eq (.func (.yield l) #[] #[])), .sl v_a3 3 (.int .i64) a3, .obj c_a3 24 (.eq v_a3), .obj c_a4 3 (I a4), .obj c_a5 165 (.eq (.func (.func 111) #[] #[(Pv c_a2), (Pv c_a3), (Pv c_a4), (Pv c_a5)]))] rfl rfl rfl (o_yield [.tmp 15] rfl rfl rfl (hY z0 s0 r1 r2 er2)) ⟨rfl, rfl, trivial⟩ fun z3 => ?_;refine aq (nt (rx ?_));cases h;exact JN.retA (v_a3, z3) [_] ⟨rfl, trivial⟩ rfl
  ·refine sk (JC.cutE (Z := Value × Z) (α := (List Int) × σ) (fun z5 x4 => []) (fun z5 x4 => [.obj c_a2 164 (.eq (.func (.yield l) #[] #[])), .obj c_a3 24 (.eq z5.1), .sl z5.1 3 (.int .i64) x4.1, .obj c_a4 3 (I a4), .obj c_a5 165 (.eq (.func (.func 111) #[] #[(Pv c_a2), (Pv c_a3), (Pv c_a4), (Pv c_a5)]))] ++ E z5.2 x4.2) (fun e => e = r) h (fun e h => Option.some.inj h) (fun K hR h => ?_) (fun z5 x4 h => ?_))
   ·refine sr (mq ?_);refine aq (nt (JC.block ?_));refine JC.loopB (Z := Value × Z) (α := (List Int) × Int × σ) (fun z7 y6 => [(1, I a1), (3, Pt c_a3), (4, Pt c_a4), (5, Pt c_a5), (9, I y6.2.1)]) (fun z7 y6 => [.obj c_a3 24 (.eq z7.1), .sl z7.1 3 (.int .i64) y6.1, .obj c_a4 3 (I a4), .obj c_a5 165 (.eq (.func (.func 111) #[] #[(Pv c_a2), (Pv c_a3), (Pv c_a4), (Pv c_a5)])), .obj c_a2 164 (.eq (.func (.yield l) #[] #[]))] ++ E z7.2 y6.2.2) (chg_subsets_1_1_l1 k a1 a4 (chg_subsets_1_1 k Y a4 m0)) k (v_a3, z0) (a3, a0, s0) (fun _ => rfl) h (SE.finT [.obj c_a2 164 (.eq (.func (.yield l) #[] #[])), .sl v_a3 3 (.int .i64) a3, .obj c_a3 24 (.eq v_a3), .obj c_a4 3 (I a4), .obj c_a5 165 (.eq (.func (.func 111) #[] #[(Pv c_a2), (Pv c_a3), (Pv c_a4), (Pv c_a5)]))] (E z0 s0) [2, 1, 3, 4, 0] ⟨rfl, rfl, rfl, rfl, rfl, trivial⟩ rfl) (fun n z7 y6 h => ?_);unfold chg_subsets_1_1_l1 at h;refine JC.seq (sr (mq ?_));refine fr 2 ?_;refine lo sz3 ?_;refine jb (o_lss rfl) ?_;refine nt (ci h (fun h => ?_) (fun h => ?_))
    ·refine sk (JC.seq (JC.block (sr (fr 1 ?_))));refine lo sz24 ?_;refine mq ?_;refine ja (o_litB (t := (.int .i64)) [(.tmp 24, _)] [y6.2.1] rfl rfl sl24 (.cons rfl .int .nil) rfl rfl) ?_;obtain ⟨u8, eu8, h⟩ := b_bind h;refine fr 2 ?_;refine JO.s1x rfl rfl rfl (o_append rfl rfl sl24 (chkP_some eu8)) ⟨rfl, rfl, trivial⟩ fun v9 => ?_;refine JO.one fun o10 => ?_;refine fr 1 ?_;refine JO.n11 rfl rfl (o_store rfl sz24 o10 rfl rfl) ⟨rfl, rfl, trivial⟩ ?_;refine nt (sr (fr 3 ?_));refine lo sz165 ?_;refine mq ?_;obtain ⟨x11, ex11, h⟩ := b_bind h;refine jb (o_add rfl ex11) ?_;refine mq ?_;obtain ⟨x12, ex12, h⟩ := b_bind h;refine jb (o_sub rfl ex12) ?_;obtain ⟨r13, er13, h⟩ := b_bind h;refine fr 3 ?_;refine fr 2 ?_;refine fr 3 ?_;refine fr 4 ?_;refine JO.stepA rfl rfl rfl (o_callv (fs := []) (cs := [(Pv c_a2), (Pv c_a3), (Pv c_a4), (Pv c_a5)]) (ags := [I x11, I x12]) [.tmp 29, .tmp 31] rfl rfl en111 rfl (ih x11 x12 (y6.1 ++ [y6.2.1]) v9 z7.2 y6.2.2 r13 er13)) ⟨rfl, rfl, rfl, trivial⟩ fun z14 => ?_;refine aq (nt (sr ?_));refine fr 2 ?_;refine lo sz24 ?_;refine lo sz24 ?_;refine fr 2 ?_;refine ka (o_len_own rfl rfl U24) ?_;obtain ⟨x15, ex15, h⟩ := b_bind h;refine jb (o_sub rfl ex15) ?_;obtain ⟨u16, eu16, h⟩ := b_bind h;refine JO.s1x rfl rfl rfl (o_slice_own (t := (.int .i64)) rfl U24 sz3 (chkP_some eu16).1 (chkP_some eu16).2) ⟨rfl, rfl, trivial⟩ fun v17 => ?_;refine JO.one fun o18 => ?_;refine fr 1 ?_;refine JO.n11 rfl rfl (o_store rfl sz24 o18 rfl rfl) ⟨rfl, rfl, trivial⟩ ?_;refine nt (sr (mq ?_));refine ja (o_not rfl) ?_;refine nt (cw h (fun h => ?_) (fun h => ?_))
     ·refine sr (cq (nt (JC.ret (br (JN.blk_r (JN.then_r ?_))))));refine JN.se (SE.finT (Γ' := [(8, _)]) [.obj c_a3 24 (.eq v17), .sl v17 3 (.int .i64) (List.take (Int.toNat x15) r13.2.1), .obj c_a2 164 (.eq (.func (.yield l) #[] #[])), .obj c_a4 3 (I a4), .obj c_a5 165 (.eq (.func (.func 111) #[] #[(Pv c_a2), (Pv c_a3), (Pv c_a4), (Pv c_a5)]))] (E z14.2 r13.2.2) [2, 1, 0, 3, 4] ⟨rfl, trivial⟩ rfl) ?_;obtain rfl := hR _ h;exact JN.retA (v17, z14.2) [_] ⟨rfl, trivial⟩ rfl
     ·refine JC.skip (JN.blk_n (tn (JC.region (mq ?_))));obtain ⟨x19, ex19, h⟩ := b_bind h;refine jb (o_add rfl ex19) ?_;refine aq (nl ?_);exact JN.z ((v17, z14.2), (List.take (Int.toNat x15) r13.2.1, x19, r13.2.2)) h (SE.finT [.obj c_a3 24 (.eq v17), .sl v17 3 (.int .i64) (List.take (Int.toNat x15) r13.2.1), .obj c_a2 164 (.eq (.func (.yield l) #[] #[])), .obj c_a4 3 (I a4), .obj c_a5 165 (.eq (.func (.func 111) #[] #[(Pv c_a2), (Pv c_a3), (Pv c_a4), (Pv c_a5)]))] (E z14.2 r13.2.2) [0, 1, 3, 4, 2] ⟨rfl, rfl, rfl, rfl, rfl, trivial⟩ rfl)
    ·refine xa ?_;exact JN.z ((z7.1, z7.2), (y6.1, y6.2.2)) h (SE.finT [.obj c_a4 3 (I a4), .obj c_a3 24 (.eq z7.1), .sl z7.1 3 (.int .i64) y6.1, .obj c_a5 165 (.eq (.func (.func 111) #[] #[(Pv c_a2), (Pv c_a3), (Pv c_a4), (Pv c_a5)])), .obj c_a2 164 (.eq (.func (.yield l) #[] #[]))] (E z7.2 y6.2.2) [4, 1, 2, 0, 3] trivial rfl)
   ·refine sr (cq (nt (JC.ret ?_)));refine JN.se (SE.finT (Γ' := [(8, _)]) [.obj c_a2 164 (.eq (.func (.yield l) #[] #[])), .obj c_a3 24 (.eq z5.1), .sl z5.1 3 (.int .i64) x4.1, .obj c_a4 3 (I a4), .obj c_a5 165 (.eq (.func (.func 111) #[] #[(Pv c_a2), (Pv c_a3), (Pv c_a4), (Pv c_a5)]))] (E z5.2 x4.2) [0, 2, 1, 3, 4] ⟨rfl, trivial⟩ rfl) ?_;cases h;exact JN.retA (z5.1, z5.2) [_] ⟨rfl, trivial⟩ rfl


def chg_subsets_1_l1 {σ : Type} (k : Nat) (a1 : Int) (Y : σ → (List Int) → Option (σ × Bool)) (x4 : Int) : Nat → ((List Int) × Int × σ) → Option (σ)
 | 0, _ => none
 | n + 1, y5 =>
  if y5.2.1 < x4 then ((chg_subsets_1_1 k Y a1 k (0 : Int) y5.2.1 y5.1 y5.2.2).bind fun r7 =>
  if ¬ (r7.1 = true) then (some r7.2.2) else ((ck (y5.2.1 + (1 : Int))).bind fun x9 =>
  chg_subsets_1_l1 k a1 Y x4 n (r7.2.1, x9, r7.2.2))) else (some y5.2.2)
def chg_subsets_1 {σ : Type} (k : Nat) (Y : σ → (List Int) → Option (σ × Bool)) (a1 : Int) (s0 : σ) : Option (σ) :=
 (ck (a1 + (1 : Int))).bind fun x4 =>
 chg_subsets_1_l1 k a1 Y x4 k (([] : (List Int)), (0 : Int), s0)

theorem chg_subsets_1_ok {σ Z : Type} (E : Z → σ → List D) (l : Nat) (Y : σ → (List Int) → Option (σ × Bool)) (k : Nat) (a1 : Int) (c_a1 : Nat) (hY : ∀ z s p r, Y s p = some r → YT Tryz.prog l [Ri p] (E z s) (fun z' : Z => (.eq (.bool r.2), E z' r.1))) :
 ∀ (z0 : Z) (s0 : σ) (r : σ), chg_subsets_1 k Y a1 s0 = some r → Ctr Tryz.prog 110 [.eq (.func (.yield l) #[] #[]), Pt c_a1] ([.obj c_a1 3 (I a1)] ++ E z0 s0) (fun z : Z => (resA [], [.obj c_a1 3 (I a1)] ++ E z r)) := by
 intro z0 s0 r h;unfold chg_subsets_1 at h;replace h := b_top h;refine Ctr.of 17 Tryz.func110 rfl Tryz.ntmps110 rfl fun S w0 => ?_;refine sr (bx fun b1 => ?_);refine nt (sr (JO.s01 rfl rfl rfl (o_alloc rfl za24 al24) trivial fun b2 => ?_));refine nt (sr (JO.s01 rfl rfl rfl (o_alloc rfl za165 al165) trivial fun b3 => ?_));refine nt (sr (JO.s rfl (o_mkfn [] [.tmp 2, .tmp 3, .tmp 1, .tmp 4] [] [(Pv b1), (Pv b2), (Pv c_a1), (Pv b3)] rfl rfl rfl) ⟨rfl, rfl, rfl, rfl, trivial⟩ ?_));refine JO.n11 rfl rfl (o_store rfl sz165 rfl rfl rfl) ⟨rfl, rfl, trivial⟩ ?_;refine nt (sr (fr 3 ?_));refine lo sz3 ?_;obtain ⟨x4, ex4, h⟩ := b_bind h;refine jb (o_add rfl ex4) ?_;refine JO.mc rfl ?_;refine nt (JC.block (JC.se (SE.nil 3 (.int .i64)) ?_));refine JC.loopB (Z := Value × Z) (α := (List Int) × Int × σ) (fun z6 y5 => [(4, Pt b3), (8, I x4), (9, I y5.2.1)]) (fun z6 y5 => [.obj b3 165 (.eq (.func (.func 111) #[] #[(Pv b1), (Pv b2), (Pv c_a1), (Pv b3)])), .obj b1 164 (.eq (.func (.yield l) #[] #[])), .obj b2 24 (.eq z6.1), .sl z6.1 3 (.int .i64) y5.1, .obj c_a1 3 (I a1)] ++ E z6.2 y5.2.2) (chg_subsets_1_l1 k a1 Y x4) k ((.slice none 0 0), z0) (([] : (List Int)), (0 : Int), s0) (fun _ => rfl) h (SE.finT [.sl (.slice none 0 0) 3 (.int .i64) ([] : (List Int)), .obj c_a1 3 (I a1), .obj b3 165 (.eq (.func (.func 111) #[] #[(Pv b1), (Pv b2), (Pv c_a1), (Pv b3)])), .obj b2 24 (.eq (.slice none 0 0)), .obj b1 164 (.eq (.func (.yield l) #[] #[]))] (E z0 s0) [2, 4, 3, 0, 1] ⟨rfl, rfl, rfl, trivial⟩ rfl) (fun n z6 y5 h => ?_);unfold chg_subsets_1_l1 at h;refine sr (jb (o_lss rfl) ?_);refine nt (JC.seq (ci h (fun h => ?_) (fun h => ?_)))
 ·refine sk (JC.seq (JC.block (sr (mq ?_))));refine aq (nt (sr ?_));refine lo sz165 ?_;refine mq ?_;obtain ⟨r7, er7, h⟩ := b_bind h;refine fr 4 ?_;refine fr 3 ?_;refine fr 4 ?_;refine fr 4 ?_;refine JO.stepA rfl rfl rfl (o_callv (fs := []) (cs := [(Pv b1), (Pv b2), (Pv c_a1), (Pv b3)]) (ags := [I (0 : Int), I y5.2.1]) [.const (.int .i64 (0)), .tmp 13] rfl rfl en111 rfl (chg_subsets_1_1_ok E l Y k b1 b2 a1 c_a1 b3 hY k (0 : Int) y5.2.1 y5.1 z6.1 z6.2 y5.2.2 r7 er7)) ⟨rfl, rfl, rfl, trivial⟩ fun z8 => ?_;refine ja (o_not rfl) ?_;refine nt (cw h (fun h => ?_) (fun h => ?_))
  ·refine JC.ret (br (JN.blk_r (JN.se (SE.finT (Γ' := []) [.obj b1 164 (.eq (.func (.yield l) #[] #[])), .sl z8.1 3 (.int .i64) r7.2.1, .obj b2 24 (.eq z8.1), .obj c_a1 3 (I a1), .obj b3 165 (.eq (.func (.func 111) #[] #[(Pv b1), (Pv b2), (Pv c_a1), (Pv b3)]))] (E z8.2 r7.2.2) [3] trivial rfl) ?_)));cases h;exact JN.retA z8.2 [] trivial rfl
  ·refine JC.skip (JN.blk_n (tn (JC.region ?_)));obtain ⟨x9, ex9, h⟩ := b_bind h;refine jb (o_add rfl ex9) ?_;refine mq (nl ?_);exact JN.z ((z8.1, z8.2), (r7.2.1, x9, r7.2.2)) h (SE.finT [.obj b1 164 (.eq (.func (.yield l) #[] #[])), .sl z8.1 3 (.int .i64) r7.2.1, .obj b2 24 (.eq z8.1), .obj c_a1 3 (I a1), .obj b3 165 (.eq (.func (.func 111) #[] #[(Pv b1), (Pv b2), (Pv c_a1), (Pv b3)]))] (E z8.2 r7.2.2) [4, 0, 2, 1, 3] ⟨rfl, rfl, rfl, trivial⟩ rfl)
 ·refine JC.exit (JN.then_x (JN.then_x (JN.blk_hit (JN.end_n ?_))));refine JN.se (SE.finT (Γ' := []) [.obj b3 165 (.eq (.func (.func 111) #[] #[(Pv b1), (Pv b2), (Pv c_a1), (Pv b3)])), .obj b1 164 (.eq (.func (.yield l) #[] #[])), .obj b2 24 (.eq z6.1), .sl z6.1 3 (.int .i64) y5.1, .obj c_a1 3 (I a1)] (E z6.2 y5.2.2) [4] trivial rfl) ?_;cases h;exact JN.retA z6.2 [] trivial rfl



theorem chg_subsets_ok (a0 : Int) : Ctr Tryz.prog 85 [I a0] [] (fun z : Nat => (resA [.eq (.func (.func 110) #[] #[(Pv z)])], [.obj z 3 (I a0)])) := by
 refine Ctr.of 4 Tryz.func85 rfl Tryz.ntmps85 rfl fun S w0 => ?_;refine sr (bx fun z => ?_);refine cq (nt (sr ?_));refine ja (o_mkfn [] [.tmp 1] [] [(Pv z)] rfl rfl rfl) ?_;refine aq (nt (JC.ret ?_));exact JN.ret z [_] 1 ⟨rfl, trivial⟩ rfl


def chg_Gives (k : Nat) (a0 : dChange) : Option ((List Int) × Int) :=
 (chg_begin k a0).bind fun r4 =>
 casesO r4.1 (if ¬ (r4.2 = (0 : Int)) then (some ([], r4.2)) else (none)) (fun q5 => if ¬ (r4.2 = (0 : Int)) then (some ([], r4.2)) else ((chg_subsets_1 k (stopY (fun (y10 : (List Int)) (p12 : (List Int)) =>
  (chg_of k p12).bind fun r14 =>
  (chg_quick_kept k ((q5.1.1, q5.1.2.1, q5.1.2.2.1, q5.1.2.2.2), q5.2.1, q5.2.2) r14).bind fun r15 =>
  if r15.2 = true then (some (p12, false)) else (some (y10, true)))) (q5.1.1.length : Int) ([], false)).bind fun r13 =>
 if r13.2 = true then (some (r13.1, (0 : Int))) else (some ([], (11 : Int)))))

theorem chg_Gives_ok (k : Nat) (a0 : dChange) (r : (List Int) × Int) (h : chg_Gives k a0 = some r) :
 Ctr Tryz.prog 45 [.rep tChange a0] [] (fun _ : Unit => (resA [Ri r.1, I r.2], [])) := by
 unfold chg_Gives at h;replace h := b_top h;refine Ctr.ofM 34 Tryz.func45 rfl Tryz.ntmps45 rfl fun S w0 => ?_;refine sr (bx fun b1 => ?_);refine JO.s01 rfl rfl rfl (o_alloc rfl za24 al24) trivial fun b2 => ?_;refine JO.s01 rfl rfl rfl (o_alloc rfl za35 al35) trivial fun b3 => ?_;refine nt (sr (fr 2 ?_));refine lo sz26 ?_;obtain ⟨r4, er4, h⟩ := b_bind h;have cr4 := chg_begin_ok k a0 r4 er4;rcases hr : r4.1 with _ | q5
 ·rw [hr] at h cr4; replace h := co_n h;refine JO.stepG (Δ := []) (F := _) (fun _ _ _ => wanted_none rfl _) rfl rfl (o_call [.tmp 10] rfl rfl en49 rfl cr4) ⟨rfl, trivial⟩ fun _ => ?_;refine mq ?_;refine xr ?_;refine xr ?_;refine JO.s01 rfl rfl rfl (o_alloc rfl za80 al80) trivial fun b6 => ?_;refine JO.n11 rfl rfl (o_store rfl sz80 rfl rfl rfl) ⟨rfl, rfl, trivial⟩ ?_;refine aq (nt (JC.seq (sr ?_)));refine mq ?_;refine jb (o_neq rfl) ?_;refine nt (cn h (fun h => ?_) (fun h => ?_))
  ·refine sr (mq ?_);refine fr 3 ?_;refine JO.n11 rfl rfl (o_store rfl sz24 rfl rfl rfl) ⟨rfl, rfl, trivial⟩ ?_;refine fr 3 ?_;refine JO.n11 rfl rfl (o_store rfl sz35 rfl rfl rfl) ⟨rfl, rfl, trivial⟩ ?_;refine nt (rx (JN.front 1 rfl ?_));refine JN.se (SE.objE (a := .eq (.slice none 0 0)) (a' := Ri []) (AE.ent .nil)) ?_;refine JN.retM0 ?_;cases h;exact JN.ret () [_, _] 0 ⟨⟨_, _, _, _, _, rfl, (.head _), sz24, (fun _ => rfl), rfl⟩, ⟨_, _, _, _, _, rfl, (.tail _ (.head _)), sz35, (fun _ => rfl), rfl⟩, trivial⟩ rfl
  ·refine sk (JC.seq (sr (lo sz80 ?_)));cases h
 ·rw [hr] at h cr4; replace h := co_s h;refine JO.stepG (Δ := []) (F := _) (fun _ _ _ => wanted_none rfl _) rfl rfl (o_call [.tmp 10] rfl rfl en49 rfl cr4) ⟨rfl, trivial⟩ fun z7 => ?_;refine mq ?_;refine xr ?_;refine xr ?_;refine JO.s01 rfl rfl rfl (o_alloc rfl za80 al80) trivial fun b8 => ?_;refine JO.n11 rfl rfl (o_store rfl sz80 rfl rfl rfl) ⟨rfl, rfl, trivial⟩ ?_;refine aq (nt (JC.seq (sr ?_)));refine mq ?_;refine jb (o_neq rfl) ?_;refine nt (cn h (fun h => ?_) (fun h => ?_))
  ·refine sr (mq ?_);refine fr 5 ?_;refine JO.n11 rfl rfl (o_store rfl sz24 rfl rfl rfl) ⟨rfl, rfl, trivial⟩ ?_;refine fr 5 ?_;refine JO.n11 rfl rfl (o_store rfl sz35 rfl rfl rfl) ⟨rfl, rfl, trivial⟩ ?_;refine nt (rx (JN.front 1 rfl ?_));refine JN.se (SE.objE (a := .eq (.slice none 0 0)) (a' := Ri []) (AE.ent .nil)) ?_;refine JN.retM0 ?_;cases h;exact JN.ret () [_, _] 0 ⟨⟨_, _, _, _, _, rfl, (.head _), sz24, (fun _ => rfl), rfl⟩, ⟨_, _, _, _, _, rfl, (.tail _ (.head _)), sz35, (fun _ => rfl), rfl⟩, trivial⟩ rfl
  ·refine sk (JC.seq (sr (lo sz80 ?_)));refine ja (o_nil_obj rfl) ?_;refine fl fo101_0 ?_;refine fl fo26_0 ?_;refine fr 1 ?_;refine lo sz22 ?_;refine ol U22 ?_;refine JO.s01 rfl rfl rfl (o_call [.tmp 22] rfl rfl en85 rfl (chg_subsets_ok (q5.1.1.length : Int))) ⟨rfl, trivial⟩ fun b9 => ?_;refine nt (JC.block (JC.front 6 rfl ?_));refine JC.se (SE.objE (a := .eq (.slice none 0 0)) (a' := Ri []) (AE.ent .nil)) ?_;refine JC.front 6 rfl ?_;refine JC.front 6 rfl ?_;refine JC.front 6 rfl ?_;refine JC.front 6 rfl ?_;refine JC.front 6 rfl ?_;refine JC.front 6 rfl ?_;obtain ⟨r13, er13, h⟩ := b_bind h;refine JC.rangeFunc (Δ := [.obj b9 3 (I (q5.1.1.length : Int)), .obj z7.1 101 (Qq q5 (.eq (.map (some z7.2)))), .obj b8 80 (.eq (.pointer (some ⟨z7.1, 0, none⟩))), .raw z7.2 (.map #[] 0), .obj b1 26 (.rep tChange a0), .obj b3 35 (I (0 : Int)), .obj b2 24 (Ri [])]) (F := []) (X := Unit) (J := fun _ => jOf r13.2) (E := fun _ => [.obj b9 3 (I (q5.1.1.length : Int)), .obj z7.1 101 (Qq q5 (.eq (.map (some z7.2)))), .obj b8 80 (.eq (.pointer (some ⟨z7.1, 0, none⟩))), .raw z7.2 (.map #[] 0), .obj b1 26 (.rep tChange a0), .obj b3 35 (I (0 : Int)), .obj b2 24 (Ri r13.1)]) (r0 := fun _ => .tup .any) rfl rfl en110 (fun rec hp ha hb hs hpe hN hv l => ?_) (fun dl _ => stop_cases (fun hj => ?_) (fun hj => ?_))
   ·rcases rec with ⟨st0, pe0, fn0, tm0, ps0, as0, bd0, df0⟩;dsimp only at hp ha hb hs hpe hN hv;subst hp hs hpe;have vN : Vals tm0 [(2, Pt b2), (3, Pt b3), (4, Pt b8)] := ⟨congrArg A.eq (hv 2 _ rfl).symm, congrArg A.eq (hv 3 _ rfl).symm, congrArg A.eq (hv 4 _ rfl).symm, trivial⟩;refine Ctr.pick [1, 0, 2, 3, 4, 5, 6, 7] [1, 0, 2, 3, 4, 5, 6, 7] (chg_subsets_1_ok (fun (_ : Unit) (q : (List Int) × Bool) => [.raw l (.loop (recEnd ⟨.ready, none, fn0, tm0, #[24], as0, bd0, df0⟩ (jOf q.2))), .obj z7.1 101 (Qq q5 (.eq (.map (some z7.2)))), .obj b8 80 (.eq (.pointer (some ⟨z7.1, 0, none⟩))), .raw z7.2 (.map #[] 0), .obj b1 26 (.rep tChange a0), .obj b3 35 (I (0 : Int)), .obj b2 24 (Ri q.1)]) l (stopY (fun (y10 : (List Int)) (p12 : (List Int)) =>
    (chg_of k p12).bind fun r14 =>
    (chg_quick_kept k ((q5.1.1, q5.1.2.1, q5.1.2.2.1, q5.1.2.2.2), q5.2.1, q5.2.2) r14).bind fun r15 =>
    if r15.2 = true then (some (p12, false)) else (some (y10, true)))) k (q5.1.1.length : Int) b9 (fun z q p r' h => ?_) () ([], false) r13 er13) rfl (fun _ => rfl) (fun _ => rfl)
    obtain ⟨r2, hq, h2, rfl⟩ := stopY_some h;obtain ⟨y10, b5⟩ := q;obtain rfl : b5 = false := hq;replace h := b_top h2;obtain ⟨p12, hpv⟩ : ∃ x, x = p := ⟨_, rfl⟩;subst hpv;refine YT.pick (R' := (fun _ : Unit => (.eq (.bool r2.2), [.raw l (.loop (recEnd ⟨.ready, none, fn0, tm0, #[24], as0, bd0, df0⟩ (jOf (!r2.2)))), .obj z7.1 101 (Qq q5 (.eq (.map (some z7.2)))), .obj b8 80 (.eq (.pointer (some ⟨z7.1, 0, none⟩))), .raw z7.2 (.map #[] 0), .obj b1 26 (.rep tChange a0), .obj b3 35 (I (0 : Int)), .obj b2 24 (Ri r2.1)]))) [0, 1, 2, 3, 4, 5, 6] [0, 1, 2, 3, 4, 5, 6] (YT.of' ha hb (N := 34) (Γ := [(2, Pt b2), (3, Pt b3), (4, Pt b8)]) rfl hN (by decide) vN (fun S w => ?_)) rfl (fun _ => rfl) (fun _ => rfl);refine JC.region (aq (nl ?_));refine JN.begin rfl rfl ?_;refine JC.block (JC.seq (JC.drawN ?_));refine ea 2 (o_load_obj rfl sz80 nfs rfl) ?_;refine dm ?_;obtain ⟨r14, er14, h⟩ := b_bind h;refine da (o_call [.tmp 27] rfl rfl en57 rfl (chg_of_ok k p12 r14 er14)) ?_;obtain ⟨r15, er15, h⟩ := b_bind h;refine eb 1 (o_call [.tmp 26, .tmp 28] rfl rfl en83 rfl (chg_quick_kept_ok k ((q5.1.1, q5.1.2.1, q5.1.2.2.1, q5.1.2.2.2), q5.2.1, q5.2.2) z7.1 (.map (some z7.2)) r14 r15 er15)) ?_;refine dm ?_;refine da (o_extract rfl rfl) ?_;refine da (o_extract rfl rfl) ?_;refine da (o_assign rfl) ?_;refine df mixed ?_;refine aq (nt (sr ?_));refine mq (nt ?_);refine cv h (fun h => ?_) (fun h => ?_)
    ·refine sr (mq ?_);refine fr 6 ?_;refine JO.n11 rfl rfl (o_store rfl sz24 rfl rfl rfl) ⟨rfl, rfl, trivial⟩ ?_;refine fr 6 ?_;refine JO.n11 rfl rfl (o_store rfl sz35 rfl rfl rfl) ⟨rfl, rfl, trivial⟩ ?_;refine nt (JC.ret (JN.blk_r (JN.front 1 rfl ?_)));refine JN.front 1 rfl ?_;refine JN.front 6 rfl ?_;refine JN.front 6 rfl ?_;refine JN.front 6 rfl ?_;refine JN.front 6 rfl ?_;refine JN.front 6 rfl ?_;cases h;exact JN.roundR () 6 rfl
    ·refine JC.skip (JN.blk_n (JN.front 6 rfl ?_));refine JN.front 6 rfl ?_;refine JN.front 6 rfl ?_;refine JN.front 6 rfl ?_;refine JN.front 6 rfl ?_;refine JN.front 6 rfl ?_;refine JN.front 6 rfl ?_;cases h;exact JN.roundN () 6 rfl
   ·replace h := b_ifn (v_f hj) h;refine JN.blk_n (tn (sr (fr 7 ?_)));refine JO.n11 rfl rfl (o_store rfl sz24 rfl rfl rfl) ⟨rfl, rfl, trivial⟩ ?_;refine fr 7 ?_;refine JO.n11 rfl rfl (o_store rfl sz35 rfl rfl rfl) ⟨rfl, rfl, trivial⟩ ?_;refine nt (JC.ret (JN.front 1 rfl ?_));refine JN.se (SE.objE (a := .eq (.slice none 0 0)) (a' := Ri []) (AE.ent .nil)) ?_;refine JN.front 2 rfl ?_;refine JN.retM ?_;cases h;exact JN.ret () [_, _] 0 ⟨⟨_, _, _, _, _, rfl, (.head _), sz24, (fun _ => rfl), rfl⟩, ⟨_, _, _, _, _, rfl, (.tail _ (.head _)), sz35, (fun _ => rfl), rfl⟩, trivial⟩ rfl
   ·replace h := b_if (v_t hj) h;refine JC.ret (JN.blk_r (JN.then_r (JN.retM ?_)));cases h;exact JN.ret () [_, _] 0 ⟨⟨_, _, _, _, _, rfl, (.tail _ (.tail _ (.tail _ (.tail _ (.tail _ (.tail _ (.head _))))))), sz24, (fun _ => rfl), rfl⟩, ⟨_, _, _, _, _, rfl, (.tail _ (.tail _ (.tail _ (.tail _ (.tail _ (.head _)))))), sz35, (fun _ => rfl), rfl⟩, trivial⟩ rfl


def ref_picks_l2 (k : Nat) (y3 : (List (List Int)) × Int) (r9 : (List (List Int))) : Nat → ((List (List Int)) × Int) → Option (List (List Int))
 | 0, _ => none
 | n + 1, y10 =>
  if y10.2 < (r9.length : Int) then ((geti r9 y10.2).bind fun x13 =>
  (chkP (okLen (List.length [y3.2] + List.length x13))).bind fun _ =>
  (chkP (okLen (List.length y10.1 + List.length [[y3.2] ++ x13]))).bind fun _ =>
  (ck (y10.2 + (1 : Int))).bind fun x18 =>
  ref_picks_l2 k y3 r9 n (y10.1 ++ [[y3.2] ++ x13], x18)) else (some y10.1)

def ref_picks_l1 (k : Nat) (a1 : Int) (a2 : Int) (self : Int → Int → Int → Option ((List (List Int)))) : Nat → ((List (List Int)) × Int) → Option (List (List Int))
 | 0, _ => none
 | n + 1, y3 =>
  if y3.2 < a1 then ((((ck (y3.2 + (1 : Int))).bind fun x7 =>
  (ck (a2 - (1 : Int))).bind fun x8 =>
  (self x7 a1 x8).bind fun r9 =>
  ref_picks_l2 k y3 r9 k (y3.1, (0 : Int))) : Option ((List (List Int)))).bind fun x5 =>
  (ck (y3.2 + (1 : Int))).bind fun x19 =>
  ref_picks_l1 k a1 a2 self n (x5, x19)) else (some y3.1)
def ref_picks (k : Nat) : Nat → Int → Int → Int → Option ((List (List Int)))
 | 0, _, _, _ => none
 | m0 + 1, a0, a1, a2 =>
  if a2 = (0 : Int) then (some [[]]) else (((ref_picks_l1 k a1 a2 (ref_picks k m0) k (([] : (List (List Int))), a0)) : Option ((List (List Int)))).bind fun x1 =>
  some x1)

theorem ref_picks_ok (k : Nat) :
 ∀ (n : Nat) (a0 : Int) (a1 : Int) (a2 : Int) (r : (List (List Int))), ref_picks k n a0 a1 a2 = some r → Ctr Tryz.prog 86 [I a0, I a1, I a2] ([]) (fun _ : Unit => (resA [.rep (.slice (.slice (.int .i64))) r], [])) := by
 intro n
 induction n with
 | zero => intro a0 a1 a2 r h; cases h
 | succ m0 ih =>
  intro a0 a1 a2 r h;rw [ref_picks] at h;replace h := b_top h;refine Ctr.of 43 Tryz.func86 rfl Tryz.ntmps86 rfl fun S w0 => ?_;refine sr (cq (nt (JC.seq (sr ?_))));refine mq ?_;refine jb (o_eql rfl) ?_;refine nt (ci h (fun h => ?_) (fun h => ?_))
  ·refine sr (ja (o_litB (t := (.slice (.int .i64))) [(.const (.slice none 0 0), _)] [[]] rfl rfl sl57 (.cons rfl .nil .nil) rfl rfl) ?_);refine aq (nt (rx ?_));cases h;exact ra
  ·refine sk (sr (cq (nt ?_)));refine JC.cutB (Z := Value) (α := (List (List Int))) (fun z2 x1 => [(7, .eq z2)]) (fun z2 x1 => [.sl z2 24 (.slice (.int .i64)) x1]) h (fun K h => ?_) (fun z2 x1 h => ?_)
   ·refine sr (mq ?_);refine aq (nt (JC.block ?_));refine JC.se (SE.nil 24 (.slice (.int .i64))) ?_;refine JC.loopB (Z := Value) (α := (List (List Int)) × Int) (fun z4 y3 => [(1, I a1), (2, I a2), (7, .eq z4), (8, I y3.2)]) (fun z4 y3 => [.sl z4 24 (.slice (.int .i64)) y3.1]) (ref_picks_l1 k a1 a2 (ref_picks k m0)) k (.slice none 0 0) (([] : (List (List Int))), a0) (fun _ => rfl) h (SE.fin [0] ⟨rfl, rfl, rfl, rfl, trivial⟩ rfl) (fun n z4 y3 h => ?_);unfold ref_picks_l1 at h;refine JC.seq (sr ?_);iterate 2 refine mq ?_
    refine jb (o_lss rfl) ?_;refine nt (ci h (fun h => ?_) (fun h => ?_))
    ·refine sk (JC.cutB (Z := Value) (α := (List (List Int))) (fun z6 x5 => [(1, I a1), (2, I a2), (7, .eq z6), (8, I y3.2)]) (fun z6 x5 => [.sl z6 24 (.slice (.int .i64)) x5]) h (fun K h => ?_) (fun z6 x5 h => ?_))
     ·refine JC.block (sr (mq ?_));obtain ⟨x7, ex7, h⟩ := b_bind h;refine jb (o_add rfl ex7) ?_;iterate 2 refine mq ?_
      obtain ⟨x8, ex8, h⟩ := b_bind h;refine jb (o_sub rfl ex8) ?_;obtain ⟨r9, er9, h⟩ := b_bind h;refine jc (o_call [.tmp 21, .tmp 22, .tmp 24] rfl rfl en86 rfl (ih x7 a1 x8 r9 er9)) ?_;refine aq (nt (sr ?_));refine cq (nt (JC.block ?_));refine JC.loopB (Z := Value) (α := (List (List Int)) × Int) (fun z11 y10 => [(1, I a1), (2, I a2), (7, .eq z11), (8, I y3.2), (9, .rep (.slice (.slice (.int .i64))) r9), (10, I y10.2)]) (fun z11 y10 => [.sl z11 24 (.slice (.int .i64)) y10.1]) (ref_picks_l2 k y3 r9) k z4 (y3.1, (0 : Int)) (fun _ => rfl) h (SE.fin [0] ⟨rfl, rfl, rfl, rfl, rfl, rfl, trivial⟩ rfl) (fun n z11 y10 h => ?_);unfold ref_picks_l2 at h;refine JC.seq (sr ?_);iterate 2 refine mq ?_
      refine ol U57 ?_;refine jb (o_lss rfl) ?_;refine nt (ci h (fun h => ?_) (fun h => ?_))
      ·refine sk (JC.seq (JC.block (JC.region ?_)));iterate 2 refine mq ?_
       refine JO.s01 rfl rfl rfl (o_litB_own (t := (.int .i64)) [(.tmp 33, _)] [y3.2] rfl rfl sl24 (.cons rfl .int .nil) rfl rfl) ⟨rfl, trivial⟩ fun v12 => ?_;iterate 2 refine mq ?_
       obtain ⟨x13, ex13, h⟩ := b_bind h;refine jb (o_index (t := (.slice (.int .i64))) rfl U57 sz24 ex13) ?_;refine ja (o_load_at (t := (.slice (.int .i64))) rfl sz24 rfl) ?_;obtain ⟨u14, eu14, h⟩ := b_bind h;refine JO.s1x rfl rfl rfl (o_append rfl rfl sl24 (chkP_some eu14)) ⟨rfl, rfl, trivial⟩ fun v15 => ?_;refine JO.se (SE.frz [39] ⟨rfl, trivial⟩) ?_;refine ja (o_litB (t := (.slice (.int .i64))) [(.tmp 39, _)] [[y3.2] ++ x13] rfl rfl sl57 (.cons rfl .rep .nil) rfl rfl) ?_;obtain ⟨u16, eu16, h⟩ := b_bind h;refine JO.s1x rfl rfl rfl (o_append rfl rfl sl57 (chkP_some eu16)) ⟨rfl, rfl, trivial⟩ fun v17 => ?_;refine aq (JO.nil (JN.blk_n (tn (JC.region ?_))));refine mq ?_;obtain ⟨x18, ex18, h⟩ := b_bind h;refine jb (o_add rfl ex18) ?_;refine aq (nl ?_);exact jz (v17, (y10.1 ++ [[y3.2] ++ x13], x18)) h [0]
      ·refine JC.exit (JN.then_x (JN.then_x (JN.blk_hit (bn ?_))));exact jz (z11, y10.1) h [0]
     ·refine JC.region (mq ?_);obtain ⟨x19, ex19, h⟩ := b_bind h;refine jb (o_add rfl ex19) ?_;refine aq (nl ?_);exact jz (z6, (x5, x19)) h [0]
    ·refine xa ?_;exact jz (z4, y3.1) h [0]
   ·refine sr (mq ?_);refine aq (nt (JC.ret ?_));refine JN.se (SE.frz [6, 7, 42] ⟨rfl, rfl, rfl, trivial⟩) ?_;cases h;exact ra


def ref_Without_l1 (k : Nat) (a1 : (List Int)) : Nat → ((List dThing) × Int) → Option (List dThing)
 | 0, _ => none
 | n + 1, y10 =>
  if y10.2 < (a1.length : Int) then ((geti a1 y10.2).bind fun x12 =>
  (geti y10.1 x12).bind fun x13 =>
  (ck (y10.2 + (1 : Int))).bind fun x14 =>
  ref_Without_l1 k a1 n (List.set y10.1 (Int.toNat x12) (x13.1, x13.2.1, x13.2.2.1, x13.2.2.2.1, (0 : Int)), x14)) else (some y10.1)
def ref_Without (k : Nat) (a0 : dChange) (a1 : (List Int)) : Option dChange :=
 (chkP (okLen (List.length ([] : (List dThing)) + List.length a0.1))).bind fun _ =>
 ((ref_Without_l1 k a1 k (([] : (List dThing)) ++ a0.1, (0 : Int))) : Option ((List dThing))).bind fun x8 =>
 some (x8, a0.2)

theorem ref_Without_ok (k : Nat) (a0 : dChange) (a1 : (List Int)) (r : dChange) (h : ref_Without k a0 a1 = some r) :
 Ctr Tryz.prog 87 [.rep tChange a0, Ri a1] [] (fun _ : Unit => (resA [.rep tChange r], [])) := by
 unfold ref_Without at h;replace h := b_top h;refine Ctr.of 28 Tryz.func87 rfl Tryz.ntmps87 rfl fun S w0 => ?_;refine sr (bx fun b1 => ?_);refine JO.s01 rfl rfl rfl (o_alloc rfl za26 al26) trivial fun b2 => ?_;refine nt (sr (fr 1 ?_));refine lo sz26 ?_;refine JO.s01 rfl rfl rfl (o_alloc rfl za26 al26) trivial fun b3 => ?_;refine JO.n11 rfl rfl (o_store rfl sz26 rfl rfl rfl) ⟨rfl, rfl, trivial⟩ ?_;refine nt (sr (JO.s01 rfl rfl rfl (o_litB_own (t := tThing) [] ([] : (List dThing)) rfl rfl sl22 .nil rfl rfl) trivial fun v4 => ?_));refine fl fo26_0 ?_;refine fr 2 ?_;refine lo sz22 ?_;obtain ⟨u5, eu5, h⟩ := b_bind h;refine fr 1 ?_;refine JO.s1x rfl rfl rfl (o_append rfl rfl sl22 (chkP_some eu5)) ⟨rfl, rfl, trivial⟩ fun v6 => ?_;refine fl fo26_0 ?_;refine JO.one fun o7 => ?_;refine fr 2 ?_;refine JO.n11 rfl rfl (o_store rfl sz22 o7 rfl rfl) ⟨rfl, rfl, trivial⟩ ?_;refine nt (JC.cutB (Z := Unit) (α := (List dThing)) (fun z9 x8 => [(4, Pt b2), (5, Pt b3)]) (fun z9 x8 => [.obj b2 26 N4, .obj b3 26 (.agg (.pair (.eq v6) (.rep (.pair (.slice tDresser) (.pair (.slice (.int .i64)) (.slice (.int .i64)))) a0.2))), .sl v6 74 tThing x8]) h (fun K h => ?_) (fun z9 x8 h => ?_))
 ·refine sr (cq (nt (JC.block ?_)));refine JC.loopB (Z := Unit) (α := (List dThing) × Int) (fun z11 y10 => [(1, Ri a1), (4, Pt b2), (5, Pt b3), (6, I y10.2)]) (fun z11 y10 => [.obj b2 26 N4, .obj b3 26 (.agg (.pair (.eq v6) (.rep (.pair (.slice tDresser) (.pair (.slice (.int .i64)) (.slice (.int .i64)))) a0.2))), .sl v6 74 tThing y10.1]) (ref_Without_l1 k a1) k () (([] : (List dThing)) ++ a0.1, (0 : Int)) (fun _ => rfl) h (SE.fin [3, 0, 1] ⟨rfl, rfl, rfl, rfl, trivial⟩ rfl) (fun n z11 y10 h => ?_);unfold ref_Without_l1 at h;refine JC.seq (sr ?_);iterate 2 refine mq ?_
  refine ol U24 ?_;refine jb (o_lss rfl) ?_;refine nt (ci h (fun h => ?_) (fun h => ?_))
  ·refine sk (JC.seq (JC.block (JC.drawN ?_)));refine da (o_field_obj rfl fo26_0) ?_;refine ea 1 (o_load_obj rfl sz22 nfs rfl) ?_;refine dm ?_;refine dm ?_;obtain ⟨x12, ex12, h⟩ := b_bind h;refine db (o_index (t := (.int .i64)) rfl U24 sz3 ex12) ?_;refine da (o_load_at (t := (.int .i64)) rfl sz3 rfl) ?_;refine df mixed ?_;obtain ⟨x13, ex13, h⟩ := b_bind h;refine fr 2 ?_;refine kb (o_index_own (t := tThing) rfl U22 sz74 ex13) ?_;refine ka (o_field_el rfl fo74_4 (geti_ne ex13)) ?_;refine JO.n11 rfl rfl (o_store_el (i := Int.toNat x12) (off := 4) rfl sz3 rfl (geti_some ex13).2.2 .int rfl (.agg (.right (.right (.right (.right .whole rfl) rfl) rfl) rfl))) ⟨rfl, rfl, trivial⟩ ?_;refine JO.nil (JN.blk_n (tn (JC.region (mq ?_))));obtain ⟨x14, ex14, h⟩ := b_bind h;refine jb (o_add rfl ex14) ?_;refine aq (nl ?_);exact jz ((), (List.set y10.1 (Int.toNat x12) (x13.1, x13.2.1, x13.2.2.1, x13.2.2.2.1, (0 : Int)), x14)) h [1, 2, 0]
  ·refine xa ?_;exact jz ((), y10.1) h [0, 1, 2]
 ·refine sr (fr 1 ?_);refine fr 2 ?_;refine JO.se (SE.frzBoth (off := 0) [] trivial rfl rfl) ?_;refine lo sz26 ?_;refine fr 1 ?_;refine JO.n11 rfl rfl (o_store rfl sz26 trivial rfl rfl) ⟨rfl, rfl, trivial⟩ ?_;refine nt (JC.ret (JN.se (SE.objE (a := .agg (.pair (Rs tThing x8) (.rep (.pair (.slice tDresser) (.pair (.slice (.int .i64)) (.slice (.int .i64)))) a0.2))) (a' := .rep tChange (x8, a0.2)) (AE.ent (.agg (.pair .rep .rep)))) ?_));cases h;exact JN.ret () [.rep tChange (x8, a0.2)] 0 ⟨⟨_, _, _, _, _, rfl, (.head _), sz26, (nfn), rfl⟩, trivial⟩ rfl


def ref_Gives_l2 (k : Nat) (a0 : dChange) (r9 : (List (List Int))) : Nat → Int → Option (Except ((List Int) × Int) Unit)
 | 0, _ => none
 | n + 1, y10 =>
  if y10 < (r9.length : Int) then ((geti r9 y10).bind fun x12 =>
  (ref_Without k a0 x12).bind fun r13 =>
  (ref_kept k r13).bind fun r14 =>
  if r14.2 = true then ((geti r9 y10).bind fun x15 =>
  some (.error (x15, (0 : Int)))) else ((ck (y10 + (1 : Int))).bind fun x16 =>
  ref_Gives_l2 k a0 r9 n x16)) else (some (.ok ()))

def ref_Gives_l1 (k : Nat) (a0 : dChange) : Nat → Int → Option (Except ((List Int) × Int) Unit)
 | 0, _ => none
 | n + 1, y5 =>
  if y5 ≤ (a0.1.length : Int) then (bE (α := Unit) ((ref_picks k k (0 : Int) (a0.1.length : Int) y5).bind fun r9 =>
  ref_Gives_l2 k a0 r9 k (0 : Int)) (fun e => some (.error e)) fun _ =>
  (ck (y5 + (1 : Int))).bind fun x17 =>
  ref_Gives_l1 k a0 n x17) else (some (.ok ()))
def ref_Gives (k : Nat) (a0 : dChange) : Option ((List Int) × Int) :=
 (ref_asked k a0).bind fun r2 =>
 if ¬ (r2 = (0 : Int)) then (some ([], r2)) else (bE (α := Unit) (ref_Gives_l1 k a0 k (0 : Int)) (some) fun _ =>
 some ([], (11 : Int)))

theorem ref_Gives_ok (k : Nat) (a0 : dChange) (r : (List Int) × Int) (h : ref_Gives k a0 = some r) :
 Ctr Tryz.prog 46 [.rep tChange a0] [] (fun _ : Unit => (resA [Ri r.1, I r.2], [])) := by
 unfold ref_Gives at h;replace h := b_top h;refine Ctr.of 48 Tryz.func46 rfl Tryz.ntmps46 rfl fun S w0 => ?_;refine sr (bx fun b1 => ?_);refine cq ?_;refine cq (nt (JC.seq (sr ?_)));refine lo sz26 ?_;obtain ⟨r2, er2, h⟩ := b_bind h;refine ja (o_call [.tmp 10] rfl rfl en53 rfl (ref_asked_ok k a0 r2 er2)) ?_;refine aq (nt (sr ?_));refine mq ?_;refine jb (o_neq rfl) ?_;refine nt (cn h (fun h => ?_) (fun h => ?_))
 ·refine sr (mq ?_);refine cq ?_;refine aq (nt (rx ?_));refine JN.se (SE.ent (t := (.slice (.int .i64))) (x := []) 2 rfl .nil rfl rfl) ?_;cases h;exact rb
 ·refine sk (JC.cutE (Z := Unit) (α := Unit) (fun z4 x3 => []) (fun z4 x3 => []) (fun e => e = r) h (fun e h => Option.some.inj h) (fun K hR h => ?_) (fun z4 x3 h => ?_))
  ·refine sr (cq (nt (JC.block ?_)));refine JC.loopB (Z := Unit) (α := Int) (fun z6 y5 => [(1, Pt b1), (5, I y5)]) (fun z6 y5 => [.obj b1 26 (.rep tChange a0)]) (ref_Gives_l1 k a0) k () (0 : Int) (fun _ => rfl) h (SE.fin [0] ⟨rfl, rfl, trivial⟩ rfl) (fun n z6 y5 h => ?_);unfold ref_Gives_l1 at h;refine JC.seq (sr (mq ?_));refine fl fo26_0 ?_;refine lo sz22 ?_;refine ol U22 ?_;refine jb (o_leq rfl) ?_;refine nt (ci h (fun h => ?_) (fun h => ?_))
   ·refine sk (JC.cutE (Z := Unit) (α := Unit) (fun z8 x7 => [(1, Pt b1), (5, I y5)]) (fun z8 x7 => [.obj b1 26 (.rep tChange a0)]) (fun e => e = r) h (fun e h => hR e h) (fun K hR h => ?_) (fun z8 x7 h => ?_))
    ·refine JC.block (sr (fl fo26_0 ?_));refine lo sz22 ?_;refine ol U22 ?_;refine mq ?_;obtain ⟨r9, er9, h⟩ := b_bind h;refine jc (o_call [.const (.int .i64 (0)), .tmp 24, .tmp 25] rfl rfl en86 rfl (ref_picks_ok k k (0 : Int) (a0.1.length : Int) y5 r9 er9)) ?_;refine aq (nt (sr ?_));refine cq (nt (JC.block ?_));refine JC.loopB (Z := Unit) (α := Int) (fun z11 y10 => [(1, Pt b1), (5, I y5), (6, .rep (.slice (.slice (.int .i64))) r9), (7, I y10)]) (fun z11 y10 => [.obj b1 26 (.rep tChange a0)]) (ref_Gives_l2 k a0 r9) k () (0 : Int) (fun _ => rfl) h (SE.fin [0] ⟨rfl, rfl, rfl, rfl, trivial⟩ rfl) (fun n z11 y10 h => ?_);unfold ref_Gives_l2 at h;refine JC.seq (sr ?_);iterate 2 refine mq ?_
     refine ol U57 ?_;refine jb (o_lss rfl) ?_;refine nt (ci h (fun h => ?_) (fun h => ?_))
     ·refine sk (JC.seq (JC.block (JC.seq (JC.drawN ?_))));refine ea 0 (o_load_obj rfl sz26 (nfn) rfl) ?_;refine dm ?_;refine dm ?_;obtain ⟨x12, ex12, h⟩ := b_bind h;refine db (o_index (t := (.slice (.int .i64))) rfl U57 sz24 ex12) ?_;refine da (o_load_at (t := (.slice (.int .i64))) rfl sz24 rfl) ?_;obtain ⟨r13, er13, h⟩ := b_bind h;refine db (o_call [.tmp 34, .tmp 38] rfl rfl en87 rfl (ref_Without_ok k a0 x12 r13 er13)) ?_;obtain ⟨r14, er14, h⟩ := b_bind h;refine da (o_call [.tmp 39] rfl rfl en84 rfl (ref_kept_ok k r13 r14 er14)) ?_;refine dm ?_;refine da (o_extract rfl rfl) ?_;refine da (o_extract rfl rfl) ?_;refine da (o_assign rfl) ?_;refine df mixed ?_;refine aq (nt (sr ?_));refine mq (nt ?_);refine cv h (fun h => ?_) (fun h => ?_)
      ·refine sr ?_;iterate 2 refine mq ?_
       obtain ⟨x15, ex15, h⟩ := b_bind h;refine jb (o_index (t := (.slice (.int .i64))) rfl U57 sz24 ex15) ?_;refine ja (o_load_at (t := (.slice (.int .i64))) rfl sz24 rfl) ?_;refine aq ?_;refine cq (nt (JC.ret (br (JN.blk_r (br (JN.blk_r (JN.then_r ?_)))))));obtain rfl := hR _ h;exact rb
      ·refine JC.skip (JN.blk_n (tn (JC.region (mq ?_))));obtain ⟨x16, ex16, h⟩ := b_bind h;refine jb (o_add rfl ex16) ?_;refine aq (nl ?_);exact jz ((), x16) h [0]
     ·refine JC.exit (JN.then_x (JN.then_x (JN.blk_hit (bn ?_))));exact jz ((), ()) h [0]
    ·refine JC.region (mq ?_);obtain ⟨x17, ex17, h⟩ := b_bind h;refine jb (o_add rfl ex17) ?_;refine aq (nl ?_);exact jz ((), x17) h [0]
   ·refine xa ?_;exact jz ((), ()) h []
  ·refine sr (cq ?_);refine cq (nt (JC.ret ?_));refine JN.se (SE.ent (t := (.slice (.int .i64))) (x := []) 2 rfl .nil rfl rfl) ?_;cases h;exact rb


def law_ChangeLates_l1 (k : Nat) (r8 : (List dChange) × dLots) (r10 : (List (List dStep)) × dLots) : Nat → Int → Option (Except Bool Unit)
 | 0, _ => none
 | n + 1, y13 =>
  if y13 < (3 : Int) then ((geti r8.1 y13).bind fun x15 =>
  (kit_CopyChangeF k x15).bind fun r16 =>
  (geti r10.1 y13).bind fun x17 =>
  (kit_CopySteps k x17).bind fun r18 =>
  (chg_Late k r16 r18).bind fun r20 =>
  (geti r8.1 y13).bind fun x21 =>
  (geti r10.1 y13).bind fun x22 =>
  (ref_Late k x21 x22).bind fun r23 =>
  (chg_Kept k r16).bind fun r24 =>
  (geti r8.1 y13).bind fun x25 =>
  (ref_Kept k x25).bind fun r26 =>
  ((if ¬ (r20.1 = r23.1) then (some true) else (if ¬ (r20.2.1 = r23.2.1) then (some true) else (if ¬ (r20.2.2 = r23.2.2) then (some true) else (if ¬ (r24.2 = r26.2) then (some true) else ((kit_SameSteps k r24.1 r26.1).bind fun r29 =>
  some (!r29)))))) : Option (Bool)).bind fun x27 =>
  if x27 = true then (some (.error false)) else ((chg_Gives k r16).bind fun r30 =>
  (geti r8.1 y13).bind fun x31 =>
  (ref_Gives k x31).bind fun r32 =>
  ((if ¬ (r30.2 = r32.2) then (some true) else ((kit_SameInts k r30.1 r32.1).bind fun r35 =>
  if ¬ (r35 = true) then (some true) else ((geti r8.1 y13).bind fun x36 =>
  (kit_SameChanges k r16 x36).bind fun r37 =>
  if ¬ (r37 = true) then (some true) else ((geti r10.1 y13).bind fun x38 =>
  (kit_SameSteps k r18 x38).bind fun r39 =>
  some (!r39))))) : Option (Bool)).bind fun x33 =>
  if x33 = true then (some (.error false)) else ((ck (y13 + (1 : Int))).bind fun x40 =>
  law_ChangeLates_l1 k r8 r10 n x40))) else (some (.ok ()))
def law_ChangeLates (k : Nat) (a0 : dChange) (a1 : (List dStep)) (a2 : (List Int)) : Option Bool :=
 (((law_long k a0).bind fun r4 =>
 if r4 = true then (some true) else (some (decide ((20 : Int) < (a1.length : Int))))) : Option (Bool)).bind fun x2 =>
 if x2 = true then ((law_dressed k).bind fun r5 =>
 some r5) else ((kit_NewLots k a2).bind fun r6 =>
 (law_sets k a0 (r6.1, r6.2.1, r6.2.2)).bind fun r8 =>
 (geti r8.1 (1 : Int)).bind fun x9 =>
 (law_planned k a1 x9 (r8.2.1, r8.2.2.1, r8.2.2.2)).bind fun r10 =>
 bE (α := Unit) (law_ChangeLates_l1 k r8 r10 k (0 : Int)) (some) fun _ =>
 (law_dressed k).bind fun r41 =>
 some r41)

theorem law_ChangeLates_ok (k : Nat) (a0 : dChange) (a1 : (List dStep)) (a2 : (List Int)) (r : Bool) (h : law_ChangeLates k a0 a1 a2 = some r) :
 Ctr Tryz.prog 8 [.rep tChange a0, Rs tStep a1, Ri a2] [] (fun _ : Unit => (resA [.eq (.bool r)], [])) := by
 unfold law_ChangeLates at h;replace h := b_top h;refine Ctr.of 156 Tryz.func8 rfl Tryz.ntmps8 rfl fun S w0 => ?_;refine sr (bx fun b1 => ?_);refine cq (nt (JC.seq ?_));refine JC.cutB (Z := Unit) (α := Bool) (fun z3 x2 => [(1, Rs tStep a1), (2, Ri a2), (3, Pt b1), (31, .eq (.bool x2))]) (fun z3 x2 => [.obj b1 26 (.rep tChange a0)]) h (fun K h => ?_) (fun z3 x2 h => ?_)
 ·refine JC.region (lo sz26 ?_);obtain ⟨r4, er4, h⟩ := b_bind h;refine ja (o_call [.tmp 25] rfl rfl en9 rfl (law_long_ok k a0 r4 er4)) ?_;refine mq ?_;refine JO.bool (s := 27) rfl (fun hb => ?_) (fun hb => ?_)
  ·replace h := b_if (v_t hb) h;iterate 3 refine gn ?_
   refine pt (nl ?_);exact jz ((), true) h [0]
  ·replace h := b_ifn (v_f hb) h;refine gm ?_;refine ga (o_len rfl rfl U34) ?_;refine gb (o_gtr rfl) ?_;refine pf (nl ?_);exact jz ((), decide ((20 : Int) < (a1.length : Int))) h [0]
 ·refine cv h (fun h => ?_) (fun h => ?_)
  ·refine sr ?_;obtain ⟨r5, er5, h⟩ := b_bind h;refine JO.s rfl (o_call [] rfl rfl en10 rfl (law_dressed_ok k  r5 er5)) trivial ?_;refine aq (nt (rx ?_));cases h;exact ra
  ·refine sk (sr (mq ?_));obtain ⟨r6, er6, h⟩ := b_bind h;refine JO.s01 rfl rfl rfl (o_call [.tmp 33] rfl rfl en12 rfl (kit_NewLots_ok k a2 r6 er6)) ⟨rfl, trivial⟩ fun b7 => ?_;refine aq (nt (sr ?_));refine fr 1 ?_;refine lo sz26 ?_;refine mq ?_;obtain ⟨r8, er8, h⟩ := b_bind h;refine fr 1 ?_;refine kb (o_call [.tmp 35, .tmp 36] rfl rfl en11 rfl (law_sets_ok k a0 (r6.1, r6.2.1, r6.2.2) b7 r8 er8)) ?_;refine aq (nt (sr ?_));iterate 2 refine mq ?_
   obtain ⟨x9, ex9, h⟩ := b_bind h;refine jb (o_index (t := tChange) rfl U29 sz26 ex9) ?_;refine ja (o_load_at (t := tChange) rfl sz26 rfl) ?_;refine mq ?_;obtain ⟨r10, er10, h⟩ := b_bind h;refine kc (o_call [.tmp 38, .tmp 41, .tmp 42] rfl rfl en18 rfl (law_planned_ok k a1 x9 (r8.2.1, r8.2.2.1, r8.2.2.2) b7 r10 er10)) ?_;refine aq (nt ?_);refine JC.cutE (Z := Unit) (α := Unit) (fun z12 x11 => []) (fun z12 x11 => []) (fun e => e = r) h (fun e h => Option.some.inj h) (fun K hR h => ?_) (fun z12 x11 h => ?_)
   ·refine sr (cq (nt (JC.block ?_)));refine JC.loopB (Z := Unit) (α := Int) (fun z14 y13 => [(8, Rs tChange r8.1), (9, .rep (.slice (.slice tStep)) r10.1), (10, I y13)]) (fun z14 y13 => []) (law_ChangeLates_l1 k r8 r10) k () (0 : Int) (fun _ => rfl) h (SE.fin [] ⟨rfl, rfl, rfl, trivial⟩ rfl) (fun n z14 y13 h => ?_);unfold law_ChangeLates_l1 at h;refine JC.seq (sr (mq ?_));refine jb (o_lss rfl) ?_;refine nt (ci h (fun h => ?_) (fun h => ?_))
    ·refine sk (JC.seq (JC.block (JC.seq (JC.drawW ?_))));refine DW.t00 rfl rfl rfl (o_move rfl) ⟨rfl, trivial⟩ ?_;refine DW.t00 rfl rfl rfl (o_move rfl) ⟨rfl, trivial⟩ ?_;obtain ⟨x15, ex15, h⟩ := b_bind h;refine DW.t00 rfl rfl rfl (o_index (t := tChange) rfl U29 sz26 ex15) ⟨rfl, rfl, trivial⟩ ?_;refine DW.t00 rfl rfl rfl (o_load_at (t := tChange) rfl sz26 rfl) ⟨rfl, trivial⟩ ?_;obtain ⟨r16, er16, h⟩ := b_bind h;refine DW.t00 rfl rfl rfl (o_call [.tmp 51] rfl rfl en13 rfl (kit_CopyChangeF_ok k x15 r16 er16)) ⟨rfl, trivial⟩ ?_;refine DW.t00 rfl rfl rfl (o_move rfl) ⟨rfl, trivial⟩ ?_;refine DW.t00 rfl rfl rfl (o_move rfl) ⟨rfl, trivial⟩ ?_;obtain ⟨x17, ex17, h⟩ := b_bind h;refine DW.t00 rfl rfl rfl (o_index (t := (.slice tStep)) rfl U41 sz34 ex17) ⟨rfl, rfl, trivial⟩ ?_;refine DW.t00 rfl rfl rfl (o_load_at (t := (.slice tStep)) rfl sz34 rfl) ⟨rfl, trivial⟩ ?_;obtain ⟨r18, er18, h⟩ := b_bind h;refine DW.t00 rfl rfl rfl (OpT.frz (o_call [.tmp 56] rfl rfl en19 rfl (kit_CopySteps_ok k x17 r18 er18))) ⟨rfl, trivial⟩ ?_;refine DW.tNew (ptrD 26 N4) (fun _ => rfl) rfl rfl rfl (o_alloc rfl za26 al26) trivial ?_;refine DW.fin 11 [true, true, true, true, true, true, true, true, true, true, true] [12] [] [] rfl (by kernel_rfl) (by kernel_rfl) (by kernel_rfl) mixed (fun vs hv hB => ?_);obtain ⟨w0, vs1, rfl, hv1⟩ := len_cons hv;obtain ⟨w1, vs2, rfl, hv2⟩ := len_cons hv1;obtain ⟨w2, vs3, rfl, hv3⟩ := len_cons hv2;obtain ⟨w3, vs4, rfl, hv4⟩ := len_cons hv3;obtain ⟨w4, vs5, rfl, hv5⟩ := len_cons hv4;obtain ⟨w5, vs6, rfl, hv6⟩ := len_cons hv5;obtain ⟨w6, vs7, rfl, hv7⟩ := len_cons hv6;obtain ⟨w7, vs8, rfl, hv8⟩ := len_cons hv7;obtain ⟨w8, vs9, rfl, hv9⟩ := len_cons hv8;obtain ⟨w9, vs10, rfl, hv10⟩ := len_cons hv9;obtain ⟨w10, vs11, rfl, hv11⟩ := len_cons hv10;obtain rfl := len_nil hv11;obtain ⟨b19, rfl⟩ := ptr_of hB.2.2.2.2.2.2.2.2.2.2.1;refine ⟨[0], [.obj b19 26 N4], by kernel_rfl, by decide, ?_⟩;refine JT.n11 rfl rfl (o_store rfl sz26 rfl rfl rfl) ⟨rfl, rfl, trivial⟩ (by kernel_rfl) ?_;refine JT.y00 rfl rfl rfl rfl (o_assign rfl) ⟨rfl, trivial⟩ (by kernel_rfl) ?_;refine JT.nil ?_;refine JN.se (SE.fin (Γ' := [(8, Rs tChange r8.1), (9, .rep (.slice (.slice tStep)) r10.1), (10, I y13), (11, Pt b19), (12, Rs tStep r18)]) (Δ' := [.obj b19 26 (.rep tChange r16)]) [0] ⟨rfl, rfl, rfl, rfl, rfl, trivial⟩ rfl) ?_;refine tn (sr (lo sz26 ?_));refine mq ?_;obtain ⟨r20, er20, h⟩ := b_bind h;refine jb (o_call [.tmp 59, .tmp 60] rfl rfl en41 rfl (chg_Late_ok k r16 r18 r20 er20)) ?_;refine mq ?_;refine xr ?_;refine xr ?_;refine xr ?_;refine aq ?_;refine aq ?_;refine aq (nt (JC.seq ?_));refine JC.drawN ?_;refine dm ?_;refine dm ?_;obtain ⟨x21, ex21, h⟩ := b_bind h;refine db (o_index (t := tChange) rfl U29 sz26 ex21) ?_;refine da (o_load_at (t := tChange) rfl sz26 rfl) ?_;refine dm ?_;refine dm ?_;obtain ⟨x22, ex22, h⟩ := b_bind h;refine db (o_index (t := (.slice tStep)) rfl U41 sz34 ex22) ?_;refine da (o_load_at (t := (.slice tStep)) rfl sz34 rfl) ?_;obtain ⟨r23, er23, h⟩ := b_bind h;refine db (o_call [.tmp 69, .tmp 73] rfl rfl en42 rfl (ref_Late_ok k x21 x22 r23 er23)) ?_;refine dm ?_;refine da (o_extract rfl rfl) ?_;refine da (o_extract rfl rfl) ?_;refine da (o_extract rfl rfl) ?_;refine da (o_assign rfl) ?_;refine da (o_assign rfl) ?_;refine df mixed ?_;refine aq (nt (sr ?_));refine lo sz26 ?_;obtain ⟨r24, er24, h⟩ := b_bind h;refine ja (o_call [.tmp 79] rfl rfl en43 rfl (chg_Kept_ok k r16 r24 er24)) ?_;refine mq ?_;refine xr ?_;refine xr ?_;refine aq ?_;refine aq (nt (sr ?_));iterate 2 refine mq ?_
     obtain ⟨x25, ex25, h⟩ := b_bind h;refine jb (o_index (t := tChange) rfl U29 sz26 ex25) ?_;refine ja (o_load_at (t := tChange) rfl sz26 rfl) ?_;obtain ⟨r26, er26, h⟩ := b_bind h;refine ja (o_call [.tmp 87] rfl rfl en44 rfl (ref_Kept_ok k x25 r26 er26)) ?_;refine mq ?_;refine xr ?_;refine xr ?_;refine aq ?_;refine aq (nt (JC.seq ?_));refine JC.cutB (Z := Unit) (α := Bool) (fun z28 x27 => [(8, Rs tChange r8.1), (9, .rep (.slice (.slice tStep)) r10.1), (10, I y13), (11, Pt b19), (12, Rs tStep r18), (114, .eq (.bool x27))]) (fun z28 x27 => [.obj b19 26 (.rep tChange r16)]) h (fun K h => ?_) (fun z28 x27 h => ?_)
     ·refine JC.region ?_;iterate 2 refine mq ?_
      refine jb (o_neq rfl) ?_;refine mq ?_;refine JO.bool (s := 94) rfl (fun hb => ?_) (fun hb => ?_)
      ·replace h := b_if (n_t hb) h;iterate 3 refine gn ?_
       refine pt ?_;refine mq ?_;iterate 3 refine gn ?_
       refine pt ?_;refine mq ?_;iterate 3 refine gn ?_
       refine pt ?_;refine mq ?_;iterate 4 refine gn ?_
       refine pt (nl ?_);exact jz ((), true) h [0]
      ·replace h := b_ifn (n_fn hb) h;refine gm ?_;refine gm ?_;refine gb (o_neq rfl) ?_;refine pf ?_;refine mq ?_;refine JO.bool (s := 99) rfl (fun hb => ?_) (fun hb => ?_)
       ·replace h := b_if (n_t hb) h;iterate 3 refine gn ?_
        refine pt ?_;refine mq ?_;iterate 3 refine gn ?_
        refine pt ?_;refine mq ?_;iterate 4 refine gn ?_
        refine pt (nl ?_);exact jz ((), true) h [0]
       ·replace h := b_ifn (n_fn hb) h;refine gm ?_;refine gm ?_;refine gb (o_neq rfl) ?_;refine pf ?_;refine mq ?_;refine JO.bool (s := 104) rfl (fun hb => ?_) (fun hb => ?_)
        ·replace h := b_if (n_t hb) h;iterate 3 refine gn ?_
         refine pt ?_;refine mq ?_;iterate 4 refine gn ?_
         refine pt (nl ?_);exact jz ((), true) h [0]
        ·replace h := b_ifn (n_fn hb) h;refine gm ?_;refine gm ?_;refine gb (o_neq rfl) ?_;refine pf ?_;refine mq ?_;refine JO.bool (s := 109) rfl (fun hb => ?_) (fun hb => ?_)
         ·replace h := b_if (n_t hb) h;iterate 4 refine gn ?_
          refine pt (nl ?_);exact jz ((), true) h [0]
         ·replace h := b_ifn (n_fn hb) h;refine gm ?_;refine gm ?_;obtain ⟨r29, er29, h⟩ := b_bind h;refine gb (o_call [.tmp 110, .tmp 111] rfl rfl en16 rfl (kit_SameSteps_ok k r24.1 r26.1 r29 er29)) ?_;refine ga (o_not rfl) ?_;refine pf (nl ?_);exact jz ((), !r29) h [0]
     ·refine cv h (fun h => ?_) (fun h => ?_)
      ·refine sr (cq (nt (rx (br (JN.blk_r (JN.then_r ?_))))));obtain rfl := hR _ h;exact ra
      ·refine sk (sr (lo sz26 ?_));obtain ⟨r30, er30, h⟩ := b_bind h;refine ja (o_call [.tmp 116] rfl rfl en45 rfl (chg_Gives_ok k r16 r30 er30)) ?_;refine mq ?_;refine xr ?_;refine xr ?_;refine aq ?_;refine aq (nt (sr ?_));iterate 2 refine mq ?_
       obtain ⟨x31, ex31, h⟩ := b_bind h;refine jb (o_index (t := tChange) rfl U29 sz26 ex31) ?_;refine ja (o_load_at (t := tChange) rfl sz26 rfl) ?_;obtain ⟨r32, er32, h⟩ := b_bind h;refine ja (o_call [.tmp 124] rfl rfl en46 rfl (ref_Gives_ok k x31 r32 er32)) ?_;refine mq ?_;refine xr ?_;refine xr ?_;refine aq ?_;refine aq (nt ?_);refine JC.cutB (Z := Unit) (α := Bool) (fun z34 x33 => [(8, Rs tChange r8.1), (9, .rep (.slice (.slice tStep)) r10.1), (10, I y13), (154, .eq (.bool x33))]) (fun z34 x33 => []) h (fun K h => ?_) (fun z34 x33 h => ?_)
       ·refine JC.drawN ?_;refine dm ?_;refine dm ?_;refine db (o_neq rfl) ?_;refine DN.fork rfl rfl rfl (o_move rfl) ⟨rfl, trivial⟩ (fun hb => ?_) (fun hb => ?_)
        ·replace h := b_if (n_t hb) h;iterate 4 refine dg ?_
         refine db (o_pick_t rfl) ?_;refine dm ?_;iterate 7 refine dg ?_
         refine db (o_pick_t rfl) ?_;refine dm ?_;iterate 5 refine dg ?_
         refine df mixed ?_;iterate 2 refine gn ?_
         refine pt (nl ?_);exact jz ((), true) h []
        ·replace h := b_ifn (n_fn hb) h;refine DN.sg00 rfl rfl rfl rfl rfl (o_move rfl) ⟨rfl, rfl, trivial⟩ ?_;refine DN.sg00 rfl rfl rfl rfl rfl (o_move rfl) ⟨rfl, rfl, trivial⟩ ?_;obtain ⟨r35, er35, h⟩ := b_bind h;refine DN.sg00 rfl rfl rfl rfl rfl (o_call [.tmp 132, .tmp 133] rfl rfl en22 rfl (kit_SameInts_ok k r30.1 r32.1 r35 er35)) ⟨rfl, rfl, rfl, trivial⟩ ?_;refine DN.sg00 rfl rfl rfl rfl rfl (o_not rfl) ⟨rfl, rfl, trivial⟩ ?_;refine db (o_pick_f rfl) ?_;refine DN.fork rfl rfl rfl (o_move rfl) ⟨rfl, trivial⟩ (fun hb => ?_) (fun hb => ?_)
         ·replace h := b_if (nv_t hb) h;iterate 7 refine dg ?_
          refine db (o_pick_t rfl) ?_;refine dm ?_;iterate 5 refine dg ?_
          refine df mixed ?_;iterate 2 refine gn ?_
          refine pt (nl ?_);exact jz ((), true) h []
         ·replace h := b_ifn (nv_fn hb) h;refine DN.sg11 0 rfl rfl rfl rfl rfl rfl (o_load_obj rfl sz26 (nfn) rfl) ⟨rfl, rfl, trivial⟩ ?_;refine DN.sg00 rfl rfl rfl rfl rfl (o_move rfl) ⟨rfl, rfl, trivial⟩ ?_;refine DN.sg00 rfl rfl rfl rfl rfl (o_move rfl) ⟨rfl, rfl, trivial⟩ ?_;obtain ⟨x36, ex36, h⟩ := b_bind h;refine DN.sg00 rfl rfl rfl rfl rfl (o_index (t := tChange) rfl U29 sz26 ex36) ⟨rfl, rfl, rfl, trivial⟩ ?_;refine DN.sg00 rfl rfl rfl rfl rfl (o_load_at (t := tChange) rfl sz26 rfl) ⟨rfl, rfl, trivial⟩ ?_;obtain ⟨r37, er37, h⟩ := b_bind h;refine DN.sg00 rfl rfl rfl rfl rfl (o_call [.tmp 138, .tmp 142] rfl rfl en17 rfl (kit_SameChanges_ok k r16 x36 r37 er37)) ⟨rfl, rfl, rfl, trivial⟩ ?_;refine DN.sg00 rfl rfl rfl rfl rfl (o_not rfl) ⟨rfl, rfl, trivial⟩ ?_;refine db (o_pick_f rfl) ?_;refine DN.fork rfl rfl rfl (o_move rfl) ⟨rfl, trivial⟩ (fun hb => ?_) (fun hb => ?_)
          ·replace h := b_if (nv_t hb) h;iterate 5 refine dg ?_
           refine df mixed ?_;iterate 2 refine gn ?_
           refine pt (nl ?_);exact jz ((), true) h []
          ·replace h := b_ifn (nv_fn hb) h;refine DN.sg00 rfl rfl rfl rfl rfl (o_move rfl) ⟨rfl, rfl, trivial⟩ ?_;refine DN.sg00 rfl rfl rfl rfl rfl (o_move rfl) ⟨rfl, rfl, trivial⟩ ?_;refine DN.sg00 rfl rfl rfl rfl rfl (o_move rfl) ⟨rfl, rfl, trivial⟩ ?_;obtain ⟨x38, ex38, h⟩ := b_bind h;refine DN.sg00 rfl rfl rfl rfl rfl (o_index (t := (.slice tStep)) rfl U41 sz34 ex38) ⟨rfl, rfl, rfl, trivial⟩ ?_;refine DN.sg00 rfl rfl rfl rfl rfl (o_load_at (t := (.slice tStep)) rfl sz34 rfl) ⟨rfl, rfl, trivial⟩ ?_;refine df mixed ?_;obtain ⟨r39, er39, h⟩ := b_bind h;refine gb (o_call [.tmp 147, .tmp 151] rfl rfl en16 rfl (kit_SameSteps_ok k r18 x38 r39 er39)) ?_;refine ga (o_not rfl) ?_;refine pf (nl ?_);exact jz ((), !r39) h []
       ·refine cv h (fun h => ?_) (fun h => ?_)
        ·refine sr (cq (nt (JC.ret (br (JN.blk_r (JN.then_r ?_))))));obtain rfl := hR _ h;exact ra
        ·refine JC.skip (JN.blk_n (tn (JC.region (mq ?_))));obtain ⟨x40, ex40, h⟩ := b_bind h;refine jb (o_add rfl ex40) ?_;refine aq (nl ?_);exact jz ((), x40) h []
    ·refine xa ?_;exact jz ((), ()) h []
   ·refine sr ?_;obtain ⟨r41, er41, h⟩ := b_bind h;refine JO.s rfl (o_call [] rfl rfl en10 rfl (law_dressed_ok k  r41 er41)) trivial ?_;refine aq (nt (JC.ret ?_));cases h;exact ra


end Go.Proofs.YtfhdclhbdmhnmaaGreat
