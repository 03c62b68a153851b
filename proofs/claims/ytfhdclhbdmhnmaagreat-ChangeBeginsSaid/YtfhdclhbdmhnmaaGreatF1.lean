/- The program's functions, part 3: what each computes, and that the code computes it. Printed by a program of this proof's own. -/
import Derived.Test.YtfhdclhbdmhnmaaGreatP2
set_option linter.unusedVariables false
set_option maxRecDepth 4000
namespace Go.Proofs.YtfhdclhbdmhnmaaGreat
open K Go Go.Proofs
def kit_PlanOf_l4 (k : Nat) (y6 : (List Int) × Int × Int × (List dStep)) (y21 : Bool × Int) : Nat → (Bool × Int) → Option Bool
 | 0, _ => none
 | n + 1, y29 =>
  if y29.2 < (y6.2.2.2.length : Int) then (((if y29.1 = true then (some true) else ((geti y6.2.2.2 y29.2).bind fun x33 =>
  some (decide (x33.1 = y21.2)))) : Option (Bool)).bind fun x31 =>
  (ck (y29.2 + (1 : Int))).bind fun x34 =>
  kit_PlanOf_l4 k y6 y21 n (x31, x34)) else (some y29.1)

def kit_PlanOf_l3 (k : Nat) (a1 : dChange) (r2 : (List dTask)) (r3 : (List Int) × dLots) (y6 : (List Int) × Int × Int × (List dStep)) (y12 : Int × Int) (x17 : dTask) : Nat → (Bool × Int) → Option Bool
 | 0, _ => none
 | n + 1, y21 =>
  if y21.2 < (r2.length : Int) then ((((geti r2 y21.2).bind fun x25 =>
  ((kit_PlanOf_l4 k y6 y21 k (false, (0 : Int))) : Option (Bool)).bind fun x27 =>
  (geti r3.1 y12.2).bind fun x35 =>
  if y21.2 = x35 then (((if y21.1 = true then (some (!x27)) else (some false)) : Option (Bool)).bind fun x36 =>
  some x36) else (((if x25.1 = x17.1 then (if ¬ (x25.2 = true) then (some true) else (if ¬ (x25.2 = true) then ((geti a1.1 x17.1).bind fun x40 =>
  (kit_At k x40.1 x25.1).bind fun r41 =>
  if (0 : Int) ≤ r41 then (some true) else (if x17.2 = true then ((geti a1.1 x25.1).bind fun x42 =>
  (kit_At k x42.1 x17.1).bind fun r43 =>
  some (decide ((0 : Int) ≤ r43))) else (some false))) else (if x17.2 = true then ((geti a1.1 x25.1).bind fun x44 =>
  (kit_At k x44.1 x17.1).bind fun r45 =>
  some (decide ((0 : Int) ≤ r45))) else (some false)))) else (if ¬ (x25.2 = true) then ((geti a1.1 x17.1).bind fun x46 =>
  (kit_At k x46.1 x25.1).bind fun r47 =>
  if (0 : Int) ≤ r47 then (some true) else (if x17.2 = true then ((geti a1.1 x25.1).bind fun x48 =>
  (kit_At k x48.1 x17.1).bind fun r49 =>
  some (decide ((0 : Int) ≤ r49))) else (some false))) else (if x17.2 = true then ((geti a1.1 x25.1).bind fun x50 =>
  (kit_At k x50.1 x17.1).bind fun r51 =>
  some (decide ((0 : Int) ≤ r51))) else (some false)))) : Option (Bool)).bind fun x38 =>
  if y21.1 = true then (if x27 = true then (some true) else (some (!x38))) else (some false))) : Option (Bool)).bind fun x23 =>
  (ck (y21.2 + (1 : Int))).bind fun x52 =>
  kit_PlanOf_l3 k a1 r2 r3 y6 y12 x17 n (x23, x52)) else (some y21.1)

def kit_PlanOf_l2 (k : Nat) (a1 : dChange) (r2 : (List dTask)) (r3 : (List Int) × dLots) (y6 : (List Int) × Int × Int × (List dStep)) : Nat → (Int × Int) → Option Int
 | 0, _ => none
 | n + 1, y12 =>
  if y12.2 < (r3.1.length : Int) then ((((geti r3.1 y12.2).bind fun x16 =>
  (geti r2 x16).bind fun x17 =>
  ((kit_PlanOf_l3 k a1 r2 r3 y6 y12 x17 k (true, (0 : Int))) : Option (Bool)).bind fun x19 =>
  ((if x19 = true then (some (decide (y12.1 < (0 : Int)))) else (some false)) : Option (Bool)).bind fun x53 =>
  if x53 = true then ((geti r3.1 y12.2).bind fun x55 =>
  some x55) else (some y12.1)) : Option (Int)).bind fun x14 =>
  (ck (y12.2 + (1 : Int))).bind fun x56 =>
  kit_PlanOf_l2 k a1 r2 r3 y6 n (x14, x56)) else (some y12.1)

def kit_PlanOf_l5 (k : Nat) (a1 : dChange) (r2 : (List dTask)) (x10 : Int) : Nat → (Int × Int) → Option Int
 | 0, _ => none
 | n + 1, y61 =>
  if y61.2 < (a1.2.1.length : Int) then ((geti a1.2.1 y61.1).bind fun x63 =>
  (geti r2 x10).bind fun x64 =>
  (geti a1.1 x64.1).bind fun x65 =>
  (((geti r2 x10).bind fun x69 =>
  (kit_At k x63.1 x69.1).bind fun r70 =>
  if (0 : Int) ≤ r70 then (if x65.2.2.2.1 = (0 : Int) then (some true) else (if x63.2.1 = (0 : Int) then (some true) else (some (decide (x65.2.2.2.1 = x63.2.1))))) else (some false)) : Option (Bool)).bind fun x67 =>
  if x67 = true then (some y61.1) else ((ck (y61.1 + (1 : Int))).bind fun x71 =>
  (chkP ((a1.2.1.length : Int) ≠ 0)).bind fun _ =>
  (ck (y61.2 + (1 : Int))).bind fun x73 =>
  kit_PlanOf_l5 k a1 r2 x10 n (Int.tmod x71 (a1.2.1.length : Int), x73))) else (some y61.1)

def kit_PlanOf_l1 (k : Nat) (a1 : dChange) (r2 : (List dTask)) (r3 : (List Int) × dLots) : Nat → ((List Int) × Int × Int × (List dStep)) → Option (Except ((List dStep) × dLots) ((List dStep) × (List Int) × Int × Int))
 | 0, _ => none
 | n + 1, y6 =>
  if (y6.2.2.2.length : Int) < (r2.length : Int) then (bE (α := (List Int) × Int × Int × (List dStep)) (((kit_PlanOf_l2 k a1 r2 r3 y6 k ((-1 : Int), (0 : Int))) : Option (Int)).bind fun x10 =>
  if x10 < (0 : Int) then (some (.error (y6.2.2.2, (y6.1, y6.2.1, y6.2.2.1)))) else ((ck ((a1.2.1.length : Int) - (1 : Int))).bind fun x57 =>
  (kit_Lots_Upto k (y6.1, y6.2.1, y6.2.2.1) x57).bind fun r58 =>
  ((kit_PlanOf_l5 k a1 r2 x10 k (r58.1, (0 : Int))) : Option (Int)).bind fun x59 =>
  (chkP (okLen (List.length y6.2.2.2 + List.length [(x10, x59)]))).bind fun _ =>
  some (.ok (r58.2.1, r58.2.2.1, r58.2.2.2, y6.2.2.2 ++ [(x10, x59)])))) (fun e => some (.error e)) fun x8 =>
  kit_PlanOf_l1 k a1 r2 r3 n (x8.1, x8.2.1, x8.2.2.1, x8.2.2.2)) else (some (.ok (y6.2.2.2, y6.1, y6.2.1, y6.2.2.1)))
def kit_PlanOf (k : Nat) (a0 : dLots) (a1 : dChange) : Option ((List dStep) × dLots) :=
 (kit_TasksOf k a1).bind fun r2 =>
 (kit_Lots_Mixed k (a0.1, a0.2.1, a0.2.2) (r2.length : Int)).bind fun r3 =>
 bE (α := (List dStep) × (List Int) × Int × Int) (kit_PlanOf_l1 k a1 r2 r3 k (r3.2.1, r3.2.2.1, r3.2.2.2, ([] : (List dStep)))) (some) fun x4 =>
 some (x4.1, (x4.2.1, x4.2.2.1, x4.2.2.2))

theorem kit_PlanOf_ok (k : Nat) (a0 : dLots) (b_a0 : Nat) (a1 : dChange) (r : (List dStep) × dLots) (h : kit_PlanOf k a0 a1 = some r) :
 Ctr Tryz.prog 55 [Pt b_a0, .rep tChange a1] [.obj b_a0 79 (.agg (.pair (Ri a0.1) (.pair (I a0.2.1) (.eq (.int .u64 a0.2.2)))))] (fun _ : Unit => (resA [.rep (.slice tStep) r.1], [.obj b_a0 79 (.agg (.pair (Ri r.2.1) (.pair (I r.2.2.1) (.eq (.int .u64 r.2.2.2)))))])) := by
 unfold kit_PlanOf at h;replace h := b_top h;refine Ctr.of 212 Tryz.func55 rfl Tryz.ntmps55 rfl fun S w0 => ?_;refine sr ?_;refine bx fun b1 => ?_;refine cq (nt (sr ?_));refine lo sz26 ?_;obtain ⟨r2, er2, h⟩ := b_bind h;have cr2 := kit_TasksOf_ok k a1 r2 er2;refine ja (o_call [.tmp 21] rfl rfl en65 rfl cr2) ?_;refine aq (nt (sr ?_));refine cq (nt (sr ?_));iterate 2 refine mq ?_
 refine ol Tryz.underlying112 ?_;obtain ⟨r3, er3, h⟩ := b_bind h;have cr3 := kit_Lots_Mixed_ok k (a0.1, a0.2.1, a0.2.2) b_a0 (r2.length : Int) r3 er3;refine fr 1 ?_;refine kb (o_call [.tmp 23, .tmp 25] rfl rfl en100 rfl cr3) ?_;refine aq (nt ?_);refine JC.cutE (Z := Value) (α := (List dStep) × (List Int) × Int × Int) (fun z5 x4 => [(6, .eq z5)]) (fun z5 x4 => [.sl z5 92 tStep x4.1, .obj b_a0 79 (.agg (.pair (Ri x4.2.1) (.pair (I x4.2.2.1) (.eq (.int .u64 x4.2.2.2)))))]) (fun e => e = r) h (fun e h => Option.some.inj h) (fun K hR h => ?_) (fun z5 x4 h => ?_)
 ·refine JC.block ?_;refine JC.se (SE.nil 92 tStep) ?_;refine JC.loopB (Z := Value) (α := (List Int) × Int × Int × (List dStep)) (fun z7 y6 => [(0, Pt b_a0), (3, Pt b1), (5, .rep (.slice tTask) r2), (6, .eq z7), (7, Ri r3.1)]) (fun z7 y6 => [.obj b_a0 79 (.agg (.pair (Ri y6.1) (.pair (I y6.2.1) (.eq (.int .u64 y6.2.2.1))))), .obj b1 26 (.rep tChange a1), .sl z7 92 tStep y6.2.2.2]) (kit_PlanOf_l1 k a1 r2 r3) k (.slice none 0 0) (r3.2.1, r3.2.2.1, r3.2.2.2, ([] : (List dStep))) (fun _ => rfl) h (SE.fin [1, 2, 0] ⟨rfl, rfl, rfl, rfl, rfl, trivial⟩ rfl) (fun n z7 y6 h => ?_);unfold kit_PlanOf_l1 at h;refine JC.seq (sr (mq ?_));refine fr 2 ?_;refine ka (o_len_own rfl rfl Tryz.underlying34) ?_;refine mq ?_;refine ol Tryz.underlying112 ?_;refine jb (o_lss rfl) ?_;refine nt ?_;refine ci h (fun h => ?_) (fun h => ?_)
  ·refine sk ?_;refine JC.cutEN (Z := Value) (α := (List Int) × Int × Int × (List dStep)) (fun z9 x8 => [(0, Pt b_a0), (3, Pt b1), (5, .rep (.slice tTask) r2), (6, .eq z9), (7, Ri r3.1)]) (fun z9 x8 => [.obj b_a0 79 (.agg (.pair (Ri x8.1) (.pair (I x8.2.1) (.eq (.int .u64 x8.2.2.1))))), .obj b1 26 (.rep tChange a1), .sl z9 92 tStep x8.2.2.2]) (fun e => e = r) h (fun e h => hR e h) (fun K hR h => ?_) (fun z9 x8 h => ?_)
   ·refine JC.block (sr (cq (nt ?_)));refine JC.cutB (Z := Unit) (α := Int) (fun z11 x10 => [(0, Pt b_a0), (3, Pt b1), (5, .rep (.slice tTask) r2), (6, .eq z7), (7, Ri r3.1), (8, I x10)]) (fun z11 x10 => [.obj b_a0 79 (.agg (.pair (Ri y6.1) (.pair (I y6.2.1) (.eq (.int .u64 y6.2.2.1))))), .obj b1 26 (.rep tChange a1), .sl z7 92 tStep y6.2.2.2]) h (fun K h => ?_) (fun z11 x10 h => ?_)
    ·refine sr (cq (nt (JC.block ?_)));refine JC.loopB (Z := Unit) (α := Int × Int) (fun z13 y12 => [(0, Pt b_a0), (3, Pt b1), (5, .rep (.slice tTask) r2), (6, .eq z7), (7, Ri r3.1), (8, I y12.1), (9, I y12.2)]) (fun z13 y12 => [.obj b_a0 79 (.agg (.pair (Ri y6.1) (.pair (I y6.2.1) (.eq (.int .u64 y6.2.2.1))))), .obj b1 26 (.rep tChange a1), .sl z7 92 tStep y6.2.2.2]) (kit_PlanOf_l2 k a1 r2 r3 y6) k () ((-1 : Int), (0 : Int)) (fun _ => rfl) h (SE.fin [1, 2, 0] ⟨rfl, rfl, rfl, rfl, rfl, rfl, rfl, trivial⟩ rfl) (fun n z13 y12 h => ?_);unfold kit_PlanOf_l2 at h;refine JC.seq (sr ?_);iterate 2 refine mq ?_
     refine ol Tryz.underlying24 ?_;refine jb (o_lss rfl) ?_;refine nt ?_;refine ci h (fun h => ?_) (fun h => ?_)
     ·refine sk ?_;refine JC.cutB (Z := Unit) (α := Int) (fun z15 x14 => [(0, Pt b_a0), (3, Pt b1), (5, .rep (.slice tTask) r2), (6, .eq z7), (7, Ri r3.1), (8, I x14), (9, I y12.2)]) (fun z15 x14 => [.obj b_a0 79 (.agg (.pair (Ri y6.1) (.pair (I y6.2.1) (.eq (.int .u64 y6.2.2.1))))), .obj b1 26 (.rep tChange a1), .sl z7 92 tStep y6.2.2.2]) h (fun K h => ?_) (fun z15 x14 h => ?_)
      ·refine JC.block (sr ?_);iterate 3 refine mq ?_
       obtain ⟨x16, ex16, h⟩ := b_bind h;refine jb (o_index (t := (.int .i64)) rfl Tryz.underlying24 sz3 ex16) ?_;refine ja (o_load_at (t := (.int .i64)) rfl sz3 rfl) ?_;obtain ⟨x17, ex17, h⟩ := b_bind h;refine jb (o_index (t := tTask) rfl Tryz.underlying112 sz116 ex17) ?_;refine ja (o_load_at (t := tTask) rfl sz116 rfl) ?_;refine JO.s01 rfl rfl rfl (o_alloc rfl za116 al116) trivial fun b18 => ?_;refine JO.n11 rfl rfl (o_store rfl sz116 rfl rfl rfl) ⟨rfl, rfl, trivial⟩ ?_;refine nt (sr (cq (nt ?_)));refine JC.cutB (Z := Unit) (α := Bool) (fun z20 x19 => [(0, Pt b_a0), (3, Pt b1), (5, .rep (.slice tTask) r2), (6, .eq z7), (7, Ri r3.1), (8, I y12.1), (9, I y12.2), (11, .eq (.bool x19))]) (fun z20 x19 => [.obj b_a0 79 (.agg (.pair (Ri y6.1) (.pair (I y6.2.1) (.eq (.int .u64 y6.2.2.1))))), .obj b1 26 (.rep tChange a1), .sl z7 92 tStep y6.2.2.2]) h (fun K h => ?_) (fun z20 x19 h => ?_)
       ·refine sr (cq (nt (JC.block ?_)));refine JC.loopB (Z := Unit) (α := Bool × Int) (fun z22 y21 => [(0, Pt b_a0), (3, Pt b1), (5, .rep (.slice tTask) r2), (6, .eq z7), (7, Ri r3.1), (8, I y12.1), (9, I y12.2), (10, Pt b18), (11, .eq (.bool y21.1)), (12, I y21.2)]) (fun z22 y21 => [.obj b_a0 79 (.agg (.pair (Ri y6.1) (.pair (I y6.2.1) (.eq (.int .u64 y6.2.2.1))))), .obj b1 26 (.rep tChange a1), .sl z7 92 tStep y6.2.2.2, .obj b18 116 (.rep tTask x17)]) (kit_PlanOf_l3 k a1 r2 r3 y6 y12 x17) k () (true, (0 : Int)) (fun _ => rfl) h (SE.fin [1, 2, 3, 0] ⟨rfl, rfl, rfl, rfl, rfl, rfl, rfl, rfl, rfl, rfl, trivial⟩ rfl) (fun n z22 y21 h => ?_);unfold kit_PlanOf_l3 at h;refine JC.seq (sr ?_);iterate 2 refine mq ?_
        refine ol Tryz.underlying112 ?_;refine jb (o_lss rfl) ?_;refine nt ?_;refine ci h (fun h => ?_) (fun h => ?_)
        ·refine sk ?_;refine JC.cutB (Z := Unit) (α := Bool) (fun z24 x23 => [(0, Pt b_a0), (3, Pt b1), (5, .rep (.slice tTask) r2), (6, .eq z7), (7, Ri r3.1), (8, I y12.1), (9, I y12.2), (10, Pt b18), (11, .eq (.bool x23)), (12, I y21.2)]) (fun z24 x23 => [.obj b_a0 79 (.agg (.pair (Ri y6.1) (.pair (I y6.2.1) (.eq (.int .u64 y6.2.2.1))))), .obj b1 26 (.rep tChange a1), .sl z7 92 tStep y6.2.2.2, .obj b18 116 (.rep tTask x17)]) h (fun K h => ?_) (fun z24 x23 h => ?_)
         ·refine JC.block (sr ?_);iterate 2 refine mq ?_
          obtain ⟨x25, ex25, h⟩ := b_bind h;refine jb (o_index (t := tTask) rfl Tryz.underlying112 sz116 ex25) ?_;refine ja (o_load_at (t := tTask) rfl sz116 rfl) ?_;refine JO.s01 rfl rfl rfl (o_alloc rfl za116 al116) trivial fun b26 => ?_;refine JO.n11 rfl rfl (o_store rfl sz116 rfl rfl rfl) ⟨rfl, rfl, trivial⟩ ?_;refine nt (sr (cq (nt ?_)));refine JC.cutB (Z := Unit) (α := Bool) (fun z28 x27 => [(0, Pt b_a0), (3, Pt b1), (5, .rep (.slice tTask) r2), (6, .eq z7), (7, Ri r3.1), (8, I y12.1), (9, I y12.2), (10, Pt b18), (11, .eq (.bool y21.1)), (12, I y21.2), (13, Pt b26), (14, .eq (.bool x27))]) (fun z28 x27 => [.obj b_a0 79 (.agg (.pair (Ri y6.1) (.pair (I y6.2.1) (.eq (.int .u64 y6.2.2.1))))), .obj b1 26 (.rep tChange a1), .sl z7 92 tStep y6.2.2.2, .obj b18 116 (.rep tTask x17), .obj b26 116 (.rep tTask x25)]) h (fun K h => ?_) (fun z28 x27 h => ?_)
          ·refine sr (cq (nt (JC.block ?_)));refine JC.loopB (Z := Unit) (α := Bool × Int) (fun z30 y29 => [(0, Pt b_a0), (3, Pt b1), (5, .rep (.slice tTask) r2), (6, .eq z7), (7, Ri r3.1), (8, I y12.1), (9, I y12.2), (10, Pt b18), (11, .eq (.bool y21.1)), (12, I y21.2), (13, Pt b26), (14, .eq (.bool y29.1)), (15, I y29.2)]) (fun z30 y29 => [.obj b_a0 79 (.agg (.pair (Ri y6.1) (.pair (I y6.2.1) (.eq (.int .u64 y6.2.2.1))))), .obj b1 26 (.rep tChange a1), .sl z7 92 tStep y6.2.2.2, .obj b18 116 (.rep tTask x17), .obj b26 116 (.rep tTask x25)]) (kit_PlanOf_l4 k y6 y21) k () (false, (0 : Int)) (fun _ => rfl) h (SE.fin [1, 2, 3, 4, 0] ⟨rfl, rfl, rfl, rfl, rfl, rfl, rfl, rfl, rfl, rfl, rfl, rfl, rfl, trivial⟩ rfl) (fun n z30 y29 h => ?_);unfold kit_PlanOf_l4 at h;refine JC.seq (sr ?_);iterate 2 refine mq ?_
           refine fr 2 ?_;refine ka (o_len_own rfl rfl Tryz.underlying34) ?_;refine jb (o_lss rfl) ?_;refine nt ?_;refine ci h (fun h => ?_) (fun h => ?_)
           ·refine sk ?_;refine JC.cutB (Z := Unit) (α := Bool) (fun z32 x31 => [(0, Pt b_a0), (3, Pt b1), (5, .rep (.slice tTask) r2), (6, .eq z7), (7, Ri r3.1), (8, I y12.1), (9, I y12.2), (10, Pt b18), (11, .eq (.bool y21.1)), (12, I y21.2), (13, Pt b26), (14, .eq (.bool x31)), (15, I y29.2)]) (fun z32 x31 => [.obj b_a0 79 (.agg (.pair (Ri y6.1) (.pair (I y6.2.1) (.eq (.int .u64 y6.2.2.1))))), .obj b1 26 (.rep tChange a1), .sl z7 92 tStep y6.2.2.2, .obj b18 116 (.rep tTask x17), .obj b26 116 (.rep tTask x25)]) h (fun K h => ?_) (fun z32 x31 h => ?_)
            ·refine JC.block (JC.region ?_);iterate 2 refine mq ?_
             refine JO.bool (s := 62) rfl (fun hb => ?_) (fun hb => ?_)
             ·replace h := b_if (v_t hb) h;iterate 7 refine gn ?_
              refine pt ?_;refine aq (JO.nil (bn ?_));exact jz ((), true) h [1, 2, 0, 3, 4]
             ·replace h := b_ifn (v_f hb) h;refine gm ?_;refine gm ?_;obtain ⟨x33, ex33, h⟩ := b_bind h;refine JO.g11 rfl rfl rfl rfl rfl rfl (o_index_own (t := tStep) rfl Tryz.underlying34 sz92 ex33) ⟨rfl, rfl, trivial⟩ ?_;refine JO.g11 rfl rfl rfl rfl rfl rfl (o_field_el rfl fo92_0 (geti_ne ex33)) ⟨rfl, trivial⟩ ?_;refine JO.g11 rfl rfl rfl rfl rfl rfl (o_load_el (i := Int.toNat y29.2) (off := 0) rfl sz3 (fun _ => rfl) rfl (geti_some ex33).2.2 rfl) ⟨rfl, trivial⟩ ?_;refine gm ?_;refine gb (o_eql rfl) ?_;refine pf ?_;refine aq (JO.nil (bn ?_));exact jz ((), decide (x33.1 = y21.2)) h [1, 2, 0, 3, 4]
            ·refine JC.region (mq ?_);obtain ⟨x34, ex34, h⟩ := b_bind h;refine jb (o_add rfl ex34) ?_;refine aq (nl ?_);exact jz ((), (x31, x34)) h [0, 1, 2, 3, 4]
           ·refine xa ?_;exact jz ((), y29.1) h [1, 2, 0, 3, 4]
          ·refine JC.seq (sr ?_);iterate 3 refine mq ?_
           obtain ⟨x35, ex35, h⟩ := b_bind h;refine jb (o_index (t := (.int .i64)) rfl Tryz.underlying24 sz3 ex35) ?_;refine ja (o_load_at (t := (.int .i64)) rfl sz3 rfl) ?_;refine jb (o_eql rfl) ?_;refine nt ?_;refine ci h (fun h => ?_) (fun h => ?_)
           ·refine JC.cutB (Z := Unit) (α := Bool) (fun z37 x36 => [(0, Pt b_a0), (3, Pt b1), (5, .rep (.slice tTask) r2), (6, .eq z7), (7, Ri r3.1), (8, I y12.1), (9, I y12.2), (10, Pt b18), (11, .eq (.bool x36)), (12, I y21.2)]) (fun z37 x36 => [.obj b_a0 79 (.agg (.pair (Ri y6.1) (.pair (I y6.2.1) (.eq (.int .u64 y6.2.2.1))))), .obj b1 26 (.rep tChange a1), .sl z7 92 tStep y6.2.2.2, .obj b18 116 (.rep tTask x17)]) h (fun K h => ?_) (fun z37 x36 h => ?_)
            ·refine JC.region ?_;iterate 2 refine mq ?_
             refine JO.bool (s := 78) rfl (fun hb => ?_) (fun hb => ?_)
             ·replace h := b_if (v_t hb) h;refine gm ?_;refine ga (o_not rfl) ?_;refine pt ?_;refine aq (nl ?_);exact jz ((), !x27) h [0, 1, 2, 3]
             ·replace h := b_ifn (v_f hb) h;iterate 2 refine gn ?_
              refine pf ?_;refine aq (nl ?_);exact jz ((), false) h [0, 1, 2, 3]
            ·refine JC.exit (JN.then_x (JN.blk_hit (JN.then_n ?_)));exact jz ((), x36) h [0, 1, 2, 3]
           ·refine sk ?_;refine JC.cutB (Z := Unit) (α := Bool) (fun z39 x38 => [(0, Pt b_a0), (3, Pt b1), (5, .rep (.slice tTask) r2), (6, .eq z7), (7, Ri r3.1), (8, I y12.1), (9, I y12.2), (10, Pt b18), (11, .eq (.bool y21.1)), (12, I y21.2), (14, .eq (.bool x27)), (16, .eq (.bool x38))]) (fun z39 x38 => [.obj b_a0 79 (.agg (.pair (Ri y6.1) (.pair (I y6.2.1) (.eq (.int .u64 y6.2.2.1))))), .obj b1 26 (.rep tChange a1), .sl z7 92 tStep y6.2.2.2, .obj b18 116 (.rep tTask x17)]) h (fun K h => ?_) (fun z39 x38 h => ?_)
            ·refine JC.drawN ?_;refine da (o_field_obj rfl fo116_0) ?_;refine ea 4 (o_load_obj rfl sz3 (fun _ => rfl) rfl) ?_;refine da (o_field_obj rfl fo116_0) ?_;refine ea 3 (o_load_obj rfl sz3 (fun _ => rfl) rfl) ?_;refine db (o_eql rfl) ?_;refine DN.fork rfl rfl rfl (o_move rfl) ⟨rfl, trivial⟩ (fun hb => ?_) (fun hb => ?_)
             ·replace h := b_if (d_t hb) h;refine DN.sg00 rfl rfl rfl rfl rfl (o_field_obj rfl fo116_1) ⟨rfl, rfl, trivial⟩ ?_;refine DN.sg11 4 rfl rfl rfl rfl rfl rfl (o_load_obj rfl sz4 (fun _ => rfl) rfl) ⟨rfl, rfl, trivial⟩ ?_;refine DN.sg00 rfl rfl rfl rfl rfl (o_not rfl) ⟨rfl, rfl, trivial⟩ ?_;refine db (o_pick_t rfl) ?_;refine DN.fork rfl rfl rfl (o_move rfl) ⟨rfl, trivial⟩ (fun hb => ?_) (fun hb => ?_)
              ·replace h := b_if (nv_t hb) h;iterate 4 refine dg ?_
               refine du ?_;refine du ?_;refine du ?_;refine du ?_;refine du ?_;refine du ?_;refine du ?_;refine du ?_;refine du ?_;refine du ?_;refine du ?_;refine dg ?_;refine db (o_pick_t rfl) ?_;refine dm ?_;iterate 3 refine dg ?_
               refine du ?_;refine du ?_;refine du ?_;refine du ?_;refine du ?_;refine du ?_;refine du ?_;refine du ?_;refine du ?_;refine df mixed ?_;refine gu ?_;refine gu ?_;refine gn ?_;refine pt ?_;refine aq (nl ?_);exact jz ((), true) h [0, 1, 2, 3]
              ·replace h := b_ifn (nv_fn hb) h;refine DN.sg00 rfl rfl rfl rfl rfl (o_field_obj rfl fo116_1) ⟨rfl, rfl, trivial⟩ ?_;refine DN.sg11 4 rfl rfl rfl rfl rfl rfl (o_load_obj rfl sz4 (fun _ => rfl) rfl) ⟨rfl, rfl, trivial⟩ ?_;refine DN.sg00 rfl rfl rfl rfl rfl (o_not rfl) ⟨rfl, rfl, trivial⟩ ?_;refine DN.forkg rfl rfl rfl rfl rfl (o_move rfl) ⟨rfl, rfl, trivial⟩ (fun hb => ?_) (fun hb => ?_)
               ·replace h := b_if (nv_t hb) h;refine DN.sg00 rfl rfl rfl rfl rfl (o_field_obj rfl fo26_0) ⟨rfl, rfl, trivial⟩ ?_;refine DN.sg11 1 rfl rfl rfl rfl rfl rfl (o_load_obj rfl sz22 (fun _ => rfl) rfl) ⟨rfl, rfl, trivial⟩ ?_;refine DN.sg00 rfl rfl rfl rfl rfl (o_field_obj rfl fo116_0) ⟨rfl, rfl, trivial⟩ ?_;refine DN.sg11 3 rfl rfl rfl rfl rfl rfl (o_load_obj rfl sz3 (fun _ => rfl) rfl) ⟨rfl, rfl, trivial⟩ ?_;obtain ⟨x40, ex40, h⟩ := b_bind h;refine DN.sg00 rfl rfl rfl rfl rfl (o_index (t := tThing) rfl Tryz.underlying22 sz74 ex40) ⟨rfl, rfl, rfl, trivial⟩ ?_;refine DN.sg00 rfl rfl rfl rfl rfl (o_field_at 1 false rfl fo74_0 rfl) ⟨rfl, rfl, trivial⟩ ?_;refine DN.sg00 rfl rfl rfl rfl rfl (o_load_at (t := (.slice (.int .i64))) rfl sz24 rfl) ⟨rfl, rfl, trivial⟩ ?_;refine DN.sg00 rfl rfl rfl rfl rfl (o_field_obj rfl fo116_0) ⟨rfl, rfl, trivial⟩ ?_;refine DN.sg11 4 rfl rfl rfl rfl rfl rfl (o_load_obj rfl sz3 (fun _ => rfl) rfl) ⟨rfl, rfl, trivial⟩ ?_;obtain ⟨r41, er41, h⟩ := b_bind h;have cr41 := kit_At_ok k x40.1 x25.1 r41 er41;refine DN.sg00 rfl rfl rfl rfl rfl (o_call [.tmp 103, .tmp 105] rfl rfl en101 rfl cr41) ⟨rfl, rfl, rfl, trivial⟩ ?_;refine DN.sg00 rfl rfl rfl rfl rfl (o_geq rfl) ⟨rfl, rfl, rfl, trivial⟩ ?_;refine DN.sg00 rfl rfl rfl rfl rfl (o_pick_t rfl) ⟨rfl, rfl, rfl, trivial⟩ ?_;refine db (o_pick_f rfl) ?_;refine DN.fork rfl rfl rfl (o_move rfl) ⟨rfl, trivial⟩ (fun hb => ?_) (fun hb => ?_)
                ·replace h := b_if (d_t hb) h;iterate 3 refine dg ?_
                 refine du ?_;refine du ?_;refine du ?_;refine du ?_;refine du ?_;refine du ?_;refine du ?_;refine du ?_;refine du ?_;refine df mixed ?_;refine gu ?_;refine gu ?_;refine gn ?_;refine pt ?_;refine aq (nl ?_);exact jz ((), true) h [0, 1, 2, 3]
                ·replace h := b_ifn (d_f hb) h;refine DN.sg00 rfl rfl rfl rfl rfl (o_field_obj rfl fo116_1) ⟨rfl, rfl, trivial⟩ ?_;refine DN.sg11 3 rfl rfl rfl rfl rfl rfl (o_load_obj rfl sz4 (fun _ => rfl) rfl) ⟨rfl, rfl, trivial⟩ ?_;refine DN.forkg rfl rfl rfl rfl rfl (o_move rfl) ⟨rfl, rfl, trivial⟩ (fun hb => ?_) (fun hb => ?_)
                 ·replace h := b_if (v_t hb) h;refine DN.sg00 rfl rfl rfl rfl rfl (o_field_obj rfl fo26_0) ⟨rfl, rfl, trivial⟩ ?_;refine DN.sg11 1 rfl rfl rfl rfl rfl rfl (o_load_obj rfl sz22 (fun _ => rfl) rfl) ⟨rfl, rfl, trivial⟩ ?_;refine DN.sg00 rfl rfl rfl rfl rfl (o_field_obj rfl fo116_0) ⟨rfl, rfl, trivial⟩ ?_;refine DN.sg11 4 rfl rfl rfl rfl rfl rfl (o_load_obj rfl sz3 (fun _ => rfl) rfl) ⟨rfl, rfl, trivial⟩ ?_;obtain ⟨x42, ex42, h⟩ := b_bind h;refine DN.sg00 rfl rfl rfl rfl rfl (o_index (t := tThing) rfl Tryz.underlying22 sz74 ex42) ⟨rfl, rfl, rfl, trivial⟩ ?_;refine DN.sg00 rfl rfl rfl rfl rfl (o_field_at 1 false rfl fo74_0 rfl) ⟨rfl, rfl, trivial⟩ ?_;refine DN.sg00 rfl rfl rfl rfl rfl (o_load_at (t := (.slice (.int .i64))) rfl sz24 rfl) ⟨rfl, rfl, trivial⟩ ?_;refine DN.sg00 rfl rfl rfl rfl rfl (o_field_obj rfl fo116_0) ⟨rfl, rfl, trivial⟩ ?_;refine DN.sg11 3 rfl rfl rfl rfl rfl rfl (o_load_obj rfl sz3 (fun _ => rfl) rfl) ⟨rfl, rfl, trivial⟩ ?_;refine df mixed ?_;obtain ⟨r43, er43, h⟩ := b_bind h;have cr43 := kit_At_ok k x42.1 x17.1 r43 er43;refine gb (o_call [.tmp 120, .tmp 122] rfl rfl en101 rfl cr43) ?_;refine gb (o_geq rfl) ?_;refine gb (o_pick_t rfl) ?_;refine pf ?_;refine aq (nl ?_);exact jz ((), decide ((0 : Int) ≤ r43)) h [0, 1, 2, 3]
                 ·replace h := b_ifn (v_f hb) h;iterate 9 refine dg ?_
                  refine df mixed ?_;iterate 2 refine gn ?_
                  refine gb (o_pick_f rfl) ?_;refine pf ?_;refine aq (nl ?_);exact jz ((), false) h [0, 1, 2, 3]
               ·replace h := b_ifn (nv_fn hb) h;iterate 11 refine dg ?_
                refine DN.sg00 rfl rfl rfl rfl rfl (o_pick_f rfl) ⟨rfl, rfl, rfl, trivial⟩ ?_;refine db (o_pick_f rfl) ?_;refine dm ?_;refine DN.sg00 rfl rfl rfl rfl rfl (o_field_obj rfl fo116_1) ⟨rfl, rfl, trivial⟩ ?_;refine DN.sg11 3 rfl rfl rfl rfl rfl rfl (o_load_obj rfl sz4 (fun _ => rfl) rfl) ⟨rfl, rfl, trivial⟩ ?_;refine DN.forkg rfl rfl rfl rfl rfl (o_move rfl) ⟨rfl, rfl, trivial⟩ (fun hb => ?_) (fun hb => ?_)
                ·replace h := b_if (v_t hb) h;refine DN.sg00 rfl rfl rfl rfl rfl (o_field_obj rfl fo26_0) ⟨rfl, rfl, trivial⟩ ?_;refine DN.sg11 1 rfl rfl rfl rfl rfl rfl (o_load_obj rfl sz22 (fun _ => rfl) rfl) ⟨rfl, rfl, trivial⟩ ?_;refine DN.sg00 rfl rfl rfl rfl rfl (o_field_obj rfl fo116_0) ⟨rfl, rfl, trivial⟩ ?_;refine DN.sg11 4 rfl rfl rfl rfl rfl rfl (o_load_obj rfl sz3 (fun _ => rfl) rfl) ⟨rfl, rfl, trivial⟩ ?_;obtain ⟨x44, ex44, h⟩ := b_bind h;refine DN.sg00 rfl rfl rfl rfl rfl (o_index (t := tThing) rfl Tryz.underlying22 sz74 ex44) ⟨rfl, rfl, rfl, trivial⟩ ?_;refine DN.sg00 rfl rfl rfl rfl rfl (o_field_at 1 false rfl fo74_0 rfl) ⟨rfl, rfl, trivial⟩ ?_;refine DN.sg00 rfl rfl rfl rfl rfl (o_load_at (t := (.slice (.int .i64))) rfl sz24 rfl) ⟨rfl, rfl, trivial⟩ ?_;refine DN.sg00 rfl rfl rfl rfl rfl (o_field_obj rfl fo116_0) ⟨rfl, rfl, trivial⟩ ?_;refine DN.sg11 3 rfl rfl rfl rfl rfl rfl (o_load_obj rfl sz3 (fun _ => rfl) rfl) ⟨rfl, rfl, trivial⟩ ?_;refine df mixed ?_;obtain ⟨r45, er45, h⟩ := b_bind h;have cr45 := kit_At_ok k x44.1 x17.1 r45 er45;refine gb (o_call [.tmp 120, .tmp 122] rfl rfl en101 rfl cr45) ?_;refine gb (o_geq rfl) ?_;refine gb (o_pick_t rfl) ?_;refine pf ?_;refine aq (nl ?_);exact jz ((), decide ((0 : Int) ≤ r45)) h [0, 1, 2, 3]
                ·replace h := b_ifn (v_f hb) h;iterate 9 refine dg ?_
                 refine df mixed ?_;iterate 2 refine gn ?_
                 refine gb (o_pick_f rfl) ?_;refine pf ?_;refine aq (nl ?_);exact jz ((), false) h [0, 1, 2, 3]
             ·replace h := b_ifn (d_f hb) h;iterate 3 refine dg ?_
              refine db (o_pick_f rfl) ?_;refine dm ?_;refine DN.sg00 rfl rfl rfl rfl rfl (o_field_obj rfl fo116_1) ⟨rfl, rfl, trivial⟩ ?_;refine DN.sg11 4 rfl rfl rfl rfl rfl rfl (o_load_obj rfl sz4 (fun _ => rfl) rfl) ⟨rfl, rfl, trivial⟩ ?_;refine DN.sg00 rfl rfl rfl rfl rfl (o_not rfl) ⟨rfl, rfl, trivial⟩ ?_;refine DN.forkg rfl rfl rfl rfl rfl (o_move rfl) ⟨rfl, rfl, trivial⟩ (fun hb => ?_) (fun hb => ?_)
              ·replace h := b_if (nv_t hb) h;refine DN.sg00 rfl rfl rfl rfl rfl (o_field_obj rfl fo26_0) ⟨rfl, rfl, trivial⟩ ?_;refine DN.sg11 1 rfl rfl rfl rfl rfl rfl (o_load_obj rfl sz22 (fun _ => rfl) rfl) ⟨rfl, rfl, trivial⟩ ?_;refine DN.sg00 rfl rfl rfl rfl rfl (o_field_obj rfl fo116_0) ⟨rfl, rfl, trivial⟩ ?_;refine DN.sg11 3 rfl rfl rfl rfl rfl rfl (o_load_obj rfl sz3 (fun _ => rfl) rfl) ⟨rfl, rfl, trivial⟩ ?_;obtain ⟨x46, ex46, h⟩ := b_bind h;refine DN.sg00 rfl rfl rfl rfl rfl (o_index (t := tThing) rfl Tryz.underlying22 sz74 ex46) ⟨rfl, rfl, rfl, trivial⟩ ?_;refine DN.sg00 rfl rfl rfl rfl rfl (o_field_at 1 false rfl fo74_0 rfl) ⟨rfl, rfl, trivial⟩ ?_;refine DN.sg00 rfl rfl rfl rfl rfl (o_load_at (t := (.slice (.int .i64))) rfl sz24 rfl) ⟨rfl, rfl, trivial⟩ ?_;refine DN.sg00 rfl rfl rfl rfl rfl (o_field_obj rfl fo116_0) ⟨rfl, rfl, trivial⟩ ?_;refine DN.sg11 4 rfl rfl rfl rfl rfl rfl (o_load_obj rfl sz3 (fun _ => rfl) rfl) ⟨rfl, rfl, trivial⟩ ?_;obtain ⟨r47, er47, h⟩ := b_bind h;have cr47 := kit_At_ok k x46.1 x25.1 r47 er47;refine DN.sg00 rfl rfl rfl rfl rfl (o_call [.tmp 103, .tmp 105] rfl rfl en101 rfl cr47) ⟨rfl, rfl, rfl, trivial⟩ ?_;refine DN.sg00 rfl rfl rfl rfl rfl (o_geq rfl) ⟨rfl, rfl, rfl, trivial⟩ ?_;refine DN.sg00 rfl rfl rfl rfl rfl (o_pick_t rfl) ⟨rfl, rfl, rfl, trivial⟩ ?_;refine db (o_pick_f rfl) ?_;refine DN.fork rfl rfl rfl (o_move rfl) ⟨rfl, trivial⟩ (fun hb => ?_) (fun hb => ?_)
               ·replace h := b_if (d_t hb) h;iterate 3 refine dg ?_
                refine du ?_;refine du ?_;refine du ?_;refine du ?_;refine du ?_;refine du ?_;refine du ?_;refine du ?_;refine du ?_;refine df mixed ?_;refine gu ?_;refine gu ?_;refine gn ?_;refine pt ?_;refine aq (nl ?_);exact jz ((), true) h [0, 1, 2, 3]
               ·replace h := b_ifn (d_f hb) h;refine DN.sg00 rfl rfl rfl rfl rfl (o_field_obj rfl fo116_1) ⟨rfl, rfl, trivial⟩ ?_;refine DN.sg11 3 rfl rfl rfl rfl rfl rfl (o_load_obj rfl sz4 (fun _ => rfl) rfl) ⟨rfl, rfl, trivial⟩ ?_;refine DN.forkg rfl rfl rfl rfl rfl (o_move rfl) ⟨rfl, rfl, trivial⟩ (fun hb => ?_) (fun hb => ?_)
                ·replace h := b_if (v_t hb) h;refine DN.sg00 rfl rfl rfl rfl rfl (o_field_obj rfl fo26_0) ⟨rfl, rfl, trivial⟩ ?_;refine DN.sg11 1 rfl rfl rfl rfl rfl rfl (o_load_obj rfl sz22 (fun _ => rfl) rfl) ⟨rfl, rfl, trivial⟩ ?_;refine DN.sg00 rfl rfl rfl rfl rfl (o_field_obj rfl fo116_0) ⟨rfl, rfl, trivial⟩ ?_;refine DN.sg11 4 rfl rfl rfl rfl rfl rfl (o_load_obj rfl sz3 (fun _ => rfl) rfl) ⟨rfl, rfl, trivial⟩ ?_;obtain ⟨x48, ex48, h⟩ := b_bind h;refine DN.sg00 rfl rfl rfl rfl rfl (o_index (t := tThing) rfl Tryz.underlying22 sz74 ex48) ⟨rfl, rfl, rfl, trivial⟩ ?_;refine DN.sg00 rfl rfl rfl rfl rfl (o_field_at 1 false rfl fo74_0 rfl) ⟨rfl, rfl, trivial⟩ ?_;refine DN.sg00 rfl rfl rfl rfl rfl (o_load_at (t := (.slice (.int .i64))) rfl sz24 rfl) ⟨rfl, rfl, trivial⟩ ?_;refine DN.sg00 rfl rfl rfl rfl rfl (o_field_obj rfl fo116_0) ⟨rfl, rfl, trivial⟩ ?_;refine DN.sg11 3 rfl rfl rfl rfl rfl rfl (o_load_obj rfl sz3 (fun _ => rfl) rfl) ⟨rfl, rfl, trivial⟩ ?_;refine df mixed ?_;obtain ⟨r49, er49, h⟩ := b_bind h;have cr49 := kit_At_ok k x48.1 x17.1 r49 er49;refine gb (o_call [.tmp 120, .tmp 122] rfl rfl en101 rfl cr49) ?_;refine gb (o_geq rfl) ?_;refine gb (o_pick_t rfl) ?_;refine pf ?_;refine aq (nl ?_);exact jz ((), decide ((0 : Int) ≤ r49)) h [0, 1, 2, 3]
                ·replace h := b_ifn (v_f hb) h;iterate 9 refine dg ?_
                 refine df mixed ?_;iterate 2 refine gn ?_
                 refine gb (o_pick_f rfl) ?_;refine pf ?_;refine aq (nl ?_);exact jz ((), false) h [0, 1, 2, 3]
              ·replace h := b_ifn (nv_fn hb) h;iterate 11 refine dg ?_
               refine DN.sg00 rfl rfl rfl rfl rfl (o_pick_f rfl) ⟨rfl, rfl, rfl, trivial⟩ ?_;refine db (o_pick_f rfl) ?_;refine dm ?_;refine DN.sg00 rfl rfl rfl rfl rfl (o_field_obj rfl fo116_1) ⟨rfl, rfl, trivial⟩ ?_;refine DN.sg11 3 rfl rfl rfl rfl rfl rfl (o_load_obj rfl sz4 (fun _ => rfl) rfl) ⟨rfl, rfl, trivial⟩ ?_;refine DN.forkg rfl rfl rfl rfl rfl (o_move rfl) ⟨rfl, rfl, trivial⟩ (fun hb => ?_) (fun hb => ?_)
               ·replace h := b_if (v_t hb) h;refine DN.sg00 rfl rfl rfl rfl rfl (o_field_obj rfl fo26_0) ⟨rfl, rfl, trivial⟩ ?_;refine DN.sg11 1 rfl rfl rfl rfl rfl rfl (o_load_obj rfl sz22 (fun _ => rfl) rfl) ⟨rfl, rfl, trivial⟩ ?_;refine DN.sg00 rfl rfl rfl rfl rfl (o_field_obj rfl fo116_0) ⟨rfl, rfl, trivial⟩ ?_;refine DN.sg11 4 rfl rfl rfl rfl rfl rfl (o_load_obj rfl sz3 (fun _ => rfl) rfl) ⟨rfl, rfl, trivial⟩ ?_;obtain ⟨x50, ex50, h⟩ := b_bind h;refine DN.sg00 rfl rfl rfl rfl rfl (o_index (t := tThing) rfl Tryz.underlying22 sz74 ex50) ⟨rfl, rfl, rfl, trivial⟩ ?_;refine DN.sg00 rfl rfl rfl rfl rfl (o_field_at 1 false rfl fo74_0 rfl) ⟨rfl, rfl, trivial⟩ ?_;refine DN.sg00 rfl rfl rfl rfl rfl (o_load_at (t := (.slice (.int .i64))) rfl sz24 rfl) ⟨rfl, rfl, trivial⟩ ?_;refine DN.sg00 rfl rfl rfl rfl rfl (o_field_obj rfl fo116_0) ⟨rfl, rfl, trivial⟩ ?_;refine DN.sg11 3 rfl rfl rfl rfl rfl rfl (o_load_obj rfl sz3 (fun _ => rfl) rfl) ⟨rfl, rfl, trivial⟩ ?_;refine df mixed ?_;obtain ⟨r51, er51, h⟩ := b_bind h;have cr51 := kit_At_ok k x50.1 x17.1 r51 er51;refine gb (o_call [.tmp 120, .tmp 122] rfl rfl en101 rfl cr51) ?_;refine gb (o_geq rfl) ?_;refine gb (o_pick_t rfl) ?_;refine pf ?_;refine aq (nl ?_);exact jz ((), decide ((0 : Int) ≤ r51)) h [0, 1, 2, 3]
               ·replace h := b_ifn (v_f hb) h;iterate 9 refine dg ?_
                refine df mixed ?_;iterate 2 refine gn ?_
                refine gb (o_pick_f rfl) ?_;refine pf ?_;refine aq (nl ?_);exact jz ((), false) h [0, 1, 2, 3]
            ·refine JC.region ?_;iterate 2 refine mq ?_
             refine JO.bool (s := 128) rfl (fun hb => ?_) (fun hb => ?_)
             ·replace h := b_if (v_t hb) h;refine gm ?_;refine gm ?_;refine JO.bool (s := 130) rfl (fun hb => ?_) (fun hb => ?_)
              ·replace h := b_if (v_t hb) h;iterate 2 refine gn ?_
               refine gb (o_pick_t rfl) ?_;refine pt ?_;refine aq (JO.nil (bn ?_));exact jz ((), true) h [0, 1, 2, 3]
              ·replace h := b_ifn (v_f hb) h;refine gm ?_;refine ga (o_not rfl) ?_;refine gb (o_pick_f rfl) ?_;refine pt ?_;refine aq (JO.nil (bn ?_));exact jz ((), !x38) h [0, 1, 2, 3]
             ·replace h := b_ifn (v_f hb) h;iterate 2 refine gn ?_
              refine gu ?_;refine gu ?_;refine gn ?_;refine pf ?_;refine aq (JO.nil (bn ?_));exact jz ((), false) h [0, 1, 2, 3]
         ·refine JC.region (mq ?_);obtain ⟨x52, ex52, h⟩ := b_bind h;refine jb (o_add rfl ex52) ?_;refine aq (nl ?_);exact jz ((), (x23, x52)) h [0, 1, 2, 3]
        ·refine xa ?_;exact jz ((), y21.1) h [0, 1, 2]
       ·refine JC.cutB (Z := Unit) (α := Bool) (fun z54 x53 => [(0, Pt b_a0), (3, Pt b1), (5, .rep (.slice tTask) r2), (6, .eq z7), (7, Ri r3.1), (8, I y12.1), (9, I y12.2), (139, .eq (.bool x53))]) (fun z54 x53 => [.obj b_a0 79 (.agg (.pair (Ri y6.1) (.pair (I y6.2.1) (.eq (.int .u64 y6.2.2.1))))), .obj b1 26 (.rep tChange a1), .sl z7 92 tStep y6.2.2.2]) h (fun K h => ?_) (fun z54 x53 h => ?_)
        ·refine JC.region ?_;iterate 2 refine mq ?_
         refine JO.bool (s := 136) rfl (fun hb => ?_) (fun hb => ?_)
         ·replace h := b_if (v_t hb) h;refine gm ?_;refine gb (o_lss rfl) ?_;refine pt (nl ?_);exact jz ((), decide (y12.1 < (0 : Int))) h [0, 1, 2]
         ·replace h := b_ifn (v_f hb) h;iterate 2 refine gn ?_
          refine pf (nl ?_);exact jz ((), false) h [0, 1, 2]
        ·refine cv h (fun h => ?_) (fun h => ?_)
         ·refine JC.region ?_;iterate 2 refine mq ?_
          obtain ⟨x55, ex55, h⟩ := b_bind h;refine jb (o_index (t := (.int .i64)) rfl Tryz.underlying24 sz3 ex55) ?_;refine ja (o_load_at (t := (.int .i64)) rfl sz3 rfl) ?_;refine aq (JO.nil (bn ?_));exact jz ((), x55) h [0, 1, 2]
         ·refine JC.skip (bn ?_);exact jz ((), y12.1) h [0, 1, 2]
      ·refine JC.region (mq ?_);obtain ⟨x56, ex56, h⟩ := b_bind h;refine jb (o_add rfl ex56) ?_;refine aq (nl ?_);exact jz ((), (x14, x56)) h [0, 1, 2]
     ·refine xa ?_;exact jz ((), y12.1) h [0, 1, 2]
    ·refine JC.seq (sr (mq ?_));refine jb (o_lss rfl) ?_;refine nt ?_;refine ci h (fun h => ?_) (fun h => ?_)
     ·refine sr (mq ?_);refine aq (nt (rx (br (JN.blk_r (JN.then_r ?_)))));refine JN.front 2 rfl ?_;refine JN.se (SE.frz [4, 6, 146] ⟨rfl, rfl, rfl, trivial⟩) ?_;obtain rfl := hR _ h;exact JN.ret () [_] 1 ⟨rfl, trivial⟩ rfl
     ·refine sk (sr (mq ?_));refine fl fo26_1 ?_;refine fr 1 ?_;refine lo sz23 ?_;refine ol Tryz.underlying23 ?_;obtain ⟨x57, ex57, h⟩ := b_bind h;refine jb (o_sub rfl ex57) ?_;obtain ⟨r58, er58, h⟩ := b_bind h;have cr58 := kit_Lots_Upto_ok k (y6.1, y6.2.1, y6.2.2.1) b_a0 x57 r58 er58;refine fr 1 ?_;refine kb (o_call [.tmp 147, .tmp 151] rfl rfl en23 rfl cr58) ?_;refine aq (nt ?_);refine JC.cutB (Z := Unit) (α := Int) (fun z60 x59 => [(0, Pt b_a0), (3, Pt b1), (5, .rep (.slice tTask) r2), (6, .eq z7), (7, Ri r3.1), (8, I x10), (17, I x59)]) (fun z60 x59 => [.obj b_a0 79 (.agg (.pair (Ri r58.2.1) (.pair (I r58.2.2.1) (.eq (.int .u64 r58.2.2.2))))), .obj b1 26 (.rep tChange a1), .sl z7 92 tStep y6.2.2.2]) h (fun K h => ?_) (fun z60 x59 h => ?_)
      ·refine sr (cq (nt (JC.block ?_)));refine JC.loopB (Z := Unit) (α := Int × Int) (fun z62 y61 => [(0, Pt b_a0), (3, Pt b1), (5, .rep (.slice tTask) r2), (6, .eq z7), (7, Ri r3.1), (8, I x10), (17, I y61.1), (18, I y61.2)]) (fun z62 y61 => [.obj b_a0 79 (.agg (.pair (Ri r58.2.1) (.pair (I r58.2.2.1) (.eq (.int .u64 r58.2.2.2))))), .obj b1 26 (.rep tChange a1), .sl z7 92 tStep y6.2.2.2]) (kit_PlanOf_l5 k a1 r2 x10) k () (r58.1, (0 : Int)) (fun _ => rfl) h (SE.fin [0, 1, 2] ⟨rfl, rfl, rfl, rfl, rfl, rfl, rfl, rfl, trivial⟩ rfl) (fun n z62 y61 h => ?_);unfold kit_PlanOf_l5 at h;refine JC.seq (sr (mq ?_));refine fl fo26_1 ?_;refine fr 1 ?_;refine lo sz23 ?_;refine ol Tryz.underlying23 ?_;refine jb (o_lss rfl) ?_;refine nt ?_;refine ci h (fun h => ?_) (fun h => ?_)
       ·refine sk (JC.seq (JC.block (JC.seq ?_)));refine JC.drawW ?_;refine DW.t00 rfl rfl rfl (o_field_obj rfl fo26_1) ⟨rfl, trivial⟩ ?_;refine DW.t11 0 rfl rfl rfl rfl (o_load_obj rfl sz23 (fun _ => rfl) rfl) ⟨rfl, trivial⟩ ?_;refine DW.t00 rfl rfl rfl (o_move rfl) ⟨rfl, trivial⟩ ?_;obtain ⟨x63, ex63, h⟩ := b_bind h;refine DW.t00 rfl rfl rfl (o_index (t := tDresser) rfl Tryz.underlying23 sz52 ex63) ⟨rfl, rfl, trivial⟩ ?_;refine DW.t00 rfl rfl rfl (o_load_at (t := tDresser) rfl sz52 rfl) ⟨rfl, trivial⟩ ?_;refine DW.t00 rfl rfl rfl (o_field_obj rfl fo26_0) ⟨rfl, trivial⟩ ?_;refine DW.t11 0 rfl rfl rfl rfl (o_load_obj rfl sz22 (fun _ => rfl) rfl) ⟨rfl, trivial⟩ ?_;refine DW.t00 rfl rfl rfl (o_move rfl) ⟨rfl, trivial⟩ ?_;refine DW.t00 rfl rfl rfl (o_move rfl) ⟨rfl, trivial⟩ ?_;obtain ⟨x64, ex64, h⟩ := b_bind h;refine DW.t00 rfl rfl rfl (o_index (t := tTask) rfl Tryz.underlying112 sz116 ex64) ⟨rfl, rfl, trivial⟩ ?_;refine DW.t00 rfl rfl rfl (o_field_at 1 false rfl fo116_0 rfl) ⟨rfl, trivial⟩ ?_;refine DW.t00 rfl rfl rfl (o_load_at (t := (.int .i64)) rfl sz3 rfl) ⟨rfl, trivial⟩ ?_;obtain ⟨x65, ex65, h⟩ := b_bind h;refine DW.t00 rfl rfl rfl (o_index (t := tThing) rfl Tryz.underlying22 sz74 ex65) ⟨rfl, rfl, trivial⟩ ?_;refine DW.t00 rfl rfl rfl (o_field_at 1 false rfl fo74_3 rfl) ⟨rfl, trivial⟩ ?_;refine DW.t00 rfl rfl rfl (o_load_at (t := (.int .i64)) rfl sz3 rfl) ⟨rfl, trivial⟩ ?_;refine DW.tNew (ptrD 52 (.agg (.pair (.eq (.slice none 0 0)) (.pair (I (0 : Int)) (I (0 : Int)))))) (fun _ => rfl) rfl rfl rfl (o_alloc rfl za52 al52) trivial ?_;refine DW.fin 16 [true, true, true, true, true, false, false, false, false, false, false, false, false, false, false, true] [20] [0] [.obj b1 26 (.rep tChange a1)] rfl (by kernel_rfl) (by kernel_rfl) (by kernel_rfl) mixed (fun vs hv hB => ?_);obtain ⟨w0, vs1, rfl, hv1⟩ := len_cons hv;obtain ⟨w1, vs2, rfl, hv2⟩ := len_cons hv1;obtain ⟨w2, vs3, rfl, hv3⟩ := len_cons hv2;obtain ⟨w3, vs4, rfl, hv4⟩ := len_cons hv3;obtain ⟨w4, vs5, rfl, hv5⟩ := len_cons hv4;obtain ⟨w5, vs6, rfl, hv6⟩ := len_cons hv5;obtain ⟨w6, vs7, rfl, hv7⟩ := len_cons hv6;obtain ⟨w7, vs8, rfl, hv8⟩ := len_cons hv7;obtain ⟨w8, vs9, rfl, hv9⟩ := len_cons hv8;obtain ⟨w9, vs10, rfl, hv10⟩ := len_cons hv9;obtain ⟨w10, vs11, rfl, hv11⟩ := len_cons hv10;obtain ⟨w11, vs12, rfl, hv12⟩ := len_cons hv11;obtain ⟨w12, vs13, rfl, hv13⟩ := len_cons hv12;obtain ⟨w13, vs14, rfl, hv14⟩ := len_cons hv13;obtain ⟨w14, vs15, rfl, hv15⟩ := len_cons hv14;obtain ⟨w15, vs16, rfl, hv16⟩ := len_cons hv15;obtain rfl := len_nil hv16;obtain ⟨b66, rfl⟩ := ptr_of hB.2.2.2.2.2.2.2.2.2.2.2.2.2.2.2.1;refine ⟨[0, 1, 2, 3], [.obj b_a0 79 (.agg (.pair (Ri r58.2.1) (.pair (I r58.2.2.1) (.eq (.int .u64 r58.2.2.2))))), .sl z7 92 tStep y6.2.2.2, .obj b66 52 (.agg (.pair (.eq (.slice none 0 0)) (.pair (I (0 : Int)) (I (0 : Int)))))], by kernel_rfl, by decide, ?_⟩;refine JT.front 2 rfl ?_;refine JT.n11 rfl rfl (o_store rfl sz52 rfl rfl rfl) ⟨rfl, rfl, trivial⟩ (by kernel_rfl) ?_;refine JT.all (by kernel_rfl) ?_;refine aq (nt (JC.seq ?_));refine JC.cutB (Z := Unit) (α := Bool) (fun z68 x67 => [(0, Pt b_a0), (3, Pt b1), (5, .rep (.slice tTask) r2), (6, .eq z7), (7, Ri r3.1), (8, I x10), (17, I y61.1), (18, I y61.2), (198, .eq (.bool x67))]) (fun z68 x67 => [.obj b_a0 79 (.agg (.pair (Ri r58.2.1) (.pair (I r58.2.2.1) (.eq (.int .u64 r58.2.2.2))))), .obj b1 26 (.rep tChange a1), .sl z7 92 tStep y6.2.2.2]) h (fun K h => ?_) (fun z68 x67 h => ?_)
        ·refine JC.drawN ?_;refine da (o_field_obj rfl fo52_0) ?_;refine ea 1 (o_load_obj rfl sz24 (fun _ => rfl) rfl) ?_;refine dm ?_;refine dm ?_;obtain ⟨x69, ex69, h⟩ := b_bind h;refine db (o_index (t := tTask) rfl Tryz.underlying112 sz116 ex69) ?_;refine da (o_field_at 1 false rfl fo116_0 rfl) ?_;refine da (o_load_at (t := (.int .i64)) rfl sz3 rfl) ?_;obtain ⟨r70, er70, h⟩ := b_bind h;have cr70 := kit_At_ok k x63.1 x69.1 r70 er70;refine db (o_call [.tmp 176, .tmp 181] rfl rfl en101 rfl cr70) ?_;refine db (o_geq rfl) ?_;refine DN.fork rfl rfl rfl (o_move rfl) ⟨rfl, trivial⟩ (fun hb => ?_) (fun hb => ?_)
         ·replace h := b_if (d_t hb) h;refine DN.sg00 rfl rfl rfl rfl rfl (o_move rfl) ⟨rfl, rfl, trivial⟩ ?_;refine DN.sg00 rfl rfl rfl rfl rfl (o_eql rfl) ⟨rfl, rfl, rfl, trivial⟩ ?_;refine DN.forkg rfl rfl rfl rfl rfl (o_move rfl) ⟨rfl, rfl, trivial⟩ (fun hb => ?_) (fun hb => ?_)
          ·replace h := b_if (d_t hb) h;iterate 3 refine dg ?_
           refine DN.sg00 rfl rfl rfl rfl rfl (o_pick_t rfl) ⟨rfl, rfl, rfl, trivial⟩ ?_;refine DN.sg00 rfl rfl rfl rfl rfl (o_move rfl) ⟨rfl, rfl, trivial⟩ ?_;iterate 3 refine dg ?_
           refine df mixed ?_;refine gn ?_;refine gb (o_pick_t rfl) ?_;refine pt (nl ?_);exact jz ((), true) h [2, 0, 3]
          ·replace h := b_ifn (d_f hb) h;refine DN.sg00 rfl rfl rfl rfl rfl (o_field_obj rfl fo52_1) ⟨rfl, rfl, trivial⟩ ?_;refine DN.sg11 1 rfl rfl rfl rfl rfl rfl (o_load_obj rfl sz3 (fun _ => rfl) rfl) ⟨rfl, rfl, trivial⟩ ?_;refine DN.sg00 rfl rfl rfl rfl rfl (o_eql rfl) ⟨rfl, rfl, rfl, trivial⟩ ?_;refine DN.sg00 rfl rfl rfl rfl rfl (o_pick_f rfl) ⟨rfl, rfl, rfl, trivial⟩ ?_;refine DN.forkg rfl rfl rfl rfl rfl (o_move rfl) ⟨rfl, rfl, trivial⟩ (fun hb => ?_) (fun hb => ?_)
           ·replace h := b_if (d_t hb) h;iterate 3 refine dg ?_
            refine df mixed ?_;refine gn ?_;refine gb (o_pick_t rfl) ?_;refine pt (nl ?_);exact jz ((), true) h [2, 0, 3]
           ·replace h := b_ifn (d_f hb) h;refine DN.sg00 rfl rfl rfl rfl rfl (o_move rfl) ⟨rfl, rfl, trivial⟩ ?_;refine DN.sg00 rfl rfl rfl rfl rfl (o_field_obj rfl fo52_1) ⟨rfl, rfl, trivial⟩ ?_;refine DN.sg11 1 rfl rfl rfl rfl rfl rfl (o_load_obj rfl sz3 (fun _ => rfl) rfl) ⟨rfl, rfl, trivial⟩ ?_;refine df mixed ?_;refine gb (o_eql rfl) ?_;refine gb (o_pick_f rfl) ?_;refine pt (nl ?_);exact jz ((), decide (x65.2.2.2.1 = x63.2.1)) h [2, 0, 3]
         ·replace h := b_ifn (d_f hb) h;iterate 3 refine dg ?_
          refine du ?_;refine du ?_;refine du ?_;iterate 2 refine dg ?_
          refine du ?_;refine du ?_;refine du ?_;refine df mixed ?_;refine gu ?_;refine gn ?_;refine pf (nl ?_);exact jz ((), false) h [2, 0, 3]
        ·refine cv h (fun h => ?_) (fun h => ?_)
         ·refine JC.exit (JN.then_x ?_);refine JN.blk_miss (eq_false (by decide)) ?_;refine JN.then_x (JN.then_x (JN.blk_hit (JN.then_n ?_)));exact jz ((), y61.1) h [0, 1, 2]
         ·refine sk (JC.region (mq ?_));obtain ⟨x71, ex71, h⟩ := b_bind h;refine jb (o_add rfl ex71) ?_;refine fl fo26_1 ?_;refine fr 1 ?_;refine lo sz23 ?_;refine ol Tryz.underlying23 ?_;obtain ⟨u72, eu72, h⟩ := b_bind h;refine jb (o_rem rfl (chkP_some eu72)) ?_;refine aq (JO.nil (JN.blk_n (tn (JC.region ?_))));refine mq ?_;obtain ⟨x73, ex73, h⟩ := b_bind h;refine jb (o_add rfl ex73) ?_;refine aq (nl ?_);exact jz ((), (Int.tmod x71 (a1.2.1.length : Int), x73)) h [1, 0, 2]
       ·refine xa ?_;exact jz ((), y61.1) h [1, 0, 2]
      ·refine JC.region ?_;iterate 3 refine mq ?_
       refine jb (o_buildT [(0, .tmp 206, _), (1, .tmp 207, _)] rfl pl92 za92 alb92 (stors ⟨rfl, rfl, trivial⟩) rfl) ?_;refine ja (o_litB (t := tStep) [(.tmp 208, _)] [(x10, x59)] rfl rfl sl34 (.cons trivial (.agg (.pair .int .int)) .nil) rfl rfl) ?_;obtain ⟨u74, eu74, h⟩ := b_bind h;refine fr 2 ?_;refine JO.s1x rfl rfl rfl (o_append rfl rfl sl34 (chkP_some eu74)) ⟨rfl, rfl, trivial⟩ fun v75 => ?_;refine aq (JO.nil (bn ?_));exact jz (v75, (r58.2.1, r58.2.2.1, r58.2.2.2, y6.2.2.2 ++ [(x10, x59)])) h [1, 2, 0]
   ·refine JN.then_n ?_;exact jz (z9, (x8.1, x8.2.1, x8.2.2.1, x8.2.2.2)) h [0, 1, 2]
  ·refine xa ?_;exact jz (z7, (y6.2.2.2, y6.1, y6.2.1, y6.2.2.1)) h [0, 1]
 ·refine sr (mq ?_);refine aq (nt (JC.ret ?_));refine JN.se (SE.frz [4, 6, 211] ⟨rfl, rfl, rfl, trivial⟩) ?_;cases h;exact JN.ret () [_] 1 ⟨rfl, trivial⟩ rfl


def law_planned (k : Nat) (a0 : (List dStep)) (a1 : dChange) (a2 : dLots) : Option ((List (List dStep)) × dLots) :=
 (kit_PlanOf k (a2.1, a2.2.1, a2.2.2) a1).bind fun r2 =>
 (kit_CopySteps k r2.1).bind fun r3 =>
 ((if (0 : Int) < (r2.1.length : Int) then ((ck ((r2.1.length : Int) - (1 : Int))).bind fun x7 =>
 (kit_Lots_Upto k (r2.2.1, r2.2.2.1, r2.2.2.2) x7).bind fun r8 =>
 (kit_Lots_Upto k (r8.2.1, r8.2.2.1, r8.2.2.2) (2 : Int)).bind fun r9 =>
 if r9.1 = (0 : Int) then ((kit_Lots_In k (r9.2.1, r9.2.2.1, r9.2.2.2) (-1 : Int) (3 : Int)).bind fun r10 =>
 (geti r3 r8.1).bind fun x11 =>
 some (List.set r3 (Int.toNat r8.1) (x11.1, r10.1), r10.2.1, r10.2.2.1, r10.2.2.2)) else (if r9.1 = (1 : Int) then ((kit_Lots_In k (r9.2.1, r9.2.2.1, r9.2.2.2) (-1 : Int) (r2.1.length : Int)).bind fun r12 =>
 (geti r3 r8.1).bind fun x13 =>
 some (List.set r3 (Int.toNat r8.1) (r12.1, x13.2), r12.2.1, r12.2.2.1, r12.2.2.2)) else (if r9.1 = (2 : Int) then ((geti r3 (0 : Int)).bind fun x14 =>
 (geti r3 r8.1).bind fun x15 =>
 (geti r3 r8.1).bind fun x16 =>
 (geti (List.set r3 (Int.toNat r8.1) x14) (0 : Int)).bind fun x17 =>
 some (List.set (List.set r3 (Int.toNat r8.1) x14) (Int.toNat (0 : Int)) x15, r9.2.1, r9.2.2.1, r9.2.2.2)) else (some (r3, r9.2.1, r9.2.2.1, r9.2.2.2))))) else (some (r3, r2.2.1, r2.2.2.1, r2.2.2.2))) : Option ((List dStep) × (List Int) × Int × Int)).bind fun x5 =>
 some ([a0, r2.1, x5.1, a0], (x5.2.1, x5.2.2.1, x5.2.2.2))

theorem law_planned_ok (k : Nat) (a0 : (List dStep)) (a1 : dChange) (a2 : dLots) (b_a2 : Nat) (r : (List (List dStep)) × dLots) (h : law_planned k a0 a1 a2 = some r) :
 Ctr Tryz.prog 18 [.rep (.slice tStep) a0, .rep tChange a1, Pt b_a2] [.obj b_a2 79 (.agg (.pair (Ri a2.1) (.pair (I a2.2.1) (.eq (.int .u64 a2.2.2)))))] (fun _ : Unit => (resA [.rep (.slice (.slice tStep)) r.1], [.obj b_a2 79 (.agg (.pair (Ri r.2.1) (.pair (I r.2.2.1) (.eq (.int .u64 r.2.2.2)))))])) := by
 unfold law_planned at h;replace h := b_top h;refine Ctr.of 62 Tryz.func18 rfl Tryz.ntmps18 rfl fun S w0 => ?_;refine sr ?_;refine bx fun b1 => ?_;refine cq (nt (sr ?_));refine mq ?_;refine lo sz26 ?_;obtain ⟨r2, er2, h⟩ := b_bind h;have cr2 := kit_PlanOf_ok k (a2.1, a2.2.1, a2.2.2) b_a2 a1 r2 er2;refine fr 1 ?_;refine kb (o_call [.tmp 11, .tmp 12] rfl rfl en55 rfl cr2) ?_;refine aq (nt (sr ?_));refine mq ?_;obtain ⟨r3, er3, h⟩ := b_bind h;have cr3 := kit_CopySteps_ok k r2.1 r3 er3;refine JO.s01 rfl rfl rfl (o_call [.tmp 14] rfl rfl en19 rfl cr3) ⟨rfl, trivial⟩ fun v4 => ?_;refine aq (nt ?_);refine JC.cutB (Z := Unit) (α := (List dStep) × (List Int) × Int × Int) (fun z6 x5 => [(0, .rep (.slice tStep) a0), (7, .rep (.slice tStep) r2.1), (8, .eq v4)]) (fun z6 x5 => [.sl v4 92 tStep x5.1, .obj b_a2 79 (.agg (.pair (Ri x5.2.1) (.pair (I x5.2.2.1) (.eq (.int .u64 x5.2.2.2)))))]) h (fun K h => ?_) (fun z6 x5 h => ?_)
 ·refine sr (mq ?_);refine ol Tryz.underlying34 ?_;refine aq (nt (sr ?_));refine mq ?_;refine jb (o_gtr rfl) ?_;refine nt ?_;refine ci h (fun h => ?_) (fun h => ?_)
  ·refine sr ?_;iterate 2 refine mq ?_
   obtain ⟨x7, ex7, h⟩ := b_bind h;refine jb (o_sub rfl ex7) ?_;obtain ⟨r8, er8, h⟩ := b_bind h;have cr8 := kit_Lots_Upto_ok k (r2.2.1, r2.2.2.1, r2.2.2.2) b_a2 x7 r8 er8;refine fr 1 ?_;refine kb (o_call [.tmp 20, .tmp 22] rfl rfl en23 rfl cr8) ?_;refine aq (nt (sr ?_));refine mq ?_;obtain ⟨r9, er9, h⟩ := b_bind h;have cr9 := kit_Lots_Upto_ok k (r8.2.1, r8.2.2.1, r8.2.2.2) b_a2 (2 : Int) r9 er9;refine kb (o_call [.tmp 24, .const (.int .i64 (2))] rfl rfl en23 rfl cr9) ?_;refine nt (JC.block (sr ?_));refine jb (o_eql rfl) ?_;refine aq (nt ?_);refine ci h (fun h => ?_) (fun h => ?_)
   ·refine JC.region ?_;iterate 3 refine mq ?_
    obtain ⟨r10, er10, h⟩ := b_bind h;have cr10 := kit_Lots_In_ok k (r9.2.1, r9.2.2.1, r9.2.2.2) b_a2 (-1 : Int) (3 : Int) r10 er10;refine kc (o_call [.tmp 30, .const (.int .i64 (-1)), .const (.int .i64 (3))] rfl rfl en27 rfl cr10) ?_;obtain ⟨x11, ex11, h⟩ := b_bind h;refine fr 1 ?_;refine kb (o_index_own (t := tStep) rfl Tryz.underlying34 sz92 ex11) ?_;refine ka (o_field_el rfl fo92_1 (geti_ne ex11)) ?_;refine JO.n11 rfl rfl (o_store_el (i := Int.toNat r8.1) (off := 1) rfl sz3 rfl (geti_some ex11).2.2 .int rfl (.agg (.right .whole rfl))) ⟨rfl, rfl, trivial⟩ ?_;refine JO.nil (bn ?_);exact jz ((), (List.set r3 (Int.toNat r8.1) (x11.1, r10.1), r10.2.1, r10.2.2.1, r10.2.2.2)) h [0, 1]
   ·refine sr ?_;refine jb (o_eql rfl) ?_;refine aq (nt ?_);refine ci h (fun h => ?_) (fun h => ?_)
    ·refine JC.region ?_;iterate 4 refine mq ?_
     obtain ⟨r12, er12, h⟩ := b_bind h;have cr12 := kit_Lots_In_ok k (r9.2.1, r9.2.2.1, r9.2.2.2) b_a2 (-1 : Int) (r2.1.length : Int) r12 er12;refine kc (o_call [.tmp 38, .const (.int .i64 (-1)), .tmp 39] rfl rfl en27 rfl cr12) ?_;obtain ⟨x13, ex13, h⟩ := b_bind h;refine fr 1 ?_;refine kb (o_index_own (t := tStep) rfl Tryz.underlying34 sz92 ex13) ?_;refine ka (o_field_el rfl fo92_0 (geti_ne ex13)) ?_;refine JO.n11 rfl rfl (o_store_el (i := Int.toNat r8.1) (off := 0) rfl sz3 rfl (geti_some ex13).2.2 .int rfl (.agg (.left .whole))) ⟨rfl, rfl, trivial⟩ ?_;refine JO.nil (bn ?_);exact jz ((), (List.set r3 (Int.toNat r8.1) (r12.1, x13.2), r12.2.1, r12.2.2.1, r12.2.2.2)) h [0, 1]
    ·refine sr ?_;refine jb (o_eql rfl) ?_;refine aq (nt ?_);refine ci h (fun h => ?_) (fun h => ?_)
     ·refine JC.drawW ?_;refine DW.t00 rfl rfl rfl (o_move rfl) ⟨rfl, trivial⟩ ?_;refine DW.t00 rfl rfl rfl (o_move rfl) ⟨rfl, trivial⟩ ?_;refine DW.t00 rfl rfl rfl (o_move rfl) ⟨rfl, trivial⟩ ?_;refine DW.t00 rfl rfl rfl (o_move rfl) ⟨rfl, trivial⟩ ?_;obtain ⟨x14, ex14, h⟩ := b_bind h;refine DW.t11 1 rfl rfl rfl rfl (o_index_own (t := tStep) rfl Tryz.underlying34 sz92 ex14) ⟨rfl, rfl, trivial⟩ ?_;refine DW.t11 1 rfl rfl rfl rfl (o_load_el (i := Int.toNat (0 : Int)) (off := 0) rfl sz92 (nfn) rfl (geti_some ex14).2.2 rfl) ⟨rfl, trivial⟩ ?_;refine DW.t00 rfl rfl rfl (o_move rfl) ⟨rfl, trivial⟩ ?_;refine DW.t00 rfl rfl rfl (o_move rfl) ⟨rfl, trivial⟩ ?_;obtain ⟨x15, ex15, h⟩ := b_bind h;refine DW.t11 1 rfl rfl rfl rfl (o_index_own (t := tStep) rfl Tryz.underlying34 sz92 ex15) ⟨rfl, rfl, trivial⟩ ?_;refine DW.t11 1 rfl rfl rfl rfl (o_load_el (i := Int.toNat r8.1) (off := 0) rfl sz92 (nfn) rfl (geti_some ex15).2.2 rfl) ⟨rfl, trivial⟩ ?_;obtain ⟨x16, ex16, h⟩ := b_bind h;refine DW.t11 1 rfl rfl rfl rfl (o_index_own (t := tStep) rfl Tryz.underlying34 sz92 ex16) ⟨rfl, rfl, trivial⟩ ?_;refine DW.fin 11 [true, true, false, true, true, true, true, true, true, true, true] [56] [] [] rfl (by kernel_rfl) (by kernel_rfl) (by kernel_rfl) mixed (fun vs hv hB => ?_);obtain ⟨w0, vs1, rfl, hv1⟩ := len_cons hv;obtain ⟨w1, vs2, rfl, hv2⟩ := len_cons hv1;obtain ⟨w2, vs3, rfl, hv3⟩ := len_cons hv2;obtain ⟨w3, vs4, rfl, hv4⟩ := len_cons hv3;obtain ⟨w4, vs5, rfl, hv5⟩ := len_cons hv4;obtain ⟨w5, vs6, rfl, hv6⟩ := len_cons hv5;obtain ⟨w6, vs7, rfl, hv7⟩ := len_cons hv6;obtain ⟨w7, vs8, rfl, hv8⟩ := len_cons hv7;obtain ⟨w8, vs9, rfl, hv9⟩ := len_cons hv8;obtain ⟨w9, vs10, rfl, hv10⟩ := len_cons hv9;obtain ⟨w10, vs11, rfl, hv11⟩ := len_cons hv10;obtain rfl := len_nil hv11;refine ⟨[0, 1, 2], [.obj b_a2 79 (.agg (.pair (Ri r9.2.1) (.pair (I r9.2.2.1) (.eq (.int .u64 r9.2.2.2))))), .sl v4 92 tStep r3, .obj b1 26 (.rep tChange a1)], by kernel_rfl, by decide, ?_⟩;refine JT.front 1 rfl ?_;refine JT.n11 rfl rfl (o_store_elW (i := Int.toNat r8.1) rfl sz92 rfl (geti_lt ex16) rfl .rep rfl) ⟨rfl, rfl, trivial⟩ (by kernel_rfl) ?_;obtain ⟨x17, ex17, h⟩ := b_bind h;refine JT.y11 rfl rfl rfl rfl (o_index_own (t := tStep) rfl Tryz.underlying34 sz92 ex17) ⟨rfl, rfl, trivial⟩ (by kernel_rfl) ?_;refine JT.n11 rfl rfl (o_store_elW (i := Int.toNat (0 : Int)) rfl sz92 rfl (geti_lt ex17) rfl .rep rfl) ⟨rfl, rfl, trivial⟩ (by kernel_rfl) ?_;refine JT.nil ?_;refine JN.se (SE.fin (Γ' := [(0, .rep (.slice tStep) a0), (7, .rep (.slice tStep) r2.1), (8, .eq v4)]) (Δ' := [.sl v4 92 tStep (List.set (List.set r3 (Int.toNat r8.1) x14) (Int.toNat (0 : Int)) x15), .obj b_a2 79 (.agg (.pair (Ri r9.2.1) (.pair (I r9.2.2.1) (.eq (.int .u64 r9.2.2.2))))), .obj b1 26 (.rep tChange a1)]) [0, 1, 2] ⟨rfl, rfl, rfl, trivial⟩ rfl) ?_;refine bn ?_;exact jz ((), (List.set (List.set r3 (Int.toNat r8.1) x14) (Int.toNat (0 : Int)) x15, r9.2.1, r9.2.2.1, r9.2.2.2)) h [0, 1]
     ·refine JC.skip (bn ?_);exact jz ((), (r3, r9.2.1, r9.2.2.1, r9.2.2.2)) h [1, 0]
  ·refine JC.skip (JN.then_n ?_);exact jz ((), (r3, r2.2.1, r2.2.2.1, r2.2.2.2)) h [0, 1]
 ·refine sr ?_;iterate 4 refine mq ?_
  refine JO.se (SE.frz [8, 59] ⟨rfl, rfl, trivial⟩) ?_;refine JO.s rfl (o_litB (t := (.slice tStep)) [(.tmp 57, _), (.tmp 58, _), (.tmp 59, _), (.tmp 60, _)] [a0, r2.1, x5.1, a0] rfl rfl sl41 (.cons rfl .rep (.cons rfl .rep (.cons rfl .rep (.cons rfl .rep .nil)))) rfl rfl) ⟨rfl, rfl, rfl, rfl, trivial⟩ ?_;refine aq (nt (JC.ret ?_));cases h;exact JN.ret () [_] 1 ⟨rfl, trivial⟩ rfl


def ref_checkPlan_l1 (k : Nat) (a0 : dChange) (a1 : (List dStep)) : Nat → Int → Option (Except Int Unit)
 | 0, _ => none
 | n + 1, y7 =>
  if y7 < (a1.length : Int) then ((chkP (0 ≤ y7 ∧ y7 ≤ (a1.length : Int))).bind fun _ =>
  (geti a1 y7).bind fun x10 =>
  (ref_checkStep k a0 (List.take (Int.toNat y7) a1) x10).bind fun r11 =>
  if ¬ (r11 = (0 : Int)) then (some (.error r11)) else ((ck (y7 + (1 : Int))).bind fun x12 =>
  ref_checkPlan_l1 k a0 a1 n x12)) else (some (.ok ()))
def ref_checkPlan (k : Nat) (a0 : dChange) (a1 : (List dStep)) : Option Int :=
 (ref_asked k a0).bind fun r2 =>
 if ¬ (r2 = (0 : Int)) then (some r2) else ((ref_tasks k a0).bind fun r3 =>
 if (a1.length : Int) < (r3.length : Int) then (some (7 : Int)) else ((ref_tasks k a0).bind fun r4 =>
 if (r4.length : Int) < (a1.length : Int) then (some (6 : Int)) else (bE (α := Unit) (ref_checkPlan_l1 k a0 a1 k (0 : Int)) (some) fun _ =>
 some (0 : Int))))

theorem ref_checkPlan_ok (k : Nat) (a0 : dChange) (a1 : (List dStep)) (r : Int) (h : ref_checkPlan k a0 a1 = some r) :
 Ctr Tryz.prog 60 [.rep tChange a0, .rep (.slice tStep) a1] [] (fun _ : Unit => (resA [I r], [])) := by
 unfold ref_checkPlan at h;replace h := b_top h;refine Ctr.of 43 Tryz.func60 rfl Tryz.ntmps60 rfl fun S w0 => ?_;refine sr ?_;refine bx fun b1 => ?_;refine cq (nt (JC.seq (sr ?_)));refine lo sz26 ?_;obtain ⟨r2, er2, h⟩ := b_bind h;have cr2 := ref_asked_ok k a0 r2 er2;refine ja (o_call [.tmp 8] rfl rfl en53 rfl cr2) ?_;refine aq (nt (sr ?_));refine mq ?_;refine jb (o_neq rfl) ?_;refine nt ?_;refine cn h (fun h => ?_) (fun h => ?_)
 ·refine sr (mq ?_);refine aq (nt (rx ?_));cases h;exact ra
 ·refine sk (JC.seq (sr (mq ?_)));refine ol Tryz.underlying34 ?_;refine lo sz26 ?_;obtain ⟨r3, er3, h⟩ := b_bind h;have cr3 := ref_tasks_ok k a0 r3 er3;refine ja (o_call [.tmp 15] rfl rfl en61 rfl cr3) ?_;refine ol Tryz.underlying112 ?_;refine jb (o_lss rfl) ?_;refine nt ?_;refine ci h (fun h => ?_) (fun h => ?_)
  ·refine sr (cq (nt (rx ?_)));cases h;exact ra
  ·refine sk (JC.seq (sr (mq ?_)));refine ol Tryz.underlying34 ?_;refine lo sz26 ?_;obtain ⟨r4, er4, h⟩ := b_bind h;have cr4 := ref_tasks_ok k a0 r4 er4;refine ja (o_call [.tmp 21] rfl rfl en61 rfl cr4) ?_;refine ol Tryz.underlying112 ?_;refine jb (o_gtr rfl) ?_;refine nt ?_;refine ci h (fun h => ?_) (fun h => ?_)
   ·refine sr (cq (nt (rx ?_)));cases h;exact ra
   ·refine sk ?_;refine JC.cutE (Z := Unit) (α := Unit) (fun z6 x5 => []) (fun z6 x5 => []) (fun e => e = r) h (fun e h => Option.some.inj h) (fun K hR h => ?_) (fun z6 x5 h => ?_)
    ·refine sr (cq (nt (JC.block ?_)));refine JC.loopB (Z := Unit) (α := Int) (fun z8 y7 => [(1, .rep (.slice tStep) a1), (2, Pt b1), (6, I y7)]) (fun z8 y7 => [.obj b1 26 (.rep tChange a0)]) (ref_checkPlan_l1 k a0 a1) k () (0 : Int) (fun _ => rfl) h (SE.fin [0] ⟨rfl, rfl, rfl, trivial⟩ rfl) (fun n z8 y7 h => ?_);unfold ref_checkPlan_l1 at h;refine JC.seq (sr ?_);iterate 2 refine mq ?_
     refine ol Tryz.underlying34 ?_;refine jb (o_lss rfl) ?_;refine nt ?_;refine ci h (fun h => ?_) (fun h => ?_)
     ·refine sk (JC.seq (JC.block (JC.seq ?_)));refine JC.drawN ?_;refine ea 0 (o_load_obj rfl sz26 (nfn) rfl) ?_;refine dm ?_;refine dm ?_;obtain ⟨u9, eu9, h⟩ := b_bind h;refine db (o_slice_h (t := tStep) rfl Tryz.underlying34 sz92 (chkP_some eu9).1 (chkP_some eu9).2) ?_;refine dm ?_;refine dm ?_;obtain ⟨x10, ex10, h⟩ := b_bind h;refine db (o_index (t := tStep) rfl Tryz.underlying34 sz92 ex10) ?_;refine da (o_load_at (t := tStep) rfl sz92 rfl) ?_;refine df mixed ?_;obtain ⟨r11, er11, h⟩ := b_bind h;have cr11 := ref_checkStep_ok k a0 (List.take (Int.toNat y7) a1) x10 r11 er11;refine jc (o_call [.tmp 31, .tmp 34, .tmp 38] rfl rfl en104 rfl cr11) ?_;refine aq (nt (sr ?_));refine mq ?_;refine jb (o_neq rfl) ?_;refine nt ?_;refine cn h (fun h => ?_) (fun h => ?_)
      ·refine sr (mq ?_);refine aq (nt (JC.ret (br (JN.blk_r (JN.then_r ?_)))));obtain rfl := hR _ h;exact ra
      ·refine JC.skip (JN.blk_n (tn (JC.region (mq ?_))));obtain ⟨x12, ex12, h⟩ := b_bind h;refine jb (o_add rfl ex12) ?_;refine aq (nl ?_);exact jz ((), x12) h [0]
     ·refine xa ?_;exact jz ((), ()) h []
    ·refine sr (cq (nt (JC.ret ?_)));cases h;exact ra


def ref_Begins (k : Nat) (a0 : dChange) (a1 : (List dStep)) : Option ((List Int) × Int) :=
 (ref_checkPlan k a0 a1).bind fun r2 =>
 if ¬ (r2 = (0 : Int)) then (some ([], r2)) else ((ref_begins k a0 a1).bind fun r3 =>
 some (r3, (0 : Int)))

theorem ref_Begins_ok (k : Nat) (a0 : dChange) (a1 : (List dStep)) (r : (List Int) × Int) (h : ref_Begins k a0 a1 = some r) :
 Ctr Tryz.prog 32 [.rep tChange a0, .rep (.slice tStep) a1] [] (fun _ : Unit => (resA [Ri r.1, I r.2], [])) := by
 unfold ref_Begins at h;replace h := b_top h;refine Ctr.of 16 Tryz.func32 rfl Tryz.ntmps32 rfl fun S w0 => ?_;refine sr ?_;refine bx fun b1 => ?_;refine cq ?_;refine cq (nt (JC.seq (sr ?_)));refine lo sz26 ?_;refine mq ?_;obtain ⟨r2, er2, h⟩ := b_bind h;have cr2 := ref_checkPlan_ok k a0 a1 r2 er2;refine jb (o_call [.tmp 7, .tmp 8] rfl rfl en60 rfl cr2) ?_;refine aq (nt (sr ?_));refine mq ?_;refine jb (o_neq rfl) ?_;refine nt ?_;refine cn h (fun h => ?_) (fun h => ?_)
 ·refine sr (mq ?_);refine cq ?_;refine aq (nt (rx ?_));refine JN.se (SE.ent (t := (.slice (.int .i64))) (x := []) 4 rfl .nil rfl rfl) ?_;cases h;exact rb
 ·refine sk (sr ?_);refine lo sz26 ?_;refine mq ?_;obtain ⟨r3, er3, h⟩ := b_bind h;have cr3 := ref_begins_ok k a0 a1 r3 er3;refine jb (o_call [.tmp 13, .tmp 14] rfl rfl en62 rfl cr3) ?_;refine aq ?_;refine cq (nt (JC.ret ?_));cases h;exact rb


def chg_Bars (k : Nat) (a0 : dChange) (a1 : (List dStep)) : Option (Int × Int) :=
 (chg_asked k a0 a1).bind fun r2 =>
 casesO r2.1 (if ¬ (r2.2 = (0 : Int)) then (some ((0 : Int), r2.2)) else (none)) (fun q3 => if ¬ (r2.2 = (0 : Int)) then (some ((0 : Int), r2.2)) else ((chg_quick_length k ((q3.1.1, q3.1.2.1, q3.1.2.2.1, q3.1.2.2.2), q3.2.1, q3.2.2) a1).bind fun r5 =>
 some (r5, (0 : Int))))

theorem chg_Bars_ok (k : Nat) (a0 : dChange) (a1 : (List dStep)) (r : Int × Int) (h : chg_Bars k a0 a1 = some r) :
 Ctr Tryz.prog 33 [.rep tChange a0, .rep (.slice tStep) a1] [] (fun _ : Unit => (resA [I r.1, I r.2], [])) := by
 unfold chg_Bars at h;replace h := b_top h;refine Ctr.of 20 Tryz.func33 rfl Tryz.ntmps33 rfl fun S w0 => ?_;refine sr ?_;refine bx fun b1 => ?_;refine cq ?_;refine cq (nt (sr ?_));refine lo sz26 ?_;refine mq ?_;obtain ⟨r2, er2, h⟩ := b_bind h;have cr2 := chg_asked_ok k a0 a1 r2 er2;rcases hr : r2.1 with _ | q3
 ·rw [hr] at h cr2; replace h := co_n h;refine JO.stepG (Δ := []) (F := _) (fun _ _ _ => wanted_none rfl _) rfl rfl (o_call [.tmp 9, .tmp 10] rfl rfl en56 rfl cr2) ⟨rfl, rfl, trivial⟩ fun _ => ?_;refine mq ?_;refine xr ?_;refine xr ?_;refine aq ?_;refine aq (nt (JC.seq (sr ?_)));refine mq ?_;refine jb (o_neq rfl) ?_;refine nt ?_;refine cn h (fun h => ?_) (fun h => ?_)
  ·refine sr (mq ?_);refine cq ?_;refine aq (nt (rx ?_));cases h;exact rb
  ·refine sk (sr ?_);iterate 2 refine mq ?_
   cases h
 ·rw [hr] at h cr2; replace h := co_s h;refine JO.stepG (Δ := []) (F := _) (fun _ _ _ => wanted_none rfl _) rfl rfl (o_call [.tmp 9, .tmp 10] rfl rfl en56 rfl cr2) ⟨rfl, rfl, trivial⟩ fun z4 => ?_;refine mq ?_;refine xr ?_;refine xr ?_;refine aq ?_;refine aq (nt (JC.seq (sr ?_)));refine mq ?_;refine jb (o_neq rfl) ?_;refine nt ?_;refine cn h (fun h => ?_) (fun h => ?_)
  ·refine sr (mq ?_);refine cq ?_;refine aq (nt (rx ?_));cases h;exact rb
  ·refine sk (sr ?_);iterate 2 refine mq ?_
   refine fr 1 ?_;refine JO.se (SE.rawInv (Known k ((q3.1.1, q3.1.2.1, q3.1.2.2.1, q3.1.2.2.2), q3.2.1, q3.2.2)) known_nil) ?_;obtain ⟨r5, er5, h⟩ := b_bind h;have cr5 := chg_quick_length_ok k ((q3.1.1, q3.1.2.1, q3.1.2.2.1, q3.1.2.2.2), q3.2.1, q3.2.2) z4.1 z4.2 a1 r5 er5;refine fr 1 ?_;refine JO.stepG (Δ := [_, _]) (F := _) (fun _ _ _ => wanted_none rfl _) rfl rfl (o_call [.tmp 17, .tmp 18] rfl rfl en52 rfl cr5) ⟨rfl, rfl, trivial⟩ fun _ => ?_;refine aq ?_;refine cq (nt (JC.ret ?_));cases h;exact rb


def ref_Bars (k : Nat) (a0 : dChange) (a1 : (List dStep)) : Option (Int × Int) :=
 (ref_checkPlan k a0 a1).bind fun r2 =>
 if ¬ (r2 = (0 : Int)) then (some ((0 : Int), r2)) else ((ref_bars k a0 a1).bind fun r3 =>
 some (r3, (0 : Int)))

theorem ref_Bars_ok (k : Nat) (a0 : dChange) (a1 : (List dStep)) (r : Int × Int) (h : ref_Bars k a0 a1 = some r) :
 Ctr Tryz.prog 34 [.rep tChange a0, .rep (.slice tStep) a1] [] (fun _ : Unit => (resA [I r.1, I r.2], [])) := by
 unfold ref_Bars at h;replace h := b_top h;refine Ctr.of 16 Tryz.func34 rfl Tryz.ntmps34 rfl fun S w0 => ?_;refine sr ?_;refine bx fun b1 => ?_;refine cq ?_;refine cq (nt (JC.seq (sr ?_)));refine lo sz26 ?_;refine mq ?_;obtain ⟨r2, er2, h⟩ := b_bind h;have cr2 := ref_checkPlan_ok k a0 a1 r2 er2;refine jb (o_call [.tmp 7, .tmp 8] rfl rfl en60 rfl cr2) ?_;refine aq (nt (sr ?_));refine mq ?_;refine jb (o_neq rfl) ?_;refine nt ?_;refine cn h (fun h => ?_) (fun h => ?_)
 ·refine sr (mq ?_);refine cq ?_;refine aq (nt (rx ?_));cases h;exact rb
 ·refine sk (sr ?_);refine lo sz26 ?_;refine mq ?_;obtain ⟨r3, er3, h⟩ := b_bind h;have cr3 := ref_bars_ok k a0 a1 r3 er3;refine jb (o_call [.tmp 13, .tmp 14] rfl rfl en73 rfl cr3) ?_;refine aq ?_;refine cq (nt (JC.ret ?_));cases h;exact rb


def law_ChangeBegins_l1 (k : Nat) (r8 : (List dChange) × dLots) (r10 : (List (List dStep)) × dLots) : Nat → Int → Option (Except Bool Unit)
 | 0, _ => none
 | n + 1, y13 =>
  if y13 < (r10.1.length : Int) then ((geti r8.1 (1 : Int)).bind fun x15 =>
  ((if y13 = (0 : Int) then ((geti r8.1 (0 : Int)).bind fun x19 =>
  some x19) else (some x15)) : Option (dChange)).bind fun x17 =>
  (kit_CopyChangeF k x17).bind fun r20 =>
  (geti r10.1 y13).bind fun x21 =>
  (kit_CopySteps k x21).bind fun r22 =>
  (chg_Begins k r20 r22).bind fun r24 =>
  (geti r10.1 y13).bind fun x25 =>
  (ref_Begins k x17 x25).bind fun r26 =>
  (chg_Bars k r20 r22).bind fun r27 =>
  (geti r10.1 y13).bind fun x28 =>
  (ref_Bars k x17 x28).bind fun r29 =>
  ((if ¬ (r24.2 = r26.2) then (some true) else (if ¬ (r27.2 = r29.2) then (some true) else (if ¬ (r27.1 = r29.1) then (some true) else ((kit_SameInts k r24.1 r26.1).bind fun r32 =>
  if ¬ (r32 = true) then (some true) else ((kit_SameChanges k r20 x17).bind fun r33 =>
  if ¬ (r33 = true) then (some true) else ((geti r10.1 y13).bind fun x34 =>
  (kit_SameSteps k r22 x34).bind fun r35 =>
  some (!r35))))))) : Option (Bool)).bind fun x30 =>
  if x30 = true then (some (.error false)) else ((ck (y13 + (1 : Int))).bind fun x36 =>
  law_ChangeBegins_l1 k r8 r10 n x36)) else (some (.ok ()))
def law_ChangeBegins (k : Nat) (a0 : dChange) (a1 : (List dStep)) (a2 : (List Int)) : Option Bool :=
 (((law_long k a0).bind fun r4 =>
 if r4 = true then (some true) else (some (decide ((20 : Int) < (a1.length : Int))))) : Option (Bool)).bind fun x2 =>
 if x2 = true then ((law_dressed k).bind fun r5 =>
 some r5) else ((kit_NewLots k a2).bind fun r6 =>
 (law_sets k a0 (r6.1, r6.2.1, r6.2.2)).bind fun r8 =>
 (geti r8.1 (1 : Int)).bind fun x9 =>
 (law_planned k a1 x9 (r8.2.1, r8.2.2.1, r8.2.2.2)).bind fun r10 =>
 bE (α := Unit) (law_ChangeBegins_l1 k r8 r10 k (0 : Int)) (some) fun _ =>
 (law_dressed k).bind fun r37 =>
 some r37)

theorem law_ChangeBegins_ok (k : Nat) (a0 : dChange) (a1 : (List dStep)) (a2 : (List Int)) (r : Bool) (h : law_ChangeBegins k a0 a1 a2 = some r) :
 Ctr Tryz.prog 6 [.rep tChange a0, .rep (.slice tStep) a1, Ri a2] [] (fun _ : Unit => (resA [.eq (.bool r)], [])) := by
 unfold law_ChangeBegins at h;replace h := b_top h;refine Ctr.of 127 Tryz.func6 rfl Tryz.ntmps6 rfl fun S w0 => ?_;refine sr ?_;refine bx fun b1 => ?_;refine cq (nt (JC.seq ?_));refine JC.cutB (Z := Unit) (α := Bool) (fun z3 x2 => [(1, .rep (.slice tStep) a1), (2, Ri a2), (3, Pt b1), (28, .eq (.bool x2))]) (fun z3 x2 => [.obj b1 26 (.rep tChange a0)]) h (fun K h => ?_) (fun z3 x2 h => ?_)
 ·refine JC.region ?_;refine lo sz26 ?_;obtain ⟨r4, er4, h⟩ := b_bind h;have cr4 := law_long_ok k a0 r4 er4;refine ja (o_call [.tmp 22] rfl rfl en9 rfl cr4) ?_;refine mq ?_;refine JO.bool (s := 24) rfl (fun hb => ?_) (fun hb => ?_)
  ·replace h := b_if (v_t hb) h;iterate 3 refine gn ?_
   refine pt (nl ?_);exact jz ((), true) h [0]
  ·replace h := b_ifn (v_f hb) h;refine gm ?_;refine ga (o_len rfl rfl Tryz.underlying34) ?_;refine gb (o_gtr rfl) ?_;refine pf (nl ?_);exact jz ((), decide ((20 : Int) < (a1.length : Int))) h [0]
 ·refine cv h (fun h => ?_) (fun h => ?_)
  ·refine sr ?_;obtain ⟨r5, er5, h⟩ := b_bind h;have cr5 := law_dressed_ok k  r5 er5;refine JO.s rfl (o_call [] rfl rfl en10 rfl cr5) trivial ?_;refine aq (nt (rx ?_));cases h;exact ra
  ·refine sk (sr (mq ?_));obtain ⟨r6, er6, h⟩ := b_bind h;have cr6 := kit_NewLots_ok k a2 r6 er6;refine JO.s01 rfl rfl rfl (o_call [.tmp 30] rfl rfl en12 rfl cr6) ⟨rfl, trivial⟩ fun b7 => ?_;refine aq (nt (sr ?_));refine fr 1 ?_;refine lo sz26 ?_;refine mq ?_;obtain ⟨r8, er8, h⟩ := b_bind h;have cr8 := law_sets_ok k a0 (r6.1, r6.2.1, r6.2.2) b7 r8 er8;refine fr 1 ?_;refine kb (o_call [.tmp 32, .tmp 33] rfl rfl en11 rfl cr8) ?_;refine aq (nt (sr ?_));iterate 2 refine mq ?_
   obtain ⟨x9, ex9, h⟩ := b_bind h;refine jb (o_index (t := tChange) rfl Tryz.underlying29 sz26 ex9) ?_;refine ja (o_load_at (t := tChange) rfl sz26 rfl) ?_;refine mq ?_;obtain ⟨r10, er10, h⟩ := b_bind h;have cr10 := law_planned_ok k a1 x9 (r8.2.1, r8.2.2.1, r8.2.2.2) b7 r10 er10;refine kc (o_call [.tmp 35, .tmp 38, .tmp 39] rfl rfl en18 rfl cr10) ?_;refine aq (nt ?_);refine JC.cutE (Z := Unit) (α := Unit) (fun z12 x11 => []) (fun z12 x11 => []) (fun e => e = r) h (fun e h => Option.some.inj h) (fun K hR h => ?_) (fun z12 x11 h => ?_)
   ·refine sr (cq (nt (JC.block ?_)));refine JC.loopB (Z := Unit) (α := Int) (fun z14 y13 => [(8, .rep (.slice tChange) r8.1), (9, .rep (.slice (.slice tStep)) r10.1), (10, I y13)]) (fun z14 y13 => []) (law_ChangeBegins_l1 k r8 r10) k () (0 : Int) (fun _ => rfl) h (SE.fin [] ⟨rfl, rfl, rfl, trivial⟩ rfl) (fun n z14 y13 h => ?_);unfold law_ChangeBegins_l1 at h;refine JC.seq (sr ?_);iterate 2 refine mq ?_
    refine ol Tryz.underlying41 ?_;refine jb (o_lss rfl) ?_;refine nt ?_;refine ci h (fun h => ?_) (fun h => ?_)
    ·refine sk (JC.seq (JC.block (sr (mq ?_))));obtain ⟨x15, ex15, h⟩ := b_bind h;refine jb (o_index (t := tChange) rfl Tryz.underlying29 sz26 ex15) ?_;refine ja (o_load_at (t := tChange) rfl sz26 rfl) ?_;refine JO.s01 rfl rfl rfl (o_alloc rfl za26 al26) trivial fun b16 => ?_;refine JO.n11 rfl rfl (o_store rfl sz26 rfl rfl rfl) ⟨rfl, rfl, trivial⟩ ?_;refine nt ?_;refine JC.cutB (Z := Unit) (α := dChange) (fun z18 x17 => [(8, .rep (.slice tChange) r8.1), (9, .rep (.slice (.slice tStep)) r10.1), (10, I y13), (11, Pt b16)]) (fun z18 x17 => [.obj b16 26 (.rep tChange x17)]) h (fun K h => ?_) (fun z18 x17 h => ?_)
     ·refine sr (mq ?_);refine jb (o_eql rfl) ?_;refine nt ?_;refine ci h (fun h => ?_) (fun h => ?_)
      ·refine JC.region (mq ?_);obtain ⟨x19, ex19, h⟩ := b_bind h;refine jb (o_index (t := tChange) rfl Tryz.underlying29 sz26 ex19) ?_;refine ja (o_load_at (t := tChange) rfl sz26 rfl) ?_;refine JO.n11 rfl rfl (o_store rfl sz26 rfl rfl rfl) ⟨rfl, rfl, trivial⟩ ?_;refine nl ?_;exact jz ((), x19) h [0]
      ·refine JC.skip (JN.then_n ?_);exact jz ((), x15) h [0]
     ·refine JC.seq ?_;refine JC.drawW ?_;refine DW.t11 0 rfl rfl rfl rfl (o_load_obj rfl sz26 (nfn) rfl) ⟨rfl, trivial⟩ ?_;obtain ⟨r20, er20, h⟩ := b_bind h;have cr20 := kit_CopyChangeF_ok k x17 r20 er20;refine DW.t00 rfl rfl rfl (o_call [.tmp 55] rfl rfl en13 rfl cr20) ⟨rfl, trivial⟩ ?_;refine DW.t00 rfl rfl rfl (o_move rfl) ⟨rfl, trivial⟩ ?_;refine DW.t00 rfl rfl rfl (o_move rfl) ⟨rfl, trivial⟩ ?_;obtain ⟨x21, ex21, h⟩ := b_bind h;refine DW.t00 rfl rfl rfl (o_index (t := (.slice tStep)) rfl Tryz.underlying41 sz34 ex21) ⟨rfl, rfl, trivial⟩ ?_;refine DW.t00 rfl rfl rfl (o_load_at (t := (.slice tStep)) rfl sz34 rfl) ⟨rfl, trivial⟩ ?_;obtain ⟨r22, er22, h⟩ := b_bind h;have cr22 := kit_CopySteps_ok k x21 r22 er22;refine DW.t00 rfl rfl rfl (OpT.frz (o_call [.tmp 60] rfl rfl en19 rfl cr22)) ⟨rfl, trivial⟩ ?_;refine DW.tNew (ptrD 26 (.agg (.pair (.eq (.slice none 0 0)) (.pair (.eq (.slice none 0 0)) (.pair (.eq (.slice none 0 0)) (.eq (.slice none 0 0))))))) (fun _ => rfl) rfl rfl rfl (o_alloc rfl za26 al26) trivial ?_;refine DW.fin 8 [true, true, true, true, true, true, true, true] [13] [] [] rfl (by kernel_rfl) (by kernel_rfl) (by kernel_rfl) mixed (fun vs hv hB => ?_);obtain ⟨w0, vs1, rfl, hv1⟩ := len_cons hv;obtain ⟨w1, vs2, rfl, hv2⟩ := len_cons hv1;obtain ⟨w2, vs3, rfl, hv3⟩ := len_cons hv2;obtain ⟨w3, vs4, rfl, hv4⟩ := len_cons hv3;obtain ⟨w4, vs5, rfl, hv5⟩ := len_cons hv4;obtain ⟨w5, vs6, rfl, hv6⟩ := len_cons hv5;obtain ⟨w6, vs7, rfl, hv7⟩ := len_cons hv6;obtain ⟨w7, vs8, rfl, hv8⟩ := len_cons hv7;obtain rfl := len_nil hv8;obtain ⟨b23, rfl⟩ := ptr_of hB.2.2.2.2.2.2.2.1;refine ⟨[0, 1], [.obj b16 26 (.rep tChange x17), .obj b23 26 (.agg (.pair (.eq (.slice none 0 0)) (.pair (.eq (.slice none 0 0)) (.pair (.eq (.slice none 0 0)) (.eq (.slice none 0 0))))))], by kernel_rfl, by decide, ?_⟩;refine JT.front 1 rfl ?_;refine JT.n11 rfl rfl (o_store rfl sz26 rfl rfl rfl) ⟨rfl, rfl, trivial⟩ (by kernel_rfl) ?_;refine JT.y00 rfl rfl rfl rfl (o_assign rfl) ⟨rfl, trivial⟩ (by kernel_rfl) ?_;refine JT.nil ?_;refine JN.se (SE.fin (Γ' := [(8, .rep (.slice tChange) r8.1), (9, .rep (.slice (.slice tStep)) r10.1), (10, I y13), (11, Pt b16), (12, Pt b23), (13, .rep (.slice tStep) r22)]) (Δ' := [.obj b23 26 (.rep tChange r20), .obj b16 26 (.rep tChange x17)]) [0, 1] ⟨rfl, rfl, rfl, rfl, rfl, rfl, trivial⟩ rfl) ?_;refine tn (sr ?_);refine lo sz26 ?_;refine mq ?_;obtain ⟨r24, er24, h⟩ := b_bind h;have cr24 := chg_Begins_ok k r20 r22 r24 er24;refine jb (o_call [.tmp 63, .tmp 64] rfl rfl en31 rfl cr24) ?_;refine mq ?_;refine xr ?_;refine xr ?_;refine aq ?_;refine aq (nt (JC.seq ?_));refine JC.drawN ?_;refine ea 1 (o_load_obj rfl sz26 (nfn) rfl) ?_;refine dm ?_;refine dm ?_;obtain ⟨x25, ex25, h⟩ := b_bind h;refine db (o_index (t := (.slice tStep)) rfl Tryz.underlying41 sz34 ex25) ?_;refine da (o_load_at (t := (.slice tStep)) rfl sz34 rfl) ?_;obtain ⟨r26, er26, h⟩ := b_bind h;have cr26 := ref_Begins_ok k x17 x25 r26 er26;refine db (o_call [.tmp 69, .tmp 73] rfl rfl en32 rfl cr26) ?_;refine dm ?_;refine da (o_extract rfl rfl) ?_;refine da (o_extract rfl rfl) ?_;refine da (o_assign rfl) ?_;refine df mixed ?_;refine aq (nt (sr ?_));refine lo sz26 ?_;refine mq ?_;obtain ⟨r27, er27, h⟩ := b_bind h;have cr27 := chg_Bars_ok k r20 r22 r27 er27;refine jb (o_call [.tmp 78, .tmp 79] rfl rfl en33 rfl cr27) ?_;refine mq ?_;refine xr ?_;refine xr ?_;refine aq ?_;refine aq (nt (JC.seq ?_));refine JC.drawN ?_;refine ea 1 (o_load_obj rfl sz26 (nfn) rfl) ?_;refine dm ?_;refine dm ?_;obtain ⟨x28, ex28, h⟩ := b_bind h;refine db (o_index (t := (.slice tStep)) rfl Tryz.underlying41 sz34 ex28) ?_;refine da (o_load_at (t := (.slice tStep)) rfl sz34 rfl) ?_;obtain ⟨r29, er29, h⟩ := b_bind h;have cr29 := ref_Bars_ok k x17 x28 r29 er29;refine db (o_call [.tmp 84, .tmp 88] rfl rfl en34 rfl cr29) ?_;refine dm ?_;refine da (o_extract rfl rfl) ?_;refine da (o_extract rfl rfl) ?_;refine da (o_assign rfl) ?_;refine df mixed ?_;refine aq (nt ?_)
      refine JC.cutB (Z := Unit) (α := Bool) (fun z31 x30 => [(8, .rep (.slice tChange) r8.1), (9, .rep (.slice (.slice tStep)) r10.1), (10, I y13), (125, .eq (.bool x30))]) (fun z31 x30 => []) h (fun K h => ?_) (fun z31 x30 h => ?_)
      ·refine JC.region ?_;iterate 2 refine mq ?_
       refine jb (o_neq rfl) ?_;refine mq ?_;refine JO.bool (s := 95) rfl (fun hb => ?_) (fun hb => ?_)
       ·replace h := b_if (n_t hb) h;iterate 3 refine gn ?_
        refine pt ?_;refine mq ?_;iterate 3 refine gn ?_
        refine pt ?_;refine mq ?_;iterate 4 refine gn ?_
        refine pt ?_;refine mq ?_;iterate 4 refine gn ?_
        refine pt ?_;refine mq ?_;iterate 7 refine gn ?_
        refine pt (nl ?_);exact jz ((), true) h []
       ·replace h := b_ifn (n_fn hb) h;refine gm ?_;refine gm ?_;refine gb (o_neq rfl) ?_;refine pf ?_;refine mq ?_;refine JO.bool (s := 100) rfl (fun hb => ?_) (fun hb => ?_)
        ·replace h := b_if (n_t hb) h;iterate 3 refine gn ?_
         refine pt ?_;refine mq ?_;iterate 4 refine gn ?_
         refine pt ?_;refine mq ?_;iterate 4 refine gn ?_
         refine pt ?_;refine mq ?_;iterate 7 refine gn ?_
         refine pt (nl ?_);exact jz ((), true) h []
        ·replace h := b_ifn (n_fn hb) h;refine gm ?_;refine gm ?_;refine gb (o_neq rfl) ?_;refine pf ?_;refine mq ?_;refine JO.bool (s := 105) rfl (fun hb => ?_) (fun hb => ?_)
         ·replace h := b_if (n_t hb) h;iterate 4 refine gn ?_
          refine pt ?_;refine mq ?_;iterate 4 refine gn ?_
          refine pt ?_;refine mq ?_;iterate 7 refine gn ?_
          refine pt (nl ?_);exact jz ((), true) h []
         ·replace h := b_ifn (n_fn hb) h;refine gm ?_;refine gm ?_;obtain ⟨r32, er32, h⟩ := b_bind h;have cr32 := kit_SameInts_ok k r24.1 r26.1 r32 er32;refine gb (o_call [.tmp 106, .tmp 107] rfl rfl en22 rfl cr32) ?_;refine ga (o_not rfl) ?_;refine pf ?_;refine mq ?_;refine JO.bool (s := 111) rfl (fun hb => ?_) (fun hb => ?_)
          ·replace h := b_if (nv_t hb) h;iterate 4 refine gn ?_
           refine pt ?_;refine mq ?_;iterate 7 refine gn ?_
           refine pt (nl ?_);exact jz ((), true) h []
          ·replace h := b_ifn (nv_fn hb) h;refine JO.g11 rfl rfl rfl rfl rfl rfl (o_load_obj rfl sz26 (nfn) rfl) ⟨rfl, trivial⟩ ?_;refine fr 1 ?_;refine JO.g11 rfl rfl rfl rfl rfl rfl (o_load_obj rfl sz26 (nfn) rfl) ⟨rfl, trivial⟩ ?_;obtain ⟨r33, er33, h⟩ := b_bind h;have cr33 := kit_SameChanges_ok k r20 x17 r33 er33;refine gb (o_call [.tmp 112, .tmp 113] rfl rfl en17 rfl cr33) ?_;refine ga (o_not rfl) ?_;refine pf ?_;refine mq ?_;refine JO.bool (s := 117) rfl (fun hb => ?_) (fun hb => ?_)
           ·replace h := b_if (nv_t hb) h;iterate 7 refine gn ?_
            refine pt (nl ?_);exact jz ((), true) h []
           ·replace h := b_ifn (nv_fn hb) h;refine gm ?_;refine gm ?_;refine gm ?_;obtain ⟨x34, ex34, h⟩ := b_bind h;refine gb (o_index (t := (.slice tStep)) rfl Tryz.underlying41 sz34 ex34) ?_;refine ga (o_load_at (t := (.slice tStep)) rfl sz34 rfl) ?_;obtain ⟨r35, er35, h⟩ := b_bind h;have cr35 := kit_SameSteps_ok k r22 x34 r35 er35;refine gb (o_call [.tmp 118, .tmp 122] rfl rfl en16 rfl cr35) ?_;refine ga (o_not rfl) ?_;refine pf (nl ?_);exact jz ((), !r35) h []
      ·refine cv h (fun h => ?_) (fun h => ?_)
       ·refine sr (cq (nt (JC.ret (br (JN.blk_r (JN.then_r ?_))))));obtain rfl := hR _ h;exact ra
       ·refine JC.skip (JN.blk_n (tn (JC.region (mq ?_))));obtain ⟨x36, ex36, h⟩ := b_bind h;refine jb (o_add rfl ex36) ?_;refine aq (nl ?_);exact jz ((), x36) h []
    ·refine xa ?_;exact jz ((), ()) h []
   ·refine sr ?_;obtain ⟨r37, er37, h⟩ := b_bind h;have cr37 := law_dressed_ok k  r37 er37;refine JO.s rfl (o_call [] rfl rfl en10 rfl cr37) trivial ?_;refine aq (nt (JC.ret ?_));cases h;exact ra


end Go.Proofs.YtfhdclhbdmhnmaaGreat
