/- The program's functions, part 3: what each computes, and that the code computes it. Printed by a program of this proof's own. -/
import Derived.Test.YtfhdclhbdmhnmaaGreatP2
set_option linter.unusedVariables false
set_option maxRecDepth 4000
namespace Go.Proofs.YtfhdclhbdmhnmaaGreat
open K Go Go.Proofs
def kit_PlanOf_l4 (k : Nat) (y6 : (List Int) × Int × Int × (List dStep)) (y21 : Bool × Int) : Nat → (Bool × Int) → Option Bool
 | 0, _ => none
 | n + 1, y29 =>
  if y29.2 < (y6.2.2.2.length : Int) then (((if y29.1 = true then (some true) else ((geti y6.2.2.2 y29.2).bind fun x33 =>
  some (decide (x33.1 = y21.2)))) : Option (Bool)).bind fun x31 =>
  (ck (y29.2 + (1 : Int))).bind fun x34 =>
  kit_PlanOf_l4 k y6 y21 n (x31, x34)) else (some y29.1)

def kit_PlanOf_l3 (k : Nat) (a1 : dChange) (r2 : (List dTask)) (r3 : (List Int) × dLots) (y6 : (List Int) × Int × Int × (List dStep)) (y12 : Int × Int) (x17 : dTask) : Nat → (Bool × Int) → Option Bool
 | 0, _ => none
 | n + 1, y21 =>
  if y21.2 < (r2.length : Int) then ((((geti r2 y21.2).bind fun x25 =>
  ((kit_PlanOf_l4 k y6 y21 k (false, (0 : Int))) : Option (Bool)).bind fun x27 =>
  (geti r3.1 y12.2).bind fun x35 =>
  if y21.2 = x35 then (((if y21.1 = true then (some (!x27)) else (some false)) : Option (Bool)).bind fun x36 =>
  some x36) else (((if x25.1 = x17.1 then (if ¬ (x25.2 = true) then (some true) else (if ¬ (x25.2 = true) then ((geti a1.1 x17.1).bind fun x40 =>
  (kit_At k x40.1 x25.1).bind fun r41 =>
  if (0 : Int) ≤ r41 then (some true) else (if x17.2 = true then ((geti a1.1 x25.1).bind fun x42 =>
  (kit_At k x42.1 x17.1).bind fun r43 =>
  some (decide ((0 : Int) ≤ r43))) else (some false))) else (if x17.2 = true then ((geti a1.1 x25.1).bind fun x44 =>
  (kit_At k x44.1 x17.1).bind fun r45 =>
  some (decide ((0 : Int) ≤ r45))) else (some false)))) else (if ¬ (x25.2 = true) then ((geti a1.1 x17.1).bind fun x46 =>
  (kit_At k x46.1 x25.1).bind fun r47 =>
  if (0 : Int) ≤ r47 then (some true) else (if x17.2 = true then ((geti a1.1 x25.1).bind fun x48 =>
  (kit_At k x48.1 x17.1).bind fun r49 =>
  some (decide ((0 : Int) ≤ r49))) else (some false))) else (if x17.2 = true then ((geti a1.1 x25.1).bind fun x50 =>
  (kit_At k x50.1 x17.1).bind fun r51 =>
  some (decide ((0 : Int) ≤ r51))) else (some false)))) : Option (Bool)).bind fun x38 =>
  if y21.1 = true then (if x27 = true then (some true) else (some (!x38))) else (some false))) : Option (Bool)).bind fun x23 =>
  (ck (y21.2 + (1 : Int))).bind fun x52 =>
  kit_PlanOf_l3 k a1 r2 r3 y6 y12 x17 n (x23, x52)) else (some y21.1)

def kit_PlanOf_l2 (k : Nat) (a1 : dChange) (r2 : (List dTask)) (r3 : (List Int) × dLots) (y6 : (List Int) × Int × Int × (List dStep)) : Nat → (Int × Int) → Option Int
 | 0, _ => none
 | n + 1, y12 =>
  if y12.2 < (r3.1.length : Int) then ((((geti r3.1 y12.2).bind fun x16 =>
  (geti r2 x16).bind fun x17 =>
  ((kit_PlanOf_l3 k a1 r2 r3 y6 y12 x17 k (true, (0 : Int))) : Option (Bool)).bind fun x19 =>
  ((if x19 = true then (some (decide (y12.1 < (0 : Int)))) else (some false)) : Option (Bool)).bind fun x53 =>
  if x53 = true then ((geti r3.1 y12.2).bind fun x55 =>
  some x55) else (some y12.1)) : Option (Int)).bind fun x14 =>
  (ck (y12.2 + (1 : Int))).bind fun x56 =>
  kit_PlanOf_l2 k a1 r2 r3 y6 n (x14, x56)) else (some y12.1)

def kit_PlanOf_l5 (k : Nat) (a1 : dChange) (r2 : (List dTask)) (x10 : Int) : Nat → (Int × Int) → Option Int
 | 0, _ => none
 | n + 1, y61 =>
  if y61.2 < (a1.2.1.length : Int) then ((geti a1.2.1 y61.1).bind fun x63 =>
  (geti r2 x10).bind fun x64 =>
  (geti a1.1 x64.1).bind fun x65 =>
  (((geti r2 x10).bind fun x69 =>
  (kit_At k x63.1 x69.1).bind fun r70 =>
  if (0 : Int) ≤ r70 then (if x65.2.2.2.1 = (0 : Int) then (some true) else (if x63.2.1 = (0 : Int) then (some true) else (some (decide (x65.2.2.2.1 = x63.2.1))))) else (some false)) : Option (Bool)).bind fun x67 =>
  if x67 = true then (some y61.1) else ((ck (y61.1 + (1 : Int))).bind fun x71 =>
  (chkP ((a1.2.1.length : Int) ≠ 0)).bind fun _ =>
  (ck (y61.2 + (1 : Int))).bind fun x73 =>
  kit_PlanOf_l5 k a1 r2 x10 n (Int.tmod x71 (a1.2.1.length : Int), x73))) else (some y61.1)

def kit_PlanOf_l1 (k : Nat) (a1 : dChange) (r2 : (List dTask)) (r3 : (List Int) × dLots) : Nat → ((List Int) × Int × Int × (List dStep)) → Option (Except ((List dStep) × dLots) ((List dStep) × (List Int) × Int × Int))
 | 0, _ => none
 | n + 1, y6 =>
  if (y6.2.2.2.length : Int) < (r2.length : Int) then (bE (α := (List Int) × Int × Int × (List dStep)) (((kit_PlanOf_l2 k a1 r2 r3 y6 k ((-1 : Int), (0 : Int))) : Option (Int)).bind fun x10 =>
  if x10 < (0 : Int) then (some (.error (y6.2.2.2, (y6.1, y6.2.1, y6.2.2.1)))) else ((ck ((a1.2.1.length : Int) - (1 : Int))).bind fun x57 =>
  (kit_Lots_Upto k (y6.1, y6.2.1, y6.2.2.1) x57).bind fun r58 =>
  ((kit_PlanOf_l5 k a1 r2 x10 k (r58.1, (0 : Int))) : Option (Int)).bind fun x59 =>
  (chkP (okLen (List.length y6.2.2.2 + List.length [(x10, x59)]))).bind fun _ =>
  some (.ok (r58.2.1, r58.2.2.1, r58.2.2.2, y6.2.2.2 ++ [(x10, x59)])))) (fun e => some (.error e)) fun x8 =>
  kit_PlanOf_l1 k a1 r2 r3 n (x8.1, x8.2.1, x8.2.2.1, x8.2.2.2)) else (some (.ok (y6.2.2.2, y6.1, y6.2.1, y6.2.2.1)))
def kit_PlanOf (k : Nat) (a0 : dLots) (a1 : dChange) : Option ((List dStep) × dLots) :=
 (kit_TasksOf k a1).bind fun r2 =>
 (kit_Lots_Mixed k (a0.1, a0.2.1, a0.2.2) (r2.length : Int)).bind fun r3 =>
 bE (α := (List dStep) × (List Int) × Int × Int) (kit_PlanOf_l1 k a1 r2 r3 k (r3.2.1, r3.2.2.1, r3.2.2.2, ([] : (List dStep)))) (some) fun x4 =>
 some (x4.1, (x4.2.1, x4.2.2.1, x4.2.2.2))

theorem kit_PlanOf_ok (k : Nat) (a0 : dLots) (b_a0 : Nat) (a1 : dChange) (r : (List dStep) × dLots) (h : kit_PlanOf k a0 a1 = some r) :
 Ctr Tryz.prog 55 [Pt b_a0, .rep tChange a1] [.obj b_a0 79 (.agg (.pair (Ri a0.1) (.pair (I a0.2.1) (.eq (.int .u64 a0.2.2)))))] (fun _ : Unit => (resA [.rep (.slice tStep) r.1], [.obj b_a0 79 (.agg (.pair (Ri r.2.1) (.pair (I r.2.2.1) (.eq (.int .u64 r.2.2.2)))))])) := by
 unfold kit_PlanOf at h;replace h := b_top h;refine Ctr.of 212 Tryz.func55 rfl Tryz.ntmps55 rfl fun S w0 => ?_;refine sr ?_;refine bx fun b1 => ?_;refine cq (nt (sr ?_));refine lo sz26 ?_;obtain ⟨r2, er2, h⟩ := b_bind h;have cr2 := kit_TasksOf_ok k a1 r2 er2;refine ja (o_call [.tmp 21] rfl rfl en65 rfl cr2) ?_;refine aq (nt (sr ?_));refine cq (nt (sr ?_));iterate 2 refine mq ?_
 refine ol Tryz.underlying112 ?_;obtain ⟨r3, er3, h⟩ := b_bind h;have cr3 := kit_Lots_Mixed_ok k (a0.1, a0.2.1, a0.2.2) b_a0 (r2.length : Int) r3 er3;refine fr 1 ?_;refine kb (o_call [.tmp 23, .tmp 25] rfl rfl en100 rfl cr3) ?_;refine aq (nt ?_);refine JC.cutE (Z := Value) (α := (List dStep) × (List Int) × Int × Int) (fun z5 x4 => [(6, .eq z5)]) (fun z5 x4 => [.sl z5 92 tStep x4.1, .obj b_a0 79 (.agg (.pair (Ri x4.2.1) (.pair (I x4.2.2.1) (.eq (.int .u64 x4.2.2.2)))))]) (fun e => e = r) h (fun e h => Option.some.inj h) (fun K hR h => ?_) (fun z5 x4 h => ?_)
 ·refine JC.block ?_;refine JC.se (SE.nil 92 tStep) ?_;refine JC.loopB (Z := Value) (α := (List Int) × Int × Int × (List dStep)) (fun z7 y6 => [(0, Pt b_a0), (3, Pt b1), (5, .rep (.slice tTask) r2), (6, .eq z7), (7, Ri r3.1)]) (fun z7 y6 => [.obj b_a0 79 (.agg (.pair (Ri y6.1) (.pair (I y6.2.1) (.eq (.int .u64 y6.2.2.1))))), .obj b1 26 (.rep tChange a1), .sl z7 92 tStep y6.2.2.2]) (kit_PlanOf_l1 k a1 r2 r3) k (.slice none 0 0) (r3.2.1, r3.2.2.1, r3.2.2.2, ([] : (List dStep))) (fun _ => rfl) h (SE.fin [1, 2, 0] ⟨rfl, rfl, rfl, rfl, rfl, trivial⟩ rfl) (fun n z7 y6 h => ?_);unfold kit_PlanOf_l1 at h;refine JC.seq (sr (mq ?_));refine fr 2 ?_;refine ka (o_len_own rfl rfl Tryz.underlying34) ?_;refine mq ?_;refine ol Tryz.underlying112 ?_;refine jb (o_lss rfl) ?_;refine nt ?_;refine ci h (fun h => ?_) (fun h => ?_)
  ·refine sk ?_;refine JC.cutEN (Z := Value) (α := (List Int) × Int × Int × (List dStep)) (fun z9 x8 => [(0, Pt b_a0), (3, Pt b1), (5, .rep (.slice tTask) r2), (6, .eq z9), (7, Ri r3.1)]) (fun z9 x8 => [.obj b_a0 79 (.agg (.pair (Ri x8.1) (.pair (I x8.2.1) (.eq (.int .u64 x8.2.2.1))))), .obj b1 26 (.rep tChange a1), .sl z9 92 tStep x8.2.2.2]) (fun e => e = r) h (fun e h => hR e h) (fun K hR h => ?_) (fun z9 x8 h => ?_)
   ·refine JC.block (sr (cq (nt ?_)));refine JC.cutB (Z := Unit) (α := Int) (fun z11 x10 => [(0, Pt b_a0), (3, Pt b1), (5, .rep (.slice tTask) r2), (6, .eq z7), (7, Ri r3.1), (8, I x10)]) (fun z11 x10 => [.obj b_a0 79 (.agg (.pair (Ri y6.1) (.pair (I y6.2.1) (.eq (.int .u64 y6.2.2.1))))), .obj b1 26 (.rep tChange a1), .sl z7 92 tStep y6.2.2.2]) h (fun K h => ?_) (fun z11 x10 h => ?_)
    ·refine sr (cq (nt (JC.block ?_)));refine JC.loopB (Z := Unit) (α := Int × Int) (fun z13 y12 => [(0, Pt b_a0), (3, Pt b1), (5, .rep (.slice tTask) r2), (6, .eq z7), (7, Ri r3.1), (8, I y12.1), (9, I y12.2)]) (fun z13 y12 => [.obj b_a0 79 (.agg (.pair (Ri y6.1) (.pair (I y6.2.1) (.eq (.int .u64 y6.2.2.1))))), .obj b1 26 (.rep tChange a1), .sl z7 92 tStep y6.2.2.2]) (kit_PlanOf_l2 k a1 r2 r3 y6) k () ((-1 : Int), (0 : Int)) (fun _ => rfl) h (SE.fin [1, 2, 0] ⟨rfl, rfl, rfl, rfl, rfl, rfl, rfl, trivial⟩ rfl) (fun n z13 y12 h => ?_);unfold kit_PlanOf_l2 at h;refine JC.seq (sr ?_);iterate 2 refine mq ?_
     refine ol Tryz.underlying24 ?_;refine jb (o_lss rfl) ?_;refine nt ?_;refine ci h (fun h => ?_) (fun h => ?_)
     ·refine sk ?_;refine JC.cutB (Z := Unit) (α := Int) (fun z15 x14 => [(0, Pt b_a0), (3, Pt b1), (5, .rep (.slice tTask) r2), (6, .eq z7), (7, Ri r3.1), (8, I x14), (9, I y12.2)]) (fun z15 x14 => [.obj b_a0 79 (.agg (.pair (Ri y6.1) (.pair (I y6.2.1) (.eq (.int .u64 y6.2.2.1))))), .obj b1 26 (.rep tChange a1), .sl z7 92 tStep y6.2.2.2]) h (fun K h => ?_) (fun z15 x14 h => ?_)
      ·refine JC.block (sr ?_);iterate 3 refine mq ?_
       obtain ⟨x16, ex16, h⟩ := b_bind h;refine jb (o_index (t := (.int .i64)) rfl Tryz.underlying24 sz3 ex16) ?_;refine ja (o_load_at (t := (.int .i64)) rfl sz3 rfl) ?_;obtain ⟨x17, ex17, h⟩ := b_bind h;refine jb (o_index (t := tTask) rfl Tryz.underlying112 sz116 ex17) ?_;refine ja (o_load_at (t := tTask) rfl sz116 rfl) ?_;refine JO.s01 rfl rfl rfl (o_alloc rfl za116 al116) trivial fun b18 => ?_;refine JO.n11 rfl rfl (o_store rfl sz116 rfl rfl rfl) ⟨rfl, rfl, trivial⟩ ?_;refine nt (sr (cq (nt ?_)));refine JC.cutB (Z := Unit) (α := Bool) (fun z20 x19 => [(0, Pt b_a0), (3, Pt b1), (5, .rep (.slice tTask) r2), (6, .eq z7), (7, Ri r3.1), (8, I y12.1), (9, I y12.2), (11, .eq (.bool x19))]) (fun z20 x19 => [.obj b_a0 79 (.agg (.pair (Ri y6.1) (.pair (I y6.2.1) (.eq (.int .u64 y6.2.2.1))))), .obj b1 26 (.rep tChange a1), .sl z7 92 tStep y6.2.2.2]) h (fun K h => ?_) (fun z20 x19 h => ?_)
       ·refine sr (cq (nt (JC.block ?_)));refine JC.loopB (Z := Unit) (α := Bool × Int) (fun z22 y21 => [(0, Pt b_a0), (3, Pt b1), (5, .rep (.slice tTask) r2), (6, .eq z7), (7, Ri r3.1), (8, I y12.1), (9, I y12.2), (10, Pt b18), (11, .eq (.bool y21.1)), (12, I y21.2)]) (fun z22 y21 => [.obj b_a0 79 (.agg (.pair (Ri y6.1) (.pair (I y6.2.1) (.eq (.int .u64 y6.2.2.1))))), .obj b1 26 (.rep tChange a1), .sl z7 92 tStep y6.2.2.2, .obj b18 116 (.rep tTask x17)]) (kit_PlanOf_l3 k a1 r2 r3 y6 y12 x17) k () (true, (0 : Int)) (fun _ => rfl) h (SE.fin [1, 2, 3, 0] ⟨rfl, rfl, rfl, rfl, rfl, rfl, rfl, rfl, rfl, rfl, trivial⟩ rfl) (fun n z22 y21 h => ?_);unfold kit_PlanOf_l3 at h;refine JC.seq (sr ?_);iterate 2 refine mq ?_
        refine ol Tryz.underlying112 ?_;refine jb (o_lss rfl) ?_;refine nt ?_;refine ci h (fun h => ?_) (fun h => ?_)
        ·refine sk ?_;refine JC.cutB (Z := Unit) (α := Bool) (fun z24 x23 => [(0, Pt b_a0), (3, Pt b1), (5, .rep (.slice tTask) r2), (6, .eq z7), (7, Ri r3.1), (8, I y12.1), (9, I y12.2), (10, Pt b18), (11, .eq (.bool x23)), (12, I y21.2)]) (fun z24 x23 => [.obj b_a0 79 (.agg (.pair (Ri y6.1) (.pair (I y6.2.1) (.eq (.int .u64 y6.2.2.1))))), .obj b1 26 (.rep tChange a1), .sl z7 92 tStep y6.2.2.2, .obj b18 116 (.rep tTask x17)]) h (fun K h => ?_) (fun z24 x23 h => ?_)
         ·refine JC.block (sr ?_);iterate 2 refine mq ?_
          obtain ⟨x25, ex25, h⟩ := b_bind h;refine jb (o_index (t := tTask) rfl Tryz.underlying112 sz116 ex25) ?_;refine ja (o_load_at (t := tTask) rfl sz116 rfl) ?_;refine JO.s01 rfl rfl rfl (o_alloc rfl za116 al116) trivial fun b26 => ?_;refine JO.n11 rfl rfl (o_store rfl sz116 rfl rfl rfl) ⟨rfl, rfl, trivial⟩ ?_;refine nt (sr (cq (nt ?_)));refine JC.cutB (Z := Unit) (α := Bool) (fun z28 x27 => [(0, Pt b_a0), (3, Pt b1), (5, .rep (.slice tTask) r2), (6, .eq z7), (7, Ri r3.1), (8, I y12.1), (9, I y12.2), (10, Pt b18), (11, .eq (.bool y21.1)), (12, I y21.2), (13, Pt b26), (14, .eq (.bool x27))]) (fun z28 x27 => [.obj b_a0 79 (.agg (.pair (Ri y6.1) (.pair (I y6.2.1) (.eq (.int .u64 y6.2.2.1))))), .obj b1 26 (.rep tChange a1), .sl z7 92 tStep y6.2.2.2, .obj b18 116 (.rep tTask x17), .obj b26 116 (.rep tTask x25)]) h (fun K h => ?_) (fun z28 x27 h => ?_)
          ·refine sr (cq (nt (JC.block ?_)));refine JC.loopB (Z := Unit) (α := Bool × Int) (fun z30 y29 => [(0, Pt b_a0), (3, Pt b1), (5, .rep (.slice tTask) r2), (6, .eq z7), (7, Ri r3.1), (8, I y12.1), (9, I y12.2), (10, Pt b18), (11, .eq (.bool y21.1)), (12, I y21.2), (13, Pt b26), (14, .eq (.bool y29.1)), (15, I y29.2)]) (fun z30 y29 => [.obj b_a0 79 (.agg (.pair (Ri y6.1) (.pair (I y6.2.1) (.eq (.int .u64 y6.2.2.1))))), .obj b1 26 (.rep tChange a1), .sl z7 92 tStep y6.2.2.2, .obj b18 116 (.rep tTask x17), .obj b26 116 (.rep tTask x25)]) (kit_PlanOf_l4 k y6 y21) k () (false, (0 : Int)) (fun _ => rfl) h (SE.fin [1, 2, 3, 4, 0] ⟨rfl, rfl, rfl, rfl, rfl, rfl, rfl, rfl, rfl, rfl, rfl, rfl, rfl, trivial⟩ rfl) (fun n z30 y29 h => ?_);unfold kit_PlanOf_l4 at h;refine JC.seq (sr ?_);iterate 2 refine mq ?_
           refine fr 2 ?_;refine ka (o_len_own rfl rfl Tryz.underlying34) ?_;refine jb (o_lss rfl) ?_;refine nt ?_;refine ci h (fun h => ?_) (fun h => ?_)
           ·refine sk ?_;refine JC.cutB (Z := Unit) (α := Bool) (fun z32 x31 => [(0, Pt b_a0), (3, Pt b1), (5, .rep (.slice tTask) r2), (6, .eq z7), (7, Ri r3.1), (8, I y12.1), (9, I y12.2), (10, Pt b18), (11, .eq (.bool y21.1)), (12, I y21.2), (13, Pt b26), (14, .eq (.bool x31)), (15, I y29.2)]) (fun z32 x31 => [.obj b_a0 79 (.agg (.pair (Ri y6.1) (.pair (I y6.2.1) (.eq (.int .u64 y6.2.2.1))))), .obj b1 26 (.rep tChange a1), .sl z7 92 tStep y6.2.2.2, .obj b18 116 (.rep tTask x17), .obj b26 116 (.rep tTask x25)]) h (fun K h => ?_) (fun z32 x31 h => ?_)
            ·refine JC.block (JC.region ?_);iterate 2 refine mq ?_
             refine JO.bool (s := 62) rfl (fun hb => ?_) (fun hb => ?_)
             ·replace h := b_if (v_t hb) h;iterate 7 refine gn ?_
              refine pt ?_;refine aq (JO.nil (bn ?_));exact jz ((), true) h [1, 2, 0, 3, 4]
             ·replace h := b_ifn (v_f hb) h;refine gm ?_;refine gm ?_;obtain ⟨x33, ex33, h⟩ := b_bind h;refine JO.g11 rfl rfl rfl rfl rfl rfl (o_index_own (t := tStep) rfl Tryz.underlying34 sz92 ex33) ⟨rfl, rfl, trivial⟩ ?_;refine JO.g11 rfl rfl rfl rfl rfl rfl (o_field_el rfl fo92_0 (geti_ne ex33)) ⟨rfl, trivial⟩ ?_;refine JO.g11 rfl rfl rfl rfl rfl rfl (o_load_el (i := Int.toNat y29.2) (off := 0) rfl sz3 (fun _ => rfl) rfl (geti_some ex33).2.2 rfl) ⟨rfl, trivial⟩ ?_;refine gm ?_;refine gb (o_eql rfl) ?_;refine pf ?_;refine aq (JO.nil (bn ?_));exact jz ((), decide (x33.1 = y21.2)) h [1, 2, 0, 3, 4]
            ·refine JC.region (mq ?_);obtain ⟨x34, ex34, h⟩ := b_bind h;refine jb (o_add rfl ex34) ?_;refine aq (nl ?_);exact jz ((), (x31, x34)) h [0, 1, 2, 3, 4]
           ·refine xa ?_;exact jz ((), y29.1) h [1, 2, 0, 3, 4]
          ·refine JC.seq (sr ?_);iterate 3 refine mq ?_
           obtain ⟨x35, ex35, h⟩ := b_bind h;refine jb (o_index (t := (.int .i64)) rfl Tryz.underlying24 sz3 ex35) ?_;refine ja (o_load_at (t := (.int .i64)) rfl sz3 rfl) ?_;refine jb (o_eql rfl) ?_;refine nt ?_;refine ci h (fun h => ?_) (fun h => ?_)
           ·refine JC.cutB (Z := Unit) (α := Bool) (fun z37 x36 => [(0, Pt b_a0), (3, Pt b1), (5, .rep (.slice tTask) r2), (6, .eq z7), (7, Ri r3.1), (8, I y12.1), (9, I y12.2), (10, Pt b18), (11, .eq (.bool x36)), (12, I y21.2)]) (fun z37 x36 => [.obj b_a0 79 (.agg (.pair (Ri y6.1) (.pair (I y6.2.1) (.eq (.int .u64 y6.2.2.1))))), .obj b1 26 (.rep tChange a1), .sl z7 92 tStep y6.2.2.2, .obj b18 116 (.rep tTask x17)]) h (fun K h => ?_) (fun z37 x36 h => ?_)
            ·refine JC.region ?_;iterate 2 refine mq ?_
             refine JO.bool (s := 78) rfl (fun hb => ?_) (fun hb => ?_)
             ·replace h := b_if (v_t hb) h;refine gm ?_;refine ga (o_not rfl) ?_;refine pt ?_;refine aq (nl ?_);exact jz ((), !x27) h [0, 1, 2, 3]
             ·replace h := b_ifn (v_f hb) h;iterate 2 refine gn ?_
              refine pf ?_;refine aq (nl ?_);exact jz ((), false) h [0, 1, 2, 3]
            ·refine JC.exit (JN.then_x (JN.blk_hit (JN.then_n ?_)));exact jz ((), x36) h [0, 1, 2, 3]
           ·refine sk ?_;refine JC.cutB (Z := Unit) (α := Bool) (fun z39 x38 => [(0, Pt b_a0), (3, Pt b1), (5, .rep (.slice tTask) r2), (6, .eq z7), (7, Ri r3.1), (8, I y12.1), (9, I y12.2), (10, Pt b18), (11, .eq (.bool y21.1)), (12, I y21.2), (14, .eq (.bool x27)), (16, .eq (.bool x38))]) (fun z39 x38 => [.obj b_a0 79 (.agg (.pair (Ri y6.1) (.pair (I y6.2.1) (.eq (.int .u64 y6.2.2.1))))), .obj b1 26 (.rep tChange a1), .sl z7 92 tStep y6.2.2.2, .obj b18 116 (.rep tTask x17)]) h (fun K h => ?_) (fun z39 x38 h => ?_)
            ·refine JC.drawN ?_;refine da (o_field_obj rfl fo116_0) ?_;refine ea 4 (o_load_obj rfl sz3 (fun _ => rfl) rfl) ?_;refine da (o_field_obj rfl fo116_0) ?_;refine ea 3 (o_load_obj rfl sz3 (fun _ => rfl) rfl) ?_;refine db (o_eql rfl) ?_;refine DN.fork rfl rfl rfl (o_move rfl) ⟨rfl, trivial⟩ (fun hb => ?_) (fun hb => ?_)
             ·replace h := b_if (d_t hb) h;refine DN.sg00 rfl rfl rfl rfl rfl (o_field_obj rfl fo116_1) ⟨rfl, rfl, trivial⟩ ?_;refine DN.sg11 4 rfl rfl rfl rfl rfl rfl (o_load_obj rfl sz4 (fun _ => rfl) rfl) ⟨rfl, rfl, trivial⟩ ?_;refine DN.sg00 rfl rfl rfl rfl rfl (o_not rfl) ⟨rfl, rfl, trivial⟩ ?_;refine db (o_pick_t rfl) ?_;refine DN.fork rfl rfl rfl (o_move rfl) ⟨rfl, trivial⟩ (fun hb => ?_) (fun hb => ?_)
              ·replace h := b_if (nv_t hb) h;iterate 4 refine dg ?_
               refine du ?_;refine du ?_;refine du ?_;refine du ?_;refine du ?_;refine du ?_;refine du ?_;refine du ?_;refine du ?_;refine du ?_;refine du ?_;refine dg ?_;refine db (o_pick_t rfl) ?_;refine dm ?_;iterate 3 refine dg ?_
               refine du ?_;refine du ?_;refine du ?_;refine du ?_;refine du ?_;refine du ?_;refine du ?_;refine du ?_;refine du ?_;refine df mixed ?_;refine gu ?_;refine gu ?_;refine gn ?_;refine pt ?_;refine aq (nl ?_);exact jz ((), true) h [0, 1, 2, 3]
              ·replace h := b_ifn (nv_fn hb) h;refine DN.sg00 rfl rfl rfl rfl rfl (o_field_obj rfl fo116_1) ⟨rfl, rfl, trivial⟩ ?_;refine DN.sg11 4 rfl rfl rfl rfl rfl rfl (o_load_obj rfl sz4 (fun _ => rfl) rfl) ⟨rfl, rfl, trivial⟩ ?_;refine DN.sg00 rfl rfl rfl rfl rfl (o_not rfl) ⟨rfl, rfl, trivial⟩ ?_;refine DN.forkg rfl rfl rfl rfl rfl (o_move rfl) ⟨rfl, rfl, trivial⟩ (fun hb => ?_) (fun hb => ?_)
               ·replace h := b_if (nv_t hb) h;refine DN.sg00 rfl rfl rfl rfl rfl (o_field_obj rfl fo26_0) ⟨rfl, rfl, trivial⟩ ?_;refine DN.sg11 1 rfl rfl rfl rfl rfl rfl (o_load_obj rfl sz22 (fun _ => rfl) rfl) ⟨rfl, rfl, trivial⟩ ?_;refine DN.sg00 rfl rfl rfl rfl rfl (o_field_obj rfl fo116_0) ⟨rfl, rfl, trivial⟩ ?_;refine DN.sg11 3 rfl rfl rfl rfl rfl rfl (o_load_obj rfl sz3 (fun _ => rfl) rfl) ⟨rfl, rfl, trivial⟩ ?_;obtain ⟨x40, ex40, h⟩ := b_bind h;refine DN.sg00 rfl rfl rfl rfl rfl (o_index (t := tThing) rfl Tryz.underlying22 sz74 ex40) ⟨rfl, rfl, rfl, trivial⟩ ?_;refine DN.sg00 rfl rfl rfl rfl rfl (o_field_at 1 false rfl fo74_0 rfl) ⟨rfl, rfl, trivial⟩ ?_;refine DN.sg00 rfl rfl rfl rfl rfl (o_load_at (t := (.slice (.int .i64))) rfl sz24 rfl) ⟨rfl, rfl, trivial⟩ ?_;refine DN.sg00 rfl rfl rfl rfl rfl (o_field_obj rfl fo116_0) ⟨rfl, rfl, trivial⟩ ?_;refine DN.sg11 4 rfl rfl rfl rfl rfl rfl (o_load_obj rfl sz3 (fun _ => rfl) rfl) ⟨rfl, rfl, trivial⟩ ?_;obtain ⟨r41, er41, h⟩ := b_bind h;have cr41 := kit_At_ok k x40.1 x25.1 r41 er41;refine DN.sg00 rfl rfl rfl rfl rfl (o_call [.tmp 103, .tmp 105] rfl rfl en101 rfl cr41) ⟨rfl, rfl, rfl, trivial⟩ ?_;refine DN.sg00 rfl rfl rfl rfl rfl (o_geq rfl) ⟨rfl, rfl, rfl, trivial⟩ ?_;refine DN.sg00 rfl rfl rfl rfl rfl (o_pick_t rfl) ⟨rfl, rfl, rfl, trivial⟩ ?_;refine db (o_pick_f rfl) ?_;refine DN.fork rfl rfl rfl (o_move rfl) ⟨rfl, trivial⟩ (fun hb => ?_) (fun hb => ?_)
                ·replace h := b_if (d_t hb) h;iterate 3 refine dg ?_
                 refine du ?_;refine du ?_;refine du ?_;refine du ?_;refine du ?_;refine du ?_;refine du ?_;refine du ?_;refine du ?_;refine df mixed ?_;refine gu ?_;refine gu ?_;refine gn ?_;refine pt ?_;refine aq (nl ?_);exact jz ((), true) h [0, 1, 2, 3]
                ·replace h := b_ifn (d_f hb) h;refine DN.sg00 rfl rfl rfl rfl rfl (o_field_obj rfl fo116_1) ⟨rfl, rfl, trivial⟩ ?_;refine DN.sg11 3 rfl rfl rfl rfl rfl rfl (o_load_obj rfl sz4 (fun _ => rfl) rfl) ⟨rfl, rfl, trivial⟩ ?_;refine DN.forkg rfl rfl rfl rfl rfl (o_move rfl) ⟨rfl, rfl, trivial⟩ (fun hb => ?_) (fun hb => ?_)
                 ·replace h := b_if (v_t hb) h;refine DN.sg00 rfl rfl rfl rfl rfl (o_field_obj rfl fo26_0) ⟨rfl, rfl, trivial⟩ ?_;refine DN.sg11 1 rfl rfl rfl rfl rfl rfl (o_load_obj rfl sz22 (fun _ => rfl) rfl) ⟨rfl, rfl, trivial⟩ ?_;refine DN.sg00 rfl rfl rfl rfl rfl (o_field_obj rfl fo116_0) ⟨rfl, rfl, trivial⟩ ?_;refine DN.sg11 4 rfl rfl rfl rfl rfl rfl (o_load_obj rfl sz3 (fun _ => rfl) rfl) ⟨rfl, rfl, trivial⟩ ?_;obtain ⟨x42, ex42, h⟩ := b_bind h;refine DN.sg00 rfl rfl rfl rfl rfl (o_index (t := tThing) rfl Tryz.underlying22 sz74 ex42) ⟨rfl, rfl, rfl, trivial⟩ ?_;refine DN.sg00 rfl rfl rfl rfl rfl (o_field_at 1 false rfl fo74_0 rfl) ⟨rfl, rfl, trivial⟩ ?_;refine DN.sg00 rfl rfl rfl rfl rfl (o_load_at (t := (.slice (.int .i64))) rfl sz24 rfl) ⟨rfl, rfl, trivial⟩ ?_;refine DN.sg00 rfl rfl rfl rfl rfl (o_field_obj rfl fo116_0) ⟨rfl, rfl, trivial⟩ ?_;refine DN.sg11 3 rfl rfl rfl rfl rfl rfl (o_load_obj rfl sz3 (fun _ => rfl) rfl) ⟨rfl, rfl, trivial⟩ ?_;refine df mixed ?_;obtain ⟨r43, er43, h⟩ := b_bind h;have cr43 := kit_At_ok k x42.1 x17.1 r43 er43;refine gb (o_call [.tmp 120, .tmp 122] rfl rfl en101 rfl cr43) ?_;refine gb (o_geq rfl) ?_;refine gb (o_pick_t rfl) ?_;refine pf ?_;refine aq (nl ?_);exact jz ((), decide ((0 : Int) ≤ r43)) h [0, 1, 2, 3]
                 ·replace h := b_ifn (v_f hb) h;iterate 9 refine dg ?_
                  refine df mixed ?_;iterate 2 refine gn ?_
                  refine gb (o_pick_f rfl) ?_;refine pf ?_;refine aq (nl ?_);exact jz ((), false) h [0, 1, 2, 3]
               ·replace h := b_ifn (nv_fn hb) h;iterate 11 refine dg ?_
                refine DN.sg00 rfl rfl rfl rfl rfl (o_pick_f rfl) ⟨rfl, rfl, rfl, trivial⟩ ?_;refine db (o_pick_f rfl) ?_;refine dm ?_;refine DN.sg00 rfl rfl rfl rfl rfl (o_field_obj rfl fo116_1) ⟨rfl, rfl, trivial⟩ ?_;refine DN.sg11 3 rfl rfl rfl rfl rfl rfl (o_load_obj rfl sz4 (fun _ => rfl) rfl) ⟨rfl, rfl, trivial⟩ ?_;refine DN.forkg rfl rfl rfl rfl rfl (o_move rfl) ⟨rfl, rfl, trivial⟩ (fun hb => ?_) (fun hb => ?_)
                ·replace h := b_if (v_t hb) h;refine DN.sg00 rfl rfl rfl rfl rfl (o_field_obj rfl fo26_0) ⟨rfl, rfl, trivial⟩ ?_;refine DN.sg11 1 rfl rfl rfl rfl rfl rfl (o_load_obj rfl sz22 (fun _ => rfl) rfl) ⟨rfl, rfl, trivial⟩ ?_;refine DN.sg00 rfl rfl rfl rfl rfl (o_field_obj rfl fo116_0) ⟨rfl, rfl, trivial⟩ ?_;refine DN.sg11 4 rfl rfl rfl rfl rfl rfl (o_load_obj rfl sz3 (fun _ => rfl) rfl) ⟨rfl, rfl, trivial⟩ ?_;obtain ⟨x44, ex44, h⟩ := b_bind h;refine DN.sg00 rfl rfl rfl rfl rfl (o_index (t := tThing) rfl Tryz.underlying22 sz74 ex44) ⟨rfl, rfl, rfl, trivial⟩ ?_;refine DN.sg00 rfl rfl rfl rfl rfl (o_field_at 1 false rfl fo74_0 rfl) ⟨rfl, rfl, trivial⟩ ?_;refine DN.sg00 rfl rfl rfl rfl rfl (o_load_at (t := (.slice (.int .i64))) rfl sz24 rfl) ⟨rfl, rfl, trivial⟩ ?_;refine DN.sg00 rfl rfl rfl rfl rfl (o_field_obj rfl fo116_0) ⟨rfl, rfl, trivial⟩ ?_;refine DN.sg11 3 rfl rfl rfl rfl rfl rfl (o_load_obj rfl sz3 (fun _ => rfl) rfl) ⟨rfl, rfl, trivial⟩ ?_;refine df mixed ?_;obtain ⟨r45, er45, h⟩ := b_bind h;have cr45 := kit_At_ok k x44.1 x17.1 r45 er45;refine gb (o_call [.tmp 120, .tmp 122] rfl rfl en101 rfl cr45) ?_;refine gb (o_geq rfl) ?_;refine gb (o_pick_t rfl) ?_;refine pf ?_;refine aq (nl ?_);exact jz ((), decide ((0 : Int) ≤ r45)) h [0, 1, 2, 3]
                ·replace h := b_ifn (v_f hb) h;iterate 9 refine dg ?_
                 refine df mixed ?_;iterate 2 refine gn ?_
                 refine gb (o_pick_f rfl) ?_;refine pf ?_;refine aq (nl ?_);exact jz ((), false) h [0, 1, 2, 3]
             ·replace h := b_ifn (d_f hb) h;iterate 3 refine dg ?_
              refine db (o_pick_f rfl) ?_;refine dm ?_;refine DN.sg00 rfl rfl rfl rfl rfl (o_field_obj rfl fo116_1) ⟨rfl, rfl, trivial⟩ ?_;refine DN.sg11 4 rfl rfl rfl rfl rfl rfl (o_load_obj rfl sz4 (fun _ => rfl) rfl) ⟨rfl, rfl, trivial⟩ ?_;refine DN.sg00 rfl rfl rfl rfl rfl (o_not rfl) ⟨rfl, rfl, trivial⟩ ?_;refine DN.forkg rfl rfl rfl rfl rfl (o_move rfl) ⟨rfl, rfl, trivial⟩ (fun hb => ?_) (fun hb => ?_)
              ·replace h := b_if (nv_t hb) h;refine DN.sg00 rfl rfl rfl rfl rfl (o_field_obj rfl fo26_0) ⟨rfl, rfl, trivial⟩ ?_;refine DN.sg11 1 rfl rfl rfl rfl rfl rfl (o_load_obj rfl sz22 (fun _ => rfl) rfl) ⟨rfl, rfl, trivial⟩ ?_;refine DN.sg00 rfl rfl rfl rfl rfl (o_field_obj rfl fo116_0) ⟨rfl, rfl, trivial⟩ ?_;refine DN.sg11 3 rfl rfl rfl rfl rfl rfl (o_load_obj rfl sz3 (fun _ => rfl) rfl) ⟨rfl, rfl, trivial⟩ ?_;obtain ⟨x46, ex46, h⟩ := b_bind h;refine DN.sg00 rfl rfl rfl rfl rfl (o_index (t := tThing) rfl Tryz.underlying22 sz74 ex46) ⟨rfl, rfl, rfl, trivial⟩ ?_;refine DN.sg00 rfl rfl rfl rfl rfl (o_field_at 1 false rfl fo74_0 rfl) ⟨rfl, rfl, trivial⟩ ?_;refine DN.sg00 rfl rfl rfl rfl rfl (o_load_at (t := (.slice (.int .i64))) rfl sz24 rfl) ⟨rfl, rfl, trivial⟩ ?_;refine DN.sg00 rfl rfl rfl rfl rfl (o_field_obj rfl fo116_0) ⟨rfl, rfl, trivial⟩ ?_;refine DN.sg11 4 rfl rfl rfl rfl rfl rfl (o_load_obj rfl sz3 (fun _ => rfl) rfl) ⟨rfl, rfl, trivial⟩ ?_;obtain ⟨r47, er47, h⟩ := b_bind h;have cr47 := kit_At_ok k x46.1 x25.1 r47 er47;refine DN.sg00 rfl rfl rfl rfl rfl (o_call [.tmp 103, .tmp 105] rfl rfl en101 rfl cr47) ⟨rfl, rfl, rfl, trivial⟩ ?_;refine DN.sg00 rfl rfl rfl rfl rfl (o_geq rfl) ⟨rfl, rfl, rfl, trivial⟩ ?_;refine DN.sg00 rfl rfl rfl rfl rfl (o_pick_t rfl) ⟨rfl, rfl, rfl, trivial⟩ ?_;refine db (o_pick_f rfl) ?_;refine DN.fork rfl rfl rfl (o_move rfl) ⟨rfl, trivial⟩ (fun hb => ?_) (fun hb => ?_)
               ·replace h := b_if (d_t hb) h;iterate 3 refine dg ?_
                refine du ?_;refine du ?_;refine du ?_;refine du ?_;refine du ?_;refine du ?_;refine du ?_;refine du ?_;refine du ?_;refine df mixed ?_;refine gu ?_;refine gu ?_;refine gn ?_;refine pt ?_;refine aq (nl ?_);exact jz ((), true) h [0, 1, 2, 3]
               ·replace h := b_ifn (d_f hb) h;refine DN.sg00 rfl rfl rfl rfl rfl (o_field_obj rfl fo116_1) ⟨rfl, rfl, trivial⟩ ?_;refine DN.sg11 3 rfl rfl rfl rfl rfl rfl (o_load_obj rfl sz4 (fun _ => rfl) rfl) ⟨rfl, rfl, trivial⟩ ?_;refine DN.forkg rfl rfl rfl rfl rfl (o_move rfl) ⟨rfl, rfl, trivial⟩ (fun hb => ?_) (fun hb => ?_)
                ·replace h := b_if (v_t hb) h;refine DN.sg00 rfl rfl rfl rfl rfl (o_field_obj rfl fo26_0) ⟨rfl, rfl, trivial⟩ ?_;refine DN.sg11 1 rfl rfl rfl rfl rfl rfl (o_load_obj rfl sz22 (fun _ => rfl) rfl) ⟨rfl, rfl, trivial⟩ ?_;refine DN.sg00 rfl rfl rfl rfl rfl (o_field_obj rfl fo116_0) ⟨rfl, rfl, trivial⟩ ?_;refine DN.sg11 4 rfl rfl rfl rfl rfl rfl (o_load_obj rfl sz3 (fun _ => rfl) rfl) ⟨rfl, rfl, trivial⟩ ?_;obtain ⟨x48, ex48, h⟩ := b_bind h;refine DN.sg00 rfl rfl rfl rfl rfl (o_index (t := tThing) rfl Tryz.underlying22 sz74 ex48) ⟨rfl, rfl, rfl, trivial⟩ ?_;refine DN.sg00 rfl rfl rfl rfl rfl (o_field_at 1 false rfl fo74_0 rfl) ⟨rfl, rfl, trivial⟩ ?_;refine DN.sg00 rfl rfl rfl rfl rfl (o_load_at (t := (.slice (.int .i64))) rfl sz24 rfl) ⟨rfl, rfl, trivial⟩ ?_;refine DN.sg00 rfl rfl rfl rfl rfl (o_field_obj rfl fo116_0) ⟨rfl, rfl, trivial⟩ ?_;refine DN.sg11 3 rfl rfl rfl rfl rfl rfl (o_load_obj rfl sz3 (fun _ => rfl) rfl) ⟨rfl, rfl, trivial⟩ ?_;refine df mixed ?_;obtain ⟨r49, er49, h⟩ := b_bind h;have cr49 := kit_At_ok k x48.1 x17.1 r49 er49;refine gb (o_call [.tmp 120, .tmp 122] rfl rfl en101 rfl cr49) ?_;refine gb (o_geq rfl) ?_;refine gb (o_pick_t rfl) ?_;refine pf ?_;refine aq (nl ?_);exact jz ((), decide ((0 : Int) ≤ r49)) h [0, 1, 2, 3]
                ·replace h := b_ifn (v_f hb) h;iterate 9 refine dg ?_
                 refine df mixed ?_;iterate 2 refine gn ?_
                 refine gb (o_pick_f rfl) ?_;refine pf ?_;refine aq (nl ?_);exact jz ((), false) h [0, 1, 2, 3]
              ·replace h := b_ifn (nv_fn hb) h;iterate 11 refine dg ?_
               refine DN.sg00 rfl rfl rfl rfl rfl (o_pick_f rfl) ⟨rfl, rfl, rfl, trivial⟩ ?_;refine db (o_pick_f rfl) ?_;refine dm ?_;refine DN.sg00 rfl rfl rfl rfl rfl (o_field_obj rfl fo116_1) ⟨rfl, rfl, trivial⟩ ?_;refine DN.sg11 3 rfl rfl rfl rfl rfl rfl (o_load_obj rfl sz4 (fun _ => rfl) rfl) ⟨rfl, rfl, trivial⟩ ?_;refine DN.forkg rfl rfl rfl rfl rfl (o_move rfl) ⟨rfl, rfl, trivial⟩ (fun hb => ?_) (fun hb => ?_)
               ·replace h := b_if (v_t hb) h;refine DN.sg00 rfl rfl rfl rfl rfl (o_field_obj rfl fo26_0) ⟨rfl, rfl, trivial⟩ ?_;refine DN.sg11 1 rfl rfl rfl rfl rfl rfl (o_load_obj rfl sz22 (fun _ => rfl) rfl) ⟨rfl, rfl, trivial⟩ ?_;refine DN.sg00 rfl rfl rfl rfl rfl (o_field_obj rfl fo116_0) ⟨rfl, rfl, trivial⟩ ?_;refine DN.sg11 4 rfl rfl rfl rfl rfl rfl (o_load_obj rfl sz3 (fun _ => rfl) rfl) ⟨rfl, rfl, trivial⟩ ?_;obtain ⟨x50, ex50, h⟩ := b_bind h;refine DN.sg00 rfl rfl rfl rfl rfl (o_index (t := tThing) rfl Tryz.underlying22 sz74 ex50) ⟨rfl, rfl, rfl, trivial⟩ ?_;refine DN.sg00 rfl rfl rfl rfl rfl (o_field_at 1 false rfl fo74_0 rfl) ⟨rfl, rfl, trivial⟩ ?_;refine DN.sg00 rfl rfl rfl rfl rfl (o_load_at (t := (.slice (.int .i64))) rfl sz24 rfl) ⟨rfl, rfl, trivial⟩ ?_;refine DN.sg00 rfl rfl rfl rfl rfl (o_field_obj rfl fo116_0) ⟨rfl, rfl, trivial⟩ ?_;refine DN.sg11 3 rfl rfl rfl rfl rfl rfl (o_load_obj rfl sz3 (fun _ => rfl) rfl) ⟨rfl, rfl, trivial⟩ ?_;refine df mixed ?_;obtain ⟨r51, er51, h⟩ := b_bind h;have cr51 := kit_At_ok k x50.1 x17.1 r51 er51;refine gb (o_call [.tmp 120, .tmp 122] rfl rfl en101 rfl cr51) ?_;refine gb (o_geq rfl) ?_;refine gb (o_pick_t rfl) ?_;refine pf ?_;refine aq (nl ?_);exact jz ((), decide ((0 : Int) ≤ r51)) h [0, 1, 2, 3]
               ·replace h := b_ifn (v_f hb) h;iterate 9 refine dg ?_
                refine df mixed ?_;iterate 2 refine gn ?_
                refine gb (o_pick_f rfl) ?_;refine pf ?_;refine aq (nl ?_);exact jz ((), false) h [0, 1, 2, 3]
            ·refine JC.region ?_;iterate 2 refine mq ?_
             refine JO.bool (s := 128) rfl (fun hb => ?_) (fun hb => ?_)
             ·replace h := b_if (v_t hb) h;refine gm ?_;refine gm ?_;refine JO.bool (s := 130) rfl (fun hb => ?_) (fun hb => ?_)
              ·replace h := b_if (v_t hb) h;iterate 2 refine gn ?_
               refine gb (o_pick_t rfl) ?_;refine pt ?_;refine aq (JO.nil (bn ?_));exact jz ((), true) h [0, 1, 2, 3]
              ·replace h := b_ifn (v_f hb) h;refine gm ?_;refine ga (o_not rfl) ?_;refine gb (o_pick_f rfl) ?_;refine pt ?_;refine aq (JO.nil (bn ?_));exact jz ((), !x38) h [0, 1, 2, 3]
             ·replace h := b_ifn (v_f hb) h;iterate 2 refine gn ?_
              refine gu ?_;refine gu ?_;refine gn ?_;refine pf ?_;refine aq (JO.nil (bn ?_));exact jz ((), false) h [0, 1, 2, 3]
         ·refine JC.region (mq ?_);obtain ⟨x52, ex52, h⟩ := b_bind h;refine jb (o_add rfl ex52) ?_;refine aq (nl ?_);exact jz ((), (x23, x52)) h [0, 1, 2, 3]
        ·refine xa ?_;exact jz ((), y21.1) h [0, 1, 2]
       ·refine JC.cutB (Z := Unit) (α := Bool) (fun z54 x53 => [(0, Pt b_a0), (3, Pt b1), (5, .rep (.slice tTask) r2), (6, .eq z7), (7, Ri r3.1), (8, I y12.1), (9, I y12.2), (139, .eq (.bool x53))]) (fun z54 x53 => [.obj b_a0 79 (.agg (.pair (Ri y6.1) (.pair (I y6.2.1) (.eq (.int .u64 y6.2.2.1))))), .obj b1 26 (.rep tChange a1), .sl z7 92 tStep y6.2.2.2]) h (fun K h => ?_) (fun z54 x53 h => ?_)
        ·refine JC.region ?_;iterate 2 refine mq ?_
         refine JO.bool (s := 136) rfl (fun hb => ?_) (fun hb => ?_)
         ·replace h := b_if (v_t hb) h;refine gm ?_;refine gb (o_lss rfl) ?_;refine pt (nl ?_);exact jz ((), decide (y12.1 < (0 : Int))) h [0, 1, 2]
         ·replace h := b_ifn (v_f hb) h;iterate 2 refine gn ?_
          refine pf (nl ?_);exact jz ((), false) h [0, 1, 2]
        ·refine cv h (fun h => ?_) (fun h => ?_)
         ·refine JC.region ?_;iterate 2 refine mq ?_
          obtain ⟨x55, ex55, h⟩ := b_bind h;refine jb (o_index (t := (.int .i64)) rfl Tryz.underlying24 sz3 ex55) ?_;refine ja (o_load_at (t := (.int .i64)) rfl sz3 rfl) ?_;refine aq (JO.nil (bn ?_));exact jz ((), x55) h [0, 1, 2]
         ·refine JC.skip (bn ?_);exact jz ((), y12.1) h [0, 1, 2]
      ·refine JC.region (mq ?_);obtain ⟨x56, ex56, h⟩ := b_bind h;refine jb (o_add rfl ex56) ?_;refine aq (nl ?_);exact jz ((), (x14, x56)) h [0, 1, 2]
     ·refine xa ?_;exact jz ((), y12.1) h [0, 1, 2]
    ·refine JC.seq (sr (mq ?_));refine jb (o_lss rfl) ?_;refine nt ?_;refine ci h (fun h => ?_) (fun h => ?_)
     ·refine sr (mq ?_);refine aq (nt (rx (br (JN.blk_r (JN.then_r ?_)))));refine JN.front 2 rfl ?_;refine JN.se (SE.frz [4, 6, 146] ⟨rfl, rfl, rfl, trivial⟩) ?_;obtain rfl := hR _ h;exact JN.ret () [_] 1 ⟨rfl, trivial⟩ rfl
     ·refine sk (sr (mq ?_));refine fl fo26_1 ?_;refine fr 1 ?_;refine lo sz23 ?_;refine ol Tryz.underlying23 ?_;obtain ⟨x57, ex57, h⟩ := b_bind h;refine jb (o_sub rfl ex57) ?_;obtain ⟨r58, er58, h⟩ := b_bind h;have cr58 := kit_Lots_Upto_ok k (y6.1, y6.2.1, y6.2.2.1) b_a0 x57 r58 er58;refine fr 1 ?_;refine kb (o_call [.tmp 147, .tmp 151] rfl rfl en23 rfl cr58) ?_;refine aq (nt ?_);refine JC.cutB (Z := Unit) (α := Int) (fun z60 x59 => [(0, Pt b_a0), (3, Pt b1), (5, .rep (.slice tTask) r2), (6, .eq z7), (7, Ri r3.1), (8, I x10), (17, I x59)]) (fun z60 x59 => [.obj b_a0 79 (.agg (.pair (Ri r58.2.1) (.pair (I r58.2.2.1) (.eq (.int .u64 r58.2.2.2))))), .obj b1 26 (.rep tChange a1), .sl z7 92 tStep y6.2.2.2]) h (fun K h => ?_) (fun z60 x59 h => ?_)
      ·refine sr (cq (nt (JC.block ?_)));refine JC.loopB (Z := Unit) (α := Int × Int) (fun z62 y61 => [(0, Pt b_a0), (3, Pt b1), (5, .rep (.slice tTask) r2), (6, .eq z7), (7, Ri r3.1), (8, I x10), (17, I y61.1), (18, I y61.2)]) (fun z62 y61 => [.obj b_a0 79 (.agg (.pair (Ri r58.2.1) (.pair (I r58.2.2.1) (.eq (.int .u64 r58.2.2.2))))), .obj b1 26 (.rep tChange a1), .sl z7 92 tStep y6.2.2.2]) (kit_PlanOf_l5 k a1 r2 x10) k () (r58.1, (0 : Int)) (fun _ => rfl) h (SE.fin [0, 1, 2] ⟨rfl, rfl, rfl, rfl, rfl, rfl, rfl, rfl, trivial⟩ rfl) (fun n z62 y61 h => ?_);unfold kit_PlanOf_l5 at h;refine JC.seq (sr (mq ?_));refine fl fo26_1 ?_;refine fr 1 ?_;refine lo sz23 ?_;refine ol Tryz.underlying23 ?_;refine jb (o_lss rfl) ?_;refine nt ?_;refine ci h (fun h => ?_) (fun h => ?_)
       ·refine sk (JC.seq (JC.block (JC.seq ?_)));refine JC.drawW ?_;refine DW.t00 rfl rfl rfl (o_field_obj rfl fo26_1) ⟨rfl, trivial⟩ ?_;refine DW.t11 0 rfl rfl rfl rfl (o_load_obj rfl sz23 (fun _ => rfl) rfl) ⟨rfl, trivial⟩ ?_;refine DW.t00 rfl rfl rfl (o_move rfl) ⟨rfl, trivial⟩ ?_;obtain ⟨x63, ex63, h⟩ := b_bind h;refine DW.t00 rfl rfl rfl (o_index (t := tDresser) rfl Tryz.underlying23 sz52 ex63) ⟨rfl, rfl, trivial⟩ ?_;refine DW.t00 rfl rfl rfl (o_load_at (t := tDresser) rfl sz52 rfl) ⟨rfl, trivial⟩ ?_;refine DW.t00 rfl rfl rfl (o_field_obj rfl fo26_0) ⟨rfl, trivial⟩ ?_;refine DW.t11 0 rfl rfl rfl rfl (o_load_obj rfl sz22 (fun _ => rfl) rfl) ⟨rfl, trivial⟩ ?_;refine DW.t00 rfl rfl rfl (o_move rfl) ⟨rfl, trivial⟩ ?_;refine DW.t00 rfl rfl rfl (o_move rfl) ⟨rfl, trivial⟩ ?_;obtain ⟨x64, ex64, h⟩ := b_bind h;refine DW.t00 rfl rfl rfl (o_index (t := tTask) rfl Tryz.underlying112 sz116 ex64) ⟨rfl, rfl, trivial⟩ ?_;refine DW.t00 rfl rfl rfl (o_field_at 1 false rfl fo116_0 rfl) ⟨rfl, trivial⟩ ?_;refine DW.t00 rfl rfl rfl (o_load_at (t := (.int .i64)) rfl sz3 rfl) ⟨rfl, trivial⟩ ?_;obtain ⟨x65, ex65, h⟩ := b_bind h;refine DW.t00 rfl rfl rfl (o_index (t := tThing) rfl Tryz.underlying22 sz74 ex65) ⟨rfl, rfl, trivial⟩ ?_;refine DW.t00 rfl rfl rfl (o_field_at 1 false rfl fo74_3 rfl) ⟨rfl, trivial⟩ ?_;refine DW.t00 rfl rfl rfl (o_load_at (t := (.int .i64)) rfl sz3 rfl) ⟨rfl, trivial⟩ ?_;refine DW.tNew (ptrD 52 (.agg (.pair (.eq (.slice none 0 0)) (.pair (I (0 : Int)) (I (0 : Int)))))) (fun _ => rfl) rfl rfl rfl (o_alloc rfl za52 al52) trivial ?_;refine DW.fin 16 [true, true, true, true, true, false, false, false, false, false, false, false, false, false, false, true] [20] [0] [.obj b1 26 (.rep tChange a1)] rfl (by kernel_rfl) (by kernel_rfl) (by kernel_rfl) mixed (fun vs hv hB => ?_);obtain ⟨w0, vs1, rfl, hv1⟩ := len_cons hv;obtain ⟨w1, vs2, rfl, hv2⟩ := len_cons hv1;obtain ⟨w2, vs3, rfl, hv3⟩ := len_cons hv2;obtain ⟨w3, vs4, rfl, hv4⟩ := len_cons hv3;obtain ⟨w4, vs5, rfl, hv5⟩ := len_cons hv4;obtain ⟨w5, vs6, rfl, hv6⟩ := len_cons hv5;obtain ⟨w6, vs7, rfl, hv7⟩ := len_cons hv6;obtain ⟨w7, vs8, rfl, hv8⟩ := len_cons hv7;obtain ⟨w8, vs9, rfl, hv9⟩ := len_cons hv8;obtain ⟨w9, vs10, rfl, hv10⟩ := len_cons hv9;obtain ⟨w10, vs11, rfl, hv11⟩ := len_cons hv10;obtain ⟨w11, vs12, rfl, hv12⟩ := len_cons hv11;obtain ⟨w12, vs13, rfl, hv13⟩ := len_cons hv12;obtain ⟨w13, vs14, rfl, hv14⟩ := len_cons hv13;obtain ⟨w14, vs15, rfl, hv15⟩ := len_cons hv14;obtain ⟨w15, vs16, rfl, hv16⟩ := len_cons hv15;obtain rfl := len_nil hv16;obtain ⟨b66, rfl⟩ := ptr_of hB.2.2.2.2.2.2.2.2.2.2.2.2.2.2.2.1;refine ⟨[0, 1, 2, 3], [.obj b_a0 79 (.agg (.pair (Ri r58.2.1) (.pair (I r58.2.2.1) (.eq (.int .u64 r58.2.2.2))))), .sl z7 92 tStep y6.2.2.2, .obj b66 52 (.agg (.pair (.eq (.slice none 0 0)) (.pair (I (0 : Int)) (I (0 : Int)))))], by kernel_rfl, by decide, ?_⟩;refine JT.front 2 rfl ?_;refine JT.n11 rfl rfl (o_store rfl sz52 rfl rfl rfl) ⟨rfl, rfl, trivial⟩ (by kernel_rfl) ?_;refine JT.all (by kernel_rfl) ?_;refine aq (nt (JC.seq ?_));refine JC.cutB (Z := Unit) (α := Bool) (fun z68 x67 => [(0, Pt b_a0), (3, Pt b1), (5, .rep (.slice tTask) r2), (6, .eq z7), (7, Ri r3.1), (8, I x10), (17, I y61.1), (18, I y61.2), (198, .eq (.bool x67))]) (fun z68 x67 => [.obj b_a0 79 (.agg (.pair (Ri r58.2.1) (.pair (I r58.2.2.1) (.eq (.int .u64 r58.2.2.2))))), .obj b1 26 (.rep tChange a1), .sl z7 92 tStep y6.2.2.2]) h (fun K h => ?_) (fun z68 x67 h => ?_)
        ·refine JC.drawN ?_;refine da (o_field_obj rfl fo52_0) ?_;refine ea 1 (o_load_obj rfl sz24 (fun _ => rfl) rfl) ?_;refine dm ?_;refine dm ?_;obtain ⟨x69, ex69, h⟩ := b_bind h;refine db (o_index (t := tTask) rfl Tryz.underlying112 sz116 ex69) ?_;refine da (o_field_at 1 false rfl fo116_0 rfl) ?_;refine da (o_load_at (t := (.int .i64)) rfl sz3 rfl) ?_;obtain ⟨r70, er70, h⟩ := b_bind h;have cr70 := kit_At_ok k x63.1 x69.1 r70 er70;refine db (o_call [.tmp 176, .tmp 181] rfl rfl en101 rfl cr70) ?_;refine db (o_geq rfl) ?_;refine DN.fork rfl rfl rfl (o_move rfl) ⟨rfl, trivial⟩ (fun hb => ?_) (fun hb => ?_)
         ·replace h := b_if (d_t hb) h;refine DN.sg00 rfl rfl rfl rfl rfl (o_move rfl) ⟨rfl, rfl, trivial⟩ ?_;refine DN.sg00 rfl rfl rfl rfl rfl (o_eql rfl) ⟨rfl, rfl, rfl, trivial⟩ ?_;refine DN.forkg rfl rfl rfl rfl rfl (o_move rfl) ⟨rfl, rfl, trivial⟩ (fun hb => ?_) (fun hb => ?_)
          ·replace h := b_if (d_t hb) h;iterate 3 refine dg ?_
           refine DN.sg00 rfl rfl rfl rfl rfl (o_pick_t rfl) ⟨rfl, rfl, rfl, trivial⟩ ?_;refine DN.sg00 rfl rfl rfl rfl rfl (o_move rfl) ⟨rfl, rfl, trivial⟩ ?_;iterate 3 refine dg ?_
           refine df mixed ?_;refine gn ?_;refine gb (o_pick_t rfl) ?_;refine pt (nl ?_);exact jz ((), true) h [2, 0, 3]
          ·replace h := b_ifn (d_f hb) h;refine DN.sg00 rfl rfl rfl rfl rfl (o_field_obj rfl fo52_1) ⟨rfl, rfl, trivial⟩ ?_;refine DN.sg11 1 rfl rfl rfl rfl rfl rfl (o_load_obj rfl sz3 (fun _ => rfl) rfl) ⟨rfl, rfl, trivial⟩ ?_;refine DN.sg00 rfl rfl rfl rfl rfl (o_eql rfl) ⟨rfl, rfl, rfl, trivial⟩ ?_;refine DN.sg00 rfl rfl rfl rfl rfl (o_pick_f rfl) ⟨rfl, rfl, rfl, trivial⟩ ?_;refine DN.forkg rfl rfl rfl rfl rfl (o_move rfl) ⟨rfl, rfl, trivial⟩ (fun hb => ?_) (fun hb => ?_)
           ·replace h := b_if (d_t hb) h;iterate 3 refine dg ?_
            refine df mixed ?_;refine gn ?_;refine gb (o_pick_t rfl) ?_;refine pt (nl ?_);exact jz ((), true) h [2, 0, 3]
           ·replace h := b_ifn (d_f hb) h;refine DN.sg00 rfl rfl rfl rfl rfl (o_move rfl) ⟨rfl, rfl, trivial⟩ ?_;refine DN.sg00 rfl rfl rfl rfl rfl (o_field_obj rfl fo52_1) ⟨rfl, rfl, trivial⟩ ?_;refine DN.sg11 1 rfl rfl rfl rfl rfl rfl (o_load_obj rfl sz3 (fun _ => rfl) rfl) ⟨rfl, rfl, trivial⟩ ?_;refine df mixed ?_;refine gb (o_eql rfl) ?_;refine gb (o_pick_f rfl) ?_;refine pt (nl ?_);exact jz ((), decide (x65.2.2.2.1 = x63.2.1)) h [2, 0, 3]
         ·replace h := b_ifn (d_f hb) h;iterate 3 refine dg ?_
          refine du ?_;refine du ?_;refine du ?_;iterate 2 refine dg ?_
          refine du ?_;refine du ?_;refine du ?_;refine df mixed ?_;refine gu ?_;refine gn ?_;refine pf (nl ?_);exact jz ((), false) h [2, 0, 3]
        ·refine cv h (fun h => ?_) (fun h => ?_)
         ·refine JC.exit (JN.then_x ?_);refine JN.blk_miss (eq_false (by decide)) ?_;refine JN.then_x (JN.then_x (JN.blk_hit (JN.then_n ?_)));exact jz ((), y61.1) h [0, 1, 2]
         ·refine sk (JC.region (mq ?_));obtain ⟨x71, ex71, h⟩ := b_bind h;refine jb (o_add rfl ex71) ?_;refine fl fo26_1 ?_;refine fr 1 ?_;refine lo sz23 ?_;refine ol Tryz.underlying23 ?_;obtain ⟨u72, eu72, h⟩ := b_bind h;refine jb (o_rem rfl (chkP_some eu72)) ?_;refine aq (JO.nil (JN.blk_n (tn (JC.region ?_))));refine mq ?_;obtain ⟨x73, ex73, h⟩ := b_bind h;refine jb (o_add rfl ex73) ?_;refine aq (nl ?_);exact jz ((), (Int.tmod x71 (a1.2.1.length : Int), x73)) h [1, 0, 2]
       ·refine xa ?_;exact jz ((), y61.1) h [1, 0, 2]
      ·refine JC.region ?_;iterate 3 refine mq ?_
       refine jb (o_buildT [(0, .tmp 206, _), (1, .tmp 207, _)] rfl pl92 za92 alb92 (stors ⟨rfl, rfl, trivial⟩) rfl) ?_;refine ja (o_litB (t := tStep) [(.tmp 208, _)] [(x10, x59)] rfl rfl sl34 (.cons trivial (.agg (.pair .int .int)) .nil) rfl rfl) ?_;obtain ⟨u74, eu74, h⟩ := b_bind h;refine fr 2 ?_;refine JO.s1x rfl rfl rfl (o_append rfl rfl sl34 (chkP_some eu74)) ⟨rfl, rfl, trivial⟩ fun v75 => ?_;refine aq (JO.nil (bn ?_));exact jz (v75, (r58.2.1, r58.2.2.1, r58.2.2.2, y6.2.2.2 ++ [(x10, x59)])) h [1, 2, 0]
   ·refine JN.then_n ?_;exact jz (z9, (x8.1, x8.2.1, x8.2.2.1, x8.2.2.2)) h [0, 1, 2]
  ·refine xa ?_;exact jz (z7, (y6.2.2.2, y6.1, y6.2.1, y6.2.2.1)) h [0, 1]
 ·refine sr (mq ?_);refine aq (nt (JC.ret ?_));refine JN.se (SE.frz [4, 6, 211] ⟨rfl, rfl, rfl, trivial⟩) ?_;cases h;exact JN.ret () [_] 1 ⟨rfl, trivial⟩ rfl


def law_planned (k : Nat) (a0 : (List dStep)) (a1 : dChange) (a2 : dLots) : Option ((List (List dStep)) × dLots) :=
 (kit_PlanOf k (a2.1, a2.2.1, a2.2.2) a1).bind fun r2 =>
 (kit_CopySteps k r2.1).bind fun r3 =>
 ((if (0 : Int) < (r2.1.length : Int) then ((ck ((r2.1.length : Int) - (1 : Int))).bind fun x7 =>
 (kit_Lots_Upto k (r2.2.1, r2.2.2.1, r2.2.2.2) x7).bind fun r8 =>
 (kit_Lots_Upto k (r8.2.1, r8.2.2.1, r8.2.2.2) (2 : Int)).bind fun r9 =>
 if r9.1 = (0 : Int) then ((kit_Lots_In k (r9.2.1, r9.2.2.1, r9.2.2.2) (-1 : Int) (3 : Int)).bind fun r10 =>
 (geti r3 r8.1).bind fun x11 =>
 some (List.set r3 (Int.toNat r8.1) (x11.1, r10.1), r10.2.1, r10.2.2.1, r10.2.2.2)) else (if r9.1 = (1 : Int) then ((kit_Lots_In k (r9.2.1, r9.2.2.1, r9.2.2.2) (-1 : Int) (r2.1.length : Int)).bind fun r12 =>
 (geti r3 r8.1).bind fun x13 =>
 some (List.set r3 (Int.toNat r8.1) (r12.1, x13.2), r12.2.1, r12.2.2.1, r12.2.2.2)) else (if r9.1 = (2 : Int) then ((geti r3 (0 : Int)).bind fun x14 =>
 (geti r3 r8.1).bind fun x15 =>
 (geti r3 r8.1).bind fun x16 =>
 (geti (List.set r3 (Int.toNat r8.1) x14) (0 : Int)).bind fun x17 =>
 some (List.set (List.set r3 (Int.toNat r8.1) x14) (Int.toNat (0 : Int)) x15, r9.2.1, r9.2.2.1, r9.2.2.2)) else (some (r3, r9.2.1, r9.2.2.1, r9.2.2.2))))) else (some (r3, r2.2.1, r2.2.2.1, r2.2.2.2))) : Option ((List dStep) × (List Int) × Int × Int)).bind fun x5 =>
 some ([a0, r2.1, x5.1, a0], (x5.2.1, x5.2.2.1, x5.2.2.2))

theorem law_planned_ok (k : Nat) (a0 : (List dStep)) (a1 : dChange) (a2 : dLots) (b_a2 : Nat) (r : (List (List dStep)) × dLots) (h : law_planned k a0 a1 a2 = some r) :
 Ctr Tryz.prog 18 [.rep (.slice tStep) a0, .rep tChange a1, Pt b_a2] [.obj b_a2 79 (.agg (.pair (Ri a2.1) (.pair (I a2.2.1) (.eq (.int .u64 a2.2.2)))))] (fun _ : Unit => (resA [.rep (.slice (.slice tStep)) r.1], [.obj b_a2 79 (.agg (.pair (Ri r.2.1) (.pair (I r.2.2.1) (.eq (.int .u64 r.2.2.2)))))])) := by
 unfold law_planned at h;replace h := b_top h;refine Ctr.of 62 Tryz.func18 rfl Tryz.ntmps18 rfl fun S w0 => ?_;refine sr ?_;refine bx fun b1 => ?_;refine cq (nt (sr ?_));refine mq ?_;refine lo sz26 ?_;obtain ⟨r2, er2, h⟩ := b_bind h;have cr2 := kit_PlanOf_ok k (a2.1, a2.2.1, a2.2.2) b_a2 a1 r2 er2;refine fr 1 ?_;refine kb (o_call [.tmp 11, .tmp 12] rfl rfl en55 rfl cr2) ?_;refine aq (nt (sr ?_));refine mq ?_;obtain ⟨r3, er3, h⟩ := b_bind h;have cr3 := kit_CopySteps_ok k r2.1 r3 er3;refine JO.s01 rfl rfl rfl (o_call [.tmp 14] rfl rfl en19 rfl cr3) ⟨rfl, trivial⟩ fun v4 => ?_;refine aq (nt ?_);refine JC.cutB (Z := Unit) (α := (List dStep) × (List Int) × Int × Int) (fun z6 x5 => [(0, .rep (.slice tStep) a0), (7, .rep (.slice tStep) r2.1), (8, .eq v4)]) (fun z6 x5 => [.sl v4 92 tStep x5.1, .obj b_a2 79 (.agg (.pair (Ri x5.2.1) (.pair (I x5.2.2.1) (.eq (.int .u64 x5.2.2.2)))))]) h (fun K h => ?_) (fun z6 x5 h => ?_)
 ·refine sr (mq ?_);refine ol Tryz.underlying34 ?_;refine aq (nt (sr ?_));refine mq ?_;refine jb (o_gtr rfl) ?_;refine nt ?_;refine ci h (fun h => ?_) (fun h => ?_)
  ·refine sr ?_;iterate 2 refine mq ?_
   obtain ⟨x7, ex7, h⟩ := b_bind h;refine jb (o_sub rfl ex7) ?_;obtain ⟨r8, er8, h⟩ := b_bind h;have cr8 := kit_Lots_Upto_ok k (r2.2.1, r2.2.2.1, r2.2.2.2) b_a2 x7 r8 er8;refine fr 1 ?_;refine kb (o_call [.tmp 20, .tmp 22] rfl rfl en23 rfl cr8) ?_;refine aq (nt (sr ?_));refine mq ?_;obtain ⟨r9, er9, h⟩ := b_bind h;have cr9 := kit_Lots_Upto_ok k (r8.2.1, r8.2.2.1, r8.2.2.2) b_a2 (2 : Int) r9 er9;refine kb (o_call [.tmp 24, .const (.int .i64 (2))] rfl rfl en23 rfl cr9) ?_;refine nt (JC.block (sr ?_));refine jb (o_eql rfl) ?_;refine aq (nt ?_);refine ci h (fun h => ?_) (fun h => ?_)
   ·refine JC.region ?_;iterate 3 refine mq ?_
    obtain ⟨r10, er10, h⟩ := b_bind h;have cr10 := kit_Lots_In_ok k (r9.2.1, r9.2.2.1, r9.2.2.2) b_a2 (-1 : Int) (3 : Int) r10 er10;refine kc (o_call [.tmp 30, .const (.int .i64 (-1)), .const (.int .i64 (3))] rfl rfl en27 rfl cr10) ?_;obtain ⟨x11, ex11, h⟩ := b_bind h;refine fr 1 ?_;refine kb (o_index_own (t := tStep) rfl Tryz.underlying34 sz92 ex11) ?_;refine ka (o_field_el rfl fo92_1 (geti_ne ex11)) ?_;refine JO.n11 rfl rfl (o_store_el (i := Int.toNat r8.1) (off := 1) rfl sz3 rfl (geti_some ex11).2.2 .int rfl (.agg (.right .whole rfl))) ⟨rfl, rfl, trivial⟩ ?_;refine JO.nil (bn ?_);exact jz ((), (List.set r3 (Int.toNat r8.1) (x11.1, r10.1), r10.2.1, r10.2.2.1, r10.2.2.2)) h [0, 1]
   ·refine sr ?_;refine jb (o_eql rfl) ?_;refine aq (nt ?_);refine ci h (fun h => ?_) (fun h => ?_)
    ·refine JC.region ?_;iterate 4 refine mq ?_
     obtain ⟨r12, er12, h⟩ := b_bind h;have cr12 := kit_Lots_In_ok k (r9.2.1, r9.2.2.1, r9.2.2.2) b_a2 (-1 : Int) (r2.1.length : Int) r12 er12;refine kc (o_call [.tmp 38, .const (.int .i64 (-1)), .tmp 39] rfl rfl en27 rfl cr12) ?_;obtain ⟨x13, ex13, h⟩ := b_bind h;refine fr 1 ?_;refine kb (o_index_own (t := tStep) rfl Tryz.underlying34 sz92 ex13) ?_;refine ka (o_field_el rfl fo92_0 (geti_ne ex13)) ?_;refine JO.n11 rfl rfl (o_store_el (i := Int.toNat r8.1) (off := 0) rfl sz3 rfl (geti_some ex13).2.2 .int rfl (.agg (.left .whole))) ⟨rfl, rfl, trivial⟩ ?_;refine JO.nil (bn ?_);exact jz ((), (List.set r3 (Int.toNat r8.1) (r12.1, x13.2), r12.2.1, r12.2.2.1, r12.2.2.2)) h [0, 1]
    ·refine sr ?_;refine jb (o_eql rfl) ?_;refine aq (nt ?_);refine ci h (fun h => ?_) (fun h => ?_)
     ·refine JC.drawW ?_;refine DW.t00 rfl rfl rfl (o_move rfl) ⟨rfl, trivial⟩ ?_;refine DW.t00 rfl rfl rfl (o_move rfl) ⟨rfl, trivial⟩ ?_;refine DW.t00 rfl rfl rfl (o_move rfl) ⟨rfl, trivial⟩ ?_;refine DW.t00 rfl rfl rfl (o_move rfl) ⟨rfl, trivial⟩ ?_;obtain ⟨x14, ex14, h⟩ := b_bind h;refine DW.t11 1 rfl rfl rfl rfl (o_index_own (t := tStep) rfl Tryz.underlying34 sz92 ex14) ⟨rfl, rfl, trivial⟩ ?_;refine DW.t11 1 rfl rfl rfl rfl (o_load_el (i := Int.toNat (0 : Int)) (off := 0) rfl sz92 (nfn) rfl (geti_some ex14).2.2 rfl) ⟨rfl, trivial⟩ ?_;refine DW.t00 rfl rfl rfl (o_move rfl) ⟨rfl, trivial⟩ ?_;refine DW.t00 rfl rfl rfl (o_move rfl) ⟨rfl, trivial⟩ ?_;obtain ⟨x15, ex15, h⟩ := b_bind h;refine DW.t11 1 rfl rfl rfl rfl (o_index_own (t := tStep) rfl Tryz.underlying34 sz92 ex15) ⟨rfl, rfl, trivial⟩ ?_;refine DW.t11 1 rfl rfl rfl rfl (o_load_el (i := Int.toNat r8.1) (off := 0) rfl sz92 (nfn) rfl (geti_some ex15).2.2 rfl) ⟨rfl, trivial⟩ ?_;obtain ⟨x16, ex16, h⟩ := b_bind h;refine DW.t11 1 rfl rfl rfl rfl (o_index_own (t := tStep) rfl Tryz.underlying34 sz92 ex16) ⟨rfl, rfl, trivial⟩ ?_;refine DW.fin 11 [true, true, false, true, true, true, true, true, true, true, true] [56] [] [] rfl (by kernel_rfl) (by kernel_rfl) (by kernel_rfl) mixed (fun vs hv hB => ?_);obtain ⟨w0, vs1, rfl, hv1⟩ := len_cons hv;obtain ⟨w1, vs2, rfl, hv2⟩ := len_cons hv1;obtain ⟨w2, vs3, rfl, hv3⟩ := len_cons hv2;obtain ⟨w3, vs4, rfl, hv4⟩ := len_cons hv3;obtain ⟨w4, vs5, rfl, hv5⟩ := len_cons hv4;obtain ⟨w5, vs6, rfl, hv6⟩ := len_cons hv5;obtain ⟨w6, vs7, rfl, hv7⟩ := len_cons hv6;obtain ⟨w7, vs8, rfl, hv8⟩ := len_cons hv7;obtain ⟨w8, vs9, rfl, hv9⟩ := len_cons hv8;obtain ⟨w9, vs10, rfl, hv10⟩ := len_cons hv9;obtain ⟨w10, vs11, rfl, hv11⟩ := len_cons hv10;obtain rfl := len_nil hv11;refine ⟨[0, 1, 2], [.obj b_a2 79 (.agg (.pair (Ri r9.2.1) (.pair (I r9.2.2.1) (.eq (.int .u64 r9.2.2.2))))), .sl v4 92 tStep r3, .obj b1 26 (.rep tChange a1)], by kernel_rfl, by decide, ?_⟩;refine JT.front 1 rfl ?_;refine JT.n11 rfl rfl (o_store_elW (i := Int.toNat r8.1) rfl sz92 rfl (geti_lt ex16) rfl .rep rfl) ⟨rfl, rfl, trivial⟩ (by kernel_rfl) ?_;obtain ⟨x17, ex17, h⟩ := b_bind h;refine JT.y11 rfl rfl rfl rfl (o_index_own (t := tStep) rfl Tryz.underlying34 sz92 ex17) ⟨rfl, rfl, trivial⟩ (by kernel_rfl) ?_;refine JT.n11 rfl rfl (o_store_elW (i := Int.toNat (0 : Int)) rfl sz92 rfl (geti_lt ex17) rfl .rep rfl) ⟨rfl, rfl, trivial⟩ (by kernel_rfl) ?_;refine JT.nil ?_;refine JN.se (SE.fin (Γ' := [(0, .rep (.slice tStep) a0), (7, .rep (.slice tStep) r2.1), (8, .eq v4)]) (Δ' := [.sl v4 92 tStep (List.set (List.set r3 (Int.toNat r8.1) x14) (Int.toNat (0 : Int)) x15), .obj b_a2 79 (.agg (.pair (Ri r9.2.1) (.pair (I r9.2.2.1) (.eq (.int .u64 r9.2.2.2))))), .obj b1 26 (.rep tChange a1)]) [0, 1, 2] ⟨rfl, rfl, rfl, trivial⟩ rfl) ?_;refine bn ?_;exact jz ((), (List.set (List.set r3 (Int.toNat r8.1) x14) (Int.toNat (0 : Int)) x15, r9.2.1, r9.2.2.1, r9.2.2.2)) h [0, 1]
     ·refine JC.skip (bn ?_);exact jz ((), (r3, r9.2.1, r9.2.2.1, r9.2.2.2)) h [1, 0]
  ·refine JC.skip (JN.then_n ?_);exact jz ((), (r3, r2.2.1, r2.2.2.1, r2.2.2.2)) h [0, 1]
 ·refine sr ?_;iterate 4 refine mq ?_
  refine JO.se (SE.frz [8, 59] ⟨rfl, rfl, trivial⟩) ?_;refine JO.s rfl (o_litB (t := (.slice tStep)) [(.tmp 57, _), (.tmp 58, _), (.tmp 59, _), (.tmp 60, _)] [a0, r2.1, x5.1, a0] rfl rfl sl41 (.cons rfl .rep (.cons rfl .rep (.cons rfl .rep (.cons rfl .rep .nil)))) rfl rfl) ⟨rfl, rfl, rfl, rfl, trivial⟩ ?_;refine aq (nt (JC.ret ?_));cases h;exact JN.ret () [_] 1 ⟨rfl, trivial⟩ rfl


def ref_checkPlan_l1 (k : Nat) (a0 : dChange) (a1 : (List dStep)) : Nat → Int → Option (Except Int Unit)
 | 0, _ => none
 | n + 1, y7 =>
  if y7 < (a1.length : Int) then ((chkP (0 ≤ y7 ∧ y7 ≤ (a1.length : Int))).bind fun _ =>
  (geti a1 y7).bind fun x10 =>
  (ref_checkStep k a0 (List.take (Int.toNat y7) a1) x10).bind fun r11 =>
  if ¬ (r11 = (0 : Int)) then (some (.error r11)) else ((ck (y7 + (1 : Int))).bind fun x12 =>
  ref_checkPlan_l1 k a0 a1 n x12)) else (some (.ok ()))
def ref_checkPlan (k : Nat) (a0 : dChange) (a1 : (List dStep)) : Option Int :=
 (ref_asked k a0).bind fun r2 =>
 if ¬ (r2 = (0 : Int)) then (some r2) else ((ref_tasks k a0).bind fun r3 =>
 if (a1.length : Int) < (r3.length : Int) then (some (7 : Int)) else ((ref_tasks k a0).bind fun r4 =>
 if (r4.length : Int) < (a1.length : Int) then (some (6 : Int)) else (bE (α := Unit) (ref_checkPlan_l1 k a0 a1 k (0 : Int)) (some) fun _ =>
 some (0 : Int))))

theorem ref_checkPlan_ok (k : Nat) (a0 : dChange) (a1 : (List dStep)) (r : Int) (h : ref_checkPlan k a0 a1 = some r) :
 Ctr Tryz.prog 60 [.rep tChange a0, .rep (.slice tStep) a1] [] (fun _ : Unit => (resA [I r], [])) := by
 unfold ref_checkPlan at h;replace h := b_top h;refine Ctr.of 43 Tryz.func60 rfl Tryz.ntmps60 rfl fun S w0 => ?_;refine sr ?_;refine bx fun b1 => ?_;refine cq (nt (JC.seq (sr ?_)));refine lo sz26 ?_;obtain ⟨r2, er2, h⟩ := b_bind h;have cr2 := ref_asked_ok k a0 r2 er2;refine ja (o_call [.tmp 8] rfl rfl en53 rfl cr2) ?_;refine aq (nt (sr ?_));refine mq ?_;refine jb (o_neq rfl) ?_;refine nt ?_;refine cn h (fun h => ?_) (fun h => ?_)
 ·refine sr (mq ?_);refine aq (nt (rx ?_));cases h;exact ra
 ·refine sk (JC.seq (sr (mq ?_)));refine ol Tryz.underlying34 ?_;refine lo sz26 ?_;obtain ⟨r3, er3, h⟩ := b_bind h;have cr3 := ref_tasks_ok k a0 r3 er3;refine ja (o_call [.tmp 15] rfl rfl en61 rfl cr3) ?_;refine ol Tryz.underlying112 ?_;refine jb (o_lss rfl) ?_;refine nt ?_;refine ci h (fun h => ?_) (fun h => ?_)
  ·refine sr (cq (nt (rx ?_)));cases h;exact ra
  ·refine sk (JC.seq (sr (mq ?_)));refine ol Tryz.underlying34 ?_;refine lo sz26 ?_;obtain ⟨r4, er4, h⟩ := b_bind h;have cr4 := ref_tasks_ok k a0 r4 er4;refine ja (o_call [.tmp 21] rfl rfl en61 rfl cr4) ?_;refine ol Tryz.underlying112 ?_;refine jb (o_gtr rfl) ?_;refine nt ?_;refine ci h (fun h => ?_) (fun h => ?_)
   ·refine sr (cq (nt (rx ?_)));cases h;exact ra
   ·refine sk ?_;refine JC.cutE (Z := Unit) (α := Unit) (fun z6 x5 => []) (fun z6 x5 => []) (fun e => e = r) h (fun e h => Option.some.inj h) (fun K hR h => ?_) (fun z6 x5 h => ?_)
    ·refine sr (cq (nt (JC.block ?_)));refine JC.loopB (Z := Unit) (α := Int) (fun z8 y7 => [(1, .rep (.slice tStep) a1), (2, Pt b1), (6, I y7)]) (fun z8 y7 => [.obj b1 26 (.rep tChange a0)]) (ref_checkPlan_l1 k a0 a1) k () (0 : Int) (fun _ => rfl) h (SE.fin [0] ⟨rfl, rfl, rfl, trivial⟩ rfl) (fun n z8 y7 h => ?_);unfold ref_checkPlan_l1 at h;refine JC.seq (sr ?_);iterate 2 refine mq ?_
     refine ol Tryz.underlying34 ?_;refine jb (o_lss rfl) ?_;refine nt ?_;refine ci h (fun h => ?_) (fun h => ?_)
     ·refine sk (JC.seq (JC.block (JC.seq ?_)));refine JC.drawN ?_;refine ea 0 (o_load_obj rfl sz26 (nfn) rfl) ?_;refine dm ?_;refine dm ?_;obtain ⟨u9, eu9, h⟩ := b_bind h;refine db (o_slice_h (t := tStep) rfl Tryz.underlying34 sz92 (chkP_some eu9).1 (chkP_some eu9).2) ?_;refine dm ?_;refine dm ?_;obtain ⟨x10, ex10, h⟩ := b_bind h;refine db (o_index (t := tStep) rfl Tryz.underlying34 sz92 ex10) ?_;refine da (o_load_at (t := tStep) rfl sz92 rfl) ?_;refine df mixed ?_;obtain ⟨r11, er11, h⟩ := b_bind h;have cr11 := ref_checkStep_ok k a0 (List.take (Int.toNat y7) a1) x10 r11 er11;refine jc (o_call [.tmp 31, .tmp 34, .tmp 38] rfl rfl en104 rfl cr11) ?_;refine aq (nt (sr ?_));refine mq ?_;refine jb (o_neq rfl) ?_;refine nt ?_;refine cn h (fun h => ?_) (fun h => ?_)
      ·refine sr (mq ?_);refine aq (nt (JC.ret (br (JN.blk_r (JN.then_r ?_)))));obtain rfl := hR _ h;exact ra
      ·refine JC.skip (JN.blk_n (tn (JC.region (mq ?_))));obtain ⟨x12, ex12, h⟩ := b_bind h;refine jb (o_add rfl ex12) ?_;refine aq (nl ?_);exact jz ((), x12) h [0]
     ·refine xa ?_;exact jz ((), ()) h []
    ·refine sr (cq (nt (JC.ret ?_)));cases h;exact ra


def ref_Wearing_l1 (k : Nat) (a0 : dChange) : Nat → ((List Bool) × Int) → Option (List Bool)
 | 0, _ => none
 | n + 1, y7 =>
  if y7.2 < (a0.2.2.1.length : Int) then ((geti a0.2.2.1 y7.2).bind fun x9 =>
  (geti y7.1 x9).bind fun x10 =>
  (ck (y7.2 + (1 : Int))).bind fun x11 =>
  ref_Wearing_l1 k a0 n (List.set y7.1 (Int.toNat x9) true, x11)) else (some y7.1)

def ref_Wearing_l2 (k : Nat) (a1 : (List dStep)) (a2 : Int) (r12 : (List dTask)) (r13 : (List Int)) : Nat → ((List Bool) × Int) → Option (List Bool)
 | 0, _ => none
 | n + 1, y16 =>
  if y16.2 < (a1.length : Int) then ((((geti a1 y16.2).bind fun x20 =>
  (geti r12 x20.1).bind fun x21 =>
  ((if ¬ (x21.2 = true) then ((geti r13 y16.2).bind fun x25 =>
  some (decide (x25 ≤ a2))) else (some false)) : Option (Bool)).bind fun x23 =>
  if x23 = true then ((geti y16.1 x21.1).bind fun x26 =>
  some (List.set y16.1 (Int.toNat x21.1) false)) else (some y16.1)) : Option ((List Bool))).bind fun x18 =>
  (ck (y16.2 + (1 : Int))).bind fun x27 =>
  ref_Wearing_l2 k a1 a2 r12 r13 n (x18, x27)) else (some y16.1)

def ref_Wearing_l3 (k : Nat) (a0 : dChange) (a1 : (List dStep)) (a2 : Int) (r12 : (List dTask)) (r13 : (List Int)) : Nat → ((List Bool) × Int) → Option (List Bool)
 | 0, _ => none
 | n + 1, y30 =>
  if y30.2 < (a1.length : Int) then ((((geti a1 y30.2).bind fun x34 =>
  (geti r12 x34.1).bind fun x35 =>
  ((if x35.2 = true then ((geti r13 y30.2).bind fun x39 =>
  (ref_takes k a0 x35).bind fun r40 =>
  (ck (x39 + r40)).bind fun x41 =>
  some (decide (x41 ≤ a2))) else (some false)) : Option (Bool)).bind fun x37 =>
  if x37 = true then ((geti y30.1 x35.1).bind fun x42 =>
  some (List.set y30.1 (Int.toNat x35.1) true)) else (some y30.1)) : Option ((List Bool))).bind fun x32 =>
  (ck (y30.2 + (1 : Int))).bind fun x43 =>
  ref_Wearing_l3 k a0 a1 a2 r12 r13 n (x32, x43)) else (some y30.1)

def ref_Wearing_l4 (k : Nat) (x28 : (List Bool)) : Nat → ((List Int) × Int) → Option (List Int)
 | 0, _ => none
 | n + 1, y46 =>
  if y46.2 < (x28.length : Int) then ((((geti x28 y46.2).bind fun x50 =>
  if x50 = true then ((chkP (okLen (List.length y46.1 + List.length [y46.2]))).bind fun _ =>
  some (y46.1 ++ [y46.2])) else (some y46.1)) : Option ((List Int))).bind fun x48 =>
  (ck (y46.2 + (1 : Int))).bind fun x53 =>
  ref_Wearing_l4 k x28 n (x48, x53)) else (some y46.1)
def ref_Wearing (k : Nat) (a0 : dChange) (a1 : (List dStep)) (a2 : Int) : Option ((List Int) × Int) :=
 (ref_checkPlan k a0 a1).bind fun r2 =>
 if ¬ (r2 = (0 : Int)) then (some ([], r2)) else (if a2 < (0 : Int) then (some ([], (1 : Int))) else ((chkP (0 ≤ (a0.1.length : Int) ∧ okLen (Int.toNat (a0.1.length : Int)))).bind fun _ =>
 ((ref_Wearing_l1 k a0 k (List.replicate (Int.toNat (a0.1.length : Int)) false, (0 : Int))) : Option ((List Bool))).bind fun x5 =>
 (ref_tasks k a0).bind fun r12 =>
 (ref_begins k a0 a1).bind fun r13 =>
 ((ref_Wearing_l2 k a1 a2 r12 r13 k (x5, (0 : Int))) : Option ((List Bool))).bind fun x14 =>
 ((ref_Wearing_l3 k a0 a1 a2 r12 r13 k (x14, (0 : Int))) : Option ((List Bool))).bind fun x28 =>
 ((ref_Wearing_l4 k x28 k (([] : (List Int)), (0 : Int))) : Option ((List Int))).bind fun x44 =>
 some (x44, (0 : Int))))

theorem ref_Wearing_ok (k : Nat) (a0 : dChange) (a1 : (List dStep)) (a2 : Int) (r : (List Int) × Int) (h : ref_Wearing k a0 a1 a2 = some r) :
 Ctr Tryz.prog 21 [.rep tChange a0, .rep (.slice tStep) a1, I a2] [] (fun _ : Unit => (resA [Ri r.1, I r.2], [])) := by
 unfold ref_Wearing at h;replace h := b_top h;refine Ctr.of 126 Tryz.func21 rfl Tryz.ntmps21 rfl fun S w0 => ?_;refine sr ?_;refine bx fun b1 => ?_;refine cq ?_;refine cq (nt (JC.seq (sr ?_)));refine lo sz26 ?_;refine mq ?_;obtain ⟨r2, er2, h⟩ := b_bind h;have cr2 := ref_checkPlan_ok k a0 a1 r2 er2;refine jb (o_call [.tmp 19, .tmp 20] rfl rfl en60 rfl cr2) ?_;refine aq (nt (sr ?_));refine mq ?_;refine jb (o_neq rfl) ?_;refine nt ?_;refine cn h (fun h => ?_) (fun h => ?_)
 ·refine sr (mq ?_);refine cq ?_;refine aq (nt (rx ?_));refine JN.se (SE.ent (t := (.slice (.int .i64))) (x := []) 6 rfl .nil rfl rfl) ?_;cases h;exact rb
 ·refine sk (JC.seq (sr (mq ?_)));refine jb (o_lss rfl) ?_;refine nt ?_;refine ci h (fun h => ?_) (fun h => ?_)
  ·refine sr (cq ?_);refine cq (nt (rx ?_));refine JN.se (SE.ent (t := (.slice (.int .i64))) (x := []) 6 rfl .nil rfl rfl) ?_;cases h;exact rb
  ·refine sk (sr ?_);refine fl fo26_0 ?_;refine lo sz22 ?_;refine ol Tryz.underlying22 ?_;obtain ⟨u3, eu3, h⟩ := b_bind h;refine JO.s01 rfl rfl rfl (o_make (t := .bool) (d := false) rfl sl111 zr4 (chkP_some eu3).1 (chkP_some eu3).2) ⟨rfl, rfl, trivial⟩ fun v4 => ?_;refine aq (nt ?_);refine JC.cutB (Z := Unit) (α := (List Bool)) (fun z6 x5 => [(1, .rep (.slice tStep) a1), (2, I a2), (3, Pt b1), (9, .eq v4)]) (fun z6 x5 => [.obj b1 26 (.rep tChange a0), .sl v4 4 .bool x5]) h (fun K h => ?_) (fun z6 x5 h => ?_)
   ·refine sr (cq (nt (JC.block ?_)));refine JC.loopB (Z := Unit) (α := (List Bool) × Int) (fun z8 y7 => [(1, .rep (.slice tStep) a1), (2, I a2), (3, Pt b1), (9, .eq v4), (10, I y7.2)]) (fun z8 y7 => [.obj b1 26 (.rep tChange a0), .sl v4 4 .bool y7.1]) (ref_Wearing_l1 k a0) k () (List.replicate (Int.toNat (a0.1.length : Int)) false, (0 : Int)) (fun _ => rfl) h (SE.fin [1, 0] ⟨rfl, rfl, rfl, rfl, rfl, trivial⟩ rfl) (fun n z8 y7 h => ?_);unfold ref_Wearing_l1 at h;refine JC.seq (sr (mq ?_));refine fl fo26_2 ?_;refine lo sz24 ?_;refine ol Tryz.underlying24 ?_;refine jb (o_lss rfl) ?_;refine nt ?_;refine ci h (fun h => ?_) (fun h => ?_)
    ·refine sk (JC.seq (JC.block (JC.region (mq ?_))));refine fl fo26_2 ?_;refine lo sz24 ?_;refine mq ?_;obtain ⟨x9, ex9, h⟩ := b_bind h;refine jb (o_index (t := (.int .i64)) rfl Tryz.underlying24 sz3 ex9) ?_;refine ja (o_load_at (t := (.int .i64)) rfl sz3 rfl) ?_;obtain ⟨x10, ex10, h⟩ := b_bind h;refine fr 1 ?_;refine kb (o_index_own (t := .bool) rfl Tryz.underlying111 sz4 ex10) ?_;refine JO.n11 rfl rfl (o_store_elW (i := Int.toNat x9) rfl sz4 rfl (geti_lt ex10) rfl .bool rfl) ⟨rfl, rfl, trivial⟩ ?_;refine JO.nil (JN.blk_n (tn (JC.region (mq ?_))));obtain ⟨x11, ex11, h⟩ := b_bind h;refine jb (o_add rfl ex11) ?_;refine aq (nl ?_);exact jz ((), (List.set y7.1 (Int.toNat x9) true, x11)) h [1, 0]
    ·refine xa ?_;exact jz ((), y7.1) h [0, 1]
   ·refine JC.seq ?_;refine JC.drawN ?_;refine ea 0 (o_load_obj rfl sz26 (nfn) rfl) ?_;obtain ⟨r12, er12, h⟩ := b_bind h;have cr12 := ref_tasks_ok k a0 r12 er12;refine da (o_call [.tmp 45] rfl rfl en61 rfl cr12) ?_;refine ea 0 (o_load_obj rfl sz26 (nfn) rfl) ?_;refine dm ?_;refine df mixed ?_;obtain ⟨r13, er13, h⟩ := b_bind h;have cr13 := ref_begins_ok k a0 a1 r13 er13;refine jb (o_call [.tmp 47, .tmp 48] rfl rfl en62 rfl cr13) ?_;refine aq ?_;refine aq (nt ?_);refine JC.cutB (Z := Unit) (α := (List Bool)) (fun z15 x14 => [(1, .rep (.slice tStep) a1), (2, I a2), (3, Pt b1), (9, .eq v4), (11, .rep (.slice tTask) r12), (12, Ri r13)]) (fun z15 x14 => [.obj b1 26 (.rep tChange a0), .sl v4 4 .bool x14]) h (fun K h => ?_) (fun z15 x14 h => ?_)
    ·refine sr (cq (nt (JC.block ?_)));refine JC.loopB (Z := Unit) (α := (List Bool) × Int) (fun z17 y16 => [(1, .rep (.slice tStep) a1), (2, I a2), (3, Pt b1), (9, .eq v4), (11, .rep (.slice tTask) r12), (12, Ri r13), (13, I y16.2)]) (fun z17 y16 => [.obj b1 26 (.rep tChange a0), .sl v4 4 .bool y16.1]) (ref_Wearing_l2 k a1 a2 r12 r13) k () (x5, (0 : Int)) (fun _ => rfl) h (SE.fin [0, 1] ⟨rfl, rfl, rfl, rfl, rfl, rfl, rfl, trivial⟩ rfl) (fun n z17 y16 h => ?_);unfold ref_Wearing_l2 at h;refine JC.seq (sr ?_);iterate 2 refine mq ?_
     refine ol Tryz.underlying34 ?_;refine jb (o_lss rfl) ?_;refine nt ?_;refine ci h (fun h => ?_) (fun h => ?_)
     ·refine sk ?_;refine JC.cutB (Z := Unit) (α := (List Bool)) (fun z19 x18 => [(1, .rep (.slice tStep) a1), (2, I a2), (3, Pt b1), (9, .eq v4), (11, .rep (.slice tTask) r12), (12, Ri r13), (13, I y16.2)]) (fun z19 x18 => [.obj b1 26 (.rep tChange a0), .sl v4 4 .bool x18]) h (fun K h => ?_) (fun z19 x18 h => ?_)
      ·refine JC.block (sr ?_);iterate 3 refine mq ?_
       obtain ⟨x20, ex20, h⟩ := b_bind h;refine jb (o_index (t := tStep) rfl Tryz.underlying34 sz92 ex20) ?_;refine ja (o_field_at 1 false rfl fo92_0 rfl) ?_;refine ja (o_load_at (t := (.int .i64)) rfl sz3 rfl) ?_;obtain ⟨x21, ex21, h⟩ := b_bind h;refine jb (o_index (t := tTask) rfl Tryz.underlying112 sz116 ex21) ?_;refine ja (o_load_at (t := tTask) rfl sz116 rfl) ?_;refine JO.s01 rfl rfl rfl (o_alloc rfl za116 al116) trivial fun b22 => ?_;refine JO.n11 rfl rfl (o_store rfl sz116 rfl rfl rfl) ⟨rfl, rfl, trivial⟩ ?_;refine nt ?_;refine JC.cutB (Z := Unit) (α := Bool) (fun z24 x23 => [(1, .rep (.slice tStep) a1), (2, I a2), (3, Pt b1), (9, .eq v4), (11, .rep (.slice tTask) r12), (12, Ri r13), (13, I y16.2), (14, Pt b22), (74, .eq (.bool x23))]) (fun z24 x23 => [.obj b1 26 (.rep tChange a0), .sl v4 4 .bool y16.1, .obj b22 116 (.rep tTask x21)]) h (fun K h => ?_) (fun z24 x23 h => ?_)
       ·refine JC.region ?_;refine fl fo116_1 ?_;refine lo sz4 ?_;refine ja (o_not rfl) ?_;refine mq ?_;refine JO.bool (s := 67) rfl (fun hb => ?_) (fun hb => ?_)
        ·replace h := b_if (nv_t hb) h;refine gm ?_;refine gm ?_;obtain ⟨x25, ex25, h⟩ := b_bind h;refine gb (o_index (t := (.int .i64)) rfl Tryz.underlying24 sz3 ex25) ?_;refine ga (o_load_at (t := (.int .i64)) rfl sz3 rfl) ?_;refine gm ?_;refine gb (o_leq rfl) ?_;refine pt (nl ?_);exact jz ((), decide (x25 ≤ a2)) h [1, 2, 0]
        ·replace h := b_ifn (nv_fn hb) h;iterate 6 refine gn ?_
         refine pf (nl ?_);exact jz ((), false) h [1, 2, 0]
       ·refine cv h (fun h => ?_) (fun h => ?_)
        ·refine JC.region (mq ?_);refine fl fo116_0 ?_;refine fr 2 ?_;refine lo sz3 ?_;obtain ⟨x26, ex26, h⟩ := b_bind h;refine fr 2 ?_;refine kb (o_index_own (t := .bool) rfl Tryz.underlying111 sz4 ex26) ?_;refine JO.n11 rfl rfl (o_store_elW (i := Int.toNat x21.1) rfl sz4 rfl (geti_lt ex26) rfl .bool rfl) ⟨rfl, rfl, trivial⟩ ?_;refine JO.nil (bn ?_);exact jz ((), List.set y16.1 (Int.toNat x21.1) false) h [2, 0]
        ·refine JC.skip (bn ?_);exact jz ((), y16.1) h [0, 1]
      ·refine JC.region (mq ?_);obtain ⟨x27, ex27, h⟩ := b_bind h;refine jb (o_add rfl ex27) ?_;refine aq (nl ?_);exact jz ((), (x18, x27)) h [0, 1]
     ·refine xa ?_;exact jz ((), y16.1) h [0, 1]
    ·refine JC.cutB (Z := Unit) (α := (List Bool)) (fun z29 x28 => [(9, .eq v4)]) (fun z29 x28 => [.sl v4 4 .bool x28]) h (fun K h => ?_) (fun z29 x28 h => ?_)
     ·refine sr (cq (nt (JC.block ?_)));refine JC.loopB (Z := Unit) (α := (List Bool) × Int) (fun z31 y30 => [(1, .rep (.slice tStep) a1), (2, I a2), (3, Pt b1), (9, .eq v4), (11, .rep (.slice tTask) r12), (12, Ri r13), (15, I y30.2)]) (fun z31 y30 => [.obj b1 26 (.rep tChange a0), .sl v4 4 .bool y30.1]) (ref_Wearing_l3 k a0 a1 a2 r12 r13) k () (x14, (0 : Int)) (fun _ => rfl) h (SE.fin [0, 1] ⟨rfl, rfl, rfl, rfl, rfl, rfl, rfl, trivial⟩ rfl) (fun n z31 y30 h => ?_);unfold ref_Wearing_l3 at h;refine JC.seq (sr ?_);iterate 2 refine mq ?_
      refine ol Tryz.underlying34 ?_;refine jb (o_lss rfl) ?_;refine nt ?_;refine ci h (fun h => ?_) (fun h => ?_)
      ·refine sk ?_;refine JC.cutB (Z := Unit) (α := (List Bool)) (fun z33 x32 => [(1, .rep (.slice tStep) a1), (2, I a2), (3, Pt b1), (9, .eq v4), (11, .rep (.slice tTask) r12), (12, Ri r13), (15, I y30.2)]) (fun z33 x32 => [.obj b1 26 (.rep tChange a0), .sl v4 4 .bool x32]) h (fun K h => ?_) (fun z33 x32 h => ?_)
       ·refine JC.block (sr ?_);iterate 3 refine mq ?_
        obtain ⟨x34, ex34, h⟩ := b_bind h;refine jb (o_index (t := tStep) rfl Tryz.underlying34 sz92 ex34) ?_;refine ja (o_field_at 1 false rfl fo92_0 rfl) ?_;refine ja (o_load_at (t := (.int .i64)) rfl sz3 rfl) ?_;obtain ⟨x35, ex35, h⟩ := b_bind h;refine jb (o_index (t := tTask) rfl Tryz.underlying112 sz116 ex35) ?_;refine ja (o_load_at (t := tTask) rfl sz116 rfl) ?_;refine JO.s01 rfl rfl rfl (o_alloc rfl za116 al116) trivial fun b36 => ?_;refine JO.n11 rfl rfl (o_store rfl sz116 rfl rfl rfl) ⟨rfl, rfl, trivial⟩ ?_;refine nt ?_;refine JC.cutB (Z := Unit) (α := Bool) (fun z38 x37 => [(1, .rep (.slice tStep) a1), (2, I a2), (3, Pt b1), (9, .eq v4), (11, .rep (.slice tTask) r12), (12, Ri r13), (15, I y30.2), (16, Pt b36), (106, .eq (.bool x37))]) (fun z38 x37 => [.obj b1 26 (.rep tChange a0), .sl v4 4 .bool y30.1, .obj b36 116 (.rep tTask x35)]) h (fun K h => ?_) (fun z38 x37 h => ?_)
        ·refine JC.drawN ?_;refine da (o_field_obj rfl fo116_1) ?_;refine ea 0 (o_load_obj rfl sz4 (fun _ => rfl) rfl) ?_;refine DN.fork rfl rfl rfl (o_move rfl) ⟨rfl, trivial⟩ (fun hb => ?_) (fun hb => ?_)
         ·replace h := b_if (v_t hb) h;refine DN.sg00 rfl rfl rfl rfl rfl (o_move rfl) ⟨rfl, rfl, trivial⟩ ?_;refine DN.sg00 rfl rfl rfl rfl rfl (o_move rfl) ⟨rfl, rfl, trivial⟩ ?_;obtain ⟨x39, ex39, h⟩ := b_bind h;refine DN.sg00 rfl rfl rfl rfl rfl (o_index (t := (.int .i64)) rfl Tryz.underlying24 sz3 ex39) ⟨rfl, rfl, rfl, trivial⟩ ?_;refine DN.sg00 rfl rfl rfl rfl rfl (o_load_at (t := (.int .i64)) rfl sz3 rfl) ⟨rfl, rfl, trivial⟩ ?_;refine DN.sg11 1 rfl rfl rfl rfl rfl rfl (o_load_obj rfl sz26 (nfn) rfl) ⟨rfl, rfl, trivial⟩ ?_;refine DN.sg11 0 rfl rfl rfl rfl rfl rfl (o_load_obj rfl sz116 (nfn) rfl) ⟨rfl, rfl, trivial⟩ ?_;obtain ⟨r40, er40, h⟩ := b_bind h;have cr40 := ref_takes_ok k a0 x35 r40 er40;refine DN.sg00 rfl rfl rfl rfl rfl (o_call [.tmp 100, .tmp 101] rfl rfl en63 rfl cr40) ⟨rfl, rfl, rfl, trivial⟩ ?_;obtain ⟨x41, ex41, h⟩ := b_bind h;refine DN.sg00 rfl rfl rfl rfl rfl (o_add rfl ex41) ⟨rfl, rfl, rfl, trivial⟩ ?_;refine DN.sg00 rfl rfl rfl rfl rfl (o_move rfl) ⟨rfl, rfl, trivial⟩ ?_;refine df mixed ?_;refine gb (o_leq rfl) ?_;refine pt (nl ?_);exact jz ((), decide (x41 ≤ a2)) h [1, 2, 0]
         ·replace h := b_ifn (v_f hb) h;iterate 9 refine dg ?_
          refine df mixed ?_;refine gn ?_;refine pf (nl ?_);exact jz ((), false) h [1, 2, 0]
        ·refine cv h (fun h => ?_) (fun h => ?_)
         ·refine JC.region (mq ?_);refine fl fo116_0 ?_;refine fr 2 ?_;refine lo sz3 ?_;obtain ⟨x42, ex42, h⟩ := b_bind h;refine fr 2 ?_;refine kb (o_index_own (t := .bool) rfl Tryz.underlying111 sz4 ex42) ?_;refine JO.n11 rfl rfl (o_store_elW (i := Int.toNat x35.1) rfl sz4 rfl (geti_lt ex42) rfl .bool rfl) ⟨rfl, rfl, trivial⟩ ?_;refine JO.nil (bn ?_);exact jz ((), List.set y30.1 (Int.toNat x35.1) true) h [2, 0]
         ·refine JC.skip (bn ?_);exact jz ((), y30.1) h [0, 1]
       ·refine JC.region (mq ?_);obtain ⟨x43, ex43, h⟩ := b_bind h;refine jb (o_add rfl ex43) ?_;refine aq (nl ?_);exact jz ((), (x32, x43)) h [0, 1]
      ·refine xa ?_;exact jz ((), y30.1) h [1]
     ·refine sr (cq (nt ?_));refine JC.cutB (Z := Value) (α := (List Int)) (fun z45 x44 => [(17, .eq z45)]) (fun z45 x44 => [.sl z45 3 (.int .i64) x44]) h (fun K h => ?_) (fun z45 x44 h => ?_)
      ·refine sr (cq (nt (JC.block ?_)));refine JC.se (SE.nil 3 (.int .i64)) ?_;refine JC.loopB (Z := Value) (α := (List Int) × Int) (fun z47 y46 => [(9, .eq v4), (17, .eq z47), (18, I y46.2)]) (fun z47 y46 => [.sl v4 4 .bool x28, .sl z47 3 (.int .i64) y46.1]) (ref_Wearing_l4 k x28) k (.slice none 0 0) (([] : (List Int)), (0 : Int)) (fun _ => rfl) h (SE.fin [1, 0] ⟨rfl, rfl, rfl, trivial⟩ rfl) (fun n z47 y46 h => ?_);unfold ref_Wearing_l4 at h;refine JC.seq (sr ?_);iterate 2 refine mq ?_
       refine ka (o_len_own rfl rfl Tryz.underlying111) ?_;refine jb (o_lss rfl) ?_;refine nt ?_;refine ci h (fun h => ?_) (fun h => ?_)
       ·refine sk ?_;refine JC.cutB (Z := Value) (α := (List Int)) (fun z49 x48 => [(9, .eq v4), (17, .eq z49), (18, I y46.2)]) (fun z49 x48 => [.sl v4 4 .bool x28, .sl z49 3 (.int .i64) x48]) h (fun K h => ?_) (fun z49 x48 h => ?_)
        ·refine JC.block (sr ?_);iterate 2 refine mq ?_
         obtain ⟨x50, ex50, h⟩ := b_bind h;refine kb (o_index_own (t := .bool) rfl Tryz.underlying111 sz4 ex50) ?_;refine ka (o_load_el (i := Int.toNat y46.2) (off := 0) rfl sz4 (fun _ => rfl) rfl (geti_some ex50).2.2 rfl) ?_;refine nt ?_;refine cv h (fun h => ?_) (fun h => ?_)
         ·refine JC.region ?_;iterate 2 refine mq ?_
          refine ja (o_litB (t := (.int .i64)) [(.tmp 122, _)] [y46.2] rfl rfl sl24 (.cons rfl .int .nil) rfl rfl) ?_;obtain ⟨u51, eu51, h⟩ := b_bind h;refine fr 1 ?_;refine JO.s1x rfl rfl rfl (o_append rfl rfl sl24 (chkP_some eu51)) ⟨rfl, rfl, trivial⟩ fun v52 => ?_;refine aq (JO.nil (bn ?_));exact jz (v52, y46.1 ++ [y46.2]) h [1, 0]
         ·refine JC.skip (bn ?_);exact jz (z47, y46.1) h [0, 1]
        ·refine JC.region (mq ?_);obtain ⟨x53, ex53, h⟩ := b_bind h;refine jb (o_add rfl ex53) ?_;refine aq (nl ?_);exact jz (z49, (x48, x53)) h [0, 1]
       ·refine xa ?_;exact jz (z47, y46.1) h [1]
      ·refine sr (mq ?_);refine aq ?_;refine cq (nt (JC.ret ?_));refine JN.se (SE.frz [6, 17, 125] ⟨rfl, rfl, rfl, trivial⟩) ?_;cases h;exact rb


def law_ChangeWearings_l2 (k : Nat) (a2 : Int) (r8 : (List dChange) × dLots) (r10 : (List (List dStep)) × dLots) (y13 : Int) (r18 : dChange) (r20 : (List dStep)) : Nat → Int → Option (Except Bool Unit)
 | 0, _ => none
 | n + 1, y24 =>
  if y24 ≤ (12 : Int) then (((if y24 < (0 : Int) then (some a2) else (some y24)) : Option (Int)).bind fun x26 =>
  (chg_Wearing k r18 r20 x26).bind fun r28 =>
  (geti r8.1 y13).bind fun x29 =>
  (geti r10.1 y13).bind fun x30 =>
  (ref_Wearing k x29 x30 x26).bind fun r31 =>
  ((if ¬ (r28.2 = r31.2) then (some true) else ((kit_SameInts k r28.1 r31.1).bind fun r34 =>
  some (!r34))) : Option (Bool)).bind fun x32 =>
  if x32 = true then (some (.error false)) else ((ck (y24 + (1 : Int))).bind fun x35 =>
  law_ChangeWearings_l2 k a2 r8 r10 y13 r18 r20 n x35)) else (some (.ok ()))

def law_ChangeWearings_l1 (k : Nat) (a2 : Int) (r8 : (List dChange) × dLots) (r10 : (List (List dStep)) × dLots) : Nat → Int → Option (Except Bool Unit)
 | 0, _ => none
 | n + 1, y13 =>
  if y13 < (3 : Int) then (bE (α := Unit) ((geti r8.1 y13).bind fun x17 =>
  (kit_CopyChangeF k x17).bind fun r18 =>
  (geti r10.1 y13).bind fun x19 =>
  (kit_CopySteps k x19).bind fun r20 =>
  bE (α := Unit) (law_ChangeWearings_l2 k a2 r8 r10 y13 r18 r20 k (-1 : Int)) (fun e => some (.error e)) fun _ =>
  (((geti r8.1 y13).bind fun x38 =>
  (kit_SameChanges k r18 x38).bind fun r39 =>
  if ¬ (r39 = true) then (some true) else ((geti r10.1 y13).bind fun x40 =>
  (kit_SameSteps k r20 x40).bind fun r41 =>
  some (!r41))) : Option (Bool)).bind fun x36 =>
  if x36 = true then (some (.error false)) else (some (.ok ()))) (fun e => some (.error e)) fun _ =>
  (ck (y13 + (1 : Int))).bind fun x42 =>
  law_ChangeWearings_l1 k a2 r8 r10 n x42) else (some (.ok ()))
def law_ChangeWearings (k : Nat) (a0 : dChange) (a1 : (List dStep)) (a2 : Int) (a3 : (List Int)) : Option Bool :=
 (((law_long k a0).bind fun r4 =>
 if r4 = true then (some true) else (some (decide ((20 : Int) < (a1.length : Int))))) : Option (Bool)).bind fun x2 =>
 if x2 = true then ((law_dressed k).bind fun r5 =>
 some r5) else ((kit_NewLots k a3).bind fun r6 =>
 (law_sets k a0 (r6.1, r6.2.1, r6.2.2)).bind fun r8 =>
 (geti r8.1 (1 : Int)).bind fun x9 =>
 (law_planned k a1 x9 (r8.2.1, r8.2.2.1, r8.2.2.2)).bind fun r10 =>
 bE (α := Unit) (law_ChangeWearings_l1 k a2 r8 r10 k (0 : Int)) (some) fun _ =>
 (law_dressed k).bind fun r43 =>
 some r43)

theorem law_ChangeWearings_ok (k : Nat) (a0 : dChange) (a1 : (List dStep)) (a2 : Int) (a3 : (List Int)) (r : Bool) (h : law_ChangeWearings k a0 a1 a2 a3 = some r) :
 Ctr Tryz.prog 4 [.rep tChange a0, .rep (.slice tStep) a1, I a2, Ri a3] [] (fun _ : Unit => (resA [.eq (.bool r)], [])) := by
 unfold law_ChangeWearings at h;replace h := b_top h;refine Ctr.of 108 Tryz.func4 rfl Tryz.ntmps4 rfl fun S w0 => ?_;refine sr ?_;refine bx fun b1 => ?_;refine cq (nt (JC.seq ?_));refine JC.cutB (Z := Unit) (α := Bool) (fun z3 x2 => [(1, .rep (.slice tStep) a1), (2, I a2), (3, Ri a3), (4, Pt b1), (27, .eq (.bool x2))]) (fun z3 x2 => [.obj b1 26 (.rep tChange a0)]) h (fun K h => ?_) (fun z3 x2 h => ?_)
 ·refine JC.region ?_;refine lo sz26 ?_;obtain ⟨r4, er4, h⟩ := b_bind h;have cr4 := law_long_ok k a0 r4 er4;refine ja (o_call [.tmp 21] rfl rfl en9 rfl cr4) ?_;refine mq ?_;refine JO.bool (s := 23) rfl (fun hb => ?_) (fun hb => ?_)
  ·replace h := b_if (v_t hb) h;iterate 3 refine gn ?_
   refine pt (nl ?_);exact jz ((), true) h [0]
  ·replace h := b_ifn (v_f hb) h;refine gm ?_;refine ga (o_len rfl rfl Tryz.underlying34) ?_;refine gb (o_gtr rfl) ?_;refine pf (nl ?_);exact jz ((), decide ((20 : Int) < (a1.length : Int))) h [0]
 ·refine cv h (fun h => ?_) (fun h => ?_)
  ·refine sr ?_;obtain ⟨r5, er5, h⟩ := b_bind h;have cr5 := law_dressed_ok k  r5 er5;refine JO.s rfl (o_call [] rfl rfl en10 rfl cr5) trivial ?_;refine aq (nt (rx ?_));cases h;exact ra
  ·refine sk (sr (mq ?_));obtain ⟨r6, er6, h⟩ := b_bind h;have cr6 := kit_NewLots_ok k a3 r6 er6;refine JO.s01 rfl rfl rfl (o_call [.tmp 29] rfl rfl en12 rfl cr6) ⟨rfl, trivial⟩ fun b7 => ?_;refine aq (nt (sr ?_));refine fr 1 ?_;refine lo sz26 ?_;refine mq ?_;obtain ⟨r8, er8, h⟩ := b_bind h;have cr8 := law_sets_ok k a0 (r6.1, r6.2.1, r6.2.2) b7 r8 er8;refine fr 1 ?_;refine kb (o_call [.tmp 31, .tmp 32] rfl rfl en11 rfl cr8) ?_;refine aq (nt (sr ?_));iterate 2 refine mq ?_
   obtain ⟨x9, ex9, h⟩ := b_bind h;refine jb (o_index (t := tChange) rfl Tryz.underlying29 sz26 ex9) ?_;refine ja (o_load_at (t := tChange) rfl sz26 rfl) ?_;refine mq ?_;obtain ⟨r10, er10, h⟩ := b_bind h;have cr10 := law_planned_ok k a1 x9 (r8.2.1, r8.2.2.1, r8.2.2.2) b7 r10 er10;refine kc (o_call [.tmp 34, .tmp 37, .tmp 38] rfl rfl en18 rfl cr10) ?_;refine aq (nt ?_);refine JC.cutE (Z := Unit) (α := Unit) (fun z12 x11 => []) (fun z12 x11 => []) (fun e => e = r) h (fun e h => Option.some.inj h) (fun K hR h => ?_) (fun z12 x11 h => ?_)
   ·refine sr (cq (nt (JC.block ?_)));refine JC.loopB (Z := Unit) (α := Int) (fun z14 y13 => [(2, I a2), (10, .rep (.slice tChange) r8.1), (11, .rep (.slice (.slice tStep)) r10.1), (12, I y13)]) (fun z14 y13 => []) (law_ChangeWearings_l1 k a2 r8 r10) k () (0 : Int) (fun _ => rfl) h (SE.fin [] ⟨rfl, rfl, rfl, rfl, trivial⟩ rfl) (fun n z14 y13 h => ?_);unfold law_ChangeWearings_l1 at h;refine JC.seq (sr (mq ?_));refine jb (o_lss rfl) ?_;refine nt ?_;refine ci h (fun h => ?_) (fun h => ?_)
    ·refine sk ?_;refine JC.cutE (Z := Unit) (α := Unit) (fun z16 x15 => [(2, I a2), (10, .rep (.slice tChange) r8.1), (11, .rep (.slice (.slice tStep)) r10.1), (12, I y13)]) (fun z16 x15 => []) (fun e => e = r) h (fun e h => hR e h) (fun K hR h => ?_) (fun z16 x15 h => ?_)
     ·refine JC.block (JC.seq ?_);refine JC.drawW ?_;refine DW.t00 rfl rfl rfl (o_move rfl) ⟨rfl, trivial⟩ ?_;refine DW.t00 rfl rfl rfl (o_move rfl) ⟨rfl, trivial⟩ ?_;obtain ⟨x17, ex17, h⟩ := b_bind h;refine DW.t00 rfl rfl rfl (o_index (t := tChange) rfl Tryz.underlying29 sz26 ex17) ⟨rfl, rfl, trivial⟩ ?_;refine DW.t00 rfl rfl rfl (o_load_at (t := tChange) rfl sz26 rfl) ⟨rfl, trivial⟩ ?_;obtain ⟨r18, er18, h⟩ := b_bind h;have cr18 := kit_CopyChangeF_ok k x17 r18 er18;refine DW.t00 rfl rfl rfl (o_call [.tmp 47] rfl rfl en13 rfl cr18) ⟨rfl, trivial⟩ ?_;refine DW.t00 rfl rfl rfl (o_move rfl) ⟨rfl, trivial⟩ ?_;refine DW.t00 rfl rfl rfl (o_move rfl) ⟨rfl, trivial⟩ ?_;obtain ⟨x19, ex19, h⟩ := b_bind h;refine DW.t00 rfl rfl rfl (o_index (t := (.slice tStep)) rfl Tryz.underlying41 sz34 ex19) ⟨rfl, rfl, trivial⟩ ?_;refine DW.t00 rfl rfl rfl (o_load_at (t := (.slice tStep)) rfl sz34 rfl) ⟨rfl, trivial⟩ ?_;obtain ⟨r20, er20, h⟩ := b_bind h;have cr20 := kit_CopySteps_ok k x19 r20 er20;refine DW.t00 rfl rfl rfl (OpT.frz (o_call [.tmp 52] rfl rfl en19 rfl cr20)) ⟨rfl, trivial⟩ ?_;refine DW.tNew (ptrD 26 (.agg (.pair (.eq (.slice none 0 0)) (.pair (.eq (.slice none 0 0)) (.pair (.eq (.slice none 0 0)) (.eq (.slice none 0 0))))))) (fun _ => rfl) rfl rfl rfl (o_alloc rfl za26 al26) trivial ?_;refine DW.fin 11 [true, true, true, true, true, true, true, true, true, true, true] [14] [] [] rfl (by kernel_rfl) (by kernel_rfl) (by kernel_rfl) mixed (fun vs hv hB => ?_);obtain ⟨w0, vs1, rfl, hv1⟩ := len_cons hv;obtain ⟨w1, vs2, rfl, hv2⟩ := len_cons hv1;obtain ⟨w2, vs3, rfl, hv3⟩ := len_cons hv2;obtain ⟨w3, vs4, rfl, hv4⟩ := len_cons hv3;obtain ⟨w4, vs5, rfl, hv5⟩ := len_cons hv4;obtain ⟨w5, vs6, rfl, hv6⟩ := len_cons hv5;obtain ⟨w6, vs7, rfl, hv7⟩ := len_cons hv6;obtain ⟨w7, vs8, rfl, hv8⟩ := len_cons hv7;obtain ⟨w8, vs9, rfl, hv9⟩ := len_cons hv8;obtain ⟨w9, vs10, rfl, hv10⟩ := len_cons hv9;obtain ⟨w10, vs11, rfl, hv11⟩ := len_cons hv10;obtain rfl := len_nil hv11;obtain ⟨b21, rfl⟩ := ptr_of hB.2.2.2.2.2.2.2.2.2.2.1;refine ⟨[0], [.obj b21 26 (.agg (.pair (.eq (.slice none 0 0)) (.pair (.eq (.slice none 0 0)) (.pair (.eq (.slice none 0 0)) (.eq (.slice none 0 0))))))], by kernel_rfl, by decide, ?_⟩;refine JT.n11 rfl rfl (o_store rfl sz26 rfl rfl rfl) ⟨rfl, rfl, trivial⟩ (by kernel_rfl) ?_;refine JT.y00 rfl rfl rfl rfl (o_assign rfl) ⟨rfl, trivial⟩ (by kernel_rfl) ?_;refine JT.nil ?_;refine JN.se (SE.fin (Γ' := [(2, I a2), (10, .rep (.slice tChange) r8.1), (11, .rep (.slice (.slice tStep)) r10.1), (12, I y13), (13, Pt b21), (14, .rep (.slice tStep) r20)]) (Δ' := [.obj b21 26 (.rep tChange r18)]) [0] ⟨rfl, rfl, rfl, rfl, rfl, rfl, trivial⟩ rfl) ?_;refine tn ?_;refine JC.cutE (Z := Unit) (α := Unit) (fun z23 x22 => [(2, I a2), (10, .rep (.slice tChange) r8.1), (11, .rep (.slice (.slice tStep)) r10.1), (12, I y13), (13, Pt b21), (14, .rep (.slice tStep) r20)]) (fun z23 x22 => [.obj b21 26 (.rep tChange r18)]) (fun e => e = r) h (fun e h => hR e h) (fun K hR h => ?_) (fun z23 x22 h => ?_)
      ·refine sr (cq (nt (JC.block ?_)));refine JC.loopB (Z := Unit) (α := Int) (fun z25 y24 => [(2, I a2), (10, .rep (.slice tChange) r8.1), (11, .rep (.slice (.slice tStep)) r10.1), (12, I y13), (13, Pt b21), (14, .rep (.slice tStep) r20), (15, I y24)]) (fun z25 y24 => [.obj b21 26 (.rep tChange r18)]) (law_ChangeWearings_l2 k a2 r8 r10 y13 r18 r20) k () (-1 : Int) (fun _ => rfl) h (SE.fin [0] ⟨rfl, rfl, rfl, rfl, rfl, rfl, rfl, trivial⟩ rfl) (fun n z25 y24 h => ?_);unfold law_ChangeWearings_l2 at h;refine JC.seq (sr (mq ?_));refine jb (o_leq rfl) ?_;refine nt ?_;refine ci h (fun h => ?_) (fun h => ?_)
       ·refine sk (JC.seq (JC.block (sr (mq ?_))));refine aq (nt ?_);refine JC.cutB (Z := Unit) (α := Int) (fun z27 x26 => [(2, I a2), (10, .rep (.slice tChange) r8.1), (11, .rep (.slice (.slice tStep)) r10.1), (12, I y13), (13, Pt b21), (14, .rep (.slice tStep) r20), (15, I y24), (16, I x26)]) (fun z27 x26 => [.obj b21 26 (.rep tChange r18)]) h (fun K h => ?_) (fun z27 x26 h => ?_)
        ·refine sr (mq ?_);refine jb (o_lss rfl) ?_;refine nt ?_;refine ci h (fun h => ?_) (fun h => ?_)
         ·refine JC.region (mq ?_);refine aq (nl ?_);exact jz ((), a2) h [0]
         ·refine JC.skip (JN.then_n ?_);exact jz ((), y24) h [0]
        ·refine sr ?_;refine lo sz26 ?_;iterate 2 refine mq ?_
         obtain ⟨r28, er28, h⟩ := b_bind h;have cr28 := chg_Wearing_ok k r18 r20 x26 r28 er28;refine jc (o_call [.tmp 63, .tmp 64, .tmp 65] rfl rfl en20 rfl cr28) ?_;refine mq ?_;refine xr ?_;refine xr ?_;refine aq ?_;refine aq (nt (JC.seq ?_));refine JC.drawN ?_;refine dm ?_;refine dm ?_;obtain ⟨x29, ex29, h⟩ := b_bind h;refine db (o_index (t := tChange) rfl Tryz.underlying29 sz26 ex29) ?_;refine da (o_load_at (t := tChange) rfl sz26 rfl) ?_;refine dm ?_;refine dm ?_;obtain ⟨x30, ex30, h⟩ := b_bind h;refine db (o_index (t := (.slice tStep)) rfl Tryz.underlying41 sz34 ex30) ?_;refine da (o_load_at (t := (.slice tStep)) rfl sz34 rfl) ?_;refine dm ?_;obtain ⟨r31, er31, h⟩ := b_bind h;have cr31 := ref_Wearing_ok k x29 x30 x26 r31 er31;refine dc (o_call [.tmp 73, .tmp 77, .tmp 78] rfl rfl en21 rfl cr31) ?_;refine dm ?_;refine da (o_extract rfl rfl) ?_;refine da (o_extract rfl rfl) ?_;refine da (o_assign rfl) ?_;refine df mixed ?_;refine aq (nt ?_);refine JC.cutB (Z := Unit) (α := Bool) (fun z33 x32 => [(2, I a2), (10, .rep (.slice tChange) r8.1), (11, .rep (.slice (.slice tStep)) r10.1), (12, I y13), (13, Pt b21), (14, .rep (.slice tStep) r20), (15, I y24), (90, .eq (.bool x32))]) (fun z33 x32 => [.obj b21 26 (.rep tChange r18)]) h (fun K h => ?_) (fun z33 x32 h => ?_)
         ·refine JC.region ?_;iterate 2 refine mq ?_
          refine jb (o_neq rfl) ?_;refine mq ?_;refine JO.bool (s := 85) rfl (fun hb => ?_) (fun hb => ?_)
          ·replace h := b_if (n_t hb) h;iterate 4 refine gn ?_
           refine pt (nl ?_);exact jz ((), true) h [0]
          ·replace h := b_ifn (n_fn hb) h;refine gm ?_;refine gm ?_;obtain ⟨r34, er34, h⟩ := b_bind h;have cr34 := kit_SameInts_ok k r28.1 r31.1 r34 er34;refine gb (o_call [.tmp 86, .tmp 87] rfl rfl en22 rfl cr34) ?_;refine ga (o_not rfl) ?_;refine pf (nl ?_);exact jz ((), !r34) h [0]
         ·refine cv h (fun h => ?_) (fun h => ?_)
          ·refine sr (cq (nt (JC.ret (br (JN.blk_r (JN.then_r (br (JN.blk_r (JN.then_r ?_)))))))));obtain rfl := hR _ h;exact ra
          ·refine JC.skip (JN.blk_n (tn (JC.region (mq ?_))));obtain ⟨x35, ex35, h⟩ := b_bind h;refine jb (o_add rfl ex35) ?_;refine aq (nl ?_);exact jz ((), x35) h [0]
       ·refine xa ?_;exact jz ((), ()) h [0]
      ·refine JC.cutB (Z := Unit) (α := Bool) (fun z37 x36 => [(2, I a2), (10, .rep (.slice tChange) r8.1), (11, .rep (.slice (.slice tStep)) r10.1), (12, I y13), (106, .eq (.bool x36))]) (fun z37 x36 => []) h (fun K h => ?_) (fun z37 x36 h => ?_)
       ·refine JC.drawN ?_;refine ea 0 (o_load_obj rfl sz26 (nfn) rfl) ?_;refine dm ?_;refine dm ?_;obtain ⟨x38, ex38, h⟩ := b_bind h;refine db (o_index (t := tChange) rfl Tryz.underlying29 sz26 ex38) ?_;refine da (o_load_at (t := tChange) rfl sz26 rfl) ?_;obtain ⟨r39, er39, h⟩ := b_bind h;have cr39 := kit_SameChanges_ok k r18 x38 r39 er39;refine db (o_call [.tmp 91, .tmp 95] rfl rfl en17 rfl cr39) ?_;refine da (o_not rfl) ?_;refine DN.fork rfl rfl rfl (o_move rfl) ⟨rfl, trivial⟩ (fun hb => ?_) (fun hb => ?_)
        ·replace h := b_if (nv_t hb) h;iterate 5 refine dg ?_
         refine df mixed ?_;iterate 2 refine gn ?_
         refine pt (nl ?_);exact jz ((), true) h []
        ·replace h := b_ifn (nv_fn hb) h;refine DN.sg00 rfl rfl rfl rfl rfl (o_move rfl) ⟨rfl, rfl, trivial⟩ ?_;refine DN.sg00 rfl rfl rfl rfl rfl (o_move rfl) ⟨rfl, rfl, trivial⟩ ?_;refine DN.sg00 rfl rfl rfl rfl rfl (o_move rfl) ⟨rfl, rfl, trivial⟩ ?_;obtain ⟨x40, ex40, h⟩ := b_bind h;refine DN.sg00 rfl rfl rfl rfl rfl (o_index (t := (.slice tStep)) rfl Tryz.underlying41 sz34 ex40) ⟨rfl, rfl, rfl, trivial⟩ ?_;refine DN.sg00 rfl rfl rfl rfl rfl (o_load_at (t := (.slice tStep)) rfl sz34 rfl) ⟨rfl, rfl, trivial⟩ ?_;refine df mixed ?_;obtain ⟨r41, er41, h⟩ := b_bind h;have cr41 := kit_SameSteps_ok k r20 x40 r41 er41;refine gb (o_call [.tmp 99, .tmp 103] rfl rfl en16 rfl cr41) ?_;refine ga (o_not rfl) ?_;refine pf (nl ?_);exact jz ((), !r41) h []
       ·refine cv h (fun h => ?_) (fun h => ?_)
        ·refine sr (cq (nt (JC.ret (br (JN.blk_r (JN.then_r ?_))))));obtain rfl := hR _ h;exact ra
        ·refine JC.skip (bn ?_);exact jz ((), ()) h []
     ·refine JC.region (mq ?_);obtain ⟨x42, ex42, h⟩ := b_bind h;refine jb (o_add rfl ex42) ?_;refine aq (nl ?_);exact jz ((), x42) h []
    ·refine xa ?_;exact jz ((), ()) h []
   ·refine sr ?_;obtain ⟨r43, er43, h⟩ := b_bind h;have cr43 := law_dressed_ok k  r43 er43;refine JO.s rfl (o_call [] rfl rfl en10 rfl cr43) trivial ?_;refine aq (nt (JC.ret ?_));cases h;exact ra


end Go.Proofs.YtfhdclhbdmhnmaaGreat
