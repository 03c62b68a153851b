/- The program's functions, part 2: what each computes, and that the code computes it. Printed by a program of this proof's own. -/
import Derived.Test.YtfhdclhbdmhnmaaGreatP1
set_option linter.unusedVariables false
set_option maxRecDepth 4000
namespace Go.Proofs.YtfhdclhbdmhnmaaGreat
open K Go Go.Proofs
def chg_Learn_l2 (k : Nat) (q3 : (dChange × (List (Bool × Int)) × (List Int))) (y9 : Int × Bool × Int × Int × Int) : Nat → (Int × Bool × Int × Int × Int) → Option (Int × Bool × Int × Int)
 | 0, _ => none
 | n + 1, y13 =>
  if y13.2.2.2.2 < (q3.1.1.length : Int) then ((((geti q3.1.2.1 y9.2.2.2.2).bind fun x17 =>
  (slc_Contains_int k x17.1 y13.2.2.2.2).bind fun r18 =>
  if r18 = true then (some (y13.1, y13.2.1, y13.2.2.1, y13.2.2.2.1)) else ((slc_Clone_Dresser k q3.1.2.1).bind fun r19 =>
  (geti r19 y9.2.2.2.2).bind fun x21 =>
  (slc_Clone_int k x21.1).bind fun r22 =>
  (chkP (okLen (List.length r22 + List.length [y13.2.2.2.2]))).bind fun _ =>
  (geti r19 y9.2.2.2.2).bind fun x26 =>
  (slc_Sort_int k (r22 ++ [y13.2.2.2.2])).bind fun r28 =>
  (chg_quick_fewest k ((q3.1.1, q3.1.2.1, q3.1.2.2.1, q3.1.2.2.2), q3.2.1, q3.2.2) (List.set r19 (Int.toNat y9.2.2.2.2) (r28, x26.2.1, x26.2.2))).bind fun r29 =>
  ((if r29.2 = true then (if ¬ (y13.2.1 = true) then (some true) else (some (decide (r29.1 < y13.1)))) else (some false)) : Option (Bool)).bind fun x30 =>
  if x30 = true then (some (r29.1, true, y9.2.2.2.2, y13.2.2.2.2)) else (some (y13.1, y13.2.1, y13.2.2.1, y13.2.2.2.1)))) : Option (Int × Bool × Int × Int)).bind fun x15 =>
  (ck (y13.2.2.2.2 + (1 : Int))).bind fun x32 =>
  chg_Learn_l2 k q3 y9 n (x15.1, x15.2.1, x15.2.2.1, x15.2.2.2, x32)) else (some (y13.1, y13.2.1, y13.2.2.1, y13.2.2.2.1))

def chg_Learn_l1 (k : Nat) (q3 : (dChange × (List (Bool × Int)) × (List Int))) : Nat → (Int × Bool × Int × Int × Int) → Option (Int × Int × Int)
 | 0, _ => none
 | n + 1, y9 =>
  if y9.2.2.2.2 < (q3.1.2.1.length : Int) then (((chg_Learn_l2 k q3 y9 k (y9.1, y9.2.1, y9.2.2.1, y9.2.2.2.1, (0 : Int))) : Option (Int × Bool × Int × Int)).bind fun x11 =>
  (ck (y9.2.2.2.2 + (1 : Int))).bind fun x33 =>
  chg_Learn_l1 k q3 n (x11.1, x11.2.1, x11.2.2.1, x11.2.2.2, x33)) else (some (y9.1, y9.2.2.1, y9.2.2.2.1))
def chg_Learn (k : Nat) (a0 : dChange) : Option (Int × Int × Int × Int) :=
 (chg_begin k a0).bind fun r2 =>
 casesO r2.1 (if ¬ (r2.2 = (0 : Int)) then (some ((0 : Int), (0 : Int), (0 : Int), r2.2)) else (none)) (fun q3 => if ¬ (r2.2 = (0 : Int)) then (some ((0 : Int), (0 : Int), (0 : Int), r2.2)) else ((chg_least k ((q3.1.1, q3.1.2.1, q3.1.2.2.1, q3.1.2.2.2), q3.2.1, q3.2.2)).bind fun r6 =>
 ((chg_Learn_l1 k q3 k (r6.2.1, r6.2.2, (-1 : Int), (-1 : Int), (0 : Int))) : Option (Int × Int × Int)).bind fun x7 =>
 if x7.2.1 < (0 : Int) then (some ((0 : Int), (0 : Int), (0 : Int), (11 : Int))) else (some (x7.2.1, x7.2.2, x7.1, (0 : Int)))))

theorem chg_Learn_ok (k : Nat) (a0 : dChange) (r : Int × Int × Int × Int) (h : chg_Learn k a0 = some r) :
 Ctr Tryz.prog 39 [.rep tChange a0] [] (fun _ : Unit => (resA [I r.1, I r.2.1, I r.2.2.1, I r.2.2.2], [])) := by
 unfold chg_Learn at h;replace h := b_top h;refine Ctr.of 115 Tryz.func39 rfl Tryz.ntmps39 rfl fun S w0 => ?_;refine sr (bx fun b1 => ?_);refine cq ?_;refine cq ?_;refine cq ?_;refine cq (nt (sr ?_));refine lo sz26 ?_;obtain ⟨r2, er2, h⟩ := b_bind h;have cr2 := chg_begin_ok k a0 r2 er2;rcases hr : r2.1 with _ | q3
 ·rw [hr] at h cr2; replace h := co_n h;refine JO.stepG (Δ := []) (F := _) (fun _ _ _ => wanted_none rfl _) rfl rfl (o_call [.tmp 19] rfl rfl en49 rfl cr2) ⟨rfl, trivial⟩ fun _ => ?_;refine mq ?_;refine xr ?_;refine xr ?_;refine aq ?_;refine aq (nt (JC.seq (sr ?_)));refine mq ?_;refine jb (o_neq rfl) ?_;refine nt (cn h (fun h => ?_) (fun h => ?_))
  ·refine sr (mq ?_);refine cq ?_;refine cq ?_;refine cq ?_;refine aq (nt (rx ?_));cases h;exact JN.ret () [_, _, _, _] 0 ⟨rfl, rfl, rfl, rfl, trivial⟩ rfl
  ·refine sk (sr (mq ?_));cases h
 ·rw [hr] at h cr2; replace h := co_s h;refine JO.stepG (Δ := []) (F := _) (fun _ _ _ => wanted_none rfl _) rfl rfl (o_call [.tmp 19] rfl rfl en49 rfl cr2) ⟨rfl, trivial⟩ fun z4 => ?_;refine mq ?_;refine xr ?_;refine xr ?_;refine aq ?_;refine aq (nt (JC.seq (sr ?_)));refine mq ?_;refine jb (o_neq rfl) ?_;refine nt (cn h (fun h => ?_) (fun h => ?_))
  ·refine sr (mq ?_);refine cq ?_;refine cq ?_;refine cq ?_;refine aq (nt (rx ?_));cases h;exact JN.ret () [_, _, _, _] 0 ⟨rfl, rfl, rfl, rfl, trivial⟩ rfl
  ·refine sk (sr (mq ?_));refine JO.s01 rfl rfl rfl (o_call [.tmp 27] rfl rfl en51 rfl (chg_quick_plans_ok z4.1)) ⟨rfl, trivial⟩ fun b5 => ?_;refine mq ?_;refine ja (o_mkfn [.tmp 29] [] [(.pointer (some ⟨z4.1, 0, none⟩))] [] rfl rfl rfl) ?_;refine fr 2 ?_;refine JO.se (SE.rawInv (Known k ((q3.1.1, q3.1.2.1, q3.1.2.2.1, q3.1.2.2.2), q3.2.1, q3.2.2)) known_nil) ?_;obtain ⟨r6, er6, h⟩ := b_bind h;refine fr 1 ?_;refine fr 1 ?_;refine fr 2 ?_;refine JO.stepG (Δ := [_, _, _]) (F := _) (fun _ _ _ => wanted_none rfl _) rfl rfl (o_call [.tmp 28, .tmp 30] rfl rfl en50 rfl (chg_least_ok k ((q3.1.1, q3.1.2.1, q3.1.2.2.1, q3.1.2.2.2), q3.2.1, q3.2.2) z4.1 z4.2 b5 r6 er6)) ⟨rfl, rfl, trivial⟩ fun _ => ?_;refine mq ?_;refine xr ?_;refine xr ?_;refine xr ?_;refine aq ?_;refine aq ?_;refine aq (nt (sr ?_));refine cq ?_;refine cq (nt ?_);refine JC.cutB (Z := Unit) (α := Int × Int × Int) (fun z8 x7 => [(9, I x7.1), (11, I x7.2.1), (12, I x7.2.2)]) (fun z8 x7 => [.inv z4.2 (Known k ((q3.1.1, q3.1.2.1, q3.1.2.2.1, q3.1.2.2.2), q3.2.1, q3.2.2))]) h (fun K h => ?_) (fun z8 x7 h => ?_)
   ·refine sr (mq ?_);refine ja (o_nil_obj rfl) ?_;refine fl fo101_0 ?_;refine fl fo26_1 ?_;refine lo sz23 ?_;refine ol U23 ?_;refine JO.mc rfl ?_;refine nt (JC.block (JC.loopB (Z := Unit) (α := Int × Bool × Int × Int × Int) (fun z10 y9 => [(6, .eq (.pointer (some ⟨z4.1, 0, none⟩))), (9, I y9.1), (10, .eq (.bool y9.2.1)), (11, I y9.2.2.1), (12, I y9.2.2.2.1), (40, I (q3.1.2.1.length : Int)), (41, I y9.2.2.2.2)]) (fun z10 y9 => [.obj z4.1 101 (Qq q3 (.eq (.map (some z4.2)))), .inv z4.2 (Known k ((q3.1.1, q3.1.2.1, q3.1.2.2.1, q3.1.2.2.2), q3.2.1, q3.2.2))]) (chg_Learn_l1 k q3) k () (r6.2.1, r6.2.2, (-1 : Int), (-1 : Int), (0 : Int)) (fun _ => rfl) h (SE.fin [0, 1] ⟨rfl, rfl, rfl, rfl, rfl, rfl, rfl, trivial⟩ rfl) (fun n z10 y9 h => ?_)));unfold chg_Learn_l1 at h;refine sr (jb (o_lss rfl) ?_);refine nt (JC.seq (ci h (fun h => ?_) (fun h => ?_)))
    ·refine sk (JC.cutB (Z := Unit) (α := Int × Bool × Int × Int) (fun z12 x11 => [(6, .eq (.pointer (some ⟨z4.1, 0, none⟩))), (9, I x11.1), (10, .eq (.bool x11.2.1)), (11, I x11.2.2.1), (12, I x11.2.2.2), (40, I (q3.1.2.1.length : Int)), (41, I y9.2.2.2.2)]) (fun z12 x11 => [.obj z4.1 101 (Qq q3 (.eq (.map (some z4.2)))), .inv z4.2 (Known k ((q3.1.1, q3.1.2.1, q3.1.2.2.1, q3.1.2.2.2), q3.2.1, q3.2.2))]) h (fun K h => ?_) (fun z12 x11 h => ?_))
     ·refine JC.block (sr (mq ?_));refine aq (nt ?_);refine JC.scopeS rfl (fl_hit fl_lab) ?_;refine JC.seq (JC.label ?_);refine tn (sr (mq ?_));refine ja (o_nil_obj rfl) ?_;refine fl fo101_0 ?_;refine fl fo26_0 ?_;refine lo sz22 ?_;refine ol U22 ?_;refine JO.mc rfl ?_;refine nt (JC.block (JC.loopB (Z := Unit) (α := Int × Bool × Int × Int × Int) (fun z14 y13 => [(6, .eq (.pointer (some ⟨z4.1, 0, none⟩))), (9, I y13.1), (10, .eq (.bool y13.2.1)), (11, I y13.2.2.1), (12, I y13.2.2.2.1), (13, I y9.2.2.2.2), (40, I (q3.1.2.1.length : Int)), (41, I y9.2.2.2.2), (49, I (q3.1.1.length : Int)), (50, I y13.2.2.2.2)]) (fun z14 y13 => [.obj z4.1 101 (Qq q3 (.eq (.map (some z4.2)))), .inv z4.2 (Known k ((q3.1.1, q3.1.2.1, q3.1.2.2.1, q3.1.2.2.2), q3.2.1, q3.2.2))]) (chg_Learn_l2 k q3 y9) k () (y9.1, y9.2.1, y9.2.2.1, y9.2.2.2.1, (0 : Int)) (fun _ => rfl) h (SE.fin [0, 1] ⟨rfl, rfl, rfl, rfl, rfl, rfl, rfl, rfl, rfl, rfl, trivial⟩ rfl) (fun n z14 y13 h => ?_)));unfold chg_Learn_l2 at h;refine sr (jb (o_lss rfl) ?_);refine nt (JC.seq (ci h (fun h => ?_) (fun h => ?_)))
      ·refine sk (JC.cutB (Z := Unit) (α := Int × Bool × Int × Int) (fun z16 x15 => [(6, .eq (.pointer (some ⟨z4.1, 0, none⟩))), (9, I x15.1), (10, .eq (.bool x15.2.1)), (11, I x15.2.2.1), (12, I x15.2.2.2), (13, I y9.2.2.2.2), (40, I (q3.1.2.1.length : Int)), (41, I y9.2.2.2.2), (49, I (q3.1.1.length : Int)), (50, I y13.2.2.2.2)]) (fun z16 x15 => [.obj z4.1 101 (Qq q3 (.eq (.map (some z4.2)))), .inv z4.2 (Known k ((q3.1.1, q3.1.2.1, q3.1.2.2.1, q3.1.2.2.2), q3.2.1, q3.2.2))]) h (fun K h => ?_) (fun z16 x15 h => ?_))
       ·refine JC.block (sr (mq ?_));refine aq (nt (JC.seq (sr ?_)));refine mq ?_;refine ja (o_nil_obj rfl) ?_;refine fl fo101_0 ?_;refine fl fo26_1 ?_;refine lo sz23 ?_;refine mq ?_;obtain ⟨x17, ex17, h⟩ := b_bind h;refine jb (o_index (t := tDresser) rfl U23 sz52 ex17) ?_;refine ja (o_field_at 1 false rfl fo52_0 rfl) ?_;refine ja (o_load_at (t := (.slice (.int .i64))) rfl sz24 rfl) ?_;refine mq ?_;obtain ⟨r18, er18, h⟩ := b_bind h;refine jb (o_call [.tmp 61, .tmp 62] rfl rfl en76 rfl (slc_Contains_int_ok k x17.1 y13.2.2.2.2 r18 er18)) ?_;refine nt (cv h (fun h => ?_) (fun h => ?_))
        ·refine JC.exit (JN.then_x (JN.blk_hit (JN.then_n ?_)));exact jz ((), (y13.1, y13.2.1, y13.2.2.1, y13.2.2.2.1)) h [0, 1]
        ·refine sk (sr (mq ?_));refine ja (o_nil_obj rfl) ?_;refine fl fo101_0 ?_;refine fl fo26_1 ?_;refine lo sz23 ?_;obtain ⟨r19, er19, h⟩ := b_bind h;refine JO.s01 rfl rfl rfl (o_call [.tmp 68] rfl rfl en68 rfl (slc_Clone_Dresser_ok k q3.1.2.1 r19 er19)) ⟨rfl, trivial⟩ fun v20 => ?_;refine aq (nt (sr ?_));iterate 4 refine mq ?_
         obtain ⟨x21, ex21, h⟩ := b_bind h;refine kb (o_index_own (t := tDresser) rfl U23 sz52 ex21) ?_;refine ka (o_field_el rfl fo52_0 (geti_ne ex21)) ?_;refine ka (o_load_el (i := Int.toNat y9.2.2.2.2) (off := 0) rfl sz24 (fun _ => rfl) rfl (geti_some ex21).2.2 rfl) ?_;obtain ⟨r22, er22, h⟩ := b_bind h;refine JO.s01 rfl rfl rfl (o_call [.tmp 76] rfl rfl en77 rfl (slc_Clone_int_ok k x21.1 r22 er22)) ⟨rfl, trivial⟩ fun v23 => ?_;refine mq ?_;refine ja (o_litB (t := (.int .i64)) [(.tmp 78, _)] [y13.2.2.2.2] rfl rfl sl24 (.cons rfl .int .nil) rfl rfl) ?_;obtain ⟨u24, eu24, h⟩ := b_bind h;refine JO.s1x rfl rfl rfl (o_append rfl rfl sl24 (chkP_some eu24)) ⟨rfl, rfl, trivial⟩ fun v25 => ?_;refine fr 1 ?_;refine JO.se SE.toAlt ?_;obtain ⟨x26, ex26, h⟩ := b_bind h;have ax26 := geti_map (f := altF) ex26;refine kb (o_index_own (t := (.agg (.pair (.alt (.slice (.int .i64))) (.pair (.int .i64) (.int .i64))))) rfl U23 sz52 ax26) ?_;refine ka (o_field_el rfl fo52_0 (geti_ne ax26)) ?_;refine fr 1 ?_;refine JO.one fun o27 => ?_;refine fr 1 ?_;refine JO.n11 rfl rfl (o_store_el (d' := ((Sum.inr v25), x26.2.1, x26.2.2)) (i := Int.toNat y9.2.2.2.2) (off := 0) rfl sz24 rfl (geti_some ax26).2.2 (.altR o27) o27 (.agg (.left .whole))) ⟨rfl, rfl, trivial⟩ ?_;refine nt (sr ?_);iterate 2 refine mq ?_
         have bx26 := geti_set ((Sum.inr v25), x26.2.1, x26.2.2) ax26;refine kb (o_index_own (t := (.agg (.pair (.alt (.slice (.int .i64))) (.pair (.int .i64) (.int .i64))))) rfl U23 sz52 bx26) ?_;refine ka (o_field_el rfl fo52_0 (geti_ne bx26)) ?_;refine ka (o_load_el (i := Int.toNat y9.2.2.2.2) (off := 0) rfl sz24 (fun _ => rfl) rfl (geti_some bx26).2.2 rfl) ?_;refine JO.se (SE.altR 87 rfl rfl) ?_;obtain ⟨r28, er28, h⟩ := b_bind h;refine fr 1 ?_;refine ka (o_call [.tmp 87] rfl rfl en78 rfl (slc_Sort_int_ok k (r22 ++ [y13.2.2.2.2]) v25 r28 er28)) ?_;refine fr 1 ?_;refine fr 1 ?_;refine JO.se SE.ofAlt ?_;refine nt (sr ?_);iterate 2 refine mq ?_
         refine JO.se (SE.frz [15, 69, 70, 72, 83, 91] ⟨rfl, rfl, rfl, rfl, rfl, rfl, trivial⟩) ?_;obtain ⟨r29, er29, h⟩ := b_bind h;refine kb (o_call [.tmp 90, .tmp 91] rfl rfl en69 rfl (chg_quick_fewest_ok k ((q3.1.1, q3.1.2.1, q3.1.2.2.1, q3.1.2.2.2), q3.2.1, q3.2.2) z4.1 (.map (some z4.2)) (List.set r19 (Int.toNat y9.2.2.2.2) (r28, x26.2.1, x26.2.2)) r29 er29)) ?_;refine mq ?_;refine xr ?_;refine xr ?_;refine aq ?_;refine aq (nt ?_);refine JC.cutB (Z := Unit) (α := Bool) (fun z31 x30 => [(6, .eq (.pointer (some ⟨z4.1, 0, none⟩))), (9, I y13.1), (10, .eq (.bool y13.2.1)), (11, I y13.2.2.1), (12, I y13.2.2.2.1), (13, I y9.2.2.2.2), (14, I y13.2.2.2.2), (16, I r29.1), (40, I (q3.1.2.1.length : Int)), (41, I y9.2.2.2.2), (49, I (q3.1.1.length : Int)), (50, I y13.2.2.2.2), (104, .eq (.bool x30))]) (fun z31 x30 => [.obj z4.1 101 (Qq q3 (.eq (.map (some z4.2)))), .inv z4.2 (Known k ((q3.1.1, q3.1.2.1, q3.1.2.2.1, q3.1.2.2.2), q3.2.1, q3.2.2))]) h (fun K h => ?_) (fun z31 x30 h => ?_)
         ·refine JC.region ?_;iterate 2 refine mq ?_
          refine JO.bool (s := 96) rfl (fun hb => ?_) (fun hb => ?_)
          ·replace h := b_if (v_t hb) h;refine gm ?_;refine ga (o_not rfl) ?_;refine gm ?_;refine JO.bool (s := 99) rfl (fun hb => ?_) (fun hb => ?_)
           ·replace h := b_if (nv_t hb) h;iterate 3 refine gn ?_
            refine gb (o_pick_t rfl) ?_;refine pt (nl ?_);exact jz ((), true) h [0, 1]
           ·replace h := b_ifn (nv_fn hb) h;refine gm ?_;refine gm ?_;refine gb (o_lss rfl) ?_;refine gb (o_pick_f rfl) ?_;refine pt (nl ?_);exact jz ((), decide (r29.1 < y13.1)) h [0, 1]
          ·replace h := b_ifn (v_f hb) h;iterate 3 refine gn ?_
           refine gu ?_;refine gu ?_;refine gu ?_;refine gn ?_;refine pf (nl ?_);exact jz ((), false) h [0, 1]
         ·refine cv h (fun h => ?_) (fun h => ?_)
          ·refine JC.region ?_;iterate 3 refine mq ?_
           refine aq ?_;refine aq ?_;refine aq ?_;refine cq (JO.nil (bn ?_));exact jz ((), (r29.1, true, y9.2.2.2.2, y13.2.2.2.2)) h [0, 1]
          ·refine JC.skip (bn ?_);exact jz ((), (y13.1, y13.2.1, y13.2.2.1, y13.2.2.2.1)) h [0, 1]
       ·refine JC.region ?_;obtain ⟨x32, ex32, h⟩ := b_bind h;refine jb (o_add rfl ex32) ?_;refine mq (nl ?_);exact jz ((), (x15.1, x15.2.1, x15.2.2.1, x15.2.2.2, x32)) h [0, 1]
      ·refine JC.exit (JN.then_x (JN.then_x (JN.blk_hit (JN.jmp_n ?_))));refine bn ?_;exact jz ((), (y13.1, y13.2.1, y13.2.2.1, y13.2.2.2.1)) h [0, 1]
     ·refine JC.region ?_;obtain ⟨x33, ex33, h⟩ := b_bind h;refine jb (o_add rfl ex33) ?_;refine mq (nl ?_);exact jz ((), (x11.1, x11.2.1, x11.2.2.1, x11.2.2.2, x33)) h [0, 1]
    ·refine xa ?_;exact jz ((), (y9.1, y9.2.2.1, y9.2.2.2.1)) h [1]
   ·refine JC.seq (sr (mq ?_));refine jb (o_lss rfl) ?_;refine nt (ci h (fun h => ?_) (fun h => ?_))
    ·refine sr (cq ?_);refine cq ?_;refine cq ?_;refine cq (nt (rx ?_));cases h;exact JN.ret () [_, _, _, _] 0 ⟨rfl, rfl, rfl, rfl, trivial⟩ rfl
    ·refine sk (sr ?_);iterate 3 refine mq ?_
     refine aq ?_;refine aq ?_;refine aq ?_;refine cq (nt (JC.ret ?_));cases h;exact JN.ret () [_, _, _, _] 0 ⟨rfl, rfl, rfl, rfl, trivial⟩ rfl


def chg_quick_late_l1 (k : Nat) (a0 : (dChange × (List (Bool × Int)) × (List Int))) (a1 : (List dStep)) (a2 : Int) (r1 : (List Int) × (List Int)) : Nat → Int → Option (Except (Int × Int) Unit)
 | 0, _ => none
 | n + 1, y5 =>
  if y5 < (a1.length : Int) then ((geti a1 y5).bind fun x7 =>
  (geti a0.2.1 x7.1).bind fun x9 =>
  (cond x9.1 (chg_on_thing k x9.2) (chg_off_thing k x9.2)).bind fun r10 =>
  (geti a0.1.1 r10).bind fun x11 =>
  ((if x9.1 = true then (if (0 : Int) < x11.2.2.2.2 then ((chkP (0 ≤ x7.1 ∧ x7.1 < 4)).bind fun _ =>
  (geti r1.2 x7.1).bind fun x15 =>
  if x11.2.2.2.2 < x15 then ((cond x9.1 (chg_on_thing k x9.2) (chg_off_thing k x9.2)).bind fun r16 =>
  (chg_set_has k a2 r16).bind fun r17 =>
  some (!r17)) else (some false)) else (some false)) else (some false)) : Option (Bool)).bind fun x12 =>
  if x12 = true then (some (.error (y5, x11.2.2.2.2))) else ((ck (y5 + (1 : Int))).bind fun x18 =>
  chg_quick_late_l1 k a0 a1 a2 r1 n x18)) else (some (.ok ()))
def chg_quick_late (k : Nat) (a0 : (dChange × (List (Bool × Int)) × (List Int))) (a1 : (List dStep)) (a2 : Int) : Option (Int × Int) :=
 (chg_quick_begins k ((a0.1.1, a0.1.2.1, a0.1.2.2.1, a0.1.2.2.2), a0.2.1, a0.2.2) a1).bind fun r1 =>
 bE (α := Unit) (chg_quick_late_l1 k a0 a1 a2 r1 k (0 : Int)) (some) fun _ =>
 some ((-1 : Int), (0 : Int))

theorem chg_quick_late_ok (k : Nat) (a0 : (dChange × (List (Bool × Int)) × (List Int))) (b_a0 : Nat) (m_a0 : Value) (a1 : (List dStep)) (a2 : Int) (r : Int × Int) (h : chg_quick_late k a0 a1 a2 = some r) :
 Ctr Tryz.prog 81 [Pt b_a0, Rs tStep a1, .eq (.int .u8 a2)] [.obj b_a0 101 (Qq a0 (.eq m_a0))] (fun _ : Unit => (resA [I r.1, I r.2], [.obj b_a0 101 (Qq a0 (.eq m_a0))])) := by
 unfold chg_quick_late at h;replace h := b_top h;refine Ctr.of 75 Tryz.func81 rfl Tryz.ntmps81 rfl fun S w0 => ?_;refine sr (cq ?_);refine cq (nt (sr ?_));iterate 2 refine mq ?_
 obtain ⟨r1, er1, h⟩ := b_bind h;refine kb (o_call [.tmp 17, .tmp 18] rfl rfl en58 rfl (chg_quick_begins_ok k ((a0.1.1, a0.1.2.1, a0.1.2.2.1, a0.1.2.2.2), a0.2.1, a0.2.2) b_a0 m_a0 a1 r1 er1)) ?_;refine mq ?_;refine xr ?_;refine xr ?_;refine JO.s01 rfl rfl rfl (o_alloc rfl za102 al102) trivial fun b2 => ?_;refine aq ?_;refine JO.n11 rfl rfl (o_store rfl sz102 rfl rfl rfl) ⟨rfl, rfl, trivial⟩ ?_;refine nt (JC.cutE (Z := Unit) (α := Unit) (fun z4 x3 => []) (fun z4 x3 => [.obj b_a0 101 (Qq a0 (.eq m_a0))]) (fun e => e = r) h (fun e h => Option.some.inj h) (fun K hR h => ?_) (fun z4 x3 h => ?_))
 ·refine sr (mq ?_);refine ol U34 ?_;refine JO.mc rfl ?_;refine nt (JC.block (JC.loopB (Z := Unit) (α := Int) (fun z6 y5 => [(0, Pt b_a0), (2, .eq (.int .u8 a2)), (9, Pt b2), (22, Rs tStep a1), (23, I (a1.length : Int)), (24, I y5)]) (fun z6 y5 => [.obj b_a0 101 (Qq a0 (.eq m_a0)), .obj b2 102 (.rep (.arr 4 (.int .i64)) r1.2)]) (chg_quick_late_l1 k a0 a1 a2 r1) k () (0 : Int) (fun _ => rfl) h (SE.fin [1, 0] ⟨rfl, rfl, rfl, rfl, rfl, rfl, trivial⟩ rfl) (fun n z6 y5 h => ?_)));unfold chg_quick_late_l1 at h;refine sr (jb (o_lss rfl) ?_);refine nt (JC.seq (ci h (fun h => ?_) (fun h => ?_)))
  ·refine sk (JC.seq (JC.block (sr (mq ?_))));obtain ⟨x7, ex7, h⟩ := b_bind h;refine jb (o_index (t := tStep) rfl U34 sz92 ex7) ?_;refine ja (o_load_at (t := tStep) rfl sz92 rfl) ?_;refine JO.s01 rfl rfl rfl (o_alloc rfl za92 al92) trivial fun b8 => ?_;refine aq ?_;refine JO.n11 rfl rfl (o_store rfl sz92 rfl rfl rfl) ⟨rfl, rfl, trivial⟩ ?_;refine nt (JC.seq (JC.drawN ?_));refine dm ?_;refine da (o_nil_obj rfl) ?_;refine da (o_field_obj rfl fo101_1) ?_;refine ea 1 (o_load_obj rfl sz97 nfs rfl) ?_;refine da (o_field_obj rfl fo92_0) ?_;refine ea 0 (o_load_obj rfl sz3 nfs rfl) ?_;refine df mixed ?_;obtain ⟨x9, ex9, h⟩ := b_bind h;refine jb (o_index (t := (.tag 107 143)) rfl U97 sz106 ex9) ?_;refine ja (o_load_at (t := (.tag 107 143)) rfl sz106 rfl) ?_;refine aq (nt (JC.seq ?_));refine JC.drawN ?_;refine dm ?_;refine da (o_nil_obj rfl) ?_;refine da (o_field_obj rfl fo101_0) ?_;refine da (o_field_obj rfl fo26_0) ?_;refine ea 1 (o_load_obj rfl sz22 nfs rfl) ?_;refine dm ?_;obtain ⟨r10, er10, h⟩ := b_bind h;refine DN.s00 rfl rfl rfl (o_invoke rfl rfl mt107_thing mt143_thing (ctr_cond (fun hb => chg_off_thing_ok k x9.2 r10 (by simpa [hb] using er10)) (fun hb => chg_on_thing_ok k x9.2 r10 (by simpa [hb] using er10)))) ⟨rfl, trivial⟩ ?_;refine df mixed ?_;obtain ⟨x11, ex11, h⟩ := b_bind h;refine jb (o_index (t := tThing) rfl U22 sz74 ex11) ?_;refine ja (o_field_at 1 false rfl fo74_4 rfl) ?_;refine ja (o_load_at (t := (.int .i64)) rfl sz3 rfl) ?_;refine aq (nt (sr ?_));refine mq ?_;refine JO.s rfl (o_as1 rfl ta143 (by decide)) ⟨rfl, trivial⟩ ?_;refine mq ?_;refine xr ?_;refine xr ?_;refine aq ?_;refine aq (nt ?_);refine JC.cutB (Z := Unit) (α := Bool) (fun z13 x12 => [(0, Pt b_a0), (2, .eq (.int .u8 a2)), (9, Pt b2), (10, I y5), (13, I x11.2.2.2.2), (22, Rs tStep a1), (23, I (a1.length : Int)), (24, I y5), (71, .eq (.bool x12))]) (fun z13 x12 => [.obj b_a0 101 (Qq a0 (.eq m_a0)), .obj b2 102 (.rep (.arr 4 (.int .i64)) r1.2)]) h (fun K h => ?_) (fun z13 x12 h => ?_)
   ·refine JC.region ?_;iterate 2 refine mq ?_
    refine JO.bool (s := 53) rfl (fun hb => ?_) (fun hb => ?_)
    ·replace h := b_if (v_t hb) h;refine gm ?_;refine gb (o_gtr rfl) ?_;refine pt ?_;refine mq ?_;refine JO.bool (s := 57) rfl (fun hb => ?_) (fun hb => ?_)
     ·replace h := b_if (d_t hb) h;refine ga (o_field_obj rfl fo92_0) ?_;refine JO.g11 rfl rfl rfl rfl rfl rfl (o_load_obj rfl sz3 nfs rfl) ⟨rfl, trivial⟩ ?_;obtain ⟨u14, eu14, h⟩ := b_bind h;refine gb (o_index_arr rfl U102 sz3 (chkP_some eu14).1 (chkP_some eu14).2) ?_;obtain ⟨x15, ex15, h⟩ := b_bind h;refine fr 2 ?_;refine JO.g11 rfl rfl rfl rfl rfl rfl (o_load_arr (t := (.int .i64)) (off := 0) (i := x7.1) (N := 4) rfl sz3 (fun _ => rfl) rfl rfl rfl rfl ex15) ⟨rfl, trivial⟩ ?_;refine gm ?_;refine gb (o_gtr rfl) ?_;refine pt ?_;refine mq ?_;refine JO.bool (s := 65) rfl (fun hb => ?_) (fun hb => ?_)
      ·replace h := b_if (d_t hb) h;refine gm ?_;refine gm ?_;obtain ⟨r16, er16, h⟩ := b_bind h;refine JO.g00 rfl rfl rfl rfl rfl rfl (o_invoke rfl rfl mt107_thing mt143_thing (ctr_cond (fun hb => chg_off_thing_ok k x9.2 r16 (by simpa [hb] using er16)) (fun hb => chg_on_thing_ok k x9.2 r16 (by simpa [hb] using er16)))) ⟨rfl, trivial⟩ ?_;obtain ⟨r17, er17, h⟩ := b_bind h;refine gb (o_call [.tmp 66, .tmp 68] rfl rfl en94 rfl (chg_set_has_ok k a2 r16 r17 er17)) ?_;refine ga (o_not rfl) ?_;refine pt (nl ?_);exact jz ((), !r17) h [2, 0]
      ·replace h := b_ifn (d_f hb) h;iterate 5 refine gn ?_
       refine pf (nl ?_);exact jz ((), false) h [2, 0]
     ·replace h := b_ifn (d_f hb) h;iterate 6 refine gn ?_
      refine pf ?_;refine mq ?_;iterate 5 refine gn ?_
      refine pf (nl ?_);exact jz ((), false) h [1, 2]
    ·replace h := b_ifn (v_f hb) h;iterate 2 refine gn ?_
     refine pf ?_;refine mq ?_;iterate 6 refine gn ?_
     refine pf ?_;refine mq ?_;iterate 5 refine gn ?_
     refine pf (nl ?_);exact jz ((), false) h [1, 2]
   ·refine cv h (fun h => ?_) (fun h => ?_)
    ·refine sr ?_;iterate 2 refine mq ?_
     refine aq ?_;refine aq (nt (JC.ret (br (JN.blk_r (JN.then_r ?_)))));obtain rfl := hR _ h;exact JN.ret () [_, _] 1 ⟨rfl, rfl, trivial⟩ rfl
    ·refine JC.skip (JN.blk_n (tn (JC.region ?_)));obtain ⟨x18, ex18, h⟩ := b_bind h;refine jb (o_add rfl ex18) ?_;refine mq (nl ?_);exact jz ((), x18) h [0, 1]
  ·refine xa ?_;exact jz ((), ()) h [0]
 ·refine sr (cq ?_);refine cq (nt (JC.ret ?_));cases h;exact JN.ret () [_, _] 1 ⟨rfl, rfl, trivial⟩ rfl


def chg_Late (k : Nat) (a0 : dChange) (a1 : (List dStep)) : Option (Int × Int × Int) :=
 (chg_asked k a0 a1).bind fun r2 =>
 casesO r2.1 (if ¬ (r2.2 = (0 : Int)) then (some ((0 : Int), (0 : Int), r2.2)) else (none)) (fun q3 => if ¬ (r2.2 = (0 : Int)) then (some ((0 : Int), (0 : Int), r2.2)) else ((chg_quick_late k ((q3.1.1, q3.1.2.1, q3.1.2.2.1, q3.1.2.2.2), q3.2.1, q3.2.2) a1 (0 : Int)).bind fun r5 =>
 some (r5.1, r5.2, (0 : Int))))

theorem chg_Late_ok (k : Nat) (a0 : dChange) (a1 : (List dStep)) (r : Int × Int × Int) (h : chg_Late k a0 a1 = some r) :
 Ctr Tryz.prog 41 [.rep tChange a0, Rs tStep a1] [] (fun _ : Unit => (resA [I r.1, I r.2.1, I r.2.2], [])) := by
 unfold chg_Late at h;replace h := b_top h;refine Ctr.of 28 Tryz.func41 rfl Tryz.ntmps41 rfl fun S w0 => ?_;refine sr (bx fun b1 => ?_);refine cq ?_;refine cq ?_;refine cq (nt (sr ?_));refine lo sz26 ?_;refine mq ?_;obtain ⟨r2, er2, h⟩ := b_bind h;have cr2 := chg_asked_ok k a0 a1 r2 er2;rcases hr : r2.1 with _ | q3
 ·rw [hr] at h cr2; replace h := co_n h;refine JO.stepG (Δ := []) (F := _) (fun _ _ _ => wanted_none rfl _) rfl rfl (o_call [.tmp 12, .tmp 13] rfl rfl en56 rfl cr2) ⟨rfl, rfl, trivial⟩ fun _ => ?_;refine mq ?_;refine xr ?_;refine xr ?_;refine aq ?_;refine aq (nt (JC.seq (sr ?_)));refine mq ?_;refine jb (o_neq rfl) ?_;refine nt (cn h (fun h => ?_) (fun h => ?_))
  ·refine sr (mq ?_);refine cq ?_;refine cq ?_;refine aq (nt (rx ?_));cases h;exact JN.ret () [_, _, _] 0 ⟨rfl, rfl, rfl, trivial⟩ rfl
  ·refine sk (sr ?_);iterate 2 refine mq ?_
   cases h
 ·rw [hr] at h cr2; replace h := co_s h;refine JO.stepG (Δ := []) (F := _) (fun _ _ _ => wanted_none rfl _) rfl rfl (o_call [.tmp 12, .tmp 13] rfl rfl en56 rfl cr2) ⟨rfl, rfl, trivial⟩ fun z4 => ?_;refine mq ?_;refine xr ?_;refine xr ?_;refine aq ?_;refine aq (nt (JC.seq (sr ?_)));refine mq ?_;refine jb (o_neq rfl) ?_;refine nt (cn h (fun h => ?_) (fun h => ?_))
  ·refine sr (mq ?_);refine cq ?_;refine cq ?_;refine aq (nt (rx ?_));cases h;exact JN.ret () [_, _, _] 0 ⟨rfl, rfl, rfl, trivial⟩ rfl
  ·refine sk (sr ?_);iterate 2 refine mq ?_
   obtain ⟨r5, er5, h⟩ := b_bind h;refine kc (o_call [.tmp 21, .tmp 22, .const (.int .u8 (0))] rfl rfl en81 rfl (chg_quick_late_ok k ((q3.1.1, q3.1.2.1, q3.1.2.2.1, q3.1.2.2.2), q3.2.1, q3.2.2) z4.1 (.map (some z4.2)) a1 (0 : Int) r5 er5)) ?_;refine mq ?_;refine xr ?_;refine xr ?_;refine aq ?_;refine aq (nt (sr ?_));iterate 2 refine mq ?_
   refine aq ?_;refine aq ?_;refine cq (nt (JC.ret ?_));cases h;exact JN.ret () [_, _, _] 0 ⟨rfl, rfl, rfl, trivial⟩ rfl


def law_quick (k : Nat) (a0 : Int) (a1 : Int) (a2 : (List Int)) : Option dChange :=
 some ([([(1 : Int)], (2 : Int), (2 : Int), (0 : Int), (0 : Int)), ([], (1 : Int), (1 : Int), (1 : Int), a0), ([], (1 : Int), (1 : Int), (2 : Int), (2 : Int)), ([], (3 : Int), (3 : Int), (0 : Int), (0 : Int))], [([(0 : Int), (1 : Int), (2 : Int)], (1 : Int), a1), (a2, (0 : Int), (1 : Int))], [(0 : Int), (1 : Int)], [(1 : Int), (2 : Int)])

theorem law_quick_ok (k : Nat) (a0 : Int) (a1 : Int) (a2 : (List Int)) (r : dChange) (h : law_quick k a0 a1 a2 = some r) :
 Ctr Tryz.prog 47 [I a0, I a1, Ri a2] [] (fun _ : Unit => (resA [.rep tChange r], [])) := by
 unfold law_quick at h;replace h := b_top h;refine Ctr.of 23 Tryz.func47 rfl Tryz.ntmps47 rfl fun S w0 => ?_;refine sr (JO.s01 rfl rfl rfl (o_alloc rfl za26 al26) trivial fun b1 => ?_);refine nt (sr (ja (o_litB (t := (.int .i64)) [(.const (.int .i64 (1)), _)] [(1 : Int)] rfl rfl sl24 (.cons rfl .int .nil) rfl rfl) ?_));refine jc (o_buildT [(0, .tmp 7, _), (1, .const (.int .i64 (2)), _), (2, .const (.int .i64 (2)), _)] rfl pl74 za74 alb74 (stors ⟨rfl, rfl, rfl, trivial⟩) rfl) ?_;refine mq ?_;refine JO.s rfl (o_buildT [(1, .const (.int .i64 (1)), _), (2, .const (.int .i64 (1)), _), (3, .const (.int .i64 (1)), _), (4, .tmp 9, _)] rfl pl74 za74 alb74 (stors ⟨rfl, rfl, rfl, rfl, trivial⟩) rfl) ⟨rfl, rfl, rfl, rfl, trivial⟩ ?_;refine JO.s rfl (o_buildT [(1, .const (.int .i64 (1)), _), (2, .const (.int .i64 (1)), _), (3, .const (.int .i64 (2)), _), (4, .const (.int .i64 (2)), _)] rfl pl74 za74 alb74 (stors ⟨rfl, rfl, rfl, rfl, trivial⟩) rfl) ⟨rfl, rfl, rfl, rfl, trivial⟩ ?_;refine jb (o_buildT [(1, .const (.int .i64 (3)), _), (2, .const (.int .i64 (3)), _)] rfl pl74 za74 alb74 (stors ⟨rfl, rfl, trivial⟩) rfl) ?_;refine JO.s rfl (o_litB (t := tThing) [(.tmp 8, _), (.tmp 10, _), (.tmp 11, _), (.tmp 12, _)] [([(1 : Int)], (2 : Int), (2 : Int), (0 : Int), (0 : Int)), ([], (1 : Int), (1 : Int), (1 : Int), a0), ([], (1 : Int), (1 : Int), (2 : Int), (2 : Int)), ([], (3 : Int), (3 : Int), (0 : Int), (0 : Int))] rfl rfl sl22 (.cons trivial (.agg (.pair .rep (.pair .int (.pair .int (.pair .int .int))))) (.cons trivial (.agg (.pair .nil (.pair .int (.pair .int (.pair .int .int))))) (.cons trivial (.agg (.pair .nil (.pair .int (.pair .int (.pair .int .int))))) (.cons trivial (.agg (.pair .nil (.pair .int (.pair .int (.pair .int .int))))) .nil)))) rfl rfl) ⟨rfl, rfl, rfl, rfl, trivial⟩ ?_;refine jc (o_litB (t := (.int .i64)) [(.const (.int .i64 (0)), _), (.const (.int .i64 (1)), _), (.const (.int .i64 (2)), _)] [(0 : Int), (1 : Int), (2 : Int)] rfl rfl sl24 (.cons rfl .int (.cons rfl .int (.cons rfl .int .nil))) rfl rfl) ?_;refine mq ?_;refine jc (o_buildT [(0, .tmp 14, _), (1, .const (.int .i64 (1)), _), (2, .tmp 15, _)] rfl pl52 za52 alb52 (stors ⟨rfl, rfl, rfl, trivial⟩) rfl) ?_;refine mq ?_;refine jb (o_buildT [(0, .tmp 17, _), (2, .const (.int .i64 (1)), _)] rfl pl52 za52 alb52 (stors ⟨rfl, rfl, trivial⟩) rfl) ?_;refine jb (o_litB (t := tDresser) [(.tmp 16, _), (.tmp 18, _)] [([(0 : Int), (1 : Int), (2 : Int)], (1 : Int), a1), (a2, (0 : Int), (1 : Int))] rfl rfl sl23 (.cons trivial (.agg (.pair .rep (.pair .int .int))) (.cons trivial (.agg (.pair .rep (.pair .int .int))) .nil)) rfl rfl) ?_;refine jb (o_litB (t := (.int .i64)) [(.const (.int .i64 (0)), _), (.const (.int .i64 (1)), _)] [(0 : Int), (1 : Int)] rfl rfl sl24 (.cons rfl .int (.cons rfl .int .nil)) rfl rfl) ?_;refine jb (o_litB (t := (.int .i64)) [(.const (.int .i64 (1)), _), (.const (.int .i64 (2)), _)] [(1 : Int), (2 : Int)] rfl rfl sl24 (.cons rfl .int (.cons rfl .int .nil)) rfl rfl) ?_;refine JO.s rfl (o_buildT [(0, .tmp 13, _), (1, .tmp 19, _), (2, .tmp 20, _), (3, .tmp 21, _)] rfl pl26 za26 alb26 (stors ⟨rfl, rfl, rfl, rfl, trivial⟩) rfl) ⟨rfl, rfl, rfl, rfl, trivial⟩ ?_;refine JO.n11 rfl rfl (o_store rfl sz26 trivial rfl rfl) ⟨rfl, rfl, trivial⟩ ?_;refine nt (JC.ret (JN.se (SE.objE (a := .agg (.pair (Rs tThing [([(1 : Int)], (2 : Int), (2 : Int), (0 : Int), (0 : Int)), ([], (1 : Int), (1 : Int), (1 : Int), a0), ([], (1 : Int), (1 : Int), (2 : Int), (2 : Int)), ([], (3 : Int), (3 : Int), (0 : Int), (0 : Int))]) (.pair (Rs tDresser [([(0 : Int), (1 : Int), (2 : Int)], (1 : Int), a1), (a2, (0 : Int), (1 : Int))]) (.pair (Ri [(0 : Int), (1 : Int)]) (Ri [(1 : Int), (2 : Int)]))))) (a' := .rep tChange ([([(1 : Int)], (2 : Int), (2 : Int), (0 : Int), (0 : Int)), ([], (1 : Int), (1 : Int), (1 : Int), a0), ([], (1 : Int), (1 : Int), (2 : Int), (2 : Int)), ([], (3 : Int), (3 : Int), (0 : Int), (0 : Int))], [([(0 : Int), (1 : Int), (2 : Int)], (1 : Int), a1), (a2, (0 : Int), (1 : Int))], [(0 : Int), (1 : Int)], [(1 : Int), (2 : Int)])) (AE.ent (.agg (.pair .rep (.pair .rep (.pair .rep .rep)))))) ?_))
 cases h;exact JN.ret () [.rep tChange ([([(1 : Int)], (2 : Int), (2 : Int), (0 : Int), (0 : Int)), ([], (1 : Int), (1 : Int), (1 : Int), a0), ([], (1 : Int), (1 : Int), (2 : Int), (2 : Int)), ([], (3 : Int), (3 : Int), (0 : Int), (0 : Int))], [([(0 : Int), (1 : Int), (2 : Int)], (1 : Int), a1), (a2, (0 : Int), (1 : Int))], [(0 : Int), (1 : Int)], [(1 : Int), (2 : Int)])] 0 ⟨⟨_, _, _, _, _, rfl, (.head _), sz26, (nfn), rfl⟩, trivial⟩ rfl


def law_first (k : Nat) : Option (List dStep) :=
 some [((1 : Int), (0 : Int)), ((0 : Int), (0 : Int)), ((2 : Int), (0 : Int)), ((3 : Int), (1 : Int))]

theorem law_first_ok (k : Nat) (r : (List dStep)) (h : law_first k = some r) :
 Ctr Tryz.prog 48 [] [] (fun _ : Unit => (resA [Rs tStep r], [])) := by
 unfold law_first at h;replace h := b_top h;refine Ctr.of 6 Tryz.func48 rfl Tryz.ntmps48 rfl fun S w0 => ?_;refine sr (cq (nt (sr ?_)));refine jb (o_buildT [(0, .const (.int .i64 (1)), _), (1, .const (.int .i64 (0)), _)] rfl pl92 za92 alb92 (stors ⟨rfl, rfl, trivial⟩) rfl) ?_;refine jb (o_buildT [(0, .const (.int .i64 (0)), _), (1, .const (.int .i64 (0)), _)] rfl pl92 za92 alb92 (stors ⟨rfl, rfl, trivial⟩) rfl) ?_;refine jb (o_buildT [(0, .const (.int .i64 (2)), _), (1, .const (.int .i64 (0)), _)] rfl pl92 za92 alb92 (stors ⟨rfl, rfl, trivial⟩) rfl) ?_;refine jb (o_buildT [(0, .const (.int .i64 (3)), _), (1, .const (.int .i64 (1)), _)] rfl pl92 za92 alb92 (stors ⟨rfl, rfl, trivial⟩) rfl) ?_;refine JO.s rfl (o_litB (t := tStep) [(.tmp 1, _), (.tmp 2, _), (.tmp 3, _), (.tmp 4, _)] [((1 : Int), (0 : Int)), ((0 : Int), (0 : Int)), ((2 : Int), (0 : Int)), ((3 : Int), (1 : Int))] rfl rfl sl34 (.cons trivial (.agg (.pair .int .int)) (.cons trivial (.agg (.pair .int .int)) (.cons trivial (.agg (.pair .int .int)) (.cons trivial (.agg (.pair .int .int)) .nil)))) rfl rfl) ⟨rfl, rfl, rfl, rfl, trivial⟩ ?_;refine aq (nt (JC.ret ?_));cases h;exact ra


def law_dressed (k : Nat) : Option Bool :=
 (law_quick k (0 : Int) (0 : Int) [(0 : Int), (2 : Int)]).bind fun r1 =>
 (chg_Fewest k r1).bind fun r3 =>
 (law_first k).bind fun r4 =>
 (chg_Begins k r1 r4).bind fun r5 =>
 (law_quick k (3 : Int) (0 : Int) [(0 : Int), (2 : Int)]).bind fun r6 =>
 (law_first k).bind fun r7 =>
 (chg_Late k r6 r7).bind fun r8 =>
 (chg_Spare k r1 (1 : Int)).bind fun r9 =>
 (law_first k).bind fun r10 =>
 (chg_Wearing k r1 r10 (4 : Int)).bind fun r11 =>
 (law_quick k (0 : Int) (3 : Int) [(0 : Int), (2 : Int)]).bind fun r12 =>
 (law_quick k (0 : Int) (3 : Int) [(0 : Int), (2 : Int)]).bind fun r13 =>
 (chg_Through k [r12, r13] [(0 : Int)]).bind fun r14 =>
 (law_quick k (0 : Int) (0 : Int) [(0 : Int)]).bind fun r15 =>
 (chg_Learn k r15).bind fun r16 =>
 ((if r3.2.2 = (0 : Int) then (if r5.2 = (0 : Int) then (if r8.2.2 = (0 : Int) then (if r9.2 = (0 : Int) then (if r11.2 = (0 : Int) then (if r14.2 = (0 : Int) then (if r16.2.2.2 = (0 : Int) then (if r3.2.1 = (4 : Int) then (if r8.1 = (2 : Int) then (if r8.2.1 = (3 : Int) then (if r9.1 = (3 : Int) then (if r16.1 = (1 : Int) then (if r16.2.1 = (2 : Int) then (if r16.2.2.1 = (4 : Int) then ((law_first k).bind fun r19 =>
 (kit_SameSteps k r3.1 r19).bind fun r20 =>
 if r20 = true then ((kit_SameInts k r5.1 [(0 : Int), (1 : Int), (3 : Int), (1 : Int)]).bind fun r21 =>
 if r21 = true then ((kit_SameInts k r11.1 [(1 : Int), (2 : Int)]).bind fun r22 =>
 if r22 = true then ((kit_SameInts k r14.1 [(7 : Int), (11 : Int)]).bind fun r23 =>
 some r23) else (some false)) else (some false)) else (some false)) else (some false)) else (some false)) else (some false)) else (some false)) else (some false)) else (some false)) else (some false)) else (some false)) else (some false)) else (some false)) else (some false)) else (some false)) else (some false)) else (some false)) : Option (Bool)).bind fun x17 =>
 some x17

theorem law_dressed_ok (k : Nat) (r : Bool) (h : law_dressed k = some r) :
 Ctr Tryz.prog 10 [] [] (fun _ : Unit => (resA [.eq (.bool r)], [])) := by
 unfold law_dressed at h;replace h := b_top h;refine Ctr.of 145 Tryz.func10 rfl Tryz.ntmps10 rfl fun S w0 => ?_;refine sr (cq (nt (sr ?_)));refine jb (o_litB (t := (.int .i64)) [(.const (.int .i64 (0)), _), (.const (.int .i64 (2)), _)] [(0 : Int), (2 : Int)] rfl rfl sl24 (.cons rfl .int (.cons rfl .int .nil)) rfl rfl) ?_;obtain ⟨r1, er1, h⟩ := b_bind h;have cr1 := law_quick_ok k (0 : Int) (0 : Int) [(0 : Int), (2 : Int)] r1 er1;refine jc (o_call [.const (.int .i64 (0)), .const (.int .i64 (0)), .tmp 20] rfl rfl en47 rfl cr1) ?_;refine JO.s01 rfl rfl rfl (o_alloc rfl za26 al26) trivial fun b2 => ?_;refine JO.n11 rfl rfl (o_store rfl sz26 rfl rfl rfl) ⟨rfl, rfl, trivial⟩ ?_;refine nt (sr (lo sz26 ?_));obtain ⟨r3, er3, h⟩ := b_bind h;have cr3 := chg_Fewest_ok k r1 r3 er3;refine ja (o_call [.tmp 23] rfl rfl en14 rfl cr3) ?_;refine mq ?_;refine xr ?_;refine xr ?_;refine xr ?_;refine aq ?_;refine aq ?_;refine aq (nt (JC.seq ?_));refine JC.drawN ?_;refine ea 0 (o_load_obj rfl sz26 (nfn) rfl) ?_;obtain ⟨r4, er4, h⟩ := b_bind h;have cr4 := law_first_ok k  r4 er4;refine DN.s00 rfl rfl rfl (o_call [] rfl rfl en48 rfl cr4) trivial ?_;obtain ⟨r5, er5, h⟩ := b_bind h;have cr5 := chg_Begins_ok k r1 r4 r5 er5;refine db (o_call [.tmp 29, .tmp 30] rfl rfl en31 rfl cr5) ?_;refine dm ?_;refine da (o_extract rfl rfl) ?_;refine da (o_extract rfl rfl) ?_;refine da (o_assign rfl) ?_;refine df mixed ?_;refine aq (nt (sr ?_));refine jb (o_litB (t := (.int .i64)) [(.const (.int .i64 (0)), _), (.const (.int .i64 (2)), _)] [(0 : Int), (2 : Int)] rfl rfl sl24 (.cons rfl .int (.cons rfl .int .nil)) rfl rfl) ?_;obtain ⟨r6, er6, h⟩ := b_bind h;have cr6 := law_quick_ok k (3 : Int) (0 : Int) [(0 : Int), (2 : Int)] r6 er6;refine jc (o_call [.const (.int .i64 (3)), .const (.int .i64 (0)), .tmp 35] rfl rfl en47 rfl cr6) ?_;obtain ⟨r7, er7, h⟩ := b_bind h;have cr7 := law_first_ok k  r7 er7;refine JO.s rfl (o_call [] rfl rfl en48 rfl cr7) trivial ?_;obtain ⟨r8, er8, h⟩ := b_bind h;have cr8 := chg_Late_ok k r6 r7 r8 er8;refine jb (o_call [.tmp 36, .tmp 37] rfl rfl en41 rfl cr8) ?_;refine mq ?_;refine xr ?_;refine xr ?_;refine xr ?_;refine aq ?_;refine aq ?_;refine aq (nt (sr ?_));refine lo sz26 ?_;obtain ⟨r9, er9, h⟩ := b_bind h;have cr9 := chg_Spare_ok k r1 (1 : Int) r9 er9;refine jb (o_call [.tmp 43, .const (.int .i64 (1))] rfl rfl en37 rfl cr9) ?_;refine mq ?_;refine xr ?_;refine xr ?_;refine aq ?_;refine aq (nt (JC.seq ?_));refine JC.drawN ?_;refine ea 0 (o_load_obj rfl sz26 (nfn) rfl) ?_;obtain ⟨r10, er10, h⟩ := b_bind h;have cr10 := law_first_ok k  r10 er10;refine DN.s00 rfl rfl rfl (o_call [] rfl rfl en48 rfl cr10) trivial ?_;obtain ⟨r11, er11, h⟩ := b_bind h;have cr11 := chg_Wearing_ok k r1 r10 (4 : Int) r11 er11;refine dc (o_call [.tmp 48, .tmp 49, .const (.int .i64 (4))] rfl rfl en20 rfl cr11) ?_;refine dm ?_;refine da (o_extract rfl rfl) ?_;refine da (o_extract rfl rfl) ?_;refine da (o_assign rfl) ?_;refine df mixed ?_;refine aq (nt (sr ?_));refine jb (o_litB (t := (.int .i64)) [(.const (.int .i64 (0)), _), (.const (.int .i64 (2)), _)] [(0 : Int), (2 : Int)] rfl rfl sl24 (.cons rfl .int (.cons rfl .int .nil)) rfl rfl) ?_;obtain ⟨r12, er12, h⟩ := b_bind h;have cr12 := law_quick_ok k (0 : Int) (3 : Int) [(0 : Int), (2 : Int)] r12 er12;refine jc (o_call [.const (.int .i64 (0)), .const (.int .i64 (3)), .tmp 54] rfl rfl en47 rfl cr12) ?_;refine jb (o_litB (t := (.int .i64)) [(.const (.int .i64 (0)), _), (.const (.int .i64 (2)), _)] [(0 : Int), (2 : Int)] rfl rfl sl24 (.cons rfl .int (.cons rfl .int .nil)) rfl rfl) ?_;obtain ⟨r13, er13, h⟩ := b_bind h;have cr13 := law_quick_ok k (0 : Int) (3 : Int) [(0 : Int), (2 : Int)] r13 er13;refine jc (o_call [.const (.int .i64 (0)), .const (.int .i64 (3)), .tmp 56] rfl rfl en47 rfl cr13) ?_;refine jb (o_litB (t := tChange) [(.tmp 55, _), (.tmp 57, _)] [r12, r13] rfl rfl sl29 (.cons rfl .rep (.cons rfl .rep .nil)) rfl rfl) ?_;refine ja (o_litB (t := (.int .i64)) [(.const (.int .i64 (0)), _)] [(0 : Int)] rfl rfl sl24 (.cons rfl .int .nil) rfl rfl) ?_
 obtain ⟨r14, er14, h⟩ := b_bind h;refine jb (o_call [.tmp 58, .tmp 59] rfl rfl en29 rfl (chg_Through_ok k [r12, r13] [(0 : Int)] r14 er14)) ?_;refine mq ?_;refine xr ?_;refine xr ?_;refine aq ?_;refine aq (nt (sr ?_));refine ja (o_litB (t := (.int .i64)) [(.const (.int .i64 (0)), _)] [(0 : Int)] rfl rfl sl24 (.cons rfl .int .nil) rfl rfl) ?_;obtain ⟨r15, er15, h⟩ := b_bind h;refine jc (o_call [.const (.int .i64 (0)), .const (.int .i64 (0)), .tmp 64] rfl rfl en47 rfl (law_quick_ok k (0 : Int) (0 : Int) [(0 : Int)] r15 er15)) ?_;obtain ⟨r16, er16, h⟩ := b_bind h;refine ja (o_call [.tmp 65] rfl rfl en39 rfl (chg_Learn_ok k r15 r16 er16)) ?_;refine mq ?_;refine xr ?_;refine xr ?_;refine xr ?_;refine xr ?_;refine aq ?_;refine aq ?_;refine aq ?_;refine aq (nt ?_);refine JC.cutB (Z := Unit) (α := Bool) (fun z18 x17 => [(0, .eq (.bool x17))]) (fun z18 x17 => []) h (fun K h => ?_) (fun z18 x17 h => ?_)
 ·refine JC.region (mq ?_);refine jb (o_eql rfl) ?_;refine mq ?_;refine JO.bool (s := 73) rfl (fun hb => ?_) (fun hb => ?_)
  ·replace h := b_if (d_t hb) h;refine gm ?_;refine gb (o_eql rfl) ?_;refine pt ?_;refine mq ?_;refine JO.bool (s := 77) rfl (fun hb => ?_) (fun hb => ?_)
   ·replace h := b_if (d_t hb) h;refine gm ?_;refine gb (o_eql rfl) ?_;refine pt ?_;refine mq ?_;refine JO.bool (s := 81) rfl (fun hb => ?_) (fun hb => ?_)
    ·replace h := b_if (d_t hb) h;refine gm ?_;refine gb (o_eql rfl) ?_;refine pt ?_;refine mq ?_;refine JO.bool (s := 85) rfl (fun hb => ?_) (fun hb => ?_)
     ·replace h := b_if (d_t hb) h;refine gm ?_;refine gb (o_eql rfl) ?_;refine pt ?_;refine mq ?_;refine JO.bool (s := 89) rfl (fun hb => ?_) (fun hb => ?_)
      ·replace h := b_if (d_t hb) h;refine gm ?_;refine gb (o_eql rfl) ?_;refine pt ?_;refine mq ?_;refine JO.bool (s := 93) rfl (fun hb => ?_) (fun hb => ?_)
       ·replace h := b_if (d_t hb) h;refine gm ?_;refine gb (o_eql rfl) ?_;refine pt ?_;refine mq ?_;refine JO.bool (s := 97) rfl (fun hb => ?_) (fun hb => ?_)
        ·replace h := b_if (d_t hb) h;refine gm ?_;refine gb (o_eql rfl) ?_;refine pt ?_;refine mq ?_;refine JO.bool (s := 101) rfl (fun hb => ?_) (fun hb => ?_)
         ·replace h := b_if (d_t hb) h;refine gm ?_;refine gb (o_eql rfl) ?_;refine pt ?_;refine mq ?_;refine JO.bool (s := 105) rfl (fun hb => ?_) (fun hb => ?_)
          ·replace h := b_if (d_t hb) h;refine gm ?_;refine gb (o_eql rfl) ?_;refine pt ?_;refine mq ?_;refine JO.bool (s := 109) rfl (fun hb => ?_) (fun hb => ?_)
           ·replace h := b_if (d_t hb) h;refine gm ?_;refine gb (o_eql rfl) ?_;refine pt ?_;refine mq ?_;refine JO.bool (s := 113) rfl (fun hb => ?_) (fun hb => ?_)
            ·replace h := b_if (d_t hb) h;refine gm ?_;refine gb (o_eql rfl) ?_;refine pt ?_;refine mq ?_;refine JO.bool (s := 117) rfl (fun hb => ?_) (fun hb => ?_)
             ·replace h := b_if (d_t hb) h;refine gm ?_;refine gb (o_eql rfl) ?_;refine pt ?_;refine mq ?_;refine JO.bool (s := 121) rfl (fun hb => ?_) (fun hb => ?_)
              ·replace h := b_if (d_t hb) h;refine gm ?_;refine gb (o_eql rfl) ?_;refine pt ?_;refine mq ?_;refine JO.bool (s := 125) rfl (fun hb => ?_) (fun hb => ?_)
               ·replace h := b_if (d_t hb) h;refine gm ?_;obtain ⟨r19, er19, h⟩ := b_bind h;refine JO.g00 rfl rfl rfl rfl rfl rfl (o_call [] rfl rfl en48 rfl (law_first_ok k  r19 er19)) trivial ?_;obtain ⟨r20, er20, h⟩ := b_bind h;refine gb (o_call [.tmp 126, .tmp 127] rfl rfl en16 rfl (kit_SameSteps_ok k r3.1 r19 r20 er20)) ?_;refine pt ?_;refine mq ?_;refine JO.bool (s := 130) rfl (fun hb => ?_) (fun hb => ?_)
                ·replace h := b_if (v_t hb) h;refine gm ?_;refine JO.g00 rfl rfl rfl rfl rfl rfl (o_litB (t := (.int .i64)) [(.const (.int .i64 (0)), _), (.const (.int .i64 (1)), _), (.const (.int .i64 (3)), _), (.const (.int .i64 (1)), _)] [(0 : Int), (1 : Int), (3 : Int), (1 : Int)] rfl rfl sl24 (.cons rfl .int (.cons rfl .int (.cons rfl .int (.cons rfl .int .nil)))) rfl rfl) ⟨rfl, rfl, rfl, rfl, trivial⟩ ?_;obtain ⟨r21, er21, h⟩ := b_bind h;refine gb (o_call [.tmp 131, .tmp 132] rfl rfl en22 rfl (kit_SameInts_ok k r5.1 [(0 : Int), (1 : Int), (3 : Int), (1 : Int)] r21 er21)) ?_;refine pt ?_;refine mq ?_;refine JO.bool (s := 135) rfl (fun hb => ?_) (fun hb => ?_)
                 ·replace h := b_if (v_t hb) h;refine gm ?_;refine gb (o_litB (t := (.int .i64)) [(.const (.int .i64 (1)), _), (.const (.int .i64 (2)), _)] [(1 : Int), (2 : Int)] rfl rfl sl24 (.cons rfl .int (.cons rfl .int .nil)) rfl rfl) ?_;obtain ⟨r22, er22, h⟩ := b_bind h;refine gb (o_call [.tmp 136, .tmp 137] rfl rfl en22 rfl (kit_SameInts_ok k r11.1 [(1 : Int), (2 : Int)] r22 er22)) ?_;refine pt ?_;refine mq ?_;refine JO.bool (s := 140) rfl (fun hb => ?_) (fun hb => ?_)
                  ·replace h := b_if (v_t hb) h;refine gm ?_;refine gb (o_litB (t := (.int .i64)) [(.const (.int .i64 (7)), _), (.const (.int .i64 (11)), _)] [(7 : Int), (11 : Int)] rfl rfl sl24 (.cons rfl .int (.cons rfl .int .nil)) rfl rfl) ?_;obtain ⟨r23, er23, h⟩ := b_bind h;refine gb (o_call [.tmp 141, .tmp 142] rfl rfl en22 rfl (kit_SameInts_ok k r14.1 [(7 : Int), (11 : Int)] r23 er23)) ?_;refine pt ?_;refine aq (nl ?_);exact jz ((), r23) h []
                  ·replace h := b_ifn (v_f hb) h;iterate 3 refine gn ?_
                   refine pf ?_;refine aq (nl ?_);exact jz ((), false) h []
                 ·replace h := b_ifn (v_f hb) h;iterate 3 refine gn ?_
                  refine pf ?_;refine mq ?_;iterate 3 refine gn ?_
                  refine pf ?_;refine aq (nl ?_);exact jz ((), false) h []
                ·replace h := b_ifn (v_f hb) h;iterate 3 refine gn ?_
                 refine pf ?_;refine mq ?_;iterate 3 refine gn ?_
                 refine pf ?_;refine mq ?_;iterate 3 refine gn ?_
                 refine pf ?_;refine aq (nl ?_);exact jz ((), false) h []
               ·replace h := b_ifn (d_f hb) h;iterate 3 refine gn ?_
                refine pf ?_;refine mq ?_;iterate 3 refine gn ?_
                refine pf ?_;refine mq ?_;iterate 3 refine gn ?_
                refine pf ?_;refine mq ?_;iterate 3 refine gn ?_
                refine pf ?_;refine aq (nl ?_);exact jz ((), false) h []
              ·replace h := b_ifn (d_f hb) h;iterate 2 refine gn ?_
               refine pf ?_;refine mq ?_;iterate 3 refine gn ?_
               refine pf ?_;refine mq ?_;iterate 3 refine gn ?_
               refine pf ?_;refine mq ?_;iterate 3 refine gn ?_
               refine pf ?_;refine mq ?_;iterate 3 refine gn ?_
               refine pf ?_;refine aq (nl ?_);exact jz ((), false) h []
             ·replace h := b_ifn (d_f hb) h;iterate 2 refine gn ?_
              refine pf ?_;refine mq ?_;iterate 2 refine gn ?_
              refine pf ?_;refine mq ?_;iterate 3 refine gn ?_
              refine pf ?_;refine mq ?_;iterate 3 refine gn ?_
              refine pf ?_;refine mq ?_;iterate 3 refine gn ?_
              refine pf ?_;refine mq ?_;iterate 3 refine gn ?_
              refine pf ?_;refine aq (nl ?_);exact jz ((), false) h []
            ·replace h := b_ifn (d_f hb) h;iterate 2 refine gn ?_
             refine pf ?_;refine mq ?_;iterate 2 refine gn ?_
             refine pf ?_;refine mq ?_;iterate 2 refine gn ?_
             refine pf ?_;refine mq ?_;iterate 3 refine gn ?_
             refine pf ?_;refine mq ?_;iterate 3 refine gn ?_
             refine pf ?_;refine mq ?_;iterate 3 refine gn ?_
             refine pf ?_;refine mq ?_;iterate 3 refine gn ?_
             refine pf ?_;refine aq (nl ?_);exact jz ((), false) h []
           ·replace h := b_ifn (d_f hb) h;iterate 2 refine gn ?_
            refine pf ?_;refine mq ?_;iterate 2 refine gn ?_
            refine pf ?_;refine mq ?_;iterate 2 refine gn ?_
            refine pf ?_;refine mq ?_;iterate 2 refine gn ?_
            refine pf ?_;refine mq ?_;iterate 3 refine gn ?_
            refine pf ?_;refine mq ?_;iterate 3 refine gn ?_
            refine pf ?_;refine mq ?_;iterate 3 refine gn ?_
            refine pf ?_;refine mq ?_;iterate 3 refine gn ?_
            refine pf ?_;refine aq (nl ?_);exact jz ((), false) h []
          ·replace h := b_ifn (d_f hb) h;iterate 2 refine gn ?_
           refine pf ?_;refine mq ?_;iterate 2 refine gn ?_
           refine pf ?_;refine mq ?_;iterate 2 refine gn ?_
           refine pf ?_;refine mq ?_;iterate 2 refine gn ?_
           refine pf ?_;refine mq ?_;iterate 2 refine gn ?_
           refine pf ?_;refine mq ?_;iterate 3 refine gn ?_
           refine pf ?_;refine mq ?_;iterate 3 refine gn ?_
           refine pf ?_;refine mq ?_;iterate 3 refine gn ?_
           refine pf ?_;refine mq ?_;iterate 3 refine gn ?_
           refine pf ?_;refine aq (nl ?_);exact jz ((), false) h []
         ·replace h := b_ifn (d_f hb) h;iterate 2 refine gn ?_
          refine pf ?_;refine mq ?_;iterate 2 refine gn ?_
          refine pf ?_;refine mq ?_;iterate 2 refine gn ?_
          refine pf ?_;refine mq ?_;iterate 2 refine gn ?_
          refine pf ?_;refine mq ?_;iterate 2 refine gn ?_
          refine pf ?_;refine mq ?_;iterate 2 refine gn ?_
          refine pf ?_;refine mq ?_;iterate 3 refine gn ?_
          refine pf ?_;refine mq ?_;iterate 3 refine gn ?_
          refine pf ?_;refine mq ?_;iterate 3 refine gn ?_
          refine pf ?_;refine mq ?_;iterate 3 refine gn ?_
          refine pf ?_;refine aq (nl ?_);exact jz ((), false) h []
        ·replace h := b_ifn (d_f hb) h;iterate 2 refine gn ?_
         refine pf ?_;refine mq ?_;iterate 2 refine gn ?_
         refine pf ?_;refine mq ?_;iterate 2 refine gn ?_
         refine pf ?_;refine mq ?_;iterate 2 refine gn ?_
         refine pf ?_;refine mq ?_;iterate 2 refine gn ?_
         refine pf ?_;refine mq ?_;iterate 2 refine gn ?_
         refine pf ?_;refine mq ?_;iterate 2 refine gn ?_
         refine pf ?_;refine mq ?_;iterate 3 refine gn ?_
         refine pf ?_;refine mq ?_;iterate 3 refine gn ?_
         refine pf ?_;refine mq ?_;iterate 3 refine gn ?_
         refine pf ?_;refine mq ?_;iterate 3 refine gn ?_
         refine pf ?_;refine aq (nl ?_);exact jz ((), false) h []
       ·replace h := b_ifn (d_f hb) h;iterate 2 refine gn ?_
        refine pf ?_;refine mq ?_;iterate 2 refine gn ?_
        refine pf ?_;refine mq ?_;iterate 2 refine gn ?_
        refine pf ?_;refine mq ?_;iterate 2 refine gn ?_
        refine pf ?_;refine mq ?_;iterate 2 refine gn ?_
        refine pf ?_;refine mq ?_;iterate 2 refine gn ?_
        refine pf ?_;refine mq ?_;iterate 2 refine gn ?_
        refine pf ?_;refine mq ?_;iterate 2 refine gn ?_
        refine pf ?_;refine mq ?_;iterate 3 refine gn ?_
        refine pf ?_;refine mq ?_;iterate 3 refine gn ?_
        refine pf ?_;refine mq ?_;iterate 3 refine gn ?_
        refine pf ?_;refine mq ?_;iterate 3 refine gn ?_
        refine pf ?_;refine aq (nl ?_);exact jz ((), false) h []
      ·replace h := b_ifn (d_f hb) h;iterate 2 refine gn ?_
       refine pf ?_;refine mq ?_;iterate 2 refine gn ?_
       refine pf ?_;refine mq ?_;iterate 2 refine gn ?_
       refine pf ?_;refine mq ?_;iterate 2 refine gn ?_
       refine pf ?_;refine mq ?_;iterate 2 refine gn ?_
       refine pf ?_;refine mq ?_;iterate 2 refine gn ?_
       refine pf ?_;refine mq ?_;iterate 2 refine gn ?_
       refine pf ?_;refine mq ?_;iterate 2 refine gn ?_
       refine pf ?_;refine mq ?_;iterate 2 refine gn ?_
       refine pf ?_;refine mq ?_;iterate 3 refine gn ?_
       refine pf ?_;refine mq ?_;iterate 3 refine gn ?_
       refine pf ?_;refine mq ?_;iterate 3 refine gn ?_
       refine pf ?_;refine mq ?_;iterate 3 refine gn ?_
       refine pf ?_;refine aq (nl ?_);exact jz ((), false) h []
     ·replace h := b_ifn (d_f hb) h;iterate 2 refine gn ?_
      refine pf ?_;refine mq ?_;iterate 2 refine gn ?_
      refine pf ?_;refine mq ?_;iterate 2 refine gn ?_
      refine pf ?_;refine mq ?_;iterate 2 refine gn ?_
      refine pf ?_;refine mq ?_;iterate 2 refine gn ?_
      refine pf ?_;refine mq ?_;iterate 2 refine gn ?_
      refine pf ?_;refine mq ?_;iterate 2 refine gn ?_
      refine pf ?_;refine mq ?_;iterate 2 refine gn ?_
      refine pf ?_;refine mq ?_;iterate 2 refine gn ?_
      refine pf ?_;refine mq ?_;iterate 2 refine gn ?_
      refine pf ?_;refine mq ?_;iterate 3 refine gn ?_
      refine pf ?_;refine mq ?_;iterate 3 refine gn ?_
      refine pf ?_;refine mq ?_;iterate 3 refine gn ?_
      refine pf ?_;refine mq ?_;iterate 3 refine gn ?_
      refine pf ?_;refine aq (nl ?_);exact jz ((), false) h []
    ·replace h := b_ifn (d_f hb) h;iterate 2 refine gn ?_
     refine pf ?_;refine mq ?_;iterate 2 refine gn ?_
     refine pf ?_;refine mq ?_;iterate 2 refine gn ?_
     refine pf ?_;refine mq ?_;iterate 2 refine gn ?_
     refine pf ?_;refine mq ?_;iterate 2 refine gn ?_
     refine pf ?_;refine mq ?_;iterate 2 refine gn ?_
     refine pf ?_;refine mq ?_;iterate 2 refine gn ?_
     refine pf ?_;refine mq ?_;iterate 2 refine gn ?_
     refine pf ?_;refine mq ?_;iterate 2 refine gn ?_
     refine pf ?_;refine mq ?_;iterate 2 refine gn ?_
     refine pf ?_;refine mq ?_;iterate 2 refine gn ?_
     refine pf ?_;refine mq ?_;iterate 3 refine gn ?_
     refine pf ?_;refine mq ?_;iterate 3 refine gn ?_
     refine pf ?_;refine mq ?_;iterate 3 refine gn ?_
     refine pf ?_;refine mq ?_;iterate 3 refine gn ?_
     refine pf ?_;refine aq (nl ?_);exact jz ((), false) h []
   ·replace h := b_ifn (d_f hb) h;iterate 2 refine gn ?_
    refine pf ?_;refine mq ?_;iterate 2 refine gn ?_
    refine pf ?_;refine mq ?_;iterate 2 refine gn ?_
    refine pf ?_;refine mq ?_;iterate 2 refine gn ?_
    refine pf ?_;refine mq ?_;iterate 2 refine gn ?_
    refine pf ?_;refine mq ?_;iterate 2 refine gn ?_
    refine pf ?_;refine mq ?_;iterate 2 refine gn ?_
    refine pf ?_;refine mq ?_;iterate 2 refine gn ?_
    refine pf ?_;refine mq ?_;iterate 2 refine gn ?_
    refine pf ?_;refine mq ?_;iterate 2 refine gn ?_
    refine pf ?_;refine mq ?_;iterate 2 refine gn ?_
    refine pf ?_;refine mq ?_;iterate 2 refine gn ?_
    refine pf ?_;refine mq ?_;iterate 3 refine gn ?_
    refine pf ?_;refine mq ?_;iterate 3 refine gn ?_
    refine pf ?_;refine mq ?_;iterate 3 refine gn ?_
    refine pf ?_;refine mq ?_;iterate 3 refine gn ?_
    refine pf ?_;refine aq (nl ?_);exact jz ((), false) h []
  ·replace h := b_ifn (d_f hb) h;iterate 2 refine gn ?_
   refine pf ?_;refine mq ?_;iterate 2 refine gn ?_
   refine pf ?_;refine mq ?_;iterate 2 refine gn ?_
   refine pf ?_;refine mq ?_;iterate 2 refine gn ?_
   refine pf ?_;refine mq ?_;iterate 2 refine gn ?_
   refine pf ?_;refine mq ?_;iterate 2 refine gn ?_
   refine pf ?_;refine mq ?_;iterate 2 refine gn ?_
   refine pf ?_;refine mq ?_;iterate 2 refine gn ?_
   refine pf ?_;refine mq ?_;iterate 2 refine gn ?_
   refine pf ?_;refine mq ?_;iterate 2 refine gn ?_
   refine pf ?_;refine mq ?_;iterate 2 refine gn ?_
   refine pf ?_;refine mq ?_;iterate 2 refine gn ?_
   refine pf ?_;refine mq ?_;iterate 2 refine gn ?_
   refine pf ?_;refine mq ?_;iterate 3 refine gn ?_
   refine pf ?_;refine mq ?_;iterate 3 refine gn ?_
   refine pf ?_;refine mq ?_;iterate 3 refine gn ?_
   refine pf ?_;refine mq ?_;iterate 3 refine gn ?_
   refine pf ?_;refine aq (nl ?_);exact jz ((), false) h []
 ·refine JC.ret ?_;cases h;exact ra


def kit_CopyInts (k : Nat) (a0 : (List Int)) : Option (List Int) :=
 (chkP (okLen (List.length ([] : (List Int)) + List.length a0))).bind fun _ =>
 some (([] : (List Int)) ++ a0)

theorem kit_CopyInts_ok (k : Nat) (a0 : (List Int)) (r : (List Int)) (h : kit_CopyInts k a0 = some r) :
 Ctr Tryz.prog 28 [Ri a0] [] (fun z : Value => (resA [.eq z], [.sl z 3 (.int .i64) r])) := by
 unfold kit_CopyInts at h;replace h := b_top h;refine Ctr.of 6 Tryz.func28 rfl Tryz.ntmps28 rfl fun S w0 => ?_;refine sr (cq (nt (sr ?_)));refine JO.s01 rfl rfl rfl (o_litB_own (t := (.int .i64)) [] ([] : (List Int)) rfl rfl sl24 .nil rfl rfl) trivial fun v1 => ?_;refine mq ?_;obtain ⟨u2, eu2, h⟩ := b_bind h;refine JO.s1x rfl rfl rfl (o_append rfl rfl sl24 (chkP_some eu2)) ⟨rfl, rfl, trivial⟩ fun v3 => ?_;refine aq (nt (JC.ret ?_));cases h;exact JN.ret v3 [.eq v3] 1 ⟨rfl, trivial⟩ rfl


def kit_CopyChangeF_l1 (k : Nat) (a0 : dChange) : Nat → ((List dThing) × Int) → Option (List dThing)
 | 0, _ => none
 | n + 1, y8 =>
  if y8.2 < (a0.1.length : Int) then ((geti a0.1 y8.2).bind fun x10 =>
  (kit_CopyInts k x10.1).bind fun r12 =>
  (chkP (okLen (List.length y8.1 + List.length [(r12, x10.2)]))).bind fun _ =>
  (ck (y8.2 + (1 : Int))).bind fun x18 =>
  kit_CopyChangeF_l1 k a0 n (y8.1 ++ [(r12, x10.2)], x18)) else (some y8.1)

def kit_CopyChangeF_l2 (k : Nat) (a0 : dChange) : Nat → ((List dDresser) × Int) → Option (List dDresser)
 | 0, _ => none
 | n + 1, y21 =>
  if y21.2 < (a0.2.1.length : Int) then ((geti a0.2.1 y21.2).bind fun x23 =>
  (kit_CopyInts k x23.1).bind fun r25 =>
  (chkP (okLen (List.length y21.1 + List.length [(r25, x23.2)]))).bind fun _ =>
  (ck (y21.2 + (1 : Int))).bind fun x31 =>
  kit_CopyChangeF_l2 k a0 n (y21.1 ++ [(r25, x23.2)], x31)) else (some y21.1)
def kit_CopyChangeF (k : Nat) (a0 : dChange) : Option dChange :=
 (kit_CopyInts k a0.2.2.1).bind fun r3 =>
 (kit_CopyInts k a0.2.2.2).bind fun r4 =>
 ((kit_CopyChangeF_l1 k a0 k (([] : (List dThing)), (0 : Int))) : Option ((List dThing))).bind fun x6 =>
 ((kit_CopyChangeF_l2 k a0 k (([] : (List dDresser)), (0 : Int))) : Option ((List dDresser))).bind fun x19 =>
 some (x6, x19, r3, r4)

theorem kit_CopyChangeF_ok (k : Nat) (a0 : dChange) (r : dChange) (h : kit_CopyChangeF k a0 = some r) :
 Ctr Tryz.prog 13 [.rep tChange a0] [] (fun _ : Unit => (resA [.rep tChange r], [])) := by
 unfold kit_CopyChangeF at h;replace h := b_top h;refine Ctr.of 60 Tryz.func13 rfl Tryz.ntmps13 rfl fun S w0 => ?_;refine sr (bx fun b1 => ?_);refine JO.s01 rfl rfl rfl (o_alloc rfl za26 al26) trivial fun b2 => ?_;refine nt (JC.seq (JC.drawW ?_));refine DW.t00 rfl rfl rfl (o_field_obj rfl fo26_2) ⟨rfl, trivial⟩ ?_;refine DW.t11 1 rfl rfl rfl rfl (o_load_obj rfl sz24 nfs rfl) ⟨rfl, trivial⟩ ?_;obtain ⟨r3, er3, h⟩ := b_bind h;refine DW.t00 rfl rfl rfl (OpT.frz (o_call [.tmp 9] rfl rfl en28 rfl (kit_CopyInts_ok k a0.2.2.1 r3 er3))) ⟨rfl, trivial⟩ ?_;refine DW.t00 rfl rfl rfl (o_field_obj rfl fo26_3) ⟨rfl, trivial⟩ ?_;refine DW.t11 1 rfl rfl rfl rfl (o_load_obj rfl sz24 nfs rfl) ⟨rfl, trivial⟩ ?_;obtain ⟨r4, er4, h⟩ := b_bind h;refine DW.t00 rfl rfl rfl (OpT.frz (o_call [.tmp 12] rfl rfl en28 rfl (kit_CopyInts_ok k a0.2.2.2 r4 er4))) ⟨rfl, trivial⟩ ?_;refine DW.t00 rfl rfl rfl (o_buildT [(2, .tmp 10, _), (3, .tmp 13, _)] rfl pl26 za26 alb26 (stors ⟨rfl, rfl, trivial⟩) rfl) ⟨rfl, rfl, trivial⟩ ?_;refine DW.tNew (ptrD 26 N4) (fun _ => rfl) rfl rfl rfl (o_alloc rfl za26 al26) trivial ?_;refine DW.fin 8 [true, true, true, true, true, true, true, true] [] [] [] rfl (by kernel_rfl) (by kernel_rfl) (by kernel_rfl) mixed (fun vs hv hB => ?_);obtain ⟨w0, vs1, rfl, hv1⟩ := len_cons hv;obtain ⟨w1, vs2, rfl, hv2⟩ := len_cons hv1;obtain ⟨w2, vs3, rfl, hv3⟩ := len_cons hv2;obtain ⟨w3, vs4, rfl, hv4⟩ := len_cons hv3;obtain ⟨w4, vs5, rfl, hv5⟩ := len_cons hv4;obtain ⟨w5, vs6, rfl, hv6⟩ := len_cons hv5;obtain ⟨w6, vs7, rfl, hv7⟩ := len_cons hv6;obtain ⟨w7, vs8, rfl, hv8⟩ := len_cons hv7;obtain rfl := len_nil hv8;obtain ⟨b5, rfl⟩ := ptr_of hB.2.2.2.2.2.2.2.1;refine ⟨[0, 1, 2], [.obj b2 26 N4, .obj b1 26 (.rep tChange a0), .obj b5 26 N4], by kernel_rfl, by decide, ?_⟩;refine JT.front 2 rfl ?_;refine JT.n11 rfl rfl (o_store rfl sz26 trivial rfl rfl) ⟨rfl, rfl, trivial⟩ (by kernel_rfl) ?_;refine JT.nil ?_;refine JN.se (SE.fin (Γ' := [(1, Pt b1), (2, Pt b2), (3, Pt b5)]) (Δ' := [.obj b5 26 (.agg (.pair (.eq (.slice none 0 0)) (.pair (.eq (.slice none 0 0)) (.pair (Ri r3) (Ri r4))))), .obj b2 26 N4, .obj b1 26 (.rep tChange a0)]) [0, 1, 2] ⟨rfl, rfl, rfl, trivial⟩ rfl) ?_;refine tn (JC.cutB (Z := Value) (α := (List dThing)) (fun z7 x6 => [(1, Pt b1), (2, Pt b2), (3, Pt b5)]) (fun z7 x6 => [.obj b1 26 (.rep tChange a0), .obj b2 26 N4, .obj b5 26 (.agg (.pair (.eq z7) (.pair (.eq (.slice none 0 0)) (.pair (Ri r3) (Ri r4))))), .sl z7 74 tThing x6]) h (fun K h => ?_) (fun z7 x6 h => ?_))
 ·refine sr (cq (nt (JC.block ?_)));refine JC.se (SE.nil 74 tThing) ?_;refine JC.loopB (Z := Value) (α := (List dThing) × Int) (fun z9 y8 => [(1, Pt b1), (2, Pt b2), (3, Pt b5), (4, I y8.2)]) (fun z9 y8 => [.obj b1 26 (.rep tChange a0), .obj b2 26 N4, .obj b5 26 (.agg (.pair (.eq z9) (.pair (.eq (.slice none 0 0)) (.pair (Ri r3) (Ri r4))))), .sl z9 74 tThing y8.1]) (kit_CopyChangeF_l1 k a0) k (.slice none 0 0) (([] : (List dThing)), (0 : Int)) (fun _ => rfl) h (SE.fin [3, 2, 1, 0] ⟨rfl, rfl, rfl, rfl, trivial⟩ rfl) (fun n z9 y8 h => ?_);unfold kit_CopyChangeF_l1 at h;refine JC.seq (sr (mq ?_));refine fl fo26_0 ?_;refine lo sz22 ?_;refine ol U22 ?_;refine jb (o_lss rfl) ?_;refine nt (ci h (fun h => ?_) (fun h => ?_))
  ·refine sk (JC.seq (JC.block (sr (fl fo26_0 ?_))));refine lo sz22 ?_;refine mq ?_;obtain ⟨x10, ex10, h⟩ := b_bind h;refine jb (o_index (t := tThing) rfl U22 sz74 ex10) ?_;refine ja (o_load_at (t := tThing) rfl sz74 rfl) ?_;refine JO.s01 rfl rfl rfl (o_alloc rfl za74 al74) trivial fun b11 => ?_;refine JO.n11 rfl rfl (o_store rfl sz74 rfl rfl rfl) ⟨rfl, rfl, trivial⟩ ?_;refine nt (sr (fl fo74_0 ?_));refine lo sz24 ?_;obtain ⟨r12, er12, h⟩ := b_bind h;refine JO.s01 rfl rfl rfl (o_call [.tmp 28] rfl rfl en28 rfl (kit_CopyInts_ok k x10.1 r12 er12)) ⟨rfl, trivial⟩ fun v13 => ?_;refine fl fo74_0 ?_;refine JO.one fun o14 => ?_;refine fr 1 ?_;refine JO.n11 rfl rfl (o_store rfl sz24 o14 rfl rfl) ⟨rfl, rfl, trivial⟩ ?_;refine nt (JC.region (fl fo26_0 ?_));refine fr 4 ?_;refine lo sz22 ?_;refine fr 1 ?_;refine fr 2 ?_;refine JO.se (SE.frzBoth (off := 0) [29] ⟨rfl, trivial⟩ rfl rfl) ?_;refine lo sz74 ?_;refine ja (o_litB (t := tThing) [(.tmp 33, _)] [(r12, x10.2)] rfl rfl sl22 (.cons trivial (.agg (.pair .rep .rep)) .nil) rfl rfl) ?_;obtain ⟨u15, eu15, h⟩ := b_bind h;refine fr 4 ?_;refine JO.s1x rfl rfl rfl (o_append rfl rfl sl22 (chkP_some eu15)) ⟨rfl, rfl, trivial⟩ fun v16 => ?_;refine fl fo26_0 ?_;refine JO.one fun o17 => ?_;refine fr 2 ?_;refine JO.n11 rfl rfl (o_store rfl sz22 o17 rfl rfl) ⟨rfl, rfl, trivial⟩ ?_;refine JO.nil (JN.blk_n (tn (JC.region (mq ?_))));obtain ⟨x18, ex18, h⟩ := b_bind h;refine jb (o_add rfl ex18) ?_;refine aq (nl ?_);exact jz (v16, (y8.1 ++ [(r12, x10.2)], x18)) h [3, 4, 0, 1]
  ·refine xa ?_;exact jz (z9, y8.1) h [0, 1, 2, 3]
 ·refine JC.cutB (Z := Value) (α := (List dDresser)) (fun z20 x19 => [(2, Pt b2), (3, Pt b5)]) (fun z20 x19 => [.obj b2 26 N4, .obj b5 26 (.agg (.pair (.eq z7) (.pair (.eq z20) (.pair (Ri r3) (Ri r4))))), .sl z7 74 tThing x6, .sl z20 52 tDresser x19]) h (fun K h => ?_) (fun z20 x19 h => ?_)
  ·refine sr (cq (nt (JC.block ?_)));refine JC.se (SE.nil 52 tDresser) ?_;refine JC.loopB (Z := Value) (α := (List dDresser) × Int) (fun z22 y21 => [(1, Pt b1), (2, Pt b2), (3, Pt b5), (6, I y21.2)]) (fun z22 y21 => [.obj b1 26 (.rep tChange a0), .obj b2 26 N4, .obj b5 26 (.agg (.pair (.eq z7) (.pair (.eq z22) (.pair (Ri r3) (Ri r4))))), .sl z7 74 tThing x6, .sl z22 52 tDresser y21.1]) (kit_CopyChangeF_l2 k a0) k (.slice none 0 0) (([] : (List dDresser)), (0 : Int)) (fun _ => rfl) h (SE.fin [1, 2, 3, 4, 0] ⟨rfl, rfl, rfl, rfl, trivial⟩ rfl) (fun n z22 y21 h => ?_);unfold kit_CopyChangeF_l2 at h;refine JC.seq (sr (mq ?_));refine fl fo26_1 ?_;refine lo sz23 ?_;refine ol U23 ?_;refine jb (o_lss rfl) ?_;refine nt (ci h (fun h => ?_) (fun h => ?_))
   ·refine sk (JC.seq (JC.block (sr (fl fo26_1 ?_))));refine lo sz23 ?_;refine mq ?_;obtain ⟨x23, ex23, h⟩ := b_bind h;refine jb (o_index (t := tDresser) rfl U23 sz52 ex23) ?_;refine ja (o_load_at (t := tDresser) rfl sz52 rfl) ?_;refine JO.s01 rfl rfl rfl (o_alloc rfl za52 al52) trivial fun b24 => ?_;refine JO.n11 rfl rfl (o_store rfl sz52 rfl rfl rfl) ⟨rfl, rfl, trivial⟩ ?_;refine nt (sr (fl fo52_0 ?_));refine lo sz24 ?_;obtain ⟨r25, er25, h⟩ := b_bind h;refine JO.s01 rfl rfl rfl (o_call [.tmp 50] rfl rfl en28 rfl (kit_CopyInts_ok k x23.1 r25 er25)) ⟨rfl, trivial⟩ fun v26 => ?_;refine fl fo52_0 ?_;refine JO.one fun o27 => ?_;refine fr 1 ?_;refine JO.n11 rfl rfl (o_store rfl sz24 o27 rfl rfl) ⟨rfl, rfl, trivial⟩ ?_;refine nt (JC.region (fl fo26_1 ?_));refine fr 4 ?_;refine lo sz23 ?_;refine fr 1 ?_;refine fr 2 ?_;refine JO.se (SE.frzBoth (off := 0) [51] ⟨rfl, trivial⟩ rfl rfl) ?_;refine lo sz52 ?_;refine ja (o_litB (t := tDresser) [(.tmp 55, _)] [(r25, x23.2)] rfl rfl sl23 (.cons trivial (.agg (.pair .rep .rep)) .nil) rfl rfl) ?_;obtain ⟨u28, eu28, h⟩ := b_bind h;refine fr 5 ?_;refine JO.s1x rfl rfl rfl (o_append rfl rfl sl23 (chkP_some eu28)) ⟨rfl, rfl, trivial⟩ fun v29 => ?_;refine fl fo26_1 ?_;refine JO.one fun o30 => ?_;refine fr 2 ?_;refine JO.n11 rfl rfl (o_store rfl sz23 o30 rfl rfl) ⟨rfl, rfl, trivial⟩ ?_;refine JO.nil (JN.blk_n (tn (JC.region (mq ?_))));obtain ⟨x31, ex31, h⟩ := b_bind h;refine jb (o_add rfl ex31) ?_;refine aq (nl ?_);exact jz (v29, (y21.1 ++ [(r25, x23.2)], x31)) h [3, 4, 0, 5, 1]
   ·refine xa ?_;exact jz (z22, y21.1) h [1, 2, 3, 4]
  ·refine sr (fr 1 ?_);refine fr 2 ?_;refine JO.se (SE.frzBoth (off := 0) [] trivial rfl rfl) ?_;refine fr 2 ?_;refine JO.se (SE.frzBoth (off := 1) [] trivial rfl rfl) ?_;refine lo sz26 ?_;refine fr 1 ?_;refine JO.n11 rfl rfl (o_store rfl sz26 trivial rfl rfl) ⟨rfl, rfl, trivial⟩ ?_;refine nt (JC.ret (JN.se (SE.objE (a := .agg (.pair (Rs tThing x6) (.pair (Rs tDresser x19) (.pair (Ri r3) (Ri r4))))) (a' := .rep tChange (x6, x19, r3, r4)) (AE.ent (.agg (.pair .rep (.pair .rep (.pair .rep .rep)))))) ?_));cases h;exact JN.ret () [.rep tChange (x6, x19, r3, r4)] 0 ⟨⟨_, _, _, _, _, rfl, (.head _), sz26, (nfn), rfl⟩, trivial⟩ rfl


def kit_CopyChangeV_l1 (k : Nat) (a0 : dChange) : Nat → ((List dThing) × Int) → Option (List dThing)
 | 0, _ => none
 | n + 1, y8 =>
  if y8.2 < (a0.1.length : Int) then ((geti a0.1 y8.2).bind fun x10 =>
  (kit_CopyInts k x10.1).bind fun r12 =>
  (chkP (okLen (List.length y8.1 + List.length [(r12, x10.2)]))).bind fun _ =>
  (ck (y8.2 + (1 : Int))).bind fun x18 =>
  kit_CopyChangeV_l1 k a0 n (y8.1 ++ [(r12, x10.2)], x18)) else (some y8.1)

def kit_CopyChangeV_l2 (k : Nat) (a0 : dChange) : Nat → ((List dDresser) × Int) → Option (List dDresser)
 | 0, _ => none
 | n + 1, y21 =>
  if y21.2 < (a0.2.1.length : Int) then ((geti a0.2.1 y21.2).bind fun x23 =>
  (kit_CopyInts k x23.1).bind fun r25 =>
  (chkP (okLen (List.length y21.1 + List.length [(r25, x23.2)]))).bind fun _ =>
  (ck (y21.2 + (1 : Int))).bind fun x31 =>
  kit_CopyChangeV_l2 k a0 n (y21.1 ++ [(r25, x23.2)], x31)) else (some y21.1)
def kit_CopyChangeV (k : Nat) (a0 : dChange) : Option dChange :=
 (kit_CopyInts k a0.2.2.1).bind fun r3 =>
 (kit_CopyInts k a0.2.2.2).bind fun r4 =>
 ((kit_CopyChangeV_l1 k a0 k (([] : (List dThing)), (0 : Int))) : Option ((List dThing))).bind fun x6 =>
 ((kit_CopyChangeV_l2 k a0 k (([] : (List dDresser)), (0 : Int))) : Option ((List dDresser))).bind fun x19 =>
 some (x6, x19, r3, r4)

theorem kit_CopyChangeV_ok (k : Nat) (a0 : dChange) (v1_a0 : Value) (r : dChange) (h : kit_CopyChangeV k a0 = some r) :
 Ctr Tryz.prog 13 [.agg (.pair (Rs tThing a0.1) (.pair (.eq v1_a0) (.pair (Ri a0.2.2.1) (Ri a0.2.2.2))))] [.sl v1_a0 52 tDresser a0.2.1] (fun _ : Unit => (resA [.rep tChange r], [.sl v1_a0 52 tDresser a0.2.1])) := by
 unfold kit_CopyChangeV at h;replace h := b_top h;refine Ctr.of 60 Tryz.func13 rfl Tryz.ntmps13 rfl fun S w0 => ?_;refine sr (JO.s01 rfl rfl rfl (o_box rfl trivial) ⟨rfl, trivial⟩ fun b1 => ?_);refine JO.s01 rfl rfl rfl (o_alloc rfl za26 al26) trivial fun b2 => ?_;refine nt (JC.seq (JC.drawW ?_));refine DW.t00 rfl rfl rfl (o_field_obj rfl fo26_2) ⟨rfl, trivial⟩ ?_;refine DW.t11 1 rfl rfl rfl rfl (o_load_obj rfl sz24 nfs rfl) ⟨rfl, trivial⟩ ?_;obtain ⟨r3, er3, h⟩ := b_bind h;refine DW.t00 rfl rfl rfl (OpT.frz (o_call [.tmp 9] rfl rfl en28 rfl (kit_CopyInts_ok k a0.2.2.1 r3 er3))) ⟨rfl, trivial⟩ ?_;refine DW.t00 rfl rfl rfl (o_field_obj rfl fo26_3) ⟨rfl, trivial⟩ ?_;refine DW.t11 1 rfl rfl rfl rfl (o_load_obj rfl sz24 nfs rfl) ⟨rfl, trivial⟩ ?_;obtain ⟨r4, er4, h⟩ := b_bind h;refine DW.t00 rfl rfl rfl (OpT.frz (o_call [.tmp 12] rfl rfl en28 rfl (kit_CopyInts_ok k a0.2.2.2 r4 er4))) ⟨rfl, trivial⟩ ?_;refine DW.t00 rfl rfl rfl (o_buildT [(2, .tmp 10, _), (3, .tmp 13, _)] rfl pl26 za26 alb26 (stors ⟨rfl, rfl, trivial⟩) rfl) ⟨rfl, rfl, trivial⟩ ?_;refine DW.tNew (ptrD 26 N4) (fun _ => rfl) rfl rfl rfl (o_alloc rfl za26 al26) trivial ?_;refine DW.fin 8 [true, true, true, true, true, true, true, true] [] [] [] rfl (by kernel_rfl) (by kernel_rfl) (by kernel_rfl) mixed (fun vs hv hB => ?_);obtain ⟨w0, vs1, rfl, hv1⟩ := len_cons hv;obtain ⟨w1, vs2, rfl, hv2⟩ := len_cons hv1;obtain ⟨w2, vs3, rfl, hv3⟩ := len_cons hv2;obtain ⟨w3, vs4, rfl, hv4⟩ := len_cons hv3;obtain ⟨w4, vs5, rfl, hv5⟩ := len_cons hv4;obtain ⟨w5, vs6, rfl, hv6⟩ := len_cons hv5;obtain ⟨w6, vs7, rfl, hv7⟩ := len_cons hv6;obtain ⟨w7, vs8, rfl, hv8⟩ := len_cons hv7;obtain rfl := len_nil hv8;obtain ⟨b5, rfl⟩ := ptr_of hB.2.2.2.2.2.2.2.1;refine ⟨[0, 1, 2, 3], [.obj b2 26 N4, .obj b1 26 (.agg (.pair (Rs tThing a0.1) (.pair (.eq v1_a0) (.pair (Ri a0.2.2.1) (Ri a0.2.2.2))))), .sl v1_a0 52 tDresser a0.2.1, .obj b5 26 N4], by kernel_rfl, by decide, ?_⟩;refine JT.front 3 rfl ?_;refine JT.n11 rfl rfl (o_store rfl sz26 trivial rfl rfl) ⟨rfl, rfl, trivial⟩ (by kernel_rfl) ?_;refine JT.nil ?_;refine JN.se (SE.fin (Γ' := [(1, Pt b1), (2, Pt b2), (3, Pt b5)]) (Δ' := [.obj b5 26 (.agg (.pair (.eq (.slice none 0 0)) (.pair (.eq (.slice none 0 0)) (.pair (Ri r3) (Ri r4))))), .obj b2 26 N4, .obj b1 26 (.agg (.pair (Rs tThing a0.1) (.pair (.eq v1_a0) (.pair (Ri a0.2.2.1) (Ri a0.2.2.2))))), .sl v1_a0 52 tDresser a0.2.1]) [0, 1, 2, 3] ⟨rfl, rfl, rfl, trivial⟩ rfl) ?_;refine tn (JC.cutB (Z := Value) (α := (List dThing)) (fun z7 x6 => [(1, Pt b1), (2, Pt b2), (3, Pt b5)]) (fun z7 x6 => [.obj b1 26 (.agg (.pair (Rs tThing a0.1) (.pair (.eq v1_a0) (.pair (Ri a0.2.2.1) (Ri a0.2.2.2))))), .sl v1_a0 52 tDresser a0.2.1, .obj b2 26 N4, .obj b5 26 (.agg (.pair (.eq z7) (.pair (.eq (.slice none 0 0)) (.pair (Ri r3) (Ri r4))))), .sl z7 74 tThing x6]) h (fun K h => ?_) (fun z7 x6 h => ?_))
 ·refine sr (cq (nt (JC.block ?_)));refine JC.se (SE.nil 74 tThing) ?_;refine JC.loopB (Z := Value) (α := (List dThing) × Int) (fun z9 y8 => [(1, Pt b1), (2, Pt b2), (3, Pt b5), (4, I y8.2)]) (fun z9 y8 => [.obj b1 26 (.agg (.pair (Rs tThing a0.1) (.pair (.eq v1_a0) (.pair (Ri a0.2.2.1) (Ri a0.2.2.2))))), .sl v1_a0 52 tDresser a0.2.1, .obj b2 26 N4, .obj b5 26 (.agg (.pair (.eq z9) (.pair (.eq (.slice none 0 0)) (.pair (Ri r3) (Ri r4))))), .sl z9 74 tThing y8.1]) (kit_CopyChangeV_l1 k a0) k (.slice none 0 0) (([] : (List dThing)), (0 : Int)) (fun _ => rfl) h (SE.fin [3, 4, 2, 1, 0] ⟨rfl, rfl, rfl, rfl, trivial⟩ rfl) (fun n z9 y8 h => ?_);unfold kit_CopyChangeV_l1 at h;refine JC.seq (sr (mq ?_));refine fl fo26_0 ?_;refine lo sz22 ?_;refine ol U22 ?_;refine jb (o_lss rfl) ?_;refine nt (ci h (fun h => ?_) (fun h => ?_))
  ·refine sk (JC.seq (JC.block (sr (fl fo26_0 ?_))));refine lo sz22 ?_;refine mq ?_;obtain ⟨x10, ex10, h⟩ := b_bind h;refine jb (o_index (t := tThing) rfl U22 sz74 ex10) ?_;refine ja (o_load_at (t := tThing) rfl sz74 rfl) ?_;refine JO.s01 rfl rfl rfl (o_alloc rfl za74 al74) trivial fun b11 => ?_;refine JO.n11 rfl rfl (o_store rfl sz74 rfl rfl rfl) ⟨rfl, rfl, trivial⟩ ?_;refine nt (sr (fl fo74_0 ?_));refine lo sz24 ?_;obtain ⟨r12, er12, h⟩ := b_bind h;refine JO.s01 rfl rfl rfl (o_call [.tmp 28] rfl rfl en28 rfl (kit_CopyInts_ok k x10.1 r12 er12)) ⟨rfl, trivial⟩ fun v13 => ?_;refine fl fo74_0 ?_;refine JO.one fun o14 => ?_;refine fr 1 ?_;refine JO.n11 rfl rfl (o_store rfl sz24 o14 rfl rfl) ⟨rfl, rfl, trivial⟩ ?_;refine nt (JC.region (fl fo26_0 ?_));refine fr 5 ?_;refine lo sz22 ?_;refine fr 1 ?_;refine fr 2 ?_;refine JO.se (SE.frzBoth (off := 0) [29] ⟨rfl, trivial⟩ rfl rfl) ?_;refine lo sz74 ?_;refine ja (o_litB (t := tThing) [(.tmp 33, _)] [(r12, x10.2)] rfl rfl sl22 (.cons trivial (.agg (.pair .rep .rep)) .nil) rfl rfl) ?_;obtain ⟨u15, eu15, h⟩ := b_bind h;refine fr 5 ?_;refine JO.s1x rfl rfl rfl (o_append rfl rfl sl22 (chkP_some eu15)) ⟨rfl, rfl, trivial⟩ fun v16 => ?_;refine fl fo26_0 ?_;refine JO.one fun o17 => ?_;refine fr 2 ?_;refine JO.n11 rfl rfl (o_store rfl sz22 o17 rfl rfl) ⟨rfl, rfl, trivial⟩ ?_;refine JO.nil (JN.blk_n (tn (JC.region (mq ?_))));obtain ⟨x18, ex18, h⟩ := b_bind h;refine jb (o_add rfl ex18) ?_;refine aq (nl ?_);exact jz (v16, (y8.1 ++ [(r12, x10.2)], x18)) h [3, 4, 5, 0, 1]
  ·refine xa ?_;exact jz (z9, y8.1) h [0, 1, 2, 3, 4]
 ·refine JC.cutB (Z := Value) (α := (List dDresser)) (fun z20 x19 => [(2, Pt b2), (3, Pt b5)]) (fun z20 x19 => [.obj b2 26 N4, .obj b5 26 (.agg (.pair (.eq z7) (.pair (.eq z20) (.pair (Ri r3) (Ri r4))))), .sl z7 74 tThing x6, .sl z20 52 tDresser x19, .sl v1_a0 52 tDresser a0.2.1]) h (fun K h => ?_) (fun z20 x19 h => ?_)
  ·refine sr (cq (nt (JC.block ?_)));refine JC.se (SE.nil 52 tDresser) ?_;refine JC.loopB (Z := Value) (α := (List dDresser) × Int) (fun z22 y21 => [(1, Pt b1), (2, Pt b2), (3, Pt b5), (6, I y21.2)]) (fun z22 y21 => [.obj b1 26 (.agg (.pair (Rs tThing a0.1) (.pair (.eq v1_a0) (.pair (Ri a0.2.2.1) (Ri a0.2.2.2))))), .sl v1_a0 52 tDresser a0.2.1, .obj b2 26 N4, .obj b5 26 (.agg (.pair (.eq z7) (.pair (.eq z22) (.pair (Ri r3) (Ri r4))))), .sl z7 74 tThing x6, .sl z22 52 tDresser y21.1]) (kit_CopyChangeV_l2 k a0) k (.slice none 0 0) (([] : (List dDresser)), (0 : Int)) (fun _ => rfl) h (SE.fin [1, 2, 3, 4, 5, 0] ⟨rfl, rfl, rfl, rfl, trivial⟩ rfl) (fun n z22 y21 h => ?_);unfold kit_CopyChangeV_l2 at h;refine JC.seq (sr (mq ?_));refine fl fo26_1 ?_;refine lo sz23 ?_;refine fr 1 ?_;refine ka (o_len_own rfl rfl U23) ?_;refine jb (o_lss rfl) ?_;refine nt (ci h (fun h => ?_) (fun h => ?_))
   ·refine sk (JC.seq (JC.block (sr (fl fo26_1 ?_))));refine fr 1 ?_;refine lo sz23 ?_;refine mq ?_;obtain ⟨x23, ex23, h⟩ := b_bind h;refine fr 1 ?_;refine kb (o_index_own (t := tDresser) rfl U23 sz52 ex23) ?_;refine ka (o_load_el (i := Int.toNat y21.2) (off := 0) rfl sz52 (nfn) rfl (geti_some ex23).2.2 rfl) ?_;refine JO.s01 rfl rfl rfl (o_alloc rfl za52 al52) trivial fun b24 => ?_;refine JO.n11 rfl rfl (o_store rfl sz52 rfl rfl rfl) ⟨rfl, rfl, trivial⟩ ?_;refine nt (sr (fl fo52_0 ?_));refine lo sz24 ?_;obtain ⟨r25, er25, h⟩ := b_bind h;refine JO.s01 rfl rfl rfl (o_call [.tmp 50] rfl rfl en28 rfl (kit_CopyInts_ok k x23.1 r25 er25)) ⟨rfl, trivial⟩ fun v26 => ?_;refine fl fo52_0 ?_;refine JO.one fun o27 => ?_;refine fr 1 ?_;refine JO.n11 rfl rfl (o_store rfl sz24 o27 rfl rfl) ⟨rfl, rfl, trivial⟩ ?_;refine nt (JC.region (fl fo26_1 ?_));refine fr 5 ?_;refine lo sz23 ?_;refine fr 1 ?_;refine fr 2 ?_;refine JO.se (SE.frzBoth (off := 0) [51] ⟨rfl, trivial⟩ rfl rfl) ?_;refine lo sz52 ?_;refine ja (o_litB (t := tDresser) [(.tmp 55, _)] [(r25, x23.2)] rfl rfl sl23 (.cons trivial (.agg (.pair .rep .rep)) .nil) rfl rfl) ?_;obtain ⟨u28, eu28, h⟩ := b_bind h;refine fr 6 ?_;refine JO.s1x rfl rfl rfl (o_append rfl rfl sl23 (chkP_some eu28)) ⟨rfl, rfl, trivial⟩ fun v29 => ?_;refine fl fo26_1 ?_;refine JO.one fun o30 => ?_;refine fr 2 ?_;refine JO.n11 rfl rfl (o_store rfl sz23 o30 rfl rfl) ⟨rfl, rfl, trivial⟩ ?_;refine JO.nil (JN.blk_n (tn (JC.region (mq ?_))));obtain ⟨x31, ex31, h⟩ := b_bind h;refine jb (o_add rfl ex31) ?_;refine aq (nl ?_);exact jz (v29, (y21.1 ++ [(r25, x23.2)], x31)) h [4, 3, 5, 0, 6, 1]
   ·refine xa ?_;exact jz (z22, y21.1) h [2, 3, 4, 5, 0]
  ·refine sr (fr 1 ?_);refine fr 2 ?_;refine JO.se (SE.frzBoth (off := 0) [] trivial rfl rfl) ?_;refine fr 2 ?_;refine JO.se (SE.frzBoth (off := 1) [] trivial rfl rfl) ?_;refine lo sz26 ?_;refine fr 1 ?_;refine JO.n11 rfl rfl (o_store rfl sz26 trivial rfl rfl) ⟨rfl, rfl, trivial⟩ ?_;refine nt (JC.ret (JN.se (SE.objE (a := .agg (.pair (Rs tThing x6) (.pair (Rs tDresser x19) (.pair (Ri r3) (Ri r4))))) (a' := .rep tChange (x6, x19, r3, r4)) (AE.ent (.agg (.pair .rep (.pair .rep (.pair .rep .rep)))))) ?_));refine JN.se (SE.fin (Γ' := [(2, _)]) [2, 0, 1] ⟨rfl, trivial⟩ rfl) ?_;cases h;exact JN.ret () [.rep tChange (x6, x19, r3, r4)] 1 ⟨⟨_, _, _, _, _, rfl, (.tail _ (.head _)), sz26, (nfn), rfl⟩, trivial⟩ rfl


def kit_Lots_next (k : Nat) (a0 : dLots) : Option (Int × dLots) :=
 ((if a0.2.1 < (a0.1.length : Int) then ((geti a0.1 a0.2.1).bind fun x3 =>
 some (IntKind.u64.wrap ((IntKind.u64.wrap ((IntKind.u64.wrap (a0.2.2 * (6364136223846793005 : Int))) + (1442695040888963407 : Int))) + (IntKind.u64.wrap ((IntKind.u64.wrap x3) * (2862933555777941757 : Int)))))) else (some (IntKind.u64.wrap ((IntKind.u64.wrap (a0.2.2 * (6364136223846793005 : Int))) + (1442695040888963407 : Int))))) : Option (Int)).bind fun x1 =>
 (ck (a0.2.1 + (1 : Int))).bind fun x4 =>
 some (ishr .u64 (ixor .u64 (IntKind.u64.wrap ((ixor .u64 x1 (ishr .u64 x1 (29 : Int))) * (2685821657736338717 : Int))) (ishr .u64 (IntKind.u64.wrap ((ixor .u64 x1 (ishr .u64 x1 (29 : Int))) * (2685821657736338717 : Int))) (32 : Int))) (8 : Int), (a0.1, x4, x1))

theorem kit_Lots_next_ok (k : Nat) (a0 : dLots) (b_a0 : Nat) (r : Int × dLots) (h : kit_Lots_next k a0 = some r) :
 Ctr Tryz.prog 64 [Pt b_a0] [.obj b_a0 79 (.agg (.pair (Ri a0.1) (.pair (I a0.2.1) (.eq (.int .u64 a0.2.2)))))] (fun _ : Unit => (resA [.eq (.int .u64 r.1)], [.obj b_a0 79 (.agg (.pair (Ri r.2.1) (.pair (I r.2.2.1) (.eq (.int .u64 r.2.2.2)))))])) := by
 unfold kit_Lots_next at h;replace h := b_top h;refine Ctr.of 67 Tryz.func64 rfl Tryz.ntmps64 rfl fun S w0 => ?_;refine sr (cq (nt (sr ?_)));iterate 2 refine mq ?_
 refine ja (o_nil_obj rfl) ?_;refine fl fo79_2 ?_;refine lo sz77 ?_;refine jb (o_mulk rfl) ?_;refine jb (o_addk rfl) ?_;refine ja (o_nil_obj rfl) ?_;refine fl fo79_2 ?_;refine JO.n11 rfl rfl (o_store rfl sz77 rfl rfl rfl) ⟨rfl, rfl, trivial⟩ ?_;refine nt (JC.cutB (Z := Unit) (α := Int) (fun z2 x1 => [(0, Pt b_a0)]) (fun z2 x1 => [.obj b_a0 79 (.agg (.pair (Ri a0.1) (.pair (I a0.2.1) (.eq (.int .u64 x1)))))]) h (fun K h => ?_) (fun z2 x1 h => ?_))
 ·refine JC.seq (JC.drawN ?_);refine dm ?_;refine da (o_nil_obj rfl) ?_;refine da (o_field_obj rfl fo79_1) ?_;refine ea 0 (o_load_obj rfl sz3 nfs rfl) ?_;refine dm ?_;refine da (o_nil_obj rfl) ?_;refine da (o_field_obj rfl fo79_0) ?_;refine ea 0 (o_load_obj rfl sz24 nfs rfl) ?_;refine da (o_len rfl rfl U24) ?_;refine df mixed ?_;refine jb (o_lss rfl) ?_;refine nt (ci h (fun h => ?_) (fun h => ?_))
  ·refine JC.drawN ?_;refine dm ?_;refine dm ?_;refine da (o_nil_obj rfl) ?_;refine da (o_field_obj rfl fo79_2) ?_;refine ea 0 (o_load_obj rfl sz77 nfs rfl) ?_;refine dm ?_;refine da (o_nil_obj rfl) ?_;refine da (o_field_obj rfl fo79_0) ?_;refine ea 0 (o_load_obj rfl sz24 nfs rfl) ?_;refine dm ?_;refine da (o_nil_obj rfl) ?_;refine da (o_field_obj rfl fo79_1) ?_;refine ea 0 (o_load_obj rfl sz3 nfs rfl) ?_;obtain ⟨x3, ex3, h⟩ := b_bind h;refine db (o_index (t := (.int .i64)) rfl U24 sz3 ex3) ?_;refine da (o_load_at (t := (.int .i64)) rfl sz3 rfl) ?_;refine da (o_conv rfl U3 U77) ?_;refine db (o_mulk rfl) ?_;refine db (o_addk rfl) ?_;refine df mixed ?_;refine ja (o_nil_obj rfl) ?_;refine fl fo79_2 ?_;refine JO.n11 rfl rfl (o_store rfl sz77 rfl rfl rfl) ⟨rfl, rfl, trivial⟩ ?_;refine nl ?_;exact jz ((), IntKind.u64.wrap ((IntKind.u64.wrap ((IntKind.u64.wrap (a0.2.2 * (6364136223846793005 : Int))) + (1442695040888963407 : Int))) + (IntKind.u64.wrap ((IntKind.u64.wrap x3) * (2862933555777941757 : Int))))) h [0]
  ·refine JC.skip (JN.then_n ?_);exact jz ((), IntKind.u64.wrap ((IntKind.u64.wrap (a0.2.2 * (6364136223846793005 : Int))) + (1442695040888963407 : Int))) h [0]
 ·refine sr (mq ?_);refine ja (o_nil_obj rfl) ?_;refine fl fo79_1 ?_;refine lo sz3 ?_;obtain ⟨x4, ex4, h⟩ := b_bind h;refine jb (o_add rfl ex4) ?_;refine ja (o_nil_obj rfl) ?_;refine fl fo79_1 ?_;refine JO.n11 rfl rfl (o_store rfl sz3 rfl rfl rfl) ⟨rfl, rfl, trivial⟩ ?_;refine nt (JC.seq (JC.drawN ?_));refine dm ?_;refine da (o_nil_obj rfl) ?_;refine da (o_field_obj rfl fo79_2) ?_;refine ea 0 (o_load_obj rfl sz77 nfs rfl) ?_;refine dm ?_;refine da (o_nil_obj rfl) ?_;refine da (o_field_obj rfl fo79_2) ?_;refine ea 0 (o_load_obj rfl sz77 nfs rfl) ?_;refine DN.s00 rfl rfl rfl (o_shr rfl (by decide)) ⟨rfl, rfl, trivial⟩ ?_;refine df mixed ?_;refine jb (o_xor rfl) ?_;refine aq (nt (sr ?_));refine mq ?_;refine jb (o_mulk rfl) ?_;refine aq (nt (sr ?_));iterate 2 refine mq ?_
  refine JO.s rfl (o_shr rfl (by decide)) ⟨rfl, rfl, trivial⟩ ?_;refine jb (o_xor rfl) ?_;refine JO.s rfl (o_shr rfl (by decide)) ⟨rfl, rfl, trivial⟩ ?_;refine aq (nt (JC.ret ?_));cases h;exact JN.ret () [_] 1 ⟨rfl, trivial⟩ rfl


def kit_Lots_Upto (k : Nat) (a0 : dLots) (a1 : Int) : Option (Int × dLots) :=
 if a1 < (1 : Int) then (some ((0 : Int), (a0.1, a0.2.1, a0.2.2))) else ((kit_Lots_next k (a0.1, a0.2.1, a0.2.2)).bind fun r1 =>
 (ck (a1 + (1 : Int))).bind fun x2 =>
 (chkP ((IntKind.u64.wrap x2) ≠ 0)).bind fun _ =>
 (ck (Int.tmod r1.1 (IntKind.u64.wrap x2))).bind fun x4 =>
 some (x4, (r1.2.1, r1.2.2.1, r1.2.2.2)))

theorem kit_Lots_Upto_ok (k : Nat) (a0 : dLots) (b_a0 : Nat) (a1 : Int) (r : Int × dLots) (h : kit_Lots_Upto k a0 a1 = some r) :
 Ctr Tryz.prog 23 [Pt b_a0, I a1] [.obj b_a0 79 (.agg (.pair (Ri a0.1) (.pair (I a0.2.1) (.eq (.int .u64 a0.2.2)))))] (fun _ : Unit => (resA [I r.1], [.obj b_a0 79 (.agg (.pair (Ri r.2.1) (.pair (I r.2.2.1) (.eq (.int .u64 r.2.2.2)))))])) := by
 unfold kit_Lots_Upto at h;replace h := b_top h;refine Ctr.of 14 Tryz.func23 rfl Tryz.ntmps23 rfl fun S w0 => ?_;refine sr (cq (nt (JC.seq (sr ?_))));refine mq ?_;refine jb (o_lss rfl) ?_;refine nt (ci h (fun h => ?_) (fun h => ?_))
 ·refine sr (cq (nt (rx ?_)));cases h;exact JN.ret () [_] 1 ⟨rfl, trivial⟩ rfl
 ·refine sk (sr (mq ?_));obtain ⟨r1, er1, h⟩ := b_bind h;refine ka (o_call [.tmp 7] rfl rfl en64 rfl (kit_Lots_next_ok k (a0.1, a0.2.1, a0.2.2) b_a0 r1 er1)) ?_;refine mq ?_;obtain ⟨x2, ex2, h⟩ := b_bind h;refine jb (o_add rfl ex2) ?_;refine ja (o_conv rfl U3 U77) ?_;obtain ⟨u3, eu3, h⟩ := b_bind h;refine jb (o_rem rfl (chkP_some eu3)) ?_;obtain ⟨x4, ex4, h⟩ := b_bind h;refine ja (o_conv64 rfl U77 U3 ex4) ?_;refine aq (nt (JC.ret ?_));cases h;exact JN.ret () [_] 1 ⟨rfl, trivial⟩ rfl


def kit_Lots_Rare (k : Nat) (a0 : dLots) (a1 : Int) : Option (Bool × dLots) :=
 (ck (a1 - (1 : Int))).bind fun x1 =>
 (kit_Lots_Upto k (a0.1, a0.2.1, a0.2.2) x1).bind fun r2 =>
 some (decide (r2.1 = (0 : Int)), (r2.2.1, r2.2.2.1, r2.2.2.2))

theorem kit_Lots_Rare_ok (k : Nat) (a0 : dLots) (b_a0 : Nat) (a1 : Int) (r : Bool × dLots) (h : kit_Lots_Rare k a0 a1 = some r) :
 Ctr Tryz.prog 25 [Pt b_a0, I a1] [.obj b_a0 79 (.agg (.pair (Ri a0.1) (.pair (I a0.2.1) (.eq (.int .u64 a0.2.2)))))] (fun _ : Unit => (resA [.eq (.bool r.1)], [.obj b_a0 79 (.agg (.pair (Ri r.2.1) (.pair (I r.2.2.1) (.eq (.int .u64 r.2.2.2)))))])) := by
 unfold kit_Lots_Rare at h;replace h := b_top h;refine Ctr.of 10 Tryz.func25 rfl Tryz.ntmps25 rfl fun S w0 => ?_;refine sr (cq (nt (sr ?_)));iterate 2 refine mq ?_
 obtain ⟨x1, ex1, h⟩ := b_bind h;refine jb (o_sub rfl ex1) ?_;obtain ⟨r2, er2, h⟩ := b_bind h;refine kb (o_call [.tmp 5, .tmp 7] rfl rfl en23 rfl (kit_Lots_Upto_ok k (a0.1, a0.2.1, a0.2.2) b_a0 x1 r2 er2)) ?_;refine jb (o_eql rfl) ?_;refine aq (nt (JC.ret ?_));cases h;exact JN.ret () [_] 1 ⟨rfl, trivial⟩ rfl


def kit_Lots_Of (k : Nat) (a0 : dLots) (a1 : (List Int)) : Option (Int × dLots) :=
 (ck ((a1.length : Int) - (1 : Int))).bind fun x1 =>
 (kit_Lots_Upto k (a0.1, a0.2.1, a0.2.2) x1).bind fun r2 =>
 (geti a1 r2.1).bind fun x3 =>
 some (x3, (r2.2.1, r2.2.2.1, r2.2.2.2))

theorem kit_Lots_Of_ok (k : Nat) (a0 : dLots) (b_a0 : Nat) (a1 : (List Int)) (r : Int × dLots) (h : kit_Lots_Of k a0 a1 = some r) :
 Ctr Tryz.prog 26 [Pt b_a0, Ri a1] [.obj b_a0 79 (.agg (.pair (Ri a0.1) (.pair (I a0.2.1) (.eq (.int .u64 a0.2.2)))))] (fun _ : Unit => (resA [I r.1], [.obj b_a0 79 (.agg (.pair (Ri r.2.1) (.pair (I r.2.2.1) (.eq (.int .u64 r.2.2.2)))))])) := by
 unfold kit_Lots_Of at h;replace h := b_top h;refine Ctr.of 13 Tryz.func26 rfl Tryz.ntmps26 rfl fun S w0 => ?_;refine sr (cq (nt (sr ?_)));iterate 3 refine mq ?_
 refine ol U24 ?_;obtain ⟨x1, ex1, h⟩ := b_bind h;refine jb (o_sub rfl ex1) ?_;obtain ⟨r2, er2, h⟩ := b_bind h;refine kb (o_call [.tmp 6, .tmp 9] rfl rfl en23 rfl (kit_Lots_Upto_ok k (a0.1, a0.2.1, a0.2.2) b_a0 x1 r2 er2)) ?_;obtain ⟨x3, ex3, h⟩ := b_bind h;refine jb (o_index (t := (.int .i64)) rfl U24 sz3 ex3) ?_;refine ja (o_load_at (t := (.int .i64)) rfl sz3 rfl) ?_;refine aq (nt (JC.ret ?_));cases h;exact JN.ret () [_] 1 ⟨rfl, trivial⟩ rfl


def kit_Lots_In (k : Nat) (a0 : dLots) (a1 : Int) (a2 : Int) : Option (Int × dLots) :=
 (ck (a2 - a1)).bind fun x1 =>
 (kit_Lots_Upto k (a0.1, a0.2.1, a0.2.2) x1).bind fun r2 =>
 (ck (a1 + r2.1)).bind fun x3 =>
 some (x3, (r2.2.1, r2.2.2.1, r2.2.2.2))

theorem kit_Lots_In_ok (k : Nat) (a0 : dLots) (b_a0 : Nat) (a1 : Int) (a2 : Int) (r : Int × dLots) (h : kit_Lots_In k a0 a1 a2 = some r) :
 Ctr Tryz.prog 27 [Pt b_a0, I a1, I a2] [.obj b_a0 79 (.agg (.pair (Ri a0.1) (.pair (I a0.2.1) (.eq (.int .u64 a0.2.2)))))] (fun _ : Unit => (resA [I r.1], [.obj b_a0 79 (.agg (.pair (Ri r.2.1) (.pair (I r.2.2.1) (.eq (.int .u64 r.2.2.2)))))])) := by
 unfold kit_Lots_In at h;replace h := b_top h;refine Ctr.of 14 Tryz.func27 rfl Tryz.ntmps27 rfl fun S w0 => ?_;refine sr (cq (nt (sr ?_)));iterate 4 refine mq ?_
 obtain ⟨x1, ex1, h⟩ := b_bind h;refine jb (o_sub rfl ex1) ?_;obtain ⟨r2, er2, h⟩ := b_bind h;refine kb (o_call [.tmp 8, .tmp 11] rfl rfl en23 rfl (kit_Lots_Upto_ok k (a0.1, a0.2.1, a0.2.2) b_a0 x1 r2 er2)) ?_;obtain ⟨x3, ex3, h⟩ := b_bind h;refine jb (o_add rfl ex3) ?_;refine aq (nt (JC.ret ?_));cases h;exact JN.ret () [_] 1 ⟨rfl, trivial⟩ rfl


def kit_At_l1 (k : Nat) (a0 : (List Int)) (a1 : Int) : Nat → Int → Option (Except Int Unit)
 | 0, _ => none
 | n + 1, y3 =>
  if y3 < (a0.length : Int) then ((geti a0 y3).bind fun x5 =>
  if x5 = a1 then (some (.error y3)) else ((ck (y3 + (1 : Int))).bind fun x6 =>
  kit_At_l1 k a0 a1 n x6)) else (some (.ok ()))
def kit_At (k : Nat) (a0 : (List Int)) (a1 : Int) : Option Int :=
 bE (α := Unit) (kit_At_l1 k a0 a1 k (0 : Int)) (some) fun _ =>
 some (-1 : Int)

theorem kit_At_ok (k : Nat) (a0 : (List Int)) (a1 : Int) (r : Int) (h : kit_At k a0 a1 = some r) :
 Ctr Tryz.prog 101 [Ri a0, I a1] [] (fun _ : Unit => (resA [I r], [])) := by
 unfold kit_At at h;replace h := b_top h;refine Ctr.of 19 Tryz.func101 rfl Tryz.ntmps101 rfl fun S w0 => ?_;refine sr (cq (nt ?_));refine JC.cutE (Z := Unit) (α := Unit) (fun z2 x1 => []) (fun z2 x1 => []) (fun e => e = r) h (fun e h => Option.some.inj h) (fun K hR h => ?_) (fun z2 x1 h => ?_)
 ·refine sr (cq (nt (JC.block ?_)));refine JC.loopB (Z := Unit) (α := Int) (fun z4 y3 => [(0, Ri a0), (1, I a1), (5, I y3)]) (fun z4 y3 => []) (kit_At_l1 k a0 a1) k () (0 : Int) (fun _ => rfl) h (SE.fin [] ⟨rfl, rfl, rfl, trivial⟩ rfl) (fun n z4 y3 h => ?_);unfold kit_At_l1 at h;refine JC.seq (sr ?_);iterate 2 refine mq ?_
  refine ol U24 ?_;refine jb (o_lss rfl) ?_;refine nt (ci h (fun h => ?_) (fun h => ?_))
  ·refine sk (JC.seq (JC.block (sr ?_)));iterate 2 refine mq ?_
   obtain ⟨x5, ex5, h⟩ := b_bind h;refine jb (o_index (t := (.int .i64)) rfl U24 sz3 ex5) ?_;refine ja (o_load_at (t := (.int .i64)) rfl sz3 rfl) ?_;refine mq ?_;refine jb (o_eql rfl) ?_;refine nt (ci h (fun h => ?_) (fun h => ?_))
   ·refine sr (mq ?_);refine aq (nt (JC.ret (br (JN.blk_r (JN.then_r ?_)))));obtain rfl := hR _ h;exact ra
   ·refine JC.skip (JN.blk_n (tn (JC.region (mq ?_))));obtain ⟨x6, ex6, h⟩ := b_bind h;refine jb (o_add rfl ex6) ?_;refine aq (nl ?_);exact jz ((), x6) h []
  ·refine xa ?_;exact jz ((), ()) h []
 ·refine sr (cq (nt (JC.ret ?_)));cases h;exact ra


def kit_TasksOf_l3 (k : Nat) (a0 : dChange) (y10 : (List Bool) × Bool × Int) : Nat → (Bool × Int) → Option Bool
 | 0, _ => none
 | n + 1, y18 =>
  ((if y18.2 < (a0.1.length : Int) then ((kit_At k a0.2.2.1 y10.2.2).bind fun r22 =>
  if (0 : Int) ≤ r22 then ((kit_At k a0.2.2.2 y10.2.2).bind fun r23 =>
  some (decide ((0 : Int) ≤ r23))) else (some false)) else (some false)) : Option (Bool)).bind fun x20 =>
  if x20 = true then (((if y18.1 = true then (some true) else ((geti y10.1 y18.2).bind fun x26 =>
  if x26 = true then ((geti a0.1 y18.2).bind fun x27 =>
  (kit_At k x27.1 y10.2.2).bind fun r28 =>
  some (decide ((0 : Int) ≤ r28))) else (some false))) : Option (Bool)).bind fun x24 =>
  (ck (y18.2 + (1 : Int))).bind fun x29 =>
  kit_TasksOf_l3 k a0 y10 n (x24, x29)) else (some y18.1)

def kit_TasksOf_l2 (k : Nat) (a0 : dChange) : Nat → ((List Bool) × Bool × Int) → Option ((List Bool) × Bool)
 | 0, _ => none
 | n + 1, y10 =>
  if y10.2.2 < (a0.1.length : Int) then ((((kit_At k a0.2.2.1 y10.2.2).bind fun r14 =>
  (kit_At k a0.2.2.2 y10.2.2).bind fun r15 =>
  ((kit_TasksOf_l3 k a0 y10 k (!decide ((decide ((0 : Int) ≤ r14)) = (decide ((0 : Int) ≤ r15))), (0 : Int))) : Option (Bool)).bind fun x16 =>
  ((if x16 = true then ((geti y10.1 y10.2.2).bind fun x32 =>
  some (!x32)) else (some false)) : Option (Bool)).bind fun x30 =>
  if x30 = true then ((geti y10.1 y10.2.2).bind fun x33 =>
  some (List.set y10.1 (Int.toNat y10.2.2) true, true)) else (some (y10.1, y10.2.1))) : Option ((List Bool) × Bool)).bind fun x12 =>
  (ck (y10.2.2 + (1 : Int))).bind fun x34 =>
  kit_TasksOf_l2 k a0 n (x12.1, x12.2, x34)) else (some (y10.1, y10.2.1))

def kit_TasksOf_l1 (k : Nat) (a0 : dChange) : Nat → ((List Bool) × Bool) → Option (List Bool)
 | 0, _ => none
 | n + 1, y6 =>
  if y6.2 = true then (((kit_TasksOf_l2 k a0 k (y6.1, false, (0 : Int))) : Option ((List Bool) × Bool)).bind fun x8 =>
  kit_TasksOf_l1 k a0 n (x8.1, x8.2)) else (some y6.1)

def kit_TasksOf_l5 (k : Nat) (a0 : dChange) (x4 : (List Bool)) (y37 : (List dTask) × Int) : Nat → ((List dTask) × Int) → Option (List dTask)
 | 0, _ => none
 | n + 1, y41 =>
  if y41.2 < (x4.length : Int) then ((((((geti x4 y41.2).bind fun x47 =>
  if x47 = true then (if y37.2 = (0 : Int) then ((kit_At k a0.2.2.1 y41.2).bind fun r48 =>
  if (0 : Int) ≤ r48 then (some true) else (if y37.2 = (1 : Int) then ((kit_At k a0.2.2.2 y41.2).bind fun r49 =>
  some (decide ((0 : Int) ≤ r49))) else (some false))) else (if y37.2 = (1 : Int) then ((kit_At k a0.2.2.2 y41.2).bind fun r50 =>
  some (decide ((0 : Int) ≤ r50))) else (some false))) else (some false)) : Option (Bool)).bind fun x45 =>
  if x45 = true then ((chkP (okLen (List.length y41.1 + List.length [(y41.2, decide (y37.2 = (1 : Int)))]))).bind fun _ =>
  some (y41.1 ++ [(y41.2, decide (y37.2 = (1 : Int)))])) else (some y41.1)) : Option ((List dTask))).bind fun x43 =>
  (ck (y41.2 + (1 : Int))).bind fun x53 =>
  kit_TasksOf_l5 k a0 x4 y37 n (x43, x53)) else (some y41.1)

def kit_TasksOf_l4 (k : Nat) (a0 : dChange) (x4 : (List Bool)) : Nat → ((List dTask) × Int) → Option (List dTask)
 | 0, _ => none
 | n + 1, y37 =>
  if y37.2 < (2 : Int) then (((kit_TasksOf_l5 k a0 x4 y37 k (y37.1, (0 : Int))) : Option ((List dTask))).bind fun x39 =>
  (ck (y37.2 + (1 : Int))).bind fun x54 =>
  kit_TasksOf_l4 k a0 x4 n (x39, x54)) else (some y37.1)
def kit_TasksOf (k : Nat) (a0 : dChange) : Option (List dTask) :=
 (chkP (0 ≤ (a0.1.length : Int) ∧ okLen (Int.toNat (a0.1.length : Int)))).bind fun _ =>
 ((kit_TasksOf_l1 k a0 k (List.replicate (Int.toNat (a0.1.length : Int)) false, true)) : Option ((List Bool))).bind fun x4 =>
 ((kit_TasksOf_l4 k a0 x4 k (([] : (List dTask)), (0 : Int))) : Option ((List dTask))).bind fun x35 =>
 some x35

def kit_TasksOfV_l3 (k : Nat) (a0 : dChange) (y10 : (List Bool) × Bool × Int) : Nat → (Bool × Int) → Option Bool
 | 0, _ => none
 | n + 1, y18 =>
  ((if y18.2 < (a0.1.length : Int) then ((kit_At k a0.2.2.1 y10.2.2).bind fun r22 =>
  if (0 : Int) ≤ r22 then ((kit_At k a0.2.2.2 y10.2.2).bind fun r23 =>
  some (decide ((0 : Int) ≤ r23))) else (some false)) else (some false)) : Option (Bool)).bind fun x20 =>
  if x20 = true then (((if y18.1 = true then (some true) else ((geti y10.1 y18.2).bind fun x26 =>
  if x26 = true then ((geti a0.1 y18.2).bind fun x27 =>
  (kit_At k x27.1 y10.2.2).bind fun r28 =>
  some (decide ((0 : Int) ≤ r28))) else (some false))) : Option (Bool)).bind fun x24 =>
  (ck (y18.2 + (1 : Int))).bind fun x29 =>
  kit_TasksOfV_l3 k a0 y10 n (x24, x29)) else (some y18.1)

def kit_TasksOfV_l2 (k : Nat) (a0 : dChange) : Nat → ((List Bool) × Bool × Int) → Option ((List Bool) × Bool)
 | 0, _ => none
 | n + 1, y10 =>
  if y10.2.2 < (a0.1.length : Int) then ((((kit_At k a0.2.2.1 y10.2.2).bind fun r14 =>
  (kit_At k a0.2.2.2 y10.2.2).bind fun r15 =>
  ((kit_TasksOfV_l3 k a0 y10 k (!decide ((decide ((0 : Int) ≤ r14)) = (decide ((0 : Int) ≤ r15))), (0 : Int))) : Option (Bool)).bind fun x16 =>
  ((if x16 = true then ((geti y10.1 y10.2.2).bind fun x32 =>
  some (!x32)) else (some false)) : Option (Bool)).bind fun x30 =>
  if x30 = true then ((geti y10.1 y10.2.2).bind fun x33 =>
  some (List.set y10.1 (Int.toNat y10.2.2) true, true)) else (some (y10.1, y10.2.1))) : Option ((List Bool) × Bool)).bind fun x12 =>
  (ck (y10.2.2 + (1 : Int))).bind fun x34 =>
  kit_TasksOfV_l2 k a0 n (x12.1, x12.2, x34)) else (some (y10.1, y10.2.1))

def kit_TasksOfV_l1 (k : Nat) (a0 : dChange) : Nat → ((List Bool) × Bool) → Option (List Bool)
 | 0, _ => none
 | n + 1, y6 =>
  if y6.2 = true then (((kit_TasksOfV_l2 k a0 k (y6.1, false, (0 : Int))) : Option ((List Bool) × Bool)).bind fun x8 =>
  kit_TasksOfV_l1 k a0 n (x8.1, x8.2)) else (some y6.1)

def kit_TasksOfV_l5 (k : Nat) (a0 : dChange) (x4 : (List Bool)) (y37 : (List dTask) × Int) : Nat → ((List dTask) × Int) → Option (List dTask)
 | 0, _ => none
 | n + 1, y41 =>
  if y41.2 < (x4.length : Int) then ((((((geti x4 y41.2).bind fun x47 =>
  if x47 = true then (if y37.2 = (0 : Int) then ((kit_At k a0.2.2.1 y41.2).bind fun r48 =>
  if (0 : Int) ≤ r48 then (some true) else (if y37.2 = (1 : Int) then ((kit_At k a0.2.2.2 y41.2).bind fun r49 =>
  some (decide ((0 : Int) ≤ r49))) else (some false))) else (if y37.2 = (1 : Int) then ((kit_At k a0.2.2.2 y41.2).bind fun r50 =>
  some (decide ((0 : Int) ≤ r50))) else (some false))) else (some false)) : Option (Bool)).bind fun x45 =>
  if x45 = true then ((chkP (okLen (List.length y41.1 + List.length [(y41.2, decide (y37.2 = (1 : Int)))]))).bind fun _ =>
  some (y41.1 ++ [(y41.2, decide (y37.2 = (1 : Int)))])) else (some y41.1)) : Option ((List dTask))).bind fun x43 =>
  (ck (y41.2 + (1 : Int))).bind fun x53 =>
  kit_TasksOfV_l5 k a0 x4 y37 n (x43, x53)) else (some y41.1)

def kit_TasksOfV_l4 (k : Nat) (a0 : dChange) (x4 : (List Bool)) : Nat → ((List dTask) × Int) → Option (List dTask)
 | 0, _ => none
 | n + 1, y37 =>
  if y37.2 < (2 : Int) then (((kit_TasksOfV_l5 k a0 x4 y37 k (y37.1, (0 : Int))) : Option ((List dTask))).bind fun x39 =>
  (ck (y37.2 + (1 : Int))).bind fun x54 =>
  kit_TasksOfV_l4 k a0 x4 n (x39, x54)) else (some y37.1)
def kit_TasksOfV (k : Nat) (a0 : dChange) : Option (List dTask) :=
 (chkP (0 ≤ (a0.1.length : Int) ∧ okLen (Int.toNat (a0.1.length : Int)))).bind fun _ =>
 ((kit_TasksOfV_l1 k a0 k (List.replicate (Int.toNat (a0.1.length : Int)) false, true)) : Option ((List Bool))).bind fun x4 =>
 ((kit_TasksOfV_l4 k a0 x4 k (([] : (List dTask)), (0 : Int))) : Option ((List dTask))).bind fun x35 =>
 some x35

theorem kit_TasksOfV_ok (k : Nat) (a0 : dChange) (v1_a0 : Value) (r : (List dTask)) (h : kit_TasksOfV k a0 = some r) :
 Ctr Tryz.prog 65 [.agg (.pair (Rs tThing a0.1) (.pair (.eq v1_a0) (.pair (Ri a0.2.2.1) (Ri a0.2.2.2))))] [.sl v1_a0 52 tDresser a0.2.1] (fun _ : Unit => (resA [Rs tTask r], [.sl v1_a0 52 tDresser a0.2.1])) := by
 unfold kit_TasksOfV at h;replace h := b_top h;refine Ctr.of 128 Tryz.func65 rfl Tryz.ntmps65 rfl fun S w0 => ?_;refine sr (JO.s01 rfl rfl rfl (o_box rfl trivial) ⟨rfl, trivial⟩ fun b1 => ?_);refine cq (nt (sr ?_));refine cq (nt (sr ?_));refine fl fo26_0 ?_;refine lo sz22 ?_;refine ol U22 ?_;obtain ⟨u2, eu2, h⟩ := b_bind h;refine JO.s01 rfl rfl rfl (o_make (t := .bool) (d := false) rfl sl111 zr4 (chkP_some eu2).1 (chkP_some eu2).2) ⟨rfl, rfl, trivial⟩ fun v3 => ?_;refine aq (nt ?_);refine JC.cutB (Z := Unit) (α := (List Bool)) (fun z5 x4 => [(1, Pt b1), (3, .eq (.slice none 0 0)), (4, .eq v3)]) (fun z5 x4 => [.obj b1 26 (.agg (.pair (Rs tThing a0.1) (.pair (.eq v1_a0) (.pair (Ri a0.2.2.1) (Ri a0.2.2.2))))), .sl v1_a0 52 tDresser a0.2.1, .sl v3 4 .bool x4]) h (fun K h => ?_) (fun z5 x4 h => ?_)
 ·refine sr (cq (nt (JC.block ?_)));refine JC.loopB (Z := Unit) (α := (List Bool) × Bool) (fun z7 y6 => [(1, Pt b1), (3, .eq (.slice none 0 0)), (4, .eq v3), (5, .eq (.bool y6.2))]) (fun z7 y6 => [.obj b1 26 (.agg (.pair (Rs tThing a0.1) (.pair (.eq v1_a0) (.pair (Ri a0.2.2.1) (Ri a0.2.2.2))))), .sl v1_a0 52 tDresser a0.2.1, .sl v3 4 .bool y6.1]) (kit_TasksOfV_l1 k a0) k () (List.replicate (Int.toNat (a0.1.length : Int)) false, true) (fun _ => rfl) h (SE.fin [1, 2, 0] ⟨rfl, rfl, rfl, rfl, trivial⟩ rfl) (fun n z7 y6 h => ?_);unfold kit_TasksOfV_l1 at h;refine JC.seq (sr (mq (nt ?_)));refine cv h (fun h => ?_) (fun h => ?_)
  ·refine sk (JC.cutBN (Z := Unit) (α := (List Bool) × Bool) (fun z9 x8 => [(1, Pt b1), (3, .eq (.slice none 0 0)), (4, .eq v3), (5, .eq (.bool x8.2))]) (fun z9 x8 => [.obj b1 26 (.agg (.pair (Rs tThing a0.1) (.pair (.eq v1_a0) (.pair (Ri a0.2.2.1) (Ri a0.2.2.2))))), .sl v1_a0 52 tDresser a0.2.1, .sl v3 4 .bool x8.1]) h (fun K h => ?_) (fun z9 x8 h => ?_))
   ·refine JC.block (sr (cq (nt (sr ?_))));refine cq (nt (JC.block ?_));refine JC.loopB (Z := Unit) (α := (List Bool) × Bool × Int) (fun z11 y10 => [(1, Pt b1), (3, .eq (.slice none 0 0)), (4, .eq v3), (5, .eq (.bool y10.2.1)), (6, I y10.2.2)]) (fun z11 y10 => [.obj b1 26 (.agg (.pair (Rs tThing a0.1) (.pair (.eq v1_a0) (.pair (Ri a0.2.2.1) (Ri a0.2.2.2))))), .sl v1_a0 52 tDresser a0.2.1, .sl v3 4 .bool y10.1]) (kit_TasksOfV_l2 k a0) k () (y6.1, false, (0 : Int)) (fun _ => rfl) h (SE.fin [0, 1, 2] ⟨rfl, rfl, rfl, rfl, rfl, trivial⟩ rfl) (fun n z11 y10 h => ?_);unfold kit_TasksOfV_l2 at h;refine JC.seq (sr (mq ?_));refine fl fo26_0 ?_;refine lo sz22 ?_;refine ol U22 ?_;refine jb (o_lss rfl) ?_;refine nt (ci h (fun h => ?_) (fun h => ?_))
    ·refine sk (JC.cutB (Z := Unit) (α := (List Bool) × Bool) (fun z13 x12 => [(1, Pt b1), (3, .eq (.slice none 0 0)), (4, .eq v3), (5, .eq (.bool x12.2)), (6, I y10.2.2)]) (fun z13 x12 => [.obj b1 26 (.agg (.pair (Rs tThing a0.1) (.pair (.eq v1_a0) (.pair (Ri a0.2.2.1) (Ri a0.2.2.2))))), .sl v1_a0 52 tDresser a0.2.1, .sl v3 4 .bool x12.1]) h (fun K h => ?_) (fun z13 x12 h => ?_))
     ·refine JC.block (JC.seq (JC.drawN ?_));refine da (o_field_obj rfl fo26_2) ?_;refine ea 0 (o_load_obj rfl sz24 nfs rfl) ?_;refine dm ?_;obtain ⟨r14, er14, h⟩ := b_bind h;refine db (o_call [.tmp 24, .tmp 25] rfl rfl en101 rfl (kit_At_ok k a0.2.2.1 y10.2.2 r14 er14)) ?_;refine db (o_geq rfl) ?_;refine da (o_field_obj rfl fo26_3) ?_;refine ea 0 (o_load_obj rfl sz24 nfs rfl) ?_;refine dm ?_;obtain ⟨r15, er15, h⟩ := b_bind h;refine db (o_call [.tmp 29, .tmp 30] rfl rfl en101 rfl (kit_At_ok k a0.2.2.2 y10.2.2 r15 er15)) ?_;refine db (o_geq rfl) ?_;refine df mixed ?_;refine jb (o_neqb rfl U4) ?_;refine aq (nt ?_);refine JC.cutB (Z := Unit) (α := Bool) (fun z17 x16 => [(1, Pt b1), (3, .eq (.slice none 0 0)), (4, .eq v3), (5, .eq (.bool y10.2.1)), (6, I y10.2.2), (7, .eq (.bool x16))]) (fun z17 x16 => [.obj b1 26 (.agg (.pair (Rs tThing a0.1) (.pair (.eq v1_a0) (.pair (Ri a0.2.2.1) (Ri a0.2.2.2))))), .sl v1_a0 52 tDresser a0.2.1, .sl v3 4 .bool y10.1]) h (fun K h => ?_) (fun z17 x16 h => ?_)
      ·refine sr (cq (nt (JC.block ?_)));refine JC.loopB (Z := Unit) (α := Bool × Int) (fun z19 y18 => [(1, Pt b1), (3, .eq (.slice none 0 0)), (4, .eq v3), (5, .eq (.bool y10.2.1)), (6, I y10.2.2), (7, .eq (.bool y18.1)), (8, I y18.2)]) (fun z19 y18 => [.obj b1 26 (.agg (.pair (Rs tThing a0.1) (.pair (.eq v1_a0) (.pair (Ri a0.2.2.1) (Ri a0.2.2.2))))), .sl v1_a0 52 tDresser a0.2.1, .sl v3 4 .bool y10.1]) (kit_TasksOfV_l3 k a0 y10) k () (!decide ((decide ((0 : Int) ≤ r14)) = (decide ((0 : Int) ≤ r15))), (0 : Int)) (fun _ => rfl) h (SE.fin [0, 1, 2] ⟨rfl, rfl, rfl, rfl, rfl, rfl, rfl, trivial⟩ rfl) (fun n z19 y18 h => ?_);unfold kit_TasksOfV_l3 at h;refine JC.seq (JC.cutB (Z := Unit) (α := Bool) (fun z21 x20 => [(1, Pt b1), (3, .eq (.slice none 0 0)), (4, .eq v3), (5, .eq (.bool y10.2.1)), (6, I y10.2.2), (7, .eq (.bool y18.1)), (8, I y18.2), (52, .eq (.bool x20))]) (fun z21 x20 => [.obj b1 26 (.agg (.pair (Rs tThing a0.1) (.pair (.eq v1_a0) (.pair (Ri a0.2.2.1) (Ri a0.2.2.2))))), .sl v1_a0 52 tDresser a0.2.1, .sl v3 4 .bool y10.1]) h (fun K h => ?_) (fun z21 x20 h => ?_))
       ·refine JC.region (mq ?_);refine fl fo26_0 ?_;refine lo sz22 ?_;refine ol U22 ?_;refine jb (o_lss rfl) ?_;refine mq ?_;refine JO.bool (s := 39) rfl (fun hb => ?_) (fun hb => ?_)
        ·replace h := b_if (d_t hb) h;refine ga (o_field_obj rfl fo26_2) ?_;refine JO.g11 rfl rfl rfl rfl rfl rfl (o_load_obj rfl sz24 nfs rfl) ⟨rfl, trivial⟩ ?_;refine gm ?_;obtain ⟨r22, er22, h⟩ := b_bind h;refine gb (o_call [.tmp 41, .tmp 42] rfl rfl en101 rfl (kit_At_ok k a0.2.2.1 y10.2.2 r22 er22)) ?_;refine gb (o_geq rfl) ?_;refine pt ?_;refine mq ?_;refine JO.bool (s := 46) rfl (fun hb => ?_) (fun hb => ?_)
         ·replace h := b_if (d_t hb) h;refine ga (o_field_obj rfl fo26_3) ?_;refine JO.g11 rfl rfl rfl rfl rfl rfl (o_load_obj rfl sz24 nfs rfl) ⟨rfl, trivial⟩ ?_;refine gm ?_;obtain ⟨r23, er23, h⟩ := b_bind h;refine gb (o_call [.tmp 48, .tmp 49] rfl rfl en101 rfl (kit_At_ok k a0.2.2.2 y10.2.2 r23 er23)) ?_;refine gb (o_geq rfl) ?_;refine pt (nl ?_);exact jz ((), decide ((0 : Int) ≤ r23)) h [0, 1, 2]
         ·replace h := b_ifn (d_f hb) h;iterate 5 refine gn ?_
          refine pf (nl ?_);exact jz ((), false) h [0, 1, 2]
        ·replace h := b_ifn (d_f hb) h;iterate 5 refine gn ?_
         refine pf ?_;refine mq ?_;iterate 5 refine gn ?_
         refine pf (nl ?_);exact jz ((), false) h [0, 1, 2]
       ·refine cv h (fun h => ?_) (fun h => ?_)
        ·refine sk (JC.cutB (Z := Unit) (α := Bool) (fun z25 x24 => [(1, Pt b1), (3, .eq (.slice none 0 0)), (4, .eq v3), (5, .eq (.bool y10.2.1)), (6, I y10.2.2), (7, .eq (.bool x24)), (8, I y18.2)]) (fun z25 x24 => [.obj b1 26 (.agg (.pair (Rs tThing a0.1) (.pair (.eq v1_a0) (.pair (Ri a0.2.2.1) (Ri a0.2.2.2))))), .sl v1_a0 52 tDresser a0.2.1, .sl v3 4 .bool y10.1]) h (fun K h => ?_) (fun z25 x24 h => ?_))
         ·refine JC.block (JC.region ?_);iterate 2 refine mq ?_
          refine JO.bool (s := 56) rfl (fun hb => ?_) (fun hb => ?_)
          ·replace h := b_if (v_t hb) h;iterate 5 refine gn ?_
           refine gu ?_;refine gu ?_;refine gu ?_;refine gu ?_;refine gu ?_;refine gu ?_;refine gu ?_;refine gu ?_;refine gu ?_;refine gn ?_;refine pt ?_;refine aq (JO.nil (bn ?_));exact jz ((), true) h [0, 1, 2]
          ·replace h := b_ifn (v_f hb) h;refine gm ?_;refine gm ?_;obtain ⟨x26, ex26, h⟩ := b_bind h;refine fr 2 ?_;refine JO.g11 rfl rfl rfl rfl rfl rfl (o_index_own (t := .bool) rfl U111 sz4 ex26) ⟨rfl, rfl, trivial⟩ ?_;refine JO.g11 rfl rfl rfl rfl rfl rfl (o_load_el (i := Int.toNat y18.2) (off := 0) rfl sz4 (fun _ => rfl) rfl (geti_some ex26).2.2 rfl) ⟨rfl, trivial⟩ ?_;refine gm ?_;refine JO.bool (s := 61) rfl (fun hb => ?_) (fun hb => ?_)
           ·replace h := b_if (v_t hb) h;refine ga (o_field_obj rfl fo26_0) ?_;refine fr 1 ?_;refine JO.g11 rfl rfl rfl rfl rfl rfl (o_load_obj rfl sz22 nfs rfl) ⟨rfl, trivial⟩ ?_;refine gm ?_;obtain ⟨x27, ex27, h⟩ := b_bind h;refine gb (o_index (t := tThing) rfl U22 sz74 ex27) ?_;refine ga (o_field_at 1 false rfl fo74_0 rfl) ?_;refine ga (o_load_at (t := (.slice (.int .i64))) rfl sz24 rfl) ?_;refine gm ?_;obtain ⟨r28, er28, h⟩ := b_bind h;refine gb (o_call [.tmp 67, .tmp 68] rfl rfl en101 rfl (kit_At_ok k x27.1 y10.2.2 r28 er28)) ?_;refine gb (o_geq rfl) ?_;refine gb (o_pick_t rfl) ?_;refine pf ?_;refine aq (JO.nil (bn ?_));exact jz ((), decide ((0 : Int) ≤ r28)) h [0, 2, 1]
           ·replace h := b_ifn (v_f hb) h;iterate 9 refine gn ?_
            refine gb (o_pick_f rfl) ?_;refine pf ?_;refine aq (JO.nil (bn ?_));exact jz ((), false) h [1, 2, 0]
         ·refine JC.region (mq ?_);obtain ⟨x29, ex29, h⟩ := b_bind h;refine jb (o_add rfl ex29) ?_;refine aq (nl ?_);exact jz ((), (x24, x29)) h [0, 1, 2]
        ·refine xa ?_;exact jz ((), y18.1) h [0, 1, 2]
      ·refine JC.cutB (Z := Unit) (α := Bool) (fun z31 x30 => [(1, Pt b1), (3, .eq (.slice none 0 0)), (4, .eq v3), (5, .eq (.bool y10.2.1)), (6, I y10.2.2), (80, .eq (.bool x30))]) (fun z31 x30 => [.obj b1 26 (.agg (.pair (Rs tThing a0.1) (.pair (.eq v1_a0) (.pair (Ri a0.2.2.1) (Ri a0.2.2.2))))), .sl v1_a0 52 tDresser a0.2.1, .sl v3 4 .bool y10.1]) h (fun K h => ?_) (fun z31 x30 h => ?_)
       ·refine JC.region ?_;iterate 2 refine mq ?_
        refine JO.bool (s := 74) rfl (fun hb => ?_) (fun hb => ?_)
        ·replace h := b_if (v_t hb) h;refine gm ?_;refine gm ?_;obtain ⟨x32, ex32, h⟩ := b_bind h;refine fr 2 ?_;refine JO.g11 rfl rfl rfl rfl rfl rfl (o_index_own (t := .bool) rfl U111 sz4 ex32) ⟨rfl, rfl, trivial⟩ ?_;refine JO.g11 rfl rfl rfl rfl rfl rfl (o_load_el (i := Int.toNat y10.2.2) (off := 0) rfl sz4 (fun _ => rfl) rfl (geti_some ex32).2.2 rfl) ⟨rfl, trivial⟩ ?_;refine ga (o_not rfl) ?_;refine pt (nl ?_);exact jz ((), !x32) h [1, 2, 0]
        ·replace h := b_ifn (v_f hb) h;iterate 5 refine gn ?_
         refine pf (nl ?_);exact jz ((), false) h [0, 1, 2]
       ·refine cv h (fun h => ?_) (fun h => ?_)
        ·refine JC.region ?_;iterate 2 refine mq ?_
         obtain ⟨x33, ex33, h⟩ := b_bind h;refine fr 2 ?_;refine kb (o_index_own (t := .bool) rfl U111 sz4 ex33) ?_;refine JO.n11 rfl rfl (o_store_elW (i := Int.toNat y10.2.2) rfl sz4 rfl (geti_lt ex33) rfl .bool rfl) ⟨rfl, rfl, trivial⟩ ?_;refine cq (JO.nil (bn ?_));exact jz ((), (List.set y10.1 (Int.toNat y10.2.2) true, true)) h [1, 2, 0]
        ·refine JC.skip (bn ?_);exact jz ((), (y10.1, y10.2.1)) h [0, 1, 2]
     ·refine JC.region (mq ?_);obtain ⟨x34, ex34, h⟩ := b_bind h;refine jb (o_add rfl ex34) ?_;refine aq (nl ?_);exact jz ((), (x12.1, x12.2, x34)) h [0, 1, 2]
    ·refine JC.exit (JN.then_x (JN.then_x (JN.blk_hit (bn ?_))));exact jz ((), (y10.1, y10.2.1)) h [0, 1, 2]
   ·refine JN.then_n ?_;exact jz ((), (x8.1, x8.2)) h [0, 1, 2]
  ·refine xa ?_;exact jz ((), y6.1) h [0, 1, 2]
 ·refine JC.cutB (Z := Value) (α := (List dTask)) (fun z36 x35 => [(3, .eq z36)]) (fun z36 x35 => [.sl z36 116 tTask x35, .sl v1_a0 52 tDresser a0.2.1]) h (fun K h => ?_) (fun z36 x35 h => ?_)
  ·refine sr (cq (nt (JC.block ?_)));refine JC.se (SE.nil 116 tTask) ?_;refine JC.loopB (Z := Value) (α := (List dTask) × Int) (fun z38 y37 => [(1, Pt b1), (3, .eq z38), (4, .eq v3), (9, I y37.2)]) (fun z38 y37 => [.obj b1 26 (.agg (.pair (Rs tThing a0.1) (.pair (.eq v1_a0) (.pair (Ri a0.2.2.1) (Ri a0.2.2.2))))), .sl v1_a0 52 tDresser a0.2.1, .sl z38 116 tTask y37.1, .sl v3 4 .bool x4]) (kit_TasksOfV_l4 k a0 x4) k (.slice none 0 0) (([] : (List dTask)), (0 : Int)) (fun _ => rfl) h (SE.fin [1, 2, 0, 3] ⟨rfl, rfl, rfl, rfl, trivial⟩ rfl) (fun n z38 y37 h => ?_);unfold kit_TasksOfV_l4 at h;refine JC.seq (sr (mq ?_));refine jb (o_lss rfl) ?_;refine nt (ci h (fun h => ?_) (fun h => ?_))
   ·refine sk (JC.cutB (Z := Value) (α := (List dTask)) (fun z40 x39 => [(1, Pt b1), (3, .eq z40), (4, .eq v3), (9, I y37.2)]) (fun z40 x39 => [.obj b1 26 (.agg (.pair (Rs tThing a0.1) (.pair (.eq v1_a0) (.pair (Ri a0.2.2.1) (Ri a0.2.2.2))))), .sl v1_a0 52 tDresser a0.2.1, .sl z40 116 tTask x39, .sl v3 4 .bool x4]) h (fun K h => ?_) (fun z40 x39 h => ?_))
    ·refine JC.block (sr (cq (nt (JC.block ?_))));refine JC.loopB (Z := Value) (α := (List dTask) × Int) (fun z42 y41 => [(1, Pt b1), (3, .eq z42), (4, .eq v3), (9, I y37.2), (10, I y41.2)]) (fun z42 y41 => [.obj b1 26 (.agg (.pair (Rs tThing a0.1) (.pair (.eq v1_a0) (.pair (Ri a0.2.2.1) (Ri a0.2.2.2))))), .sl v1_a0 52 tDresser a0.2.1, .sl z42 116 tTask y41.1, .sl v3 4 .bool x4]) (kit_TasksOfV_l5 k a0 x4 y37) k z38 (y37.1, (0 : Int)) (fun _ => rfl) h (SE.fin [0, 1, 2, 3] ⟨rfl, rfl, rfl, rfl, rfl, trivial⟩ rfl) (fun n z42 y41 h => ?_);unfold kit_TasksOfV_l5 at h;refine JC.seq (sr ?_);iterate 2 refine mq ?_
     refine fr 3 ?_;refine ka (o_len_own rfl rfl U111) ?_;refine jb (o_lss rfl) ?_;refine nt (ci h (fun h => ?_) (fun h => ?_))
     ·refine sk (JC.cutB (Z := Value) (α := (List dTask)) (fun z44 x43 => [(1, Pt b1), (3, .eq z44), (4, .eq v3), (9, I y37.2), (10, I y41.2)]) (fun z44 x43 => [.obj b1 26 (.agg (.pair (Rs tThing a0.1) (.pair (.eq v1_a0) (.pair (Ri a0.2.2.1) (Ri a0.2.2.2))))), .sl v1_a0 52 tDresser a0.2.1, .sl z44 116 tTask x43, .sl v3 4 .bool x4]) h (fun K h => ?_) (fun z44 x43 h => ?_))
      ·refine JC.block (JC.cutB (Z := Unit) (α := Bool) (fun z46 x45 => [(1, Pt b1), (3, .eq z42), (4, .eq v3), (9, I y37.2), (10, I y41.2), (119, .eq (.bool x45))]) (fun z46 x45 => [.obj b1 26 (.agg (.pair (Rs tThing a0.1) (.pair (.eq v1_a0) (.pair (Ri a0.2.2.1) (Ri a0.2.2.2))))), .sl v1_a0 52 tDresser a0.2.1, .sl z42 116 tTask y41.1, .sl v3 4 .bool x4]) h (fun K h => ?_) (fun z46 x45 h => ?_))
       ·refine JC.region ?_;iterate 2 refine mq ?_
        obtain ⟨x47, ex47, h⟩ := b_bind h;refine kb (o_index_own (t := .bool) rfl U111 sz4 ex47) ?_;refine ka (o_load_el (i := Int.toNat y41.2) (off := 0) rfl sz4 (fun _ => rfl) rfl (geti_some ex47).2.2 rfl) ?_;refine mq ?_;refine JO.bool (s := 98) rfl (fun hb => ?_) (fun hb => ?_)
        ·replace h := b_if (v_t hb) h;refine gm ?_;refine gb (o_eql rfl) ?_;refine gm ?_;refine JO.bool (s := 101) rfl (fun hb => ?_) (fun hb => ?_)
         ·replace h := b_if (d_t hb) h;refine ga (o_field_obj rfl fo26_2) ?_;refine fr 1 ?_;refine JO.g11 rfl rfl rfl rfl rfl rfl (o_load_obj rfl sz24 nfs rfl) ⟨rfl, trivial⟩ ?_;refine gm ?_;obtain ⟨r48, er48, h⟩ := b_bind h;refine gb (o_call [.tmp 103, .tmp 104] rfl rfl en101 rfl (kit_At_ok k a0.2.2.1 y41.2 r48 er48)) ?_;refine gb (o_geq rfl) ?_;refine gb (o_pick_t rfl) ?_;refine gm ?_;refine JO.bool (s := 108) rfl (fun hb => ?_) (fun hb => ?_)
          ·replace h := b_if (d_t hb) h;iterate 3 refine gn ?_
           refine gu ?_;refine gu ?_;refine gu ?_;refine gu ?_;refine gu ?_;refine gn ?_;refine gb (o_pick_t rfl) ?_;refine pt (nl ?_);exact jz ((), true) h [0, 2, 3, 1]
          ·replace h := b_ifn (d_f hb) h;refine gm ?_;refine gb (o_eql rfl) ?_;refine gm ?_;refine JO.bool (s := 111) rfl (fun hb => ?_) (fun hb => ?_)
           ·replace h := b_if (d_t hb) h;refine ga (o_field_obj rfl fo26_3) ?_;refine JO.g11 rfl rfl rfl rfl rfl rfl (o_load_obj rfl sz24 nfs rfl) ⟨rfl, trivial⟩ ?_;refine gm ?_;obtain ⟨r49, er49, h⟩ := b_bind h;refine gb (o_call [.tmp 113, .tmp 114] rfl rfl en101 rfl (kit_At_ok k a0.2.2.2 y41.2 r49 er49)) ?_;refine gb (o_geq rfl) ?_;refine gb (o_pick_t rfl) ?_;refine gb (o_pick_f rfl) ?_;refine pt (nl ?_);exact jz ((), decide ((0 : Int) ≤ r49)) h [0, 2, 3, 1]
           ·replace h := b_ifn (d_f hb) h;iterate 5 refine gn ?_
            refine gb (o_pick_f rfl) ?_;refine gb (o_pick_f rfl) ?_;refine pt (nl ?_);exact jz ((), false) h [0, 2, 3, 1]
         ·replace h := b_ifn (d_f hb) h;iterate 5 refine gn ?_
          refine gb (o_pick_f rfl) ?_;refine gm ?_;refine gm ?_;refine gb (o_eql rfl) ?_;refine gm ?_;refine JO.bool (s := 111) rfl (fun hb => ?_) (fun hb => ?_)
          ·replace h := b_if (d_t hb) h;refine ga (o_field_obj rfl fo26_3) ?_;refine fr 1 ?_;refine JO.g11 rfl rfl rfl rfl rfl rfl (o_load_obj rfl sz24 nfs rfl) ⟨rfl, trivial⟩ ?_;refine gm ?_;obtain ⟨r50, er50, h⟩ := b_bind h;refine gb (o_call [.tmp 113, .tmp 114] rfl rfl en101 rfl (kit_At_ok k a0.2.2.2 y41.2 r50 er50)) ?_;refine gb (o_geq rfl) ?_;refine gb (o_pick_t rfl) ?_;refine gb (o_pick_f rfl) ?_;refine pt (nl ?_);exact jz ((), decide ((0 : Int) ≤ r50)) h [0, 2, 3, 1]
          ·replace h := b_ifn (d_f hb) h;iterate 5 refine gn ?_
           refine gb (o_pick_f rfl) ?_;refine gb (o_pick_f rfl) ?_;refine pt (nl ?_);exact jz ((), false) h [1, 2, 3, 0]
        ·replace h := b_ifn (v_f hb) h;iterate 3 refine gn ?_
         refine gu ?_;refine gu ?_;refine gu ?_;refine gu ?_;refine gu ?_;iterate 2 refine gn ?_
         refine gu ?_;refine gu ?_;refine gu ?_;refine gu ?_;refine gu ?_;refine gu ?_;refine gu ?_;refine gu ?_;refine gu ?_;refine gn ?_;refine pf (nl ?_);exact jz ((), false) h [1, 2, 3, 0]
       ·refine cv h (fun h => ?_) (fun h => ?_)
        ·refine JC.region ?_;iterate 3 refine mq ?_
         refine jb (o_eql rfl) ?_;refine jb (o_buildT [(0, .tmp 121, _), (1, .tmp 123, _)] rfl pl116 za116 alb116 (stors ⟨rfl, rfl, trivial⟩) rfl) ?_;refine ja (o_litB (t := tTask) [(.tmp 124, _)] [(y41.2, decide (y37.2 = (1 : Int)))] rfl rfl sl112 (.cons trivial (.agg (.pair .int .bool)) .nil) rfl rfl) ?_;obtain ⟨u51, eu51, h⟩ := b_bind h;refine fr 2 ?_;refine JO.s1x rfl rfl rfl (o_append rfl rfl sl112 (chkP_some eu51)) ⟨rfl, rfl, trivial⟩ fun v52 => ?_;refine aq (JO.nil (bn ?_));exact jz (v52, y41.1 ++ [(y41.2, decide (y37.2 = (1 : Int)))]) h [1, 2, 0, 3]
        ·refine JC.skip (bn ?_);exact jz (z42, y41.1) h [0, 1, 2, 3]
      ·refine JC.region (mq ?_);obtain ⟨x53, ex53, h⟩ := b_bind h;refine jb (o_add rfl ex53) ?_;refine aq (nl ?_);exact jz (z44, (x43, x53)) h [0, 1, 2, 3]
     ·refine JC.exit (JN.then_x (JN.then_x (JN.blk_hit (bn ?_))));exact jz (z42, y41.1) h [1, 2, 3, 0]
    ·refine JC.region (mq ?_);obtain ⟨x54, ex54, h⟩ := b_bind h;refine jb (o_add rfl ex54) ?_;refine aq (nl ?_);exact jz (z40, (x39, x54)) h [0, 1, 2, 3]
   ·refine xa ?_;exact jz (z38, y37.1) h [2, 1]
  ·refine sr (mq ?_);refine aq (nt (JC.ret ?_));refine JN.se (SE.frz [2, 3, 127] ⟨rfl, rfl, rfl, trivial⟩) ?_;cases h;exact JN.ret () [_] 1 ⟨rfl, trivial⟩ rfl


def kit_ChangeOf_l2 (k : Nat) (r3 : Int × dLots) (r4 : Bool × dLots) (y7 : (List Int) × Int × Int × (List dThing) × (List Int) × (List Int) × Int) : Nat → ((List Int) × Int × Int × (List Int) × Int) → Option ((List Int) × Int × Int × (List Int))
 | 0, _ => none
 | n + 1, y22 =>
  if y22.2.2.2.2 < r3.1 then (((((if (decide (y7.2.2.2.2.2.2 < y22.2.2.2.2)) = r4.1 then (if ¬ (y22.2.2.2.2 = y7.2.2.2.2.2.2) then ((kit_Lots_Rare k (y22.1, y22.2.1, y22.2.2.1) (3 : Int)).bind fun r28 =>
  some (r28.2.1, r28.2.2.1, r28.2.2.2, r28.1)) else (some (y22.1, y22.2.1, y22.2.2.1, false))) else (some (y22.1, y22.2.1, y22.2.2.1, false))) : Option ((List Int) × Int × Int × Bool)).bind fun x26 =>
  if x26.2.2.2 = true then ((chkP (okLen (List.length y22.2.2.2.1 + List.length [y22.2.2.2.2]))).bind fun _ =>
  some (x26.1, x26.2.1, x26.2.2.1, y22.2.2.2.1 ++ [y22.2.2.2.2])) else (some (x26.1, x26.2.1, x26.2.2.1, y22.2.2.2.1))) : Option ((List Int) × Int × Int × (List Int))).bind fun x24 =>
  (ck (y22.2.2.2.2 + (1 : Int))).bind fun x32 =>
  kit_ChangeOf_l2 k r3 r4 y7 n (x24.1, x24.2.1, x24.2.2.1, x24.2.2.2, x32)) else (some (y22.1, y22.2.1, y22.2.2.1, y22.2.2.2.1))

def kit_ChangeOf_l1 (k : Nat) (r3 : Int × dLots) (r4 : Bool × dLots) : Nat → ((List Int) × Int × Int × (List dThing) × (List Int) × (List Int) × Int) → Option ((List Int) × Int × Int × (List dThing) × (List Int) × (List Int))
 | 0, _ => none
 | n + 1, y7 =>
  if y7.2.2.2.2.2.2 < r3.1 then ((((kit_Lots_In k (y7.1, y7.2.1, y7.2.2.1) (1 : Int) (4 : Int)).bind fun r11 =>
  (kit_Lots_Of k (r11.2.1, r11.2.2.1, r11.2.2.2) [(1 : Int), (1 : Int), (2 : Int), r11.1]).bind fun r12 =>
  (kit_Lots_In k (r12.2.1, r12.2.2.1, r12.2.2.2) (1 : Int) (4 : Int)).bind fun r13 =>
  (kit_Lots_Of k (r13.2.1, r13.2.2.1, r13.2.2.2) [(1 : Int), (2 : Int), (2 : Int), r13.1]).bind fun r14 =>
  (kit_Lots_Of k (r14.2.1, r14.2.2.1, r14.2.2.2) [(0 : Int), (0 : Int), (1 : Int), (2 : Int)]).bind fun r15 =>
  (kit_Lots_In k (r15.2.1, r15.2.2.1, r15.2.2.2) (1 : Int) (6 : Int)).bind fun r16 =>
  (kit_Lots_In k (r16.2.1, r16.2.2.1, r16.2.2.2) (3 : Int) (12 : Int)).bind fun r17 =>
  (kit_Lots_Of k (r17.2.1, r17.2.2.1, r17.2.2.2) [(0 : Int), (0 : Int), r16.1, r17.1]).bind fun r18 =>
  ((kit_ChangeOf_l2 k r3 r4 y7 k (r18.2.1, r18.2.2.1, r18.2.2.2, ([] : (List Int)), (0 : Int))) : Option ((List Int) × Int × Int × (List Int))).bind fun x20 =>
  (chkP (okLen (List.length y7.2.2.2.1 + List.length [(x20.2.2.2, r12.1, r14.1, r15.1, r18.1)]))).bind fun _ =>
  (kit_Lots_Upto k (x20.1, x20.2.1, x20.2.2.1) (5 : Int)).bind fun r36 =>
  if r36.1 = (0 : Int) then (some (r36.2.1, r36.2.2.1, r36.2.2.2, y7.2.2.2.1 ++ [(x20.2.2.2, r12.1, r14.1, r15.1, r18.1)], y7.2.2.2.2.1, y7.2.2.2.2.2.1)) else (((if r36.1 = (1 : Int) then (some (decide (r36.1 = (1 : Int)))) else (some (decide (r36.1 = (2 : Int))))) : Option (Bool)).bind fun x37 =>
  if x37 = true then ((chkP (okLen (List.length y7.2.2.2.2.1 + List.length [y7.2.2.2.2.2.2]))).bind fun _ =>
  some (r36.2.1, r36.2.2.1, r36.2.2.2, y7.2.2.2.1 ++ [(x20.2.2.2, r12.1, r14.1, r15.1, r18.1)], y7.2.2.2.2.1 ++ [y7.2.2.2.2.2.2], y7.2.2.2.2.2.1)) else (if r36.1 = (3 : Int) then ((chkP (okLen (List.length y7.2.2.2.2.2.1 + List.length [y7.2.2.2.2.2.2]))).bind fun _ =>
  some (r36.2.1, r36.2.2.1, r36.2.2.2, y7.2.2.2.1 ++ [(x20.2.2.2, r12.1, r14.1, r15.1, r18.1)], y7.2.2.2.2.1, y7.2.2.2.2.2.1 ++ [y7.2.2.2.2.2.2])) else ((chkP (okLen (List.length y7.2.2.2.2.1 + List.length [y7.2.2.2.2.2.2]))).bind fun _ =>
  (chkP (okLen (List.length y7.2.2.2.2.2.1 + List.length [y7.2.2.2.2.2.2]))).bind fun _ =>
  some (r36.2.1, r36.2.2.1, r36.2.2.2, y7.2.2.2.1 ++ [(x20.2.2.2, r12.1, r14.1, r15.1, r18.1)], y7.2.2.2.2.1 ++ [y7.2.2.2.2.2.2], y7.2.2.2.2.2.1 ++ [y7.2.2.2.2.2.2]))))) : Option ((List Int) × Int × Int × (List dThing) × (List Int) × (List Int))).bind fun x9 =>
  (ck (y7.2.2.2.2.2.2 + (1 : Int))).bind fun x51 =>
  kit_ChangeOf_l1 k r3 r4 n (x9.1, x9.2.1, x9.2.2.1, x9.2.2.2.1, x9.2.2.2.2.1, x9.2.2.2.2.2, x51)) else (some (y7.1, y7.2.1, y7.2.2.1, y7.2.2.2.1, y7.2.2.2.2.1, y7.2.2.2.2.2.1))

def kit_ChangeOf_l4 (k : Nat) (r3 : Int × dLots) : Nat → ((List Int) × Int × Int × (List Int) × Int) → Option ((List Int) × Int × Int × (List Int))
 | 0, _ => none
 | n + 1, y65 =>
  if y65.2.2.2.2 < r3.1 then ((((kit_Lots_Rare k (y65.1, y65.2.1, y65.2.2.1) (4 : Int)).bind fun r69 =>
  if ¬ (r69.1 = true) then ((chkP (okLen (List.length y65.2.2.2.1 + List.length [y65.2.2.2.2]))).bind fun _ =>
  some (r69.2.1, r69.2.2.1, r69.2.2.2, y65.2.2.2.1 ++ [y65.2.2.2.2])) else (some (r69.2.1, r69.2.2.1, r69.2.2.2, y65.2.2.2.1))) : Option ((List Int) × Int × Int × (List Int))).bind fun x67 =>
  (ck (y65.2.2.2.2 + (1 : Int))).bind fun x73 =>
  kit_ChangeOf_l4 k r3 n (x67.1, x67.2.1, x67.2.2.1, x67.2.2.2, x73)) else (some (y65.1, y65.2.1, y65.2.2.1, y65.2.2.2.1))

def kit_ChangeOf_l3 (k : Nat) (r3 : Int × dLots) : Nat → ((List Int) × Int × Int × (List dDresser) × Int) → Option ((List Int) × Int × Int × (List dDresser))
 | 0, _ => none
 | n + 1, y55 =>
  if (0 : Int) < y55.2.2.2.2 then ((((kit_Lots_Of k (y55.1, y55.2.1, y55.2.2.1) [(0 : Int), (0 : Int), (1 : Int), (2 : Int)]).bind fun r59 =>
  (kit_Lots_Upto k (r59.2.1, r59.2.2.1, r59.2.2.2) (4 : Int)).bind fun r60 =>
  (kit_Lots_Of k (r60.2.1, r60.2.2.1, r60.2.2.2) [(0 : Int), (0 : Int), (1 : Int), r60.1]).bind fun r61 =>
  ((kit_ChangeOf_l4 k r3 k (r61.2.1, r61.2.2.1, r61.2.2.2, ([] : (List Int)), (0 : Int))) : Option ((List Int) × Int × Int × (List Int))).bind fun x63 =>
  (chkP (okLen (List.length y55.2.2.2.1 + List.length [(x63.2.2.2, r59.1, r61.1)]))).bind fun _ =>
  some (x63.1, x63.2.1, x63.2.2.1, y55.2.2.2.1 ++ [(x63.2.2.2, r59.1, r61.1)])) : Option ((List Int) × Int × Int × (List dDresser))).bind fun x57 =>
  (ck (y55.2.2.2.2 - (1 : Int))).bind fun x77 =>
  kit_ChangeOf_l3 k r3 n (x57.1, x57.2.1, x57.2.2.1, x57.2.2.2, x77)) else (some (y55.1, y55.2.1, y55.2.2.1, y55.2.2.2.1))

def kit_ChangeOf_l5 (k : Nat) : Nat → ((List Int) × Int × Int × (List dThing) × (List dDresser) × (List Int) × (List Int)) → Option ((List dThing) × (List dDresser) × (List Int) × (List Int) × (List Int) × Int × Int)
 | 0, _ => none
 | n + 1, y80 =>
  (kit_TasksOf k (y80.2.2.2.1, y80.2.2.2.2.1, y80.2.2.2.2.2.1, y80.2.2.2.2.2.2)).bind fun r82 =>
  if (4 : Int) < (r82.length : Int) then (((if (0 : Int) < (y80.2.2.2.2.2.2.length : Int) then ((kit_Lots_Rare k (y80.1, y80.2.1, y80.2.2.1) (2 : Int)).bind fun r85 =>
  some (r85.2.1, r85.2.2.1, r85.2.2.2, r85.1)) else (some (y80.1, y80.2.1, y80.2.2.1, false))) : Option ((List Int) × Int × Int × Bool)).bind fun x83 =>
  if x83.2.2.2 = true then ((ck ((y80.2.2.2.2.2.2.length : Int) - (1 : Int))).bind fun x86 =>
  (chkP (0 ≤ x86 ∧ x86 ≤ (y80.2.2.2.2.2.2.length : Int))).bind fun _ =>
  kit_ChangeOf_l5 k n (x83.1, x83.2.1, x83.2.2.1, y80.2.2.2.1, y80.2.2.2.2.1, y80.2.2.2.2.2.1, List.take (Int.toNat x86) y80.2.2.2.2.2.2)) else (if (0 : Int) < (y80.2.2.2.2.2.1.length : Int) then ((ck ((y80.2.2.2.2.2.1.length : Int) - (1 : Int))).bind fun x88 =>
  (chkP (0 ≤ x88 ∧ x88 ≤ (y80.2.2.2.2.2.1.length : Int))).bind fun _ =>
  kit_ChangeOf_l5 k n (x83.1, x83.2.1, x83.2.2.1, y80.2.2.2.1, y80.2.2.2.2.1, List.take (Int.toNat x88) y80.2.2.2.2.2.1, y80.2.2.2.2.2.2)) else (kit_ChangeOf_l5 k n (x83.1, x83.2.1, x83.2.2.1, y80.2.2.2.1, y80.2.2.2.2.1, y80.2.2.2.2.2.1, [])))) else (some (y80.2.2.2.1, y80.2.2.2.2.1, y80.2.2.2.2.2.1, y80.2.2.2.2.2.2, y80.1, y80.2.1, y80.2.2.1))
def kit_ChangeOf (k : Nat) (a0 : dLots) : Option (dChange × dLots) :=
 (kit_Lots_In k (a0.1, a0.2.1, a0.2.2) (1 : Int) (4 : Int)).bind fun r3 =>
 (kit_Lots_Rare k (r3.2.1, r3.2.2.1, r3.2.2.2) (2 : Int)).bind fun r4 =>
 ((kit_ChangeOf_l1 k r3 r4 k (r4.2.1, r4.2.2.1, r4.2.2.2, ([] : (List dThing)), ([] : (List Int)), ([] : (List Int)), (0 : Int))) : Option ((List Int) × Int × Int × (List dThing) × (List Int) × (List Int))).bind fun x5 =>
 (((kit_Lots_In k (x5.1, x5.2.1, x5.2.2.1) (1 : Int) (3 : Int)).bind fun r54 =>
 kit_ChangeOf_l3 k r3 k (r54.2.1, r54.2.2.1, r54.2.2.2, ([] : (List dDresser)), r54.1)) : Option ((List Int) × Int × Int × (List dDresser))).bind fun x52 =>
 ((kit_ChangeOf_l5 k k (x52.1, x52.2.1, x52.2.2.1, x5.2.2.2.1, x52.2.2.2, x5.2.2.2.2.1, x5.2.2.2.2.2)) : Option ((List dThing) × (List dDresser) × (List Int) × (List Int) × (List Int) × Int × Int)).bind fun x78 =>
 some ((x78.1, x78.2.1, x78.2.2.1, x78.2.2.2.1), (x78.2.2.2.2.1, x78.2.2.2.2.2.1, x78.2.2.2.2.2.2))

def kit_ChangeOfV_l2 (k : Nat) (r3 : Int × dLots) (r4 : Bool × dLots) (y7 : (List Int) × Int × Int × (List dThing) × (List Int) × (List Int) × Int) : Nat → ((List Int) × Int × Int × (List Int) × Int) → Option ((List Int) × Int × Int × (List Int))
 | 0, _ => none
 | n + 1, y22 =>
  if y22.2.2.2.2 < r3.1 then (((((if (decide (y7.2.2.2.2.2.2 < y22.2.2.2.2)) = r4.1 then (if ¬ (y22.2.2.2.2 = y7.2.2.2.2.2.2) then ((kit_Lots_Rare k (y22.1, y22.2.1, y22.2.2.1) (3 : Int)).bind fun r28 =>
  some (r28.2.1, r28.2.2.1, r28.2.2.2, r28.1)) else (some (y22.1, y22.2.1, y22.2.2.1, false))) else (some (y22.1, y22.2.1, y22.2.2.1, false))) : Option ((List Int) × Int × Int × Bool)).bind fun x26 =>
  if x26.2.2.2 = true then ((chkP (okLen (List.length y22.2.2.2.1 + List.length [y22.2.2.2.2]))).bind fun _ =>
  some (x26.1, x26.2.1, x26.2.2.1, y22.2.2.2.1 ++ [y22.2.2.2.2])) else (some (x26.1, x26.2.1, x26.2.2.1, y22.2.2.2.1))) : Option ((List Int) × Int × Int × (List Int))).bind fun x24 =>
  (ck (y22.2.2.2.2 + (1 : Int))).bind fun x32 =>
  kit_ChangeOfV_l2 k r3 r4 y7 n (x24.1, x24.2.1, x24.2.2.1, x24.2.2.2, x32)) else (some (y22.1, y22.2.1, y22.2.2.1, y22.2.2.2.1))

def kit_ChangeOfV_l1 (k : Nat) (r3 : Int × dLots) (r4 : Bool × dLots) : Nat → ((List Int) × Int × Int × (List dThing) × (List Int) × (List Int) × Int) → Option ((List Int) × Int × Int × (List dThing) × (List Int) × (List Int))
 | 0, _ => none
 | n + 1, y7 =>
  if y7.2.2.2.2.2.2 < r3.1 then ((((kit_Lots_In k (y7.1, y7.2.1, y7.2.2.1) (1 : Int) (4 : Int)).bind fun r11 =>
  (kit_Lots_Of k (r11.2.1, r11.2.2.1, r11.2.2.2) [(1 : Int), (1 : Int), (2 : Int), r11.1]).bind fun r12 =>
  (kit_Lots_In k (r12.2.1, r12.2.2.1, r12.2.2.2) (1 : Int) (4 : Int)).bind fun r13 =>
  (kit_Lots_Of k (r13.2.1, r13.2.2.1, r13.2.2.2) [(1 : Int), (2 : Int), (2 : Int), r13.1]).bind fun r14 =>
  (kit_Lots_Of k (r14.2.1, r14.2.2.1, r14.2.2.2) [(0 : Int), (0 : Int), (1 : Int), (2 : Int)]).bind fun r15 =>
  (kit_Lots_In k (r15.2.1, r15.2.2.1, r15.2.2.2) (1 : Int) (6 : Int)).bind fun r16 =>
  (kit_Lots_In k (r16.2.1, r16.2.2.1, r16.2.2.2) (3 : Int) (12 : Int)).bind fun r17 =>
  (kit_Lots_Of k (r17.2.1, r17.2.2.1, r17.2.2.2) [(0 : Int), (0 : Int), r16.1, r17.1]).bind fun r18 =>
  ((kit_ChangeOfV_l2 k r3 r4 y7 k (r18.2.1, r18.2.2.1, r18.2.2.2, ([] : (List Int)), (0 : Int))) : Option ((List Int) × Int × Int × (List Int))).bind fun x20 =>
  (chkP (okLen (List.length y7.2.2.2.1 + List.length [(x20.2.2.2, r12.1, r14.1, r15.1, r18.1)]))).bind fun _ =>
  (kit_Lots_Upto k (x20.1, x20.2.1, x20.2.2.1) (5 : Int)).bind fun r36 =>
  if r36.1 = (0 : Int) then (some (r36.2.1, r36.2.2.1, r36.2.2.2, y7.2.2.2.1 ++ [(x20.2.2.2, r12.1, r14.1, r15.1, r18.1)], y7.2.2.2.2.1, y7.2.2.2.2.2.1)) else (((if r36.1 = (1 : Int) then (some (decide (r36.1 = (1 : Int)))) else (some (decide (r36.1 = (2 : Int))))) : Option (Bool)).bind fun x37 =>
  if x37 = true then ((chkP (okLen (List.length y7.2.2.2.2.1 + List.length [y7.2.2.2.2.2.2]))).bind fun _ =>
  some (r36.2.1, r36.2.2.1, r36.2.2.2, y7.2.2.2.1 ++ [(x20.2.2.2, r12.1, r14.1, r15.1, r18.1)], y7.2.2.2.2.1 ++ [y7.2.2.2.2.2.2], y7.2.2.2.2.2.1)) else (if r36.1 = (3 : Int) then ((chkP (okLen (List.length y7.2.2.2.2.2.1 + List.length [y7.2.2.2.2.2.2]))).bind fun _ =>
  some (r36.2.1, r36.2.2.1, r36.2.2.2, y7.2.2.2.1 ++ [(x20.2.2.2, r12.1, r14.1, r15.1, r18.1)], y7.2.2.2.2.1, y7.2.2.2.2.2.1 ++ [y7.2.2.2.2.2.2])) else ((chkP (okLen (List.length y7.2.2.2.2.1 + List.length [y7.2.2.2.2.2.2]))).bind fun _ =>
  (chkP (okLen (List.length y7.2.2.2.2.2.1 + List.length [y7.2.2.2.2.2.2]))).bind fun _ =>
  some (r36.2.1, r36.2.2.1, r36.2.2.2, y7.2.2.2.1 ++ [(x20.2.2.2, r12.1, r14.1, r15.1, r18.1)], y7.2.2.2.2.1 ++ [y7.2.2.2.2.2.2], y7.2.2.2.2.2.1 ++ [y7.2.2.2.2.2.2]))))) : Option ((List Int) × Int × Int × (List dThing) × (List Int) × (List Int))).bind fun x9 =>
  (ck (y7.2.2.2.2.2.2 + (1 : Int))).bind fun x51 =>
  kit_ChangeOfV_l1 k r3 r4 n (x9.1, x9.2.1, x9.2.2.1, x9.2.2.2.1, x9.2.2.2.2.1, x9.2.2.2.2.2, x51)) else (some (y7.1, y7.2.1, y7.2.2.1, y7.2.2.2.1, y7.2.2.2.2.1, y7.2.2.2.2.2.1))

def kit_ChangeOfV_l4 (k : Nat) (r3 : Int × dLots) : Nat → ((List Int) × Int × Int × (List Int) × Int) → Option ((List Int) × Int × Int × (List Int))
 | 0, _ => none
 | n + 1, y65 =>
  if y65.2.2.2.2 < r3.1 then ((((kit_Lots_Rare k (y65.1, y65.2.1, y65.2.2.1) (4 : Int)).bind fun r69 =>
  if ¬ (r69.1 = true) then ((chkP (okLen (List.length y65.2.2.2.1 + List.length [y65.2.2.2.2]))).bind fun _ =>
  some (r69.2.1, r69.2.2.1, r69.2.2.2, y65.2.2.2.1 ++ [y65.2.2.2.2])) else (some (r69.2.1, r69.2.2.1, r69.2.2.2, y65.2.2.2.1))) : Option ((List Int) × Int × Int × (List Int))).bind fun x67 =>
  (ck (y65.2.2.2.2 + (1 : Int))).bind fun x73 =>
  kit_ChangeOfV_l4 k r3 n (x67.1, x67.2.1, x67.2.2.1, x67.2.2.2, x73)) else (some (y65.1, y65.2.1, y65.2.2.1, y65.2.2.2.1))

def kit_ChangeOfV_l3 (k : Nat) (r3 : Int × dLots) : Nat → ((List Int) × Int × Int × (List dDresser) × Int) → Option ((List Int) × Int × Int × (List dDresser))
 | 0, _ => none
 | n + 1, y55 =>
  if (0 : Int) < y55.2.2.2.2 then ((((kit_Lots_Of k (y55.1, y55.2.1, y55.2.2.1) [(0 : Int), (0 : Int), (1 : Int), (2 : Int)]).bind fun r59 =>
  (kit_Lots_Upto k (r59.2.1, r59.2.2.1, r59.2.2.2) (4 : Int)).bind fun r60 =>
  (kit_Lots_Of k (r60.2.1, r60.2.2.1, r60.2.2.2) [(0 : Int), (0 : Int), (1 : Int), r60.1]).bind fun r61 =>
  ((kit_ChangeOfV_l4 k r3 k (r61.2.1, r61.2.2.1, r61.2.2.2, ([] : (List Int)), (0 : Int))) : Option ((List Int) × Int × Int × (List Int))).bind fun x63 =>
  (chkP (okLen (List.length y55.2.2.2.1 + List.length [(x63.2.2.2, r59.1, r61.1)]))).bind fun _ =>
  some (x63.1, x63.2.1, x63.2.2.1, y55.2.2.2.1 ++ [(x63.2.2.2, r59.1, r61.1)])) : Option ((List Int) × Int × Int × (List dDresser))).bind fun x57 =>
  (ck (y55.2.2.2.2 - (1 : Int))).bind fun x77 =>
  kit_ChangeOfV_l3 k r3 n (x57.1, x57.2.1, x57.2.2.1, x57.2.2.2, x77)) else (some (y55.1, y55.2.1, y55.2.2.1, y55.2.2.2.1))

def kit_ChangeOfV_l5 (k : Nat) (x52 : (List Int) × Int × Int × (List dDresser)) : Nat → ((List Int) × Int × Int × (List dThing) × (List Int) × (List Int)) → Option ((List dThing) × (List Int) × (List Int) × (List Int) × Int × Int)
 | 0, _ => none
 | n + 1, y80 =>
  (kit_TasksOfV k (y80.2.2.2.1, x52.2.2.2, y80.2.2.2.2.1, y80.2.2.2.2.2)).bind fun r82 =>
  if (4 : Int) < (r82.length : Int) then (((if (0 : Int) < (y80.2.2.2.2.2.length : Int) then ((kit_Lots_Rare k (y80.1, y80.2.1, y80.2.2.1) (2 : Int)).bind fun r85 =>
  some (r85.2.1, r85.2.2.1, r85.2.2.2, r85.1)) else (some (y80.1, y80.2.1, y80.2.2.1, false))) : Option ((List Int) × Int × Int × Bool)).bind fun x83 =>
  if x83.2.2.2 = true then ((ck ((y80.2.2.2.2.2.length : Int) - (1 : Int))).bind fun x86 =>
  (chkP (0 ≤ x86 ∧ x86 ≤ (y80.2.2.2.2.2.length : Int))).bind fun _ =>
  kit_ChangeOfV_l5 k x52 n (x83.1, x83.2.1, x83.2.2.1, y80.2.2.2.1, y80.2.2.2.2.1, List.take (Int.toNat x86) y80.2.2.2.2.2)) else (if (0 : Int) < (y80.2.2.2.2.1.length : Int) then ((ck ((y80.2.2.2.2.1.length : Int) - (1 : Int))).bind fun x88 =>
  (chkP (0 ≤ x88 ∧ x88 ≤ (y80.2.2.2.2.1.length : Int))).bind fun _ =>
  kit_ChangeOfV_l5 k x52 n (x83.1, x83.2.1, x83.2.2.1, y80.2.2.2.1, List.take (Int.toNat x88) y80.2.2.2.2.1, y80.2.2.2.2.2)) else (kit_ChangeOfV_l5 k x52 n (x83.1, x83.2.1, x83.2.2.1, y80.2.2.2.1, y80.2.2.2.2.1, [])))) else (some (y80.2.2.2.1, y80.2.2.2.2.1, y80.2.2.2.2.2, y80.1, y80.2.1, y80.2.2.1))
def kit_ChangeOfV (k : Nat) (a0 : dLots) : Option (dChange × dLots) :=
 (kit_Lots_In k (a0.1, a0.2.1, a0.2.2) (1 : Int) (4 : Int)).bind fun r3 =>
 (kit_Lots_Rare k (r3.2.1, r3.2.2.1, r3.2.2.2) (2 : Int)).bind fun r4 =>
 ((kit_ChangeOfV_l1 k r3 r4 k (r4.2.1, r4.2.2.1, r4.2.2.2, ([] : (List dThing)), ([] : (List Int)), ([] : (List Int)), (0 : Int))) : Option ((List Int) × Int × Int × (List dThing) × (List Int) × (List Int))).bind fun x5 =>
 (((kit_Lots_In k (x5.1, x5.2.1, x5.2.2.1) (1 : Int) (3 : Int)).bind fun r54 =>
 kit_ChangeOfV_l3 k r3 k (r54.2.1, r54.2.2.1, r54.2.2.2, ([] : (List dDresser)), r54.1)) : Option ((List Int) × Int × Int × (List dDresser))).bind fun x52 =>
 ((kit_ChangeOfV_l5 k x52 k (x52.1, x52.2.1, x52.2.2.1, x5.2.2.2.1, x5.2.2.2.2.1, x5.2.2.2.2.2)) : Option ((List dThing) × (List Int) × (List Int) × (List Int) × Int × Int)).bind fun x78 =>
 some ((x78.1, x52.2.2.2, x78.2.1, x78.2.2.1), (x78.2.2.2.1, x78.2.2.2.2.1, x78.2.2.2.2.2))

theorem kit_ChangeOfV_ok (k : Nat) (a0 : dLots) (b_a0 : Nat) (r : dChange × dLots) (h : kit_ChangeOfV k a0 = some r) :
 Ctr Tryz.prog 24 [Pt b_a0] [.obj b_a0 79 (.agg (.pair (Ri a0.1) (.pair (I a0.2.1) (.eq (.int .u64 a0.2.2)))))] (fun z : Value => (resA [.agg (.pair (Rs tThing r.1.1) (.pair (.eq z) (.pair (Ri r.1.2.2.1) (Ri r.1.2.2.2))))], [.sl z 52 tDresser r.1.2.1, .obj b_a0 79 (.agg (.pair (Ri r.2.1) (.pair (I r.2.2.1) (.eq (.int .u64 r.2.2.2)))))])) := by
 unfold kit_ChangeOfV at h;replace h := b_top h;refine Ctr.of 175 Tryz.func24 rfl Tryz.ntmps24 rfl fun S w0 => ?_;refine sr (JO.s01 rfl rfl rfl (o_alloc rfl za26 al26) trivial fun b1 => ?_);refine nt (sr (JO.s01 rfl rfl rfl (o_alloc rfl za26 al26) trivial fun b2 => ?_));refine nt (sr (mq ?_));obtain ⟨r3, er3, h⟩ := b_bind h;refine fr 2 ?_;refine kc (o_call [.tmp 12, .const (.int .i64 (1)), .const (.int .i64 (4))] rfl rfl en27 rfl (kit_Lots_In_ok k (a0.1, a0.2.1, a0.2.2) b_a0 (1 : Int) (4 : Int) r3 er3)) ?_;refine aq (nt (sr ?_));refine mq ?_;obtain ⟨r4, er4, h⟩ := b_bind h;refine kb (o_call [.tmp 14, .const (.int .i64 (2))] rfl rfl en25 rfl (kit_Lots_Rare_ok k (r3.2.1, r3.2.2.1, r3.2.2.2) b_a0 (2 : Int) r4 er4)) ?_;refine aq (nt ?_);refine JC.cutB (Z := Value × Value × Value) (α := (List Int) × Int × Int × (List dThing) × (List Int) × (List Int)) (fun z6 x5 => [(0, Pt b_a0), (2, Pt b1), (3, Pt b2), (4, I r3.1)]) (fun z6 x5 => [.obj b_a0 79 (.agg (.pair (Ri x5.1) (.pair (I x5.2.1) (.eq (.int .u64 x5.2.2.1))))), .obj b1 26 N4, .obj b2 26 (.agg (.pair (.eq z6.1) (.pair (.eq (.slice none 0 0)) (.pair (.eq z6.2.1) (.eq z6.2.2))))), .sl z6.1 74 tThing x5.2.2.2.1, .sl z6.2.1 3 (.int .i64) x5.2.2.2.2.1, .sl z6.2.2 3 (.int .i64) x5.2.2.2.2.2]) h (fun K h => ?_) (fun z6 x5 h => ?_)
 ·refine sr (cq (nt (JC.block ?_)));refine JC.se (SE.nil 74 tThing) ?_;refine JC.se (SE.nil 3 (.int .i64)) ?_;refine JC.se (SE.nil 3 (.int .i64)) ?_;refine JC.loopB (Z := Value × Value × Value) (α := (List Int) × Int × Int × (List dThing) × (List Int) × (List Int) × Int) (fun z8 y7 => [(0, Pt b_a0), (2, Pt b1), (3, Pt b2), (4, I r3.1), (5, .eq (.bool r4.1)), (6, I y7.2.2.2.2.2.2)]) (fun z8 y7 => [.obj b_a0 79 (.agg (.pair (Ri y7.1) (.pair (I y7.2.1) (.eq (.int .u64 y7.2.2.1))))), .obj b1 26 N4, .obj b2 26 (.agg (.pair (.eq z8.1) (.pair (.eq (.slice none 0 0)) (.pair (.eq z8.2.1) (.eq z8.2.2))))), .sl z8.1 74 tThing y7.2.2.2.1, .sl z8.2.1 3 (.int .i64) y7.2.2.2.2.1, .sl z8.2.2 3 (.int .i64) y7.2.2.2.2.2.1]) (kit_ChangeOfV_l1 k r3 r4) k ((.slice none 0 0), (.slice none 0 0), (.slice none 0 0)) (r4.2.1, r4.2.2.1, r4.2.2.2, ([] : (List dThing)), ([] : (List Int)), ([] : (List Int)), (0 : Int)) (fun _ => rfl) h (SE.fin [3, 5, 4, 2, 1, 0] ⟨rfl, rfl, rfl, rfl, rfl, rfl, trivial⟩ rfl) (fun n z8 y7 h => ?_);unfold kit_ChangeOfV_l1 at h;refine JC.seq (sr ?_);iterate 2 refine mq ?_
  refine jb (o_lss rfl) ?_;refine nt (ci h (fun h => ?_) (fun h => ?_))
  ·refine sk (JC.cutB (Z := Value × Value × Value) (α := (List Int) × Int × Int × (List dThing) × (List Int) × (List Int)) (fun z10 x9 => [(0, Pt b_a0), (2, Pt b1), (3, Pt b2), (4, I r3.1), (5, .eq (.bool r4.1)), (6, I y7.2.2.2.2.2.2)]) (fun z10 x9 => [.obj b_a0 79 (.agg (.pair (Ri x9.1) (.pair (I x9.2.1) (.eq (.int .u64 x9.2.2.1))))), .obj b1 26 N4, .obj b2 26 (.agg (.pair (.eq z10.1) (.pair (.eq (.slice none 0 0)) (.pair (.eq z10.2.1) (.eq z10.2.2))))), .sl z10.1 74 tThing x9.2.2.2.1, .sl z10.2.1 3 (.int .i64) x9.2.2.2.2.1, .sl z10.2.2 3 (.int .i64) x9.2.2.2.2.2]) h (fun K h => ?_) (fun z10 x9 h => ?_))
   ·refine JC.block (sr ?_);iterate 2 refine mq ?_
    obtain ⟨r11, er11, h⟩ := b_bind h;refine kc (o_call [.tmp 22, .const (.int .i64 (1)), .const (.int .i64 (4))] rfl rfl en27 rfl (kit_Lots_In_ok k (y7.1, y7.2.1, y7.2.2.1) b_a0 (1 : Int) (4 : Int) r11 er11)) ?_;refine JO.s rfl (o_litB (t := (.int .i64)) [(.const (.int .i64 (1)), _), (.const (.int .i64 (1)), _), (.const (.int .i64 (2)), _), (.tmp 23, _)] [(1 : Int), (1 : Int), (2 : Int), r11.1] rfl rfl sl24 (.cons rfl .int (.cons rfl .int (.cons rfl .int (.cons rfl .int .nil)))) rfl rfl) ⟨rfl, rfl, rfl, rfl, trivial⟩ ?_;obtain ⟨r12, er12, h⟩ := b_bind h;refine kb (o_call [.tmp 21, .tmp 24] rfl rfl en26 rfl (kit_Lots_Of_ok k (r11.2.1, r11.2.2.1, r11.2.2.2) b_a0 [(1 : Int), (1 : Int), (2 : Int), r11.1] r12 er12)) ?_;iterate 2 refine mq ?_
    obtain ⟨r13, er13, h⟩ := b_bind h;refine kc (o_call [.tmp 27, .const (.int .i64 (1)), .const (.int .i64 (4))] rfl rfl en27 rfl (kit_Lots_In_ok k (r12.2.1, r12.2.2.1, r12.2.2.2) b_a0 (1 : Int) (4 : Int) r13 er13)) ?_;refine JO.s rfl (o_litB (t := (.int .i64)) [(.const (.int .i64 (1)), _), (.const (.int .i64 (2)), _), (.const (.int .i64 (2)), _), (.tmp 28, _)] [(1 : Int), (2 : Int), (2 : Int), r13.1] rfl rfl sl24 (.cons rfl .int (.cons rfl .int (.cons rfl .int (.cons rfl .int .nil)))) rfl rfl) ⟨rfl, rfl, rfl, rfl, trivial⟩ ?_;obtain ⟨r14, er14, h⟩ := b_bind h;refine kb (o_call [.tmp 26, .tmp 29] rfl rfl en26 rfl (kit_Lots_Of_ok k (r13.2.1, r13.2.2.1, r13.2.2.2) b_a0 [(1 : Int), (2 : Int), (2 : Int), r13.1] r14 er14)) ?_;refine mq ?_;refine JO.s rfl (o_litB (t := (.int .i64)) [(.const (.int .i64 (0)), _), (.const (.int .i64 (0)), _), (.const (.int .i64 (1)), _), (.const (.int .i64 (2)), _)] [(0 : Int), (0 : Int), (1 : Int), (2 : Int)] rfl rfl sl24 (.cons rfl .int (.cons rfl .int (.cons rfl .int (.cons rfl .int .nil)))) rfl rfl) ⟨rfl, rfl, rfl, rfl, trivial⟩ ?_;obtain ⟨r15, er15, h⟩ := b_bind h;refine kb (o_call [.tmp 31, .tmp 32] rfl rfl en26 rfl (kit_Lots_Of_ok k (r14.2.1, r14.2.2.1, r14.2.2.2) b_a0 [(0 : Int), (0 : Int), (1 : Int), (2 : Int)] r15 er15)) ?_;iterate 2 refine mq ?_
    obtain ⟨r16, er16, h⟩ := b_bind h;refine kc (o_call [.tmp 35, .const (.int .i64 (1)), .const (.int .i64 (6))] rfl rfl en27 rfl (kit_Lots_In_ok k (r15.2.1, r15.2.2.1, r15.2.2.2) b_a0 (1 : Int) (6 : Int) r16 er16)) ?_;refine mq ?_;obtain ⟨r17, er17, h⟩ := b_bind h;refine kc (o_call [.tmp 37, .const (.int .i64 (3)), .const (.int .i64 (12))] rfl rfl en27 rfl (kit_Lots_In_ok k (r16.2.1, r16.2.2.1, r16.2.2.2) b_a0 (3 : Int) (12 : Int) r17 er17)) ?_;refine JO.s rfl (o_litB (t := (.int .i64)) [(.const (.int .i64 (0)), _), (.const (.int .i64 (0)), _), (.tmp 36, _), (.tmp 38, _)] [(0 : Int), (0 : Int), r16.1, r17.1] rfl rfl sl24 (.cons rfl .int (.cons rfl .int (.cons rfl .int (.cons rfl .int .nil)))) rfl rfl) ⟨rfl, rfl, rfl, rfl, trivial⟩ ?_;obtain ⟨r18, er18, h⟩ := b_bind h;refine kb (o_call [.tmp 34, .tmp 39] rfl rfl en26 rfl (kit_Lots_Of_ok k (r17.2.1, r17.2.2.1, r17.2.2.2) b_a0 [(0 : Int), (0 : Int), r16.1, r17.1] r18 er18)) ?_;refine JO.s rfl (o_buildT [(1, .tmp 25, _), (2, .tmp 30, _), (3, .tmp 33, _), (4, .tmp 40, _)] rfl pl74 za74 alb74 (stors ⟨rfl, rfl, rfl, rfl, trivial⟩) rfl) ⟨rfl, rfl, rfl, rfl, trivial⟩ ?_;refine JO.s01 rfl rfl rfl (o_alloc rfl za74 al74) trivial fun b19 => ?_;refine JO.n11 rfl rfl (o_store rfl sz74 trivial rfl rfl) ⟨rfl, rfl, trivial⟩ ?_;refine nt (JC.cutB (Z := Value) (α := (List Int) × Int × Int × (List Int)) (fun z21 x20 => [(0, Pt b_a0), (2, Pt b1), (3, Pt b2), (4, I r3.1), (5, .eq (.bool r4.1)), (6, I y7.2.2.2.2.2.2), (7, Pt b19)]) (fun z21 x20 => [.obj b_a0 79 (.agg (.pair (Ri x20.1) (.pair (I x20.2.1) (.eq (.int .u64 x20.2.2.1))))), .obj b1 26 N4, .obj b2 26 (.agg (.pair (.eq z8.1) (.pair (.eq (.slice none 0 0)) (.pair (.eq z8.2.1) (.eq z8.2.2))))), .sl z8.1 74 tThing y7.2.2.2.1, .sl z8.2.1 3 (.int .i64) y7.2.2.2.2.1, .sl z8.2.2 3 (.int .i64) y7.2.2.2.2.2.1, .obj b19 74 (.agg (.pair (.eq z21) (.pair (I r12.1) (.pair (I r14.1) (.pair (I r15.1) (I r18.1)))))), .sl z21 3 (.int .i64) x20.2.2.2]) h (fun K h => ?_) (fun z21 x20 h => ?_))
    ·refine sr (cq (nt (JC.block ?_)));refine JC.se (SE.nil 3 (.int .i64)) ?_;refine JC.loopB (Z := Value) (α := (List Int) × Int × Int × (List Int) × Int) (fun z23 y22 => [(0, Pt b_a0), (2, Pt b1), (3, Pt b2), (4, I r3.1), (5, .eq (.bool r4.1)), (6, I y7.2.2.2.2.2.2), (7, Pt b19), (8, I y22.2.2.2.2)]) (fun z23 y22 => [.obj b_a0 79 (.agg (.pair (Ri y22.1) (.pair (I y22.2.1) (.eq (.int .u64 y22.2.2.1))))), .obj b1 26 N4, .obj b2 26 (.agg (.pair (.eq z8.1) (.pair (.eq (.slice none 0 0)) (.pair (.eq z8.2.1) (.eq z8.2.2))))), .sl z8.1 74 tThing y7.2.2.2.1, .sl z8.2.1 3 (.int .i64) y7.2.2.2.2.1, .sl z8.2.2 3 (.int .i64) y7.2.2.2.2.2.1, .obj b19 74 (.agg (.pair (.eq z23) (.pair (I r12.1) (.pair (I r14.1) (.pair (I r15.1) (I r18.1)))))), .sl z23 3 (.int .i64) y22.2.2.2.1]) (kit_ChangeOfV_l2 k r3 r4 y7) k (.slice none 0 0) (r18.2.1, r18.2.2.1, r18.2.2.2, ([] : (List Int)), (0 : Int)) (fun _ => rfl) h (SE.fin [2, 3, 4, 5, 6, 7, 1, 0] ⟨rfl, rfl, rfl, rfl, rfl, rfl, rfl, rfl, trivial⟩ rfl) (fun n z23 y22 h => ?_);unfold kit_ChangeOfV_l2 at h;refine JC.seq (sr ?_);iterate 2 refine mq ?_
     refine jb (o_lss rfl) ?_;refine nt (ci h (fun h => ?_) (fun h => ?_))
     ·refine sk (JC.cutB (Z := Value) (α := (List Int) × Int × Int × (List Int)) (fun z25 x24 => [(0, Pt b_a0), (2, Pt b1), (3, Pt b2), (4, I r3.1), (5, .eq (.bool r4.1)), (6, I y7.2.2.2.2.2.2), (7, Pt b19), (8, I y22.2.2.2.2)]) (fun z25 x24 => [.obj b_a0 79 (.agg (.pair (Ri x24.1) (.pair (I x24.2.1) (.eq (.int .u64 x24.2.2.1))))), .obj b1 26 N4, .obj b2 26 (.agg (.pair (.eq z8.1) (.pair (.eq (.slice none 0 0)) (.pair (.eq z8.2.1) (.eq z8.2.2))))), .sl z8.1 74 tThing y7.2.2.2.1, .sl z8.2.1 3 (.int .i64) y7.2.2.2.2.1, .sl z8.2.2 3 (.int .i64) y7.2.2.2.2.2.1, .obj b19 74 (.agg (.pair (.eq z25) (.pair (I r12.1) (.pair (I r14.1) (.pair (I r15.1) (I r18.1)))))), .sl z25 3 (.int .i64) x24.2.2.2]) h (fun K h => ?_) (fun z25 x24 h => ?_))
      ·refine JC.block (JC.cutB (Z := Unit) (α := (List Int) × Int × Int × Bool) (fun z27 x26 => [(0, Pt b_a0), (2, Pt b1), (3, Pt b2), (4, I r3.1), (5, .eq (.bool r4.1)), (6, I y7.2.2.2.2.2.2), (7, Pt b19), (8, I y22.2.2.2.2), (60, .eq (.bool x26.2.2.2))]) (fun z27 x26 => [.obj b_a0 79 (.agg (.pair (Ri x26.1) (.pair (I x26.2.1) (.eq (.int .u64 x26.2.2.1))))), .obj b1 26 N4, .obj b2 26 (.agg (.pair (.eq z8.1) (.pair (.eq (.slice none 0 0)) (.pair (.eq z8.2.1) (.eq z8.2.2))))), .sl z8.1 74 tThing y7.2.2.2.1, .sl z8.2.1 3 (.int .i64) y7.2.2.2.2.1, .sl z8.2.2 3 (.int .i64) y7.2.2.2.2.2.1, .obj b19 74 (.agg (.pair (.eq z23) (.pair (I r12.1) (.pair (I r14.1) (.pair (I r15.1) (I r18.1)))))), .sl z23 3 (.int .i64) y22.2.2.2.1]) h (fun K h => ?_) (fun z27 x26 h => ?_))
       ·refine JC.region ?_;iterate 2 refine mq ?_
        refine jb (o_gtr rfl) ?_;refine mq ?_;refine jb (o_eqlb rfl U4) ?_;refine mq ?_;refine JO.bool (s := 52) rfl (fun hb => ?_) (fun hb => ?_)
        ·replace h := b_if (d_t hb) h;refine gm ?_;refine gm ?_;refine gb (o_neq rfl) ?_;refine pt ?_;refine mq ?_;refine JO.bool (s := 57) rfl (fun hb => ?_) (fun hb => ?_)
         ·replace h := b_if (n_t hb) h;refine gm ?_;obtain ⟨r28, er28, h⟩ := b_bind h;refine JO.g11 rfl rfl rfl rfl rfl rfl (o_call [.tmp 58, .const (.int .i64 (3))] rfl rfl en25 rfl (kit_Lots_Rare_ok k (y22.1, y22.2.1, y22.2.2.1) b_a0 (3 : Int) r28 er28)) ⟨rfl, rfl, trivial⟩ ?_;refine pt (nl ?_);exact jz ((), (r28.2.1, r28.2.2.1, r28.2.2.2, r28.1)) h [0, 1, 2, 3, 4, 5, 6, 7]
         ·replace h := b_ifn (n_fn hb) h;iterate 2 refine gn ?_
          refine pf (nl ?_);exact jz ((), (y22.1, y22.2.1, y22.2.2.1, false)) h [0, 1, 2, 3, 4, 5, 6, 7]
        ·replace h := b_ifn (d_f hb) h;iterate 3 refine gn ?_
         refine pf ?_;refine mq ?_;iterate 2 refine gn ?_
         refine pf (nl ?_);exact jz ((), (y22.1, y22.2.1, y22.2.2.1, false)) h [0, 1, 2, 3, 4, 5, 6, 7]
       ·refine cv h (fun h => ?_) (fun h => ?_)
        ·refine JC.region (fl fo74_0 ?_);refine fr 6 ?_;refine lo sz24 ?_;refine mq ?_;refine ja (o_litB (t := (.int .i64)) [(.tmp 63, _)] [y22.2.2.2.2] rfl rfl sl24 (.cons rfl .int .nil) rfl rfl) ?_;obtain ⟨u29, eu29, h⟩ := b_bind h;refine fr 7 ?_;refine JO.s1x rfl rfl rfl (o_append rfl rfl sl24 (chkP_some eu29)) ⟨rfl, rfl, trivial⟩ fun v30 => ?_;refine fl fo74_0 ?_;refine JO.one fun o31 => ?_;refine fr 1 ?_;refine JO.n11 rfl rfl (o_store rfl sz24 o31 rfl rfl) ⟨rfl, rfl, trivial⟩ ?_;refine JO.nil (bn ?_);exact jz (v30, (x26.1, x26.2.1, x26.2.2.1, y22.2.2.2.1 ++ [y22.2.2.2.2])) h [2, 3, 4, 5, 6, 7, 0, 1]
        ·refine JC.skip (bn ?_);exact jz (z23, (x26.1, x26.2.1, x26.2.2.1, y22.2.2.2.1)) h [0, 1, 2, 3, 4, 5, 6, 7]
      ·refine JC.region (mq ?_);obtain ⟨x32, ex32, h⟩ := b_bind h;refine jb (o_add rfl ex32) ?_;refine aq (nl ?_);exact jz (z25, (x24.1, x24.2.1, x24.2.2.1, x24.2.2.2, x32)) h [0, 1, 2, 3, 4, 5, 6, 7]
     ·refine xa ?_;exact jz (z23, (y22.1, y22.2.1, y22.2.2.1, y22.2.2.2.1)) h [0, 1, 2, 3, 4, 5, 6, 7]
    ·refine sr (fl fo26_0 ?_);refine fr 2 ?_;refine lo sz22 ?_;refine fr 6 ?_;refine fr 7 ?_;refine JO.se (SE.frzBoth (off := 0) [] trivial rfl rfl) ?_;refine lo sz74 ?_;refine ja (o_litB (t := tThing) [(.tmp 69, _)] [(x20.2.2.2, r12.1, r14.1, r15.1, r18.1)] rfl rfl sl22 (.cons trivial (.agg (.pair .rep (.pair .int (.pair .int (.pair .int .int))))) .nil) rfl rfl) ?_;obtain ⟨u33, eu33, h⟩ := b_bind h;refine fr 4 ?_;refine JO.s1x rfl rfl rfl (o_append rfl rfl sl22 (chkP_some eu33)) ⟨rfl, rfl, trivial⟩ fun v34 => ?_;refine fl fo26_0 ?_;refine JO.one fun o35 => ?_;refine fr 2 ?_;refine JO.n11 rfl rfl (o_store rfl sz22 o35 rfl rfl) ⟨rfl, rfl, trivial⟩ ?_;refine nt (sr (mq ?_));obtain ⟨r36, er36, h⟩ := b_bind h;refine fr 3 ?_;refine kb (o_call [.tmp 73, .const (.int .i64 (5))] rfl rfl en23 rfl (kit_Lots_Upto_ok k (x20.1, x20.2.1, x20.2.2.1) b_a0 (5 : Int) r36 er36)) ?_;refine nt (JC.block (sr (jb (o_eql rfl) ?_)));refine aq (nt ?_);refine ci h (fun h => ?_) (fun h => ?_)
     ·refine JC.skip (JN.blk_n (bn ?_));exact jz ((v34, z8.2.1, z8.2.2), (r36.2.1, r36.2.2.1, r36.2.2.2, y7.2.2.2.1 ++ [(x20.2.2.2, r12.1, r14.1, r15.1, r18.1)], y7.2.2.2.2.1, y7.2.2.2.2.2.1)) h [0, 4, 1, 2, 5, 6]
     ·refine JC.cutB (Z := Unit) (α := Bool) (fun z38 x37 => [(0, Pt b_a0), (2, Pt b1), (3, Pt b2), (4, I r3.1), (5, .eq (.bool r4.1)), (6, I y7.2.2.2.2.2.2), (74, I r36.1), (89, .eq (.bool x37))]) (fun z38 x37 => [.obj b_a0 79 (.agg (.pair (Ri r36.2.1) (.pair (I r36.2.2.1) (.eq (.int .u64 r36.2.2.2))))), .obj b1 26 N4, .obj b2 26 (.agg (.pair (.eq v34) (.pair (.eq (.slice none 0 0)) (.pair (.eq z8.2.1) (.eq z8.2.2))))), .sl v34 74 tThing (y7.2.2.2.1 ++ [(x20.2.2.2, r12.1, r14.1, r15.1, r18.1)]), .sl z8.2.1 3 (.int .i64) y7.2.2.2.2.1, .sl z8.2.2 3 (.int .i64) y7.2.2.2.2.2.1]) h (fun K h => ?_) (fun z38 x37 h => ?_)
      ·refine sr (jb (o_eql rfl) ?_);refine aq (nt ?_);refine ci h (fun h => ?_) (fun h => ?_)
       ·refine JC.skip (JN.then_n ?_);exact jz ((), decide (r36.1 = (1 : Int))) h [0, 4, 1, 2, 5, 6]
       ·refine JC.region (jb (o_eql rfl) ?_);refine aq (nl ?_);exact jz ((), decide (r36.1 = (2 : Int))) h [0, 4, 1, 2, 5, 6]
      ·refine cv h (fun h => ?_) (fun h => ?_)
       ·refine JC.region (fl fo26_2 ?_);refine fr 2 ?_;refine lo sz24 ?_;refine mq ?_;refine ja (o_litB (t := (.int .i64)) [(.tmp 94, _)] [y7.2.2.2.2.2.2] rfl rfl sl24 (.cons rfl .int .nil) rfl rfl) ?_;obtain ⟨u39, eu39, h⟩ := b_bind h;refine fr 4 ?_;refine JO.s1x rfl rfl rfl (o_append rfl rfl sl24 (chkP_some eu39)) ⟨rfl, rfl, trivial⟩ fun v40 => ?_;refine fl fo26_2 ?_;refine JO.one fun o41 => ?_;refine fr 1 ?_;refine JO.n11 rfl rfl (o_store rfl sz24 o41 rfl rfl) ⟨rfl, rfl, trivial⟩ ?_;refine JO.nil (JN.blk_n (bn ?_));exact jz ((v34, v40, z8.2.2), (r36.2.1, r36.2.2.1, r36.2.2.2, y7.2.2.2.1 ++ [(x20.2.2.2, r12.1, r14.1, r15.1, r18.1)], y7.2.2.2.2.1 ++ [y7.2.2.2.2.2.2], y7.2.2.2.2.2.1)) h [2, 3, 0, 4, 1, 5]
       ·refine sr (jb (o_eql rfl) ?_);refine aq (nt ?_);refine ci h (fun h => ?_) (fun h => ?_)
        ·refine JC.region (fl fo26_3 ?_);refine fr 2 ?_;refine lo sz24 ?_;refine mq ?_;refine ja (o_litB (t := (.int .i64)) [(.tmp 102, _)] [y7.2.2.2.2.2.2] rfl rfl sl24 (.cons rfl .int .nil) rfl rfl) ?_;obtain ⟨u42, eu42, h⟩ := b_bind h;refine fr 5 ?_;refine JO.s1x rfl rfl rfl (o_append rfl rfl sl24 (chkP_some eu42)) ⟨rfl, rfl, trivial⟩ fun v43 => ?_;refine fl fo26_3 ?_;refine JO.one fun o44 => ?_;refine fr 1 ?_;refine JO.n11 rfl rfl (o_store rfl sz24 o44 rfl rfl) ⟨rfl, rfl, trivial⟩ ?_;refine JO.nil (JN.blk_n (bn ?_));exact jz ((v34, z8.2.1, v43), (r36.2.1, r36.2.2.1, r36.2.2.2, y7.2.2.2.1 ++ [(x20.2.2.2, r12.1, r14.1, r15.1, r18.1)], y7.2.2.2.2.1, y7.2.2.2.2.2.1 ++ [y7.2.2.2.2.2.2])) h [2, 3, 0, 4, 5, 1]
        ·refine JC.drawW ?_;refine DW.t00 rfl rfl rfl (o_field_obj rfl fo26_2) ⟨rfl, trivial⟩ ?_;refine DW.t11 2 rfl rfl rfl rfl (o_load_obj rfl sz24 nfs rfl) ⟨rfl, trivial⟩ ?_;refine DW.t00 rfl rfl rfl (o_move rfl) ⟨rfl, trivial⟩ ?_;refine DW.t00 rfl rfl rfl (o_litB (t := (.int .i64)) [(.tmp 77, _)] [y7.2.2.2.2.2.2] rfl rfl sl24 (.cons rfl .int .nil) rfl rfl) ⟨rfl, trivial⟩ ?_;obtain ⟨u45, eu45, h⟩ := b_bind h;refine DW.tTurn 4 rfl (fun v => [.sl v 3 (.int .i64) (y7.2.2.2.2.1 ++ [y7.2.2.2.2.2.2])]) (fun _ => rfl) rfl rfl rfl (o_append rfl rfl sl24 (chkP_some eu45)) ⟨rfl, rfl, trivial⟩ ?_;refine DW.t00 rfl rfl rfl (o_field_obj rfl fo26_3) ⟨rfl, trivial⟩ ?_;refine DW.t11 2 rfl rfl rfl rfl (o_load_obj rfl sz24 nfs rfl) ⟨rfl, trivial⟩ ?_;refine DW.t00 rfl rfl rfl (o_move rfl) ⟨rfl, trivial⟩ ?_;refine DW.t00 rfl rfl rfl (o_litB (t := (.int .i64)) [(.tmp 82, _)] [y7.2.2.2.2.2.2] rfl rfl sl24 (.cons rfl .int .nil) rfl rfl) ⟨rfl, trivial⟩ ?_;obtain ⟨u47, eu47, h⟩ := b_bind h;refine DW.tTurn 5 rfl (fun v => [.sl v 3 (.int .i64) (y7.2.2.2.2.2.1 ++ [y7.2.2.2.2.2.2])]) (fun _ => rfl) rfl rfl rfl (o_append rfl rfl sl24 (chkP_some eu47)) ⟨rfl, rfl, trivial⟩ ?_;refine DW.t00 rfl rfl rfl (o_field_obj rfl fo26_2) ⟨rfl, trivial⟩ ?_;refine DW.fin 11 [true, true, true, true, true, true, true, true, true, true, true] [86] [] [] rfl (by kernel_rfl) (by kernel_rfl) (by kernel_rfl) mixed (fun vs hv hB => ?_);obtain ⟨w0, vs1, rfl, hv1⟩ := len_cons hv;obtain ⟨w1, vs2, rfl, hv2⟩ := len_cons hv1;obtain ⟨w2, vs3, rfl, hv3⟩ := len_cons hv2;obtain ⟨w3, vs4, rfl, hv4⟩ := len_cons hv3;obtain ⟨v46, vs5, rfl, hv5⟩ := len_cons hv4;obtain ⟨w5, vs6, rfl, hv6⟩ := len_cons hv5;obtain ⟨w6, vs7, rfl, hv7⟩ := len_cons hv6;obtain ⟨w7, vs8, rfl, hv8⟩ := len_cons hv7;obtain ⟨w8, vs9, rfl, hv9⟩ := len_cons hv8;obtain ⟨v48, vs10, rfl, hv10⟩ := len_cons hv9;obtain ⟨w10, vs11, rfl, hv11⟩ := len_cons hv10;obtain rfl := len_nil hv11;refine ⟨[0, 1, 2, 3, 4, 5], [.obj b_a0 79 (.agg (.pair (Ri r36.2.1) (.pair (I r36.2.2.1) (.eq (.int .u64 r36.2.2.2))))), .obj b1 26 N4, .obj b2 26 (.agg (.pair (.eq v34) (.pair (.eq (.slice none 0 0)) (.pair (.eq z8.2.1) (.eq z8.2.2))))), .sl v34 74 tThing (y7.2.2.2.1 ++ [(x20.2.2.2, r12.1, r14.1, r15.1, r18.1)]), .sl v46 3 (.int .i64) (y7.2.2.2.2.1 ++ [y7.2.2.2.2.2.2]), .sl v48 3 (.int .i64) (y7.2.2.2.2.2.1 ++ [y7.2.2.2.2.2.2])], by kernel_rfl, by decide, ?_⟩;refine JT.front 4 rfl ?_;refine JT.one fun o49 => ?_;refine JT.front 3 rfl ?_;refine JT.n11 rfl rfl (o_store rfl sz24 o49 rfl rfl) ⟨rfl, rfl, trivial⟩ (by kernel_rfl) ?_;refine JT.y00 rfl rfl rfl rfl (o_field_obj rfl fo26_3) ⟨rfl, trivial⟩ (by kernel_rfl) ?_;refine JT.front 5 rfl ?_;refine JT.one fun o50 => ?_;refine JT.front 1 rfl ?_;refine JT.n11 rfl rfl (o_store rfl sz24 o50 rfl rfl) ⟨rfl, rfl, trivial⟩ (by kernel_rfl) ?_;refine JT.nil ?_;refine JN.se (SE.fin (Γ' := [(0, Pt b_a0), (2, Pt b1), (3, Pt b2), (4, I r3.1), (5, .eq (.bool r4.1)), (6, I y7.2.2.2.2.2.2)]) (Δ' := [.obj b2 26 (.agg (.pair (.eq v34) (.pair (.eq (.slice none 0 0)) (.pair (.eq v46) (.eq v48))))), .sl v48 3 (.int .i64) (y7.2.2.2.2.2.1 ++ [y7.2.2.2.2.2.2]), .sl v46 3 (.int .i64) (y7.2.2.2.2.1 ++ [y7.2.2.2.2.2.2]), .obj b_a0 79 (.agg (.pair (Ri r36.2.1) (.pair (I r36.2.2.1) (.eq (.int .u64 r36.2.2.2))))), .obj b1 26 N4, .sl v34 74 tThing (y7.2.2.2.1 ++ [(x20.2.2.2, r12.1, r14.1, r15.1, r18.1)])]) [0, 1, 2, 3, 4, 5] ⟨rfl, rfl, rfl, rfl, rfl, rfl, trivial⟩ rfl) ?_;refine JN.blk_n (bn ?_);exact jz ((v34, v46, v48), (r36.2.1, r36.2.2.1, r36.2.2.2, y7.2.2.2.1 ++ [(x20.2.2.2, r12.1, r14.1, r15.1, r18.1)], y7.2.2.2.2.1 ++ [y7.2.2.2.2.2.2], y7.2.2.2.2.2.1 ++ [y7.2.2.2.2.2.2])) h [3, 4, 0, 5, 2, 1]
   ·refine JC.region (mq ?_);obtain ⟨x51, ex51, h⟩ := b_bind h;refine jb (o_add rfl ex51) ?_;refine aq (nl ?_);exact jz ((z10.1, z10.2.1, z10.2.2), (x9.1, x9.2.1, x9.2.2.1, x9.2.2.2.1, x9.2.2.2.2.1, x9.2.2.2.2.2, x51)) h [0, 1, 2, 3, 4, 5]
  ·refine xa ?_;exact jz ((z8.1, z8.2.1, z8.2.2), (y7.1, y7.2.1, y7.2.2.1, y7.2.2.2.1, y7.2.2.2.2.1, y7.2.2.2.2.2.1)) h [0, 1, 2, 3, 4, 5]
 ·refine JC.cutB (Z := Value) (α := (List Int) × Int × Int × (List dDresser)) (fun z53 x52 => [(0, Pt b_a0), (2, Pt b1), (3, Pt b2)]) (fun z53 x52 => [.obj b_a0 79 (.agg (.pair (Ri x52.1) (.pair (I x52.2.1) (.eq (.int .u64 x52.2.2.1))))), .obj b1 26 N4, .obj b2 26 (.agg (.pair (.eq z6.1) (.pair (.eq z53) (.pair (.eq z6.2.1) (.eq z6.2.2))))), .sl z6.1 74 tThing x5.2.2.2.1, .sl z53 52 tDresser x52.2.2.2, .sl z6.2.1 3 (.int .i64) x5.2.2.2.2.1, .sl z6.2.2 3 (.int .i64) x5.2.2.2.2.2]) h (fun K h => ?_) (fun z53 x52 h => ?_)
  ·refine sr (mq ?_);obtain ⟨r54, er54, h⟩ := b_bind h;refine kc (o_call [.tmp 106, .const (.int .i64 (1)), .const (.int .i64 (3))] rfl rfl en27 rfl (kit_Lots_In_ok k (x5.1, x5.2.1, x5.2.2.1) b_a0 (1 : Int) (3 : Int) r54 er54)) ?_;refine aq (nt (JC.block ?_));refine JC.se (SE.nil 52 tDresser) ?_;refine JC.loopB (Z := Value) (α := (List Int) × Int × Int × (List dDresser) × Int) (fun z56 y55 => [(0, Pt b_a0), (2, Pt b1), (3, Pt b2), (4, I r3.1), (9, I y55.2.2.2.2)]) (fun z56 y55 => [.obj b_a0 79 (.agg (.pair (Ri y55.1) (.pair (I y55.2.1) (.eq (.int .u64 y55.2.2.1))))), .obj b1 26 N4, .obj b2 26 (.agg (.pair (.eq z6.1) (.pair (.eq z56) (.pair (.eq z6.2.1) (.eq z6.2.2))))), .sl z6.1 74 tThing x5.2.2.2.1, .sl z56 52 tDresser y55.2.2.2.1, .sl z6.2.1 3 (.int .i64) x5.2.2.2.2.1, .sl z6.2.2 3 (.int .i64) x5.2.2.2.2.2]) (kit_ChangeOfV_l3 k r3) k (.slice none 0 0) (r54.2.1, r54.2.2.1, r54.2.2.2, ([] : (List dDresser)), r54.1) (fun _ => rfl) h (SE.fin [1, 2, 3, 4, 0, 5, 6] ⟨rfl, rfl, rfl, rfl, rfl, trivial⟩ rfl) (fun n z56 y55 h => ?_);unfold kit_ChangeOfV_l3 at h;refine JC.seq (sr (mq ?_));refine jb (o_gtr rfl) ?_;refine nt (ci h (fun h => ?_) (fun h => ?_))
   ·refine sk (JC.cutB (Z := Value) (α := (List Int) × Int × Int × (List dDresser)) (fun z58 x57 => [(0, Pt b_a0), (2, Pt b1), (3, Pt b2), (4, I r3.1), (9, I y55.2.2.2.2)]) (fun z58 x57 => [.obj b_a0 79 (.agg (.pair (Ri x57.1) (.pair (I x57.2.1) (.eq (.int .u64 x57.2.2.1))))), .obj b1 26 N4, .obj b2 26 (.agg (.pair (.eq z6.1) (.pair (.eq z58) (.pair (.eq z6.2.1) (.eq z6.2.2))))), .sl z6.1 74 tThing x5.2.2.2.1, .sl z58 52 tDresser x57.2.2.2, .sl z6.2.1 3 (.int .i64) x5.2.2.2.2.1, .sl z6.2.2 3 (.int .i64) x5.2.2.2.2.2]) h (fun K h => ?_) (fun z58 x57 h => ?_))
    ·refine JC.block (sr (mq ?_));refine JO.s rfl (o_litB (t := (.int .i64)) [(.const (.int .i64 (0)), _), (.const (.int .i64 (0)), _), (.const (.int .i64 (1)), _), (.const (.int .i64 (2)), _)] [(0 : Int), (0 : Int), (1 : Int), (2 : Int)] rfl rfl sl24 (.cons rfl .int (.cons rfl .int (.cons rfl .int (.cons rfl .int .nil)))) rfl rfl) ⟨rfl, rfl, rfl, rfl, trivial⟩ ?_;obtain ⟨r59, er59, h⟩ := b_bind h;refine kb (o_call [.tmp 112, .tmp 113] rfl rfl en26 rfl (kit_Lots_Of_ok k (y55.1, y55.2.1, y55.2.2.1) b_a0 [(0 : Int), (0 : Int), (1 : Int), (2 : Int)] r59 er59)) ?_;iterate 2 refine mq ?_
     obtain ⟨r60, er60, h⟩ := b_bind h;refine kb (o_call [.tmp 116, .const (.int .i64 (4))] rfl rfl en23 rfl (kit_Lots_Upto_ok k (r59.2.1, r59.2.2.1, r59.2.2.2) b_a0 (4 : Int) r60 er60)) ?_;refine JO.s rfl (o_litB (t := (.int .i64)) [(.const (.int .i64 (0)), _), (.const (.int .i64 (0)), _), (.const (.int .i64 (1)), _), (.tmp 117, _)] [(0 : Int), (0 : Int), (1 : Int), r60.1] rfl rfl sl24 (.cons rfl .int (.cons rfl .int (.cons rfl .int (.cons rfl .int .nil)))) rfl rfl) ⟨rfl, rfl, rfl, rfl, trivial⟩ ?_;obtain ⟨r61, er61, h⟩ := b_bind h;refine kb (o_call [.tmp 115, .tmp 118] rfl rfl en26 rfl (kit_Lots_Of_ok k (r60.2.1, r60.2.2.1, r60.2.2.2) b_a0 [(0 : Int), (0 : Int), (1 : Int), r60.1] r61 er61)) ?_;refine jb (o_buildT [(1, .tmp 114, _), (2, .tmp 119, _)] rfl pl52 za52 alb52 (stors ⟨rfl, rfl, trivial⟩) rfl) ?_;refine JO.s01 rfl rfl rfl (o_alloc rfl za52 al52) trivial fun b62 => ?_;refine JO.n11 rfl rfl (o_store rfl sz52 trivial rfl rfl) ⟨rfl, rfl, trivial⟩ ?_;refine nt (JC.cutB (Z := Value) (α := (List Int) × Int × Int × (List Int)) (fun z64 x63 => [(0, Pt b_a0), (2, Pt b1), (3, Pt b2), (4, I r3.1), (9, I y55.2.2.2.2), (10, Pt b62)]) (fun z64 x63 => [.obj b_a0 79 (.agg (.pair (Ri x63.1) (.pair (I x63.2.1) (.eq (.int .u64 x63.2.2.1))))), .obj b1 26 N4, .obj b2 26 (.agg (.pair (.eq z6.1) (.pair (.eq z56) (.pair (.eq z6.2.1) (.eq z6.2.2))))), .sl z6.1 74 tThing x5.2.2.2.1, .sl z56 52 tDresser y55.2.2.2.1, .sl z6.2.1 3 (.int .i64) x5.2.2.2.2.1, .sl z6.2.2 3 (.int .i64) x5.2.2.2.2.2, .obj b62 52 (.agg (.pair (.eq z64) (.pair (I r59.1) (I r61.1)))), .sl z64 3 (.int .i64) x63.2.2.2]) h (fun K h => ?_) (fun z64 x63 h => ?_))
     ·refine sr (cq (nt (JC.block ?_)));refine JC.se (SE.nil 3 (.int .i64)) ?_;refine JC.loopB (Z := Value) (α := (List Int) × Int × Int × (List Int) × Int) (fun z66 y65 => [(0, Pt b_a0), (2, Pt b1), (3, Pt b2), (4, I r3.1), (9, I y55.2.2.2.2), (10, Pt b62), (11, I y65.2.2.2.2)]) (fun z66 y65 => [.obj b_a0 79 (.agg (.pair (Ri y65.1) (.pair (I y65.2.1) (.eq (.int .u64 y65.2.2.1))))), .obj b1 26 N4, .obj b2 26 (.agg (.pair (.eq z6.1) (.pair (.eq z56) (.pair (.eq z6.2.1) (.eq z6.2.2))))), .sl z6.1 74 tThing x5.2.2.2.1, .sl z56 52 tDresser y55.2.2.2.1, .sl z6.2.1 3 (.int .i64) x5.2.2.2.2.1, .sl z6.2.2 3 (.int .i64) x5.2.2.2.2.2, .obj b62 52 (.agg (.pair (.eq z66) (.pair (I r59.1) (I r61.1)))), .sl z66 3 (.int .i64) y65.2.2.2.1]) (kit_ChangeOfV_l4 k r3) k (.slice none 0 0) (r61.2.1, r61.2.2.1, r61.2.2.2, ([] : (List Int)), (0 : Int)) (fun _ => rfl) h (SE.fin [2, 3, 4, 5, 6, 7, 8, 1, 0] ⟨rfl, rfl, rfl, rfl, rfl, rfl, rfl, trivial⟩ rfl) (fun n z66 y65 h => ?_);unfold kit_ChangeOfV_l4 at h;refine JC.seq (sr ?_);iterate 2 refine mq ?_
      refine jb (o_lss rfl) ?_;refine nt (ci h (fun h => ?_) (fun h => ?_))
      ·refine sk (JC.cutB (Z := Value) (α := (List Int) × Int × Int × (List Int)) (fun z68 x67 => [(0, Pt b_a0), (2, Pt b1), (3, Pt b2), (4, I r3.1), (9, I y55.2.2.2.2), (10, Pt b62), (11, I y65.2.2.2.2)]) (fun z68 x67 => [.obj b_a0 79 (.agg (.pair (Ri x67.1) (.pair (I x67.2.1) (.eq (.int .u64 x67.2.2.1))))), .obj b1 26 N4, .obj b2 26 (.agg (.pair (.eq z6.1) (.pair (.eq z56) (.pair (.eq z6.2.1) (.eq z6.2.2))))), .sl z6.1 74 tThing x5.2.2.2.1, .sl z56 52 tDresser y55.2.2.2.1, .sl z6.2.1 3 (.int .i64) x5.2.2.2.2.1, .sl z6.2.2 3 (.int .i64) x5.2.2.2.2.2, .obj b62 52 (.agg (.pair (.eq z68) (.pair (I r59.1) (I r61.1)))), .sl z68 3 (.int .i64) x67.2.2.2]) h (fun K h => ?_) (fun z68 x67 h => ?_))
       ·refine JC.block (sr (mq ?_));obtain ⟨r69, er69, h⟩ := b_bind h;refine kb (o_call [.tmp 126, .const (.int .i64 (4))] rfl rfl en25 rfl (kit_Lots_Rare_ok k (y65.1, y65.2.1, y65.2.2.1) b_a0 (4 : Int) r69 er69)) ?_;refine ja (o_not rfl) ?_;refine nt (cw h (fun h => ?_) (fun h => ?_))
        ·refine JC.region (fl fo52_0 ?_);refine fr 7 ?_;refine lo sz24 ?_;refine mq ?_;refine ja (o_litB (t := (.int .i64)) [(.tmp 131, _)] [y65.2.2.2.2] rfl rfl sl24 (.cons rfl .int .nil) rfl rfl) ?_;obtain ⟨u70, eu70, h⟩ := b_bind h;refine fr 8 ?_;refine JO.s1x rfl rfl rfl (o_append rfl rfl sl24 (chkP_some eu70)) ⟨rfl, rfl, trivial⟩ fun v71 => ?_;refine fl fo52_0 ?_;refine JO.one fun o72 => ?_;refine fr 1 ?_;refine JO.n11 rfl rfl (o_store rfl sz24 o72 rfl rfl) ⟨rfl, rfl, trivial⟩ ?_;refine JO.nil (bn ?_);exact jz (v71, (r69.2.1, r69.2.2.1, r69.2.2.2, y65.2.2.2.1 ++ [y65.2.2.2.2])) h [2, 3, 4, 5, 6, 7, 8, 0, 1]
        ·refine JC.skip (bn ?_);exact jz (z66, (r69.2.1, r69.2.2.1, r69.2.2.2, y65.2.2.2.1)) h [0, 1, 2, 3, 4, 5, 6, 7, 8]
       ·refine JC.region (mq ?_);obtain ⟨x73, ex73, h⟩ := b_bind h;refine jb (o_add rfl ex73) ?_;refine aq (nl ?_);exact jz (z68, (x67.1, x67.2.1, x67.2.2.1, x67.2.2.2, x73)) h [0, 1, 2, 3, 4, 5, 6, 7, 8]
      ·refine xa ?_;exact jz (z66, (y65.1, y65.2.1, y65.2.2.1, y65.2.2.2.1)) h [0, 1, 2, 3, 4, 5, 6, 7, 8]
     ·refine JC.region (fl fo26_1 ?_);refine fr 2 ?_;refine lo sz23 ?_;refine fr 7 ?_;refine fr 8 ?_;refine JO.se (SE.frzBoth (off := 0) [] trivial rfl rfl) ?_;refine lo sz52 ?_;refine ja (o_litB (t := tDresser) [(.tmp 137, _)] [(x63.2.2.2, r59.1, r61.1)] rfl rfl sl23 (.cons trivial (.agg (.pair .rep (.pair .int .int))) .nil) rfl rfl) ?_;obtain ⟨u74, eu74, h⟩ := b_bind h;refine fr 5 ?_;refine JO.s1x rfl rfl rfl (o_append rfl rfl sl23 (chkP_some eu74)) ⟨rfl, rfl, trivial⟩ fun v75 => ?_;refine fl fo26_1 ?_;refine JO.one fun o76 => ?_;refine fr 2 ?_;refine JO.n11 rfl rfl (o_store rfl sz23 o76 rfl rfl) ⟨rfl, rfl, trivial⟩ ?_;refine JO.nil (bn ?_);exact jz (v75, (x63.1, x63.2.1, x63.2.2.1, y55.2.2.2.1 ++ [(x63.2.2.2, r59.1, r61.1)])) h [3, 4, 0, 5, 1, 6, 7]
    ·refine JC.region (mq ?_);obtain ⟨x77, ex77, h⟩ := b_bind h;refine jb (o_sub rfl ex77) ?_;refine aq (nl ?_);exact jz (z58, (x57.1, x57.2.1, x57.2.2.1, x57.2.2.2, x77)) h [0, 1, 2, 3, 4, 5, 6]
   ·refine xa ?_;exact jz (z56, (y55.1, y55.2.1, y55.2.2.1, y55.2.2.2.1)) h [0, 1, 2, 3, 4, 5, 6]
  ·refine JC.cutB (Z := Unit) (α := (List dThing) × (List Int) × (List Int) × (List Int) × Int × Int) (fun z79 x78 => [(2, Pt b1), (3, Pt b2)]) (fun z79 x78 => [.obj b1 26 N4, .obj b2 26 (.agg (.pair (Rs tThing x78.1) (.pair (.eq z53) (.pair (Ri x78.2.1) (Ri x78.2.2.1))))), .sl z53 52 tDresser x52.2.2.2, .obj b_a0 79 (.agg (.pair (Ri x78.2.2.2.1) (.pair (I x78.2.2.2.2.1) (.eq (.int .u64 x78.2.2.2.2.2)))))]) h (fun K h => ?_) (fun z79 x78 h => ?_)
   ·refine JC.block (JC.front 2 rfl ?_);refine JC.front 3 rfl ?_;refine JC.se (SE.frzBoth (off := 0) [] trivial rfl rfl) ?_;refine JC.front 4 rfl ?_;refine JC.se (SE.frzBoth (off := 2) [] trivial rfl rfl) ?_;refine JC.front 4 rfl ?_;refine JC.se (SE.frzBoth (off := 3) [] trivial rfl rfl) ?_;refine JC.loopB (Z := Unit) (α := (List Int) × Int × Int × (List dThing) × (List Int) × (List Int)) (fun z81 y80 => [(0, Pt b_a0), (2, Pt b1), (3, Pt b2)]) (fun z81 y80 => [.obj b_a0 79 (.agg (.pair (Ri y80.1) (.pair (I y80.2.1) (.eq (.int .u64 y80.2.2.1))))), .obj b1 26 N4, .obj b2 26 (.agg (.pair (Rs tThing y80.2.2.2.1) (.pair (.eq z53) (.pair (Ri y80.2.2.2.2.1) (Ri y80.2.2.2.2.2))))), .sl z53 52 tDresser x52.2.2.2]) (kit_ChangeOfV_l5 k x52) k () (x52.1, x52.2.1, x52.2.2.1, x5.2.2.2.1, x5.2.2.2.2.1, x5.2.2.2.2.2) (fun _ => rfl) h (SE.fin [1, 2, 0, 3] ⟨rfl, rfl, rfl, trivial⟩ rfl) (fun n z81 y80 h => ?_);unfold kit_ChangeOfV_l5 at h;refine JC.seq (sr (fr 2 ?_));refine lo sz26 ?_;obtain ⟨r82, er82, h⟩ := b_bind h;refine fr 3 ?_;refine ka (o_call [.tmp 141] rfl rfl en65 rfl (kit_TasksOfV_ok k (y80.2.2.2.1, x52.2.2.2, y80.2.2.2.2.1, y80.2.2.2.2.2) z53 r82 er82)) ?_;refine ol U112 ?_;refine jb (o_gtr rfl) ?_;refine nt (ci h (fun h => ?_) (fun h => ?_))
    ·refine sk (JC.block (JC.cutB (Z := Unit) (α := (List Int) × Int × Int × Bool) (fun z84 x83 => [(0, Pt b_a0), (2, Pt b1), (3, Pt b2), (152, .eq (.bool x83.2.2.2))]) (fun z84 x83 => [.obj b_a0 79 (.agg (.pair (Ri x83.1) (.pair (I x83.2.1) (.eq (.int .u64 x83.2.2.1))))), .obj b1 26 N4, .obj b2 26 (.agg (.pair (Rs tThing y80.2.2.2.1) (.pair (.eq z53) (.pair (Ri y80.2.2.2.2.1) (Ri y80.2.2.2.2.2))))), .sl z53 52 tDresser x52.2.2.2]) h (fun K h => ?_) (fun z84 x83 h => ?_)))
     ·refine JC.region (fl fo26_3 ?_);refine fr 1 ?_;refine lo sz24 ?_;refine ol U24 ?_;refine jb (o_gtr rfl) ?_;refine mq ?_;refine JO.bool (s := 149) rfl (fun hb => ?_) (fun hb => ?_)
      ·replace h := b_if (d_t hb) h;refine gm ?_;obtain ⟨r85, er85, h⟩ := b_bind h;refine fr 2 ?_;refine JO.g11 rfl rfl rfl rfl rfl rfl (o_call [.tmp 150, .const (.int .i64 (2))] rfl rfl en25 rfl (kit_Lots_Rare_ok k (y80.1, y80.2.1, y80.2.2.1) b_a0 (2 : Int) r85 er85)) ⟨rfl, rfl, trivial⟩ ?_;refine pt (nl ?_);exact jz ((), (r85.2.1, r85.2.2.1, r85.2.2.2, r85.1)) h [0, 3, 1, 2]
      ·replace h := b_ifn (d_f hb) h;iterate 2 refine gn ?_
       refine pf (nl ?_);exact jz ((), (y80.1, y80.2.1, y80.2.2.1, false)) h [2, 3, 0, 1]
     ·refine cv h (fun h => ?_) (fun h => ?_)
      ·refine JC.region (fl fo26_3 ?_);refine fr 2 ?_;refine lo sz24 ?_;refine fl fo26_3 ?_;refine lo sz24 ?_;refine ol U24 ?_;obtain ⟨x86, ex86, h⟩ := b_bind h;refine jb (o_sub rfl ex86) ?_;obtain ⟨u87, eu87, h⟩ := b_bind h;refine jb (o_slice_h (t := (.int .i64)) rfl U24 sz3 (chkP_some eu87).1 (chkP_some eu87).2) ?_;refine fl fo26_3 ?_;refine JO.n11 rfl rfl (o_store rfl sz24 rfl rfl rfl) ⟨rfl, rfl, trivial⟩ ?_;refine JO.nil (bn ?_);exact jz ((), (x83.1, x83.2.1, x83.2.2.1, y80.2.2.2.1, y80.2.2.2.2.1, List.take (Int.toNat x86) y80.2.2.2.2.2)) h [1, 2, 0, 3]
      ·refine sr (fl fo26_2 ?_);refine fr 2 ?_;refine lo sz24 ?_;refine ol U24 ?_;refine jb (o_gtr rfl) ?_;refine nt (ci h (fun h => ?_) (fun h => ?_))
       ·refine JC.region (fl fo26_2 ?_);refine lo sz24 ?_;refine fl fo26_2 ?_;refine lo sz24 ?_;refine ol U24 ?_;obtain ⟨x88, ex88, h⟩ := b_bind h;refine jb (o_sub rfl ex88) ?_;obtain ⟨u89, eu89, h⟩ := b_bind h;refine jb (o_slice_h (t := (.int .i64)) rfl U24 sz3 (chkP_some eu89).1 (chkP_some eu89).2) ?_;refine fl fo26_2 ?_;refine JO.n11 rfl rfl (o_store rfl sz24 rfl rfl rfl) ⟨rfl, rfl, trivial⟩ ?_;refine JO.nil (bn ?_);exact jz ((), (x83.1, x83.2.1, x83.2.2.1, y80.2.2.2.1, List.take (Int.toNat x88) y80.2.2.2.2.1, y80.2.2.2.2.2)) h [1, 2, 0, 3]
       ·refine JC.region (fl fo26_3 ?_);refine JO.n11 rfl rfl (o_store rfl sz24 rfl rfl rfl) ⟨rfl, rfl, trivial⟩ ?_;refine JO.nil (bn (JN.se (SE.objE (a := .agg (.pair (Rs tThing y80.2.2.2.1) (.pair (.eq z53) (.pair (Ri y80.2.2.2.2.1) (.eq (.slice none 0 0)))))) (a' := .agg (.pair (Rs tThing y80.2.2.2.1) (.pair (.eq z53) (.pair (Ri y80.2.2.2.2.1) (Ri []))))) (AE.agg (AE.pair AE.rfl (AE.pair AE.rfl (AE.pair AE.rfl (AE.ent .nil)))))) ?_));exact jz ((), (x83.1, x83.2.1, x83.2.2.1, y80.2.2.2.1, y80.2.2.2.2.1, [])) h [1, 2, 0, 3]
    ·refine xa ?_;exact jz ((), (y80.2.2.2.1, y80.2.2.2.2.1, y80.2.2.2.2.2, y80.1, y80.2.1, y80.2.2.1)) h [3, 1, 0, 2]
   ·refine sr (fr 1 ?_);refine lo sz26 ?_;refine fr 1 ?_;refine JO.n11 rfl rfl (o_store rfl sz26 trivial rfl rfl) ⟨rfl, rfl, trivial⟩ ?_;refine nt (JC.ret (JN.se (SE.fin (Γ' := [(2, _)]) [2, 3, 0, 1] ⟨rfl, trivial⟩ rfl) ?_));cases h;exact JN.ret z53 [.agg (.pair (Rs tThing x78.1) (.pair (.eq z53) (.pair (Ri x78.2.1) (Ri x78.2.2.1))))] 2 ⟨⟨_, _, _, _, _, rfl, (.tail _ (.tail _ (.head _))), sz26, (nfn), rfl⟩, trivial⟩ rfl


def kit_NewLots (k : Nat) (a0 : (List Int)) : Option dLots :=
 some (a0, (0 : Int), (1 : Int))

theorem kit_NewLots_ok (k : Nat) (a0 : (List Int)) (r : dLots) (h : kit_NewLots k a0 = some r) :
 Ctr Tryz.prog 12 [Ri a0] [] (fun z : Nat => (resA [Pt z], [.obj z 79 (.agg (.pair (Ri r.1) (.pair (I r.2.1) (.eq (.int .u64 r.2.2)))))])) := by
 unfold kit_NewLots at h;replace h := b_top h;refine Ctr.of 6 Tryz.func12 rfl Tryz.ntmps12 rfl fun S w0 => ?_;refine sr (cq (nt (sr ?_)));refine mq ?_;refine jb (o_buildT [(0, .tmp 3, _), (2, .const (.int .u64 (1)), _)] rfl pl79 za79 alb79 (stors ⟨rfl, rfl, trivial⟩) rfl) ?_;refine JO.s01 rfl rfl rfl (o_box rfl trivial) ⟨rfl, trivial⟩ fun b1 => ?_;refine aq (nt (JC.ret ?_));cases h;exact JN.ret b1 [Pt b1] 1 ⟨rfl, trivial⟩ rfl


def ref_has_l1 (k : Nat) (a0 : (List Int)) (a1 : Int) : Nat → Int → Option (Except Bool Unit)
 | 0, _ => none
 | n + 1, y3 =>
  if y3 < (a0.length : Int) then ((geti a0 y3).bind fun x5 =>
  if x5 = a1 then (some (.error true)) else ((ck (y3 + (1 : Int))).bind fun x6 =>
  ref_has_l1 k a0 a1 n x6)) else (some (.ok ()))
def ref_has (k : Nat) (a0 : (List Int)) (a1 : Int) : Option Bool :=
 bE (α := Unit) (ref_has_l1 k a0 a1 k (0 : Int)) (some) fun _ =>
 some false

theorem ref_has_ok (k : Nat) (a0 : (List Int)) (a1 : Int) (r : Bool) (h : ref_has k a0 a1 = some r) :
 Ctr Tryz.prog 79 [Ri a0, I a1] [] (fun _ : Unit => (resA [.eq (.bool r)], [])) := by
 unfold ref_has at h;replace h := b_top h;refine Ctr.of 18 Tryz.func79 rfl Tryz.ntmps79 rfl fun S w0 => ?_;refine sr (cq (nt ?_));refine JC.cutE (Z := Unit) (α := Unit) (fun z2 x1 => []) (fun z2 x1 => []) (fun e => e = r) h (fun e h => Option.some.inj h) (fun K hR h => ?_) (fun z2 x1 h => ?_)
 ·refine sr (cq (nt (JC.block ?_)));refine JC.loopB (Z := Unit) (α := Int) (fun z4 y3 => [(0, Ri a0), (1, I a1), (5, I y3)]) (fun z4 y3 => []) (ref_has_l1 k a0 a1) k () (0 : Int) (fun _ => rfl) h (SE.fin [] ⟨rfl, rfl, rfl, trivial⟩ rfl) (fun n z4 y3 h => ?_);unfold ref_has_l1 at h;refine JC.seq (sr ?_);iterate 2 refine mq ?_
  refine ol U24 ?_;refine jb (o_lss rfl) ?_;refine nt (ci h (fun h => ?_) (fun h => ?_))
  ·refine sk (JC.seq (JC.block (sr ?_)));iterate 2 refine mq ?_
   obtain ⟨x5, ex5, h⟩ := b_bind h;refine jb (o_index (t := (.int .i64)) rfl U24 sz3 ex5) ?_;refine ja (o_load_at (t := (.int .i64)) rfl sz3 rfl) ?_;refine mq ?_;refine jb (o_eql rfl) ?_;refine nt (ci h (fun h => ?_) (fun h => ?_))
   ·refine sr (cq (nt (JC.ret (br (JN.blk_r (JN.then_r ?_))))));obtain rfl := hR _ h;exact ra
   ·refine JC.skip (JN.blk_n (tn (JC.region (mq ?_))));obtain ⟨x6, ex6, h⟩ := b_bind h;refine jb (o_add rfl ex6) ?_;refine aq (nl ?_);exact jz ((), x6) h []
  ·refine xa ?_;exact jz ((), ()) h []
 ·refine sr (cq (nt (JC.ret ?_)));cases h;exact ra


def ref_changed_l3 (k : Nat) (a0 : dChange) (y10 : (List Bool) × Int) (r14 : Bool) (r15 : Bool) : Nat → ((List Bool) × Int) → Option (List Bool)
 | 0, _ => none
 | n + 1, y19 =>
  ((if y19.2 < (a0.1.length : Int) then (if r14 = true then (some r15) else (some false)) else (some false)) : Option (Bool)).bind fun x21 =>
  if x21 = true then ((((((geti y19.1 y19.2).bind fun x27 =>
  if x27 = true then ((geti a0.1 y19.2).bind fun x28 =>
  (ref_has k x28.1 y10.2).bind fun r29 =>
  some r29) else (some false)) : Option (Bool)).bind fun x25 =>
  if x25 = true then ((geti y19.1 y10.2).bind fun x30 =>
  some (List.set y19.1 (Int.toNat y10.2) true)) else (some y19.1)) : Option ((List Bool))).bind fun x23 =>
  (ck (y19.2 + (1 : Int))).bind fun x31 =>
  ref_changed_l3 k a0 y10 r14 r15 n (x23, x31)) else (some y19.1)

def ref_changed_l2 (k : Nat) (a0 : dChange) : Nat → ((List Bool) × Int) → Option (List Bool)
 | 0, _ => none
 | n + 1, y10 =>
  if y10.2 < (a0.1.length : Int) then ((((ref_has k a0.2.2.1 y10.2).bind fun r14 =>
  (ref_has k a0.2.2.2 y10.2).bind fun r15 =>
  ((if ¬ (r14 = r15) then ((geti y10.1 y10.2).bind fun x18 =>
  some (List.set y10.1 (Int.toNat y10.2) true)) else (some y10.1)) : Option ((List Bool))).bind fun x16 =>
  ref_changed_l3 k a0 y10 r14 r15 k (x16, (0 : Int))) : Option ((List Bool))).bind fun x12 =>
  (ck (y10.2 + (1 : Int))).bind fun x32 =>
  ref_changed_l2 k a0 n (x12, x32)) else (some y10.1)

def ref_changed_l1 (k : Nat) (a0 : dChange) : Nat → ((List Bool) × Int) → Option (List Bool)
 | 0, _ => none
 | n + 1, y6 =>
  if y6.2 ≤ (a0.1.length : Int) then (((ref_changed_l2 k a0 k (y6.1, (0 : Int))) : Option ((List Bool))).bind fun x8 =>
  (ck (y6.2 + (1 : Int))).bind fun x33 =>
  ref_changed_l1 k a0 n (x8, x33)) else (some y6.1)
def ref_changed (k : Nat) (a0 : dChange) : Option (List Bool) :=
 (chkP (0 ≤ (a0.1.length : Int) ∧ okLen (Int.toNat (a0.1.length : Int)))).bind fun _ =>
 ((ref_changed_l1 k a0 k (List.replicate (Int.toNat (a0.1.length : Int)) false, (0 : Int))) : Option ((List Bool))).bind fun x4 =>
 some x4

theorem ref_changed_ok (k : Nat) (a0 : dChange) (r : (List Bool)) (h : ref_changed k a0 = some r) :
 Ctr Tryz.prog 105 [.rep tChange a0] [] (fun _ : Unit => (resA [.rep (.slice .bool) r], [])) := by
 unfold ref_changed at h;replace h := b_top h;refine Ctr.of 72 Tryz.func105 rfl Tryz.ntmps105 rfl fun S w0 => ?_;refine sr (bx fun b1 => ?_);refine cq (nt (sr ?_));refine fl fo26_0 ?_;refine lo sz22 ?_;refine ol U22 ?_;obtain ⟨u2, eu2, h⟩ := b_bind h;refine JO.s01 rfl rfl rfl (o_make (t := .bool) (d := false) rfl sl111 zr4 (chkP_some eu2).1 (chkP_some eu2).2) ⟨rfl, rfl, trivial⟩ fun v3 => ?_;refine aq (nt ?_);refine JC.cutB (Z := Unit) (α := (List Bool)) (fun z5 x4 => [(3, .eq v3)]) (fun z5 x4 => [.sl v3 4 .bool x4]) h (fun K h => ?_) (fun z5 x4 h => ?_)
 ·refine sr (cq (nt (JC.block ?_)));refine JC.loopB (Z := Unit) (α := (List Bool) × Int) (fun z7 y6 => [(1, Pt b1), (3, .eq v3), (4, I y6.2)]) (fun z7 y6 => [.obj b1 26 (.rep tChange a0), .sl v3 4 .bool y6.1]) (ref_changed_l1 k a0) k () (List.replicate (Int.toNat (a0.1.length : Int)) false, (0 : Int)) (fun _ => rfl) h (SE.fin [1, 0] ⟨rfl, rfl, rfl, trivial⟩ rfl) (fun n z7 y6 h => ?_);unfold ref_changed_l1 at h;refine JC.seq (sr (mq ?_));refine fl fo26_0 ?_;refine lo sz22 ?_;refine ol U22 ?_;refine jb (o_leq rfl) ?_;refine nt (ci h (fun h => ?_) (fun h => ?_))
  ·refine sk (JC.cutB (Z := Unit) (α := (List Bool)) (fun z9 x8 => [(1, Pt b1), (3, .eq v3), (4, I y6.2)]) (fun z9 x8 => [.obj b1 26 (.rep tChange a0), .sl v3 4 .bool x8]) h (fun K h => ?_) (fun z9 x8 h => ?_))
   ·refine JC.block (sr (cq (nt (JC.block ?_))));refine JC.loopB (Z := Unit) (α := (List Bool) × Int) (fun z11 y10 => [(1, Pt b1), (3, .eq v3), (4, I y6.2), (5, I y10.2)]) (fun z11 y10 => [.obj b1 26 (.rep tChange a0), .sl v3 4 .bool y10.1]) (ref_changed_l2 k a0) k () (y6.1, (0 : Int)) (fun _ => rfl) h (SE.fin [0, 1] ⟨rfl, rfl, rfl, rfl, trivial⟩ rfl) (fun n z11 y10 h => ?_);unfold ref_changed_l2 at h;refine JC.seq (sr (mq ?_));refine fl fo26_0 ?_;refine lo sz22 ?_;refine ol U22 ?_;refine jb (o_lss rfl) ?_;refine nt (ci h (fun h => ?_) (fun h => ?_))
    ·refine sk (JC.cutB (Z := Unit) (α := (List Bool)) (fun z13 x12 => [(1, Pt b1), (3, .eq v3), (4, I y6.2), (5, I y10.2)]) (fun z13 x12 => [.obj b1 26 (.rep tChange a0), .sl v3 4 .bool x12]) h (fun K h => ?_) (fun z13 x12 h => ?_))
     ·refine JC.block (JC.seq (JC.drawN ?_));refine da (o_field_obj rfl fo26_2) ?_;refine ea 0 (o_load_obj rfl sz24 nfs rfl) ?_;refine dm ?_;obtain ⟨r14, er14, h⟩ := b_bind h;refine db (o_call [.tmp 28, .tmp 29] rfl rfl en79 rfl (ref_has_ok k a0.2.2.1 y10.2 r14 er14)) ?_;refine da (o_field_obj rfl fo26_3) ?_;refine ea 0 (o_load_obj rfl sz24 nfs rfl) ?_;refine dm ?_;refine df mixed ?_;obtain ⟨r15, er15, h⟩ := b_bind h;refine jb (o_call [.tmp 32, .tmp 33] rfl rfl en79 rfl (ref_has_ok k a0.2.2.2 y10.2 r15 er15)) ?_;refine aq ?_;refine aq (nt ?_);refine JC.cutB (Z := Unit) (α := (List Bool)) (fun z17 x16 => [(1, Pt b1), (3, .eq v3), (4, I y6.2), (5, I y10.2), (6, .eq (.bool r14)), (7, .eq (.bool r15))]) (fun z17 x16 => [.obj b1 26 (.rep tChange a0), .sl v3 4 .bool x16]) h (fun K h => ?_) (fun z17 x16 h => ?_)
      ·refine sr ?_;iterate 2 refine mq ?_
       refine jb (o_neqb rfl U4) ?_;refine nt (cn h (fun h => ?_) (fun h => ?_))
       ·refine JC.region ?_;iterate 2 refine mq ?_
        obtain ⟨x18, ex18, h⟩ := b_bind h;refine fr 1 ?_;refine kb (o_index_own (t := .bool) rfl U111 sz4 ex18) ?_;refine JO.n11 rfl rfl (o_store_elW (i := Int.toNat y10.2) rfl sz4 rfl (geti_lt ex18) rfl .bool rfl) ⟨rfl, rfl, trivial⟩ ?_;refine nl ?_;exact jz ((), List.set y10.1 (Int.toNat y10.2) true) h [1, 0]
       ·refine JC.skip (JN.then_n ?_);exact jz ((), y10.1) h [0, 1]
      ·refine sr (cq (nt (JC.block ?_)));refine JC.loopB (Z := Unit) (α := (List Bool) × Int) (fun z20 y19 => [(1, Pt b1), (3, .eq v3), (4, I y6.2), (5, I y10.2), (6, .eq (.bool r14)), (7, .eq (.bool r15)), (8, I y19.2)]) (fun z20 y19 => [.obj b1 26 (.rep tChange a0), .sl v3 4 .bool y19.1]) (ref_changed_l3 k a0 y10 r14 r15) k () (x16, (0 : Int)) (fun _ => rfl) h (SE.fin [0, 1] ⟨rfl, rfl, rfl, rfl, rfl, rfl, rfl, trivial⟩ rfl) (fun n z20 y19 h => ?_);unfold ref_changed_l3 at h;refine JC.seq (JC.cutB (Z := Unit) (α := Bool) (fun z22 x21 => [(1, Pt b1), (3, .eq v3), (4, I y6.2), (5, I y10.2), (6, .eq (.bool r14)), (7, .eq (.bool r15)), (8, I y19.2), (51, .eq (.bool x21))]) (fun z22 x21 => [.obj b1 26 (.rep tChange a0), .sl v3 4 .bool y19.1]) h (fun K h => ?_) (fun z22 x21 h => ?_))
       ·refine JC.region (mq ?_);refine fl fo26_0 ?_;refine lo sz22 ?_;refine ol U22 ?_;refine jb (o_lss rfl) ?_;refine mq ?_;refine JO.bool (s := 46) rfl (fun hb => ?_) (fun hb => ?_)
        ·replace h := b_if (d_t hb) h;refine gm ?_;refine pt ?_;refine mq ?_;refine JO.bool (s := 49) rfl (fun hb => ?_) (fun hb => ?_)
         ·replace h := b_if (v_t hb) h;refine gm ?_;refine pt (nl ?_);exact jz ((), r15) h [0, 1]
         ·replace h := b_ifn (v_f hb) h;refine gn ?_;refine pf (nl ?_);exact jz ((), false) h [0, 1]
        ·replace h := b_ifn (d_f hb) h;refine gn ?_;refine pf ?_;refine mq ?_;refine gn ?_;refine pf (nl ?_);exact jz ((), false) h [0, 1]
       ·refine cv h (fun h => ?_) (fun h => ?_)
        ·refine sk (JC.cutB (Z := Unit) (α := (List Bool)) (fun z24 x23 => [(1, Pt b1), (3, .eq v3), (4, I y6.2), (5, I y10.2), (6, .eq (.bool r14)), (7, .eq (.bool r15)), (8, I y19.2)]) (fun z24 x23 => [.obj b1 26 (.rep tChange a0), .sl v3 4 .bool x23]) h (fun K h => ?_) (fun z24 x23 h => ?_))
         ·refine JC.block (JC.cutB (Z := Unit) (α := Bool) (fun z26 x25 => [(1, Pt b1), (3, .eq v3), (4, I y6.2), (5, I y10.2), (6, .eq (.bool r14)), (7, .eq (.bool r15)), (8, I y19.2), (67, .eq (.bool x25))]) (fun z26 x25 => [.obj b1 26 (.rep tChange a0), .sl v3 4 .bool y19.1]) h (fun K h => ?_) (fun z26 x25 h => ?_))
          ·refine JC.region ?_;iterate 2 refine mq ?_
           obtain ⟨x27, ex27, h⟩ := b_bind h;refine fr 1 ?_;refine kb (o_index_own (t := .bool) rfl U111 sz4 ex27) ?_;refine ka (o_load_el (i := Int.toNat y19.2) (off := 0) rfl sz4 (fun _ => rfl) rfl (geti_some ex27).2.2 rfl) ?_;refine mq ?_;refine JO.bool (s := 58) rfl (fun hb => ?_) (fun hb => ?_)
           ·replace h := b_if (v_t hb) h;refine ga (o_field_obj rfl fo26_0) ?_;refine fr 1 ?_;refine JO.g11 rfl rfl rfl rfl rfl rfl (o_load_obj rfl sz22 nfs rfl) ⟨rfl, trivial⟩ ?_;refine gm ?_;obtain ⟨x28, ex28, h⟩ := b_bind h;refine gb (o_index (t := tThing) rfl U22 sz74 ex28) ?_;refine ga (o_field_at 1 false rfl fo74_0 rfl) ?_;refine ga (o_load_at (t := (.slice (.int .i64))) rfl sz24 rfl) ?_;refine gm ?_;obtain ⟨r29, er29, h⟩ := b_bind h;refine gb (o_call [.tmp 64, .tmp 65] rfl rfl en79 rfl (ref_has_ok k x28.1 y10.2 r29 er29)) ?_;refine pt (nl ?_);exact jz ((), r29) h [0, 1]
           ·replace h := b_ifn (v_f hb) h;iterate 8 refine gn ?_
            refine pf (nl ?_);exact jz ((), false) h [1, 0]
          ·refine cv h (fun h => ?_) (fun h => ?_)
           ·refine JC.region ?_;iterate 2 refine mq ?_
            obtain ⟨x30, ex30, h⟩ := b_bind h;refine fr 1 ?_;refine kb (o_index_own (t := .bool) rfl U111 sz4 ex30) ?_;refine JO.n11 rfl rfl (o_store_elW (i := Int.toNat y10.2) rfl sz4 rfl (geti_lt ex30) rfl .bool rfl) ⟨rfl, rfl, trivial⟩ ?_;refine JO.nil (bn ?_);exact jz ((), List.set y19.1 (Int.toNat y10.2) true) h [1, 0]
           ·refine JC.skip (bn ?_);exact jz ((), y19.1) h [0, 1]
         ·refine JC.region (mq ?_);obtain ⟨x31, ex31, h⟩ := b_bind h;refine jb (o_add rfl ex31) ?_;refine aq (nl ?_);exact jz ((), (x23, x31)) h [0, 1]
        ·refine JC.exit (JN.then_x (JN.then_x (JN.blk_hit (bn ?_))));exact jz ((), y19.1) h [0, 1]
     ·refine JC.region (mq ?_);obtain ⟨x32, ex32, h⟩ := b_bind h;refine jb (o_add rfl ex32) ?_;refine aq (nl ?_);exact jz ((), (x12, x32)) h [0, 1]
    ·refine JC.exit (JN.then_x (JN.then_x (JN.blk_hit (bn ?_))));exact jz ((), y10.1) h [0, 1]
   ·refine JC.region (mq ?_);obtain ⟨x33, ex33, h⟩ := b_bind h;refine jb (o_add rfl ex33) ?_;refine aq (nl ?_);exact jz ((), (x8, x33)) h [0, 1]
  ·refine xa ?_;exact jz ((), y6.1) h [1]
 ·refine sr (mq ?_);refine aq (nt (JC.ret ?_));refine JN.se (SE.frz [2, 3, 71] ⟨rfl, rfl, rfl, trivial⟩) ?_;cases h;exact ra


def ref_tasks_l1 (k : Nat) (a0 : dChange) (r2 : (List Bool)) : Nat → ((List dTask) × Int) → Option (List dTask)
 | 0, _ => none
 | n + 1, y5 =>
  if y5.2 < (r2.length : Int) then ((((((geti r2 y5.2).bind fun x11 =>
  if x11 = true then ((ref_has k a0.2.2.1 y5.2).bind fun r12 =>
  some r12) else (some false)) : Option (Bool)).bind fun x9 =>
  if x9 = true then ((chkP (okLen (List.length y5.1 + List.length [(y5.2, false)]))).bind fun _ =>
  some (y5.1 ++ [(y5.2, false)])) else (some y5.1)) : Option ((List dTask))).bind fun x7 =>
  (ck (y5.2 + (1 : Int))).bind fun x15 =>
  ref_tasks_l1 k a0 r2 n (x7, x15)) else (some y5.1)

def ref_tasks_l2 (k : Nat) (a0 : dChange) (r2 : (List Bool)) : Nat → ((List dTask) × Int) → Option (List dTask)
 | 0, _ => none
 | n + 1, y18 =>
  if y18.2 < (r2.length : Int) then ((((((geti r2 y18.2).bind fun x24 =>
  if x24 = true then ((ref_has k a0.2.2.2 y18.2).bind fun r25 =>
  some r25) else (some false)) : Option (Bool)).bind fun x22 =>
  if x22 = true then ((chkP (okLen (List.length y18.1 + List.length [(y18.2, true)]))).bind fun _ =>
  some (y18.1 ++ [(y18.2, true)])) else (some y18.1)) : Option ((List dTask))).bind fun x20 =>
  (ck (y18.2 + (1 : Int))).bind fun x28 =>
  ref_tasks_l2 k a0 r2 n (x20, x28)) else (some y18.1)
def ref_tasks (k : Nat) (a0 : dChange) : Option (List dTask) :=
 (ref_changed k a0).bind fun r2 =>
 ((ref_tasks_l1 k a0 r2 k (([] : (List dTask)), (0 : Int))) : Option ((List dTask))).bind fun x3 =>
 ((ref_tasks_l2 k a0 r2 k (x3, (0 : Int))) : Option ((List dTask))).bind fun x16 =>
 some x16

theorem ref_tasks_ok (k : Nat) (a0 : dChange) (r : (List dTask)) (h : ref_tasks k a0 = some r) :
 Ctr Tryz.prog 61 [.rep tChange a0] [] (fun _ : Unit => (resA [Rs tTask r], [])) := by
 unfold ref_tasks at h;replace h := b_top h;refine Ctr.of 52 Tryz.func61 rfl Tryz.ntmps61 rfl fun S w0 => ?_;refine sr (bx fun b1 => ?_);refine cq (nt (sr ?_));refine cq (nt (sr ?_));refine lo sz26 ?_;obtain ⟨r2, er2, h⟩ := b_bind h;refine ja (o_call [.tmp 7] rfl rfl en105 rfl (ref_changed_ok k a0 r2 er2)) ?_;refine aq (nt ?_);refine JC.cutB (Z := Value) (α := (List dTask)) (fun z4 x3 => [(1, Pt b1), (3, .eq z4), (4, .rep (.slice .bool) r2)]) (fun z4 x3 => [.obj b1 26 (.rep tChange a0), .sl z4 116 tTask x3]) h (fun K h => ?_) (fun z4 x3 h => ?_)
 ·refine sr (cq (nt (JC.block ?_)));refine JC.se (SE.nil 116 tTask) ?_;refine JC.loopB (Z := Value) (α := (List dTask) × Int) (fun z6 y5 => [(1, Pt b1), (3, .eq z6), (4, .rep (.slice .bool) r2), (5, I y5.2)]) (fun z6 y5 => [.obj b1 26 (.rep tChange a0), .sl z6 116 tTask y5.1]) (ref_tasks_l1 k a0 r2) k (.slice none 0 0) (([] : (List dTask)), (0 : Int)) (fun _ => rfl) h (SE.fin [1, 0] ⟨rfl, rfl, rfl, rfl, trivial⟩ rfl) (fun n z6 y5 h => ?_);unfold ref_tasks_l1 at h;refine JC.seq (sr ?_);iterate 2 refine mq ?_
  refine ol U111 ?_;refine jb (o_lss rfl) ?_;refine nt (ci h (fun h => ?_) (fun h => ?_))
  ·refine sk (JC.cutB (Z := Value) (α := (List dTask)) (fun z8 x7 => [(1, Pt b1), (3, .eq z8), (4, .rep (.slice .bool) r2), (5, I y5.2)]) (fun z8 x7 => [.obj b1 26 (.rep tChange a0), .sl z8 116 tTask x7]) h (fun K h => ?_) (fun z8 x7 h => ?_))
   ·refine JC.block (JC.cutB (Z := Unit) (α := Bool) (fun z10 x9 => [(1, Pt b1), (3, .eq z6), (4, .rep (.slice .bool) r2), (5, I y5.2), (24, .eq (.bool x9))]) (fun z10 x9 => [.obj b1 26 (.rep tChange a0), .sl z6 116 tTask y5.1]) h (fun K h => ?_) (fun z10 x9 h => ?_))
    ·refine JC.region ?_;iterate 2 refine mq ?_
     obtain ⟨x11, ex11, h⟩ := b_bind h;refine jb (o_index (t := .bool) rfl U111 sz4 ex11) ?_;refine ja (o_load_at (t := .bool) rfl sz4 rfl) ?_;refine mq ?_;refine JO.bool (s := 19) rfl (fun hb => ?_) (fun hb => ?_)
     ·replace h := b_if (v_t hb) h;refine ga (o_field_obj rfl fo26_2) ?_;refine JO.g11 rfl rfl rfl rfl rfl rfl (o_load_obj rfl sz24 nfs rfl) ⟨rfl, trivial⟩ ?_;refine gm ?_;obtain ⟨r12, er12, h⟩ := b_bind h;refine gb (o_call [.tmp 21, .tmp 22] rfl rfl en79 rfl (ref_has_ok k a0.2.2.1 y5.2 r12 er12)) ?_;refine pt (nl ?_);exact jz ((), r12) h [0, 1]
     ·replace h := b_ifn (v_f hb) h;iterate 4 refine gn ?_
      refine pf (nl ?_);exact jz ((), false) h [0, 1]
    ·refine cv h (fun h => ?_) (fun h => ?_)
     ·refine JC.region ?_;iterate 2 refine mq ?_
      refine ja (o_buildT [(0, .tmp 26, _)] rfl pl116 za116 alb116 (stors ⟨rfl, trivial⟩) rfl) ?_;refine ja (o_litB (t := tTask) [(.tmp 27, _)] [(y5.2, false)] rfl rfl sl112 (.cons trivial (.agg (.pair .int .bool)) .nil) rfl rfl) ?_;obtain ⟨u13, eu13, h⟩ := b_bind h;refine fr 1 ?_;refine JO.s1x rfl rfl rfl (o_append rfl rfl sl112 (chkP_some eu13)) ⟨rfl, rfl, trivial⟩ fun v14 => ?_;refine aq (JO.nil (bn ?_));exact jz (v14, y5.1 ++ [(y5.2, false)]) h [1, 0]
     ·refine JC.skip (bn ?_);exact jz (z6, y5.1) h [0, 1]
   ·refine JC.region (mq ?_);obtain ⟨x15, ex15, h⟩ := b_bind h;refine jb (o_add rfl ex15) ?_;refine aq (nl ?_);exact jz (z8, (x7, x15)) h [0, 1]
  ·refine xa ?_;exact jz (z6, y5.1) h [0, 1]
 ·refine JC.cutB (Z := Value) (α := (List dTask)) (fun z17 x16 => [(3, .eq z17)]) (fun z17 x16 => [.sl z17 116 tTask x16]) h (fun K h => ?_) (fun z17 x16 h => ?_)
  ·refine sr (cq (nt (JC.block ?_)));refine JC.loopB (Z := Value) (α := (List dTask) × Int) (fun z19 y18 => [(1, Pt b1), (3, .eq z19), (4, .rep (.slice .bool) r2), (6, I y18.2)]) (fun z19 y18 => [.obj b1 26 (.rep tChange a0), .sl z19 116 tTask y18.1]) (ref_tasks_l2 k a0 r2) k z4 (x3, (0 : Int)) (fun _ => rfl) h (SE.fin [0, 1] ⟨rfl, rfl, rfl, rfl, trivial⟩ rfl) (fun n z19 y18 h => ?_);unfold ref_tasks_l2 at h;refine JC.seq (sr ?_);iterate 2 refine mq ?_
   refine ol U111 ?_;refine jb (o_lss rfl) ?_;refine nt (ci h (fun h => ?_) (fun h => ?_))
   ·refine sk (JC.cutB (Z := Value) (α := (List dTask)) (fun z21 x20 => [(1, Pt b1), (3, .eq z21), (4, .rep (.slice .bool) r2), (6, I y18.2)]) (fun z21 x20 => [.obj b1 26 (.rep tChange a0), .sl z21 116 tTask x20]) h (fun K h => ?_) (fun z21 x20 h => ?_))
    ·refine JC.block (JC.cutB (Z := Unit) (α := Bool) (fun z23 x22 => [(1, Pt b1), (3, .eq z19), (4, .rep (.slice .bool) r2), (6, I y18.2), (45, .eq (.bool x22))]) (fun z23 x22 => [.obj b1 26 (.rep tChange a0), .sl z19 116 tTask y18.1]) h (fun K h => ?_) (fun z23 x22 h => ?_))
     ·refine JC.region ?_;iterate 2 refine mq ?_
      obtain ⟨x24, ex24, h⟩ := b_bind h;refine jb (o_index (t := .bool) rfl U111 sz4 ex24) ?_;refine ja (o_load_at (t := .bool) rfl sz4 rfl) ?_;refine mq ?_;refine JO.bool (s := 40) rfl (fun hb => ?_) (fun hb => ?_)
      ·replace h := b_if (v_t hb) h;refine ga (o_field_obj rfl fo26_3) ?_;refine JO.g11 rfl rfl rfl rfl rfl rfl (o_load_obj rfl sz24 nfs rfl) ⟨rfl, trivial⟩ ?_;refine gm ?_;obtain ⟨r25, er25, h⟩ := b_bind h;refine gb (o_call [.tmp 42, .tmp 43] rfl rfl en79 rfl (ref_has_ok k a0.2.2.2 y18.2 r25 er25)) ?_;refine pt (nl ?_);exact jz ((), r25) h [0, 1]
      ·replace h := b_ifn (v_f hb) h;iterate 4 refine gn ?_
       refine pf (nl ?_);exact jz ((), false) h [0, 1]
     ·refine cv h (fun h => ?_) (fun h => ?_)
      ·refine JC.region ?_;iterate 2 refine mq ?_
       refine jb (o_buildT [(0, .tmp 47, _), (1, .const (.bool true), _)] rfl pl116 za116 alb116 (stors ⟨rfl, rfl, trivial⟩) rfl) ?_;refine ja (o_litB (t := tTask) [(.tmp 48, _)] [(y18.2, true)] rfl rfl sl112 (.cons trivial (.agg (.pair .int .bool)) .nil) rfl rfl) ?_;obtain ⟨u26, eu26, h⟩ := b_bind h;refine fr 1 ?_;refine JO.s1x rfl rfl rfl (o_append rfl rfl sl112 (chkP_some eu26)) ⟨rfl, rfl, trivial⟩ fun v27 => ?_;refine aq (JO.nil (bn ?_));exact jz (v27, y18.1 ++ [(y18.2, true)]) h [1, 0]
      ·refine JC.skip (bn ?_);exact jz (z19, y18.1) h [0, 1]
    ·refine JC.region (mq ?_);obtain ⟨x28, ex28, h⟩ := b_bind h;refine jb (o_add rfl ex28) ?_;refine aq (nl ?_);exact jz (z21, (x20, x28)) h [0, 1]
   ·refine xa ?_;exact jz (z19, y18.1) h [1]
  ·refine sr (mq ?_);refine aq (nt (JC.ret ?_));refine JN.se (SE.frz [2, 3, 51] ⟨rfl, rfl, rfl, trivial⟩) ?_;cases h;exact ra


def ref_sized (k : Nat) (a0 : Int) (a1 : Int) : Option Int :=
 if a0 = (0 : Int) then (some (7 : Int)) else (if a1 < a0 then (some (6 : Int)) else (some (0 : Int)))

theorem ref_sized_ok (k : Nat) (a0 : Int) (a1 : Int) (r : Int) (h : ref_sized k a0 a1 = some r) :
 Ctr Tryz.prog 70 [I a0, I a1] [] (fun _ : Unit => (resA [I r], [])) := by
 unfold ref_sized at h;replace h := b_top h;refine Ctr.of 10 Tryz.func70 rfl Tryz.ntmps70 rfl fun S w0 => ?_;refine sr (cq (nt (JC.seq (sr ?_))));refine mq ?_;refine jb (o_eql rfl) ?_;refine nt (ci h (fun h => ?_) (fun h => ?_))
 ·refine sr (cq (nt (rx ?_)));cases h;exact ra
 ·refine sk (JC.seq (sr ?_));iterate 2 refine mq ?_
  refine jb (o_gtr rfl) ?_;refine nt (ci h (fun h => ?_) (fun h => ?_))
  ·refine sr (cq (nt (rx ?_)));cases h;exact ra
  ·refine sk (sr (cq (nt (JC.ret ?_))));cases h;exact ra


def ref_inside (k : Nat) (a0 : Int) (a1 : Int) (a2 : Int) : Option Bool :=
 ((if a1 ≤ a0 then (some (decide (a0 ≤ a2))) else (some false)) : Option (Bool)).bind fun x1 =>
 some x1

theorem ref_inside_ok (k : Nat) (a0 : Int) (a1 : Int) (a2 : Int) (r : Bool) (h : ref_inside k a0 a1 a2 = some r) :
 Ctr Tryz.prog 71 [I a0, I a1, I a2] [] (fun _ : Unit => (resA [.eq (.bool r)], [])) := by
 unfold ref_inside at h;replace h := b_top h;refine Ctr.of 15 Tryz.func71 rfl Tryz.ntmps71 rfl fun S w0 => ?_;refine sr (cq (nt ?_));refine JC.cutB (Z := Unit) (α := Bool) (fun z2 x1 => [(6, .eq (.bool x1))]) (fun z2 x1 => []) h (fun K h => ?_) (fun z2 x1 h => ?_)
 ·refine JC.region ?_;iterate 2 refine mq ?_
  refine jb (o_geq rfl) ?_;refine mq ?_;refine JO.bool (s := 10) rfl (fun hb => ?_) (fun hb => ?_)
  ·replace h := b_if (d_t hb) h;refine gm ?_;refine gm ?_;refine gb (o_leq rfl) ?_;refine pt ?_;refine aq (nl ?_);exact jz ((), decide (a0 ≤ a2)) h []
  ·replace h := b_ifn (d_f hb) h;iterate 3 refine gn ?_
   refine pf ?_;refine aq (nl ?_);exact jz ((), false) h []
 ·refine JC.ret ?_;cases h;exact ra


def ref_things_l1 (k : Nat) (a0 : dChange) (a1 : (List Int)) (a2 : Int) : Nat → Int → Option (Except Int Unit)
 | 0, _ => none
 | n + 1, y4 =>
  if y4 < (a1.length : Int) then ((((geti a1 y4).bind fun x8 =>
  (ck ((a0.1.length : Int) - (1 : Int))).bind fun x9 =>
  (ref_inside k x8 (0 : Int) x9).bind fun r10 =>
  if ¬ (r10 = true) then (some true) else ((geti a1 y4).bind fun x11 =>
  some (decide (x11 = a2)))) : Option (Bool)).bind fun x6 =>
  if x6 = true then (some (.error (3 : Int))) else (((if (0 : Int) < y4 then ((geti a1 y4).bind fun x14 =>
  (ck (y4 - (1 : Int))).bind fun x15 =>
  (geti a1 x15).bind fun x16 =>
  some (decide (x14 ≤ x16))) else (some false)) : Option (Bool)).bind fun x12 =>
  if x12 = true then (some (.error (5 : Int))) else ((ck (y4 + (1 : Int))).bind fun x17 =>
  ref_things_l1 k a0 a1 a2 n x17))) else (some (.ok ()))
def ref_things (k : Nat) (a0 : dChange) (a1 : (List Int)) (a2 : Int) : Option Int :=
 bE (α := Unit) (ref_things_l1 k a0 a1 a2 k (0 : Int)) (some) fun _ =>
 some (0 : Int)

theorem ref_things_ok (k : Nat) (a0 : dChange) (a1 : (List Int)) (a2 : Int) (r : Int) (h : ref_things k a0 a1 a2 = some r) :
 Ctr Tryz.prog 116 [.rep tChange a0, Ri a1, I a2] [] (fun _ : Unit => (resA [I r], [])) := by
 unfold ref_things at h;replace h := b_top h;refine Ctr.of 46 Tryz.func116 rfl Tryz.ntmps116 rfl fun S w0 => ?_;refine sr (bx fun b1 => ?_);refine cq (nt ?_);refine JC.cutE (Z := Unit) (α := Unit) (fun z3 x2 => []) (fun z3 x2 => []) (fun e => e = r) h (fun e h => Option.some.inj h) (fun K hR h => ?_) (fun z3 x2 h => ?_)
 ·refine sr (cq (nt (JC.block ?_)));refine JC.loopB (Z := Unit) (α := Int) (fun z5 y4 => [(1, Ri a1), (2, I a2), (3, Pt b1), (7, I y4)]) (fun z5 y4 => [.obj b1 26 (.rep tChange a0)]) (ref_things_l1 k a0 a1 a2) k () (0 : Int) (fun _ => rfl) h (SE.fin [0] ⟨rfl, rfl, rfl, rfl, trivial⟩ rfl) (fun n z5 y4 h => ?_);unfold ref_things_l1 at h;refine JC.seq (sr ?_);iterate 2 refine mq ?_
  refine ol U24 ?_;refine jb (o_lss rfl) ?_;refine nt (ci h (fun h => ?_) (fun h => ?_))
  ·refine sk (JC.seq (JC.block (JC.seq (JC.cutB (Z := Unit) (α := Bool) (fun z7 x6 => [(1, Ri a1), (2, I a2), (3, Pt b1), (7, I y4), (31, .eq (.bool x6))]) (fun z7 x6 => [.obj b1 26 (.rep tChange a0)]) h (fun K h => ?_) (fun z7 x6 h => ?_)))))
   ·refine JC.drawN ?_;refine dm ?_;refine dm ?_;obtain ⟨x8, ex8, h⟩ := b_bind h;refine db (o_index (t := (.int .i64)) rfl U24 sz3 ex8) ?_;refine da (o_load_at (t := (.int .i64)) rfl sz3 rfl) ?_;refine da (o_field_obj rfl fo26_0) ?_;refine ea 0 (o_load_obj rfl sz22 nfs rfl) ?_;refine da (o_len rfl rfl U22) ?_;obtain ⟨x9, ex9, h⟩ := b_bind h;refine db (o_sub rfl ex9) ?_;obtain ⟨r10, er10, h⟩ := b_bind h;refine dc (o_call [.tmp 17, .const (.int .i64 (0)), .tmp 21] rfl rfl en71 rfl (ref_inside_ok k x8 (0 : Int) x9 r10 er10)) ?_;refine da (o_not rfl) ?_;refine DN.fork rfl rfl rfl (o_move rfl) ⟨rfl, trivial⟩ (fun hb => ?_) (fun hb => ?_)
    ·replace h := b_if (nv_t hb) h;iterate 5 refine dg ?_
     refine df mixed ?_;refine gn ?_;refine pt (nl ?_);exact jz ((), true) h [0]
    ·replace h := b_ifn (nv_fn hb) h;refine DN.sg00 rfl rfl rfl rfl rfl (o_move rfl) ⟨rfl, rfl, trivial⟩ ?_;refine DN.sg00 rfl rfl rfl rfl rfl (o_move rfl) ⟨rfl, rfl, trivial⟩ ?_;obtain ⟨x11, ex11, h⟩ := b_bind h;refine DN.sg00 rfl rfl rfl rfl rfl (o_index (t := (.int .i64)) rfl U24 sz3 ex11) ⟨rfl, rfl, rfl, trivial⟩ ?_;refine DN.sg00 rfl rfl rfl rfl rfl (o_load_at (t := (.int .i64)) rfl sz3 rfl) ⟨rfl, rfl, trivial⟩ ?_;refine DN.sg00 rfl rfl rfl rfl rfl (o_move rfl) ⟨rfl, rfl, trivial⟩ ?_;refine df mixed ?_;refine gb (o_eql rfl) ?_;refine pf (nl ?_);exact jz ((), decide (x11 = a2)) h [0]
   ·refine cv h (fun h => ?_) (fun h => ?_)
    ·refine sr (cq (nt (rx (br (JN.blk_r (JN.then_r ?_))))));obtain rfl := hR _ h;exact ra
    ·refine sk (JC.cutB (Z := Unit) (α := Bool) (fun z13 x12 => [(1, Ri a1), (2, I a2), (3, Pt b1), (7, I y4), (45, .eq (.bool x12))]) (fun z13 x12 => [.obj b1 26 (.rep tChange a0)]) h (fun K h => ?_) (fun z13 x12 h => ?_))
     ·refine JC.drawN ?_;refine dm ?_;refine db (o_gtr rfl) ?_;refine DN.fork rfl rfl rfl (o_move rfl) ⟨rfl, trivial⟩ (fun hb => ?_) (fun hb => ?_)
      ·replace h := b_if (d_t hb) h;refine DN.sg00 rfl rfl rfl rfl rfl (o_move rfl) ⟨rfl, rfl, trivial⟩ ?_;refine DN.sg00 rfl rfl rfl rfl rfl (o_move rfl) ⟨rfl, rfl, trivial⟩ ?_;obtain ⟨x14, ex14, h⟩ := b_bind h;refine DN.sg00 rfl rfl rfl rfl rfl (o_index (t := (.int .i64)) rfl U24 sz3 ex14) ⟨rfl, rfl, rfl, trivial⟩ ?_;refine DN.sg00 rfl rfl rfl rfl rfl (o_load_at (t := (.int .i64)) rfl sz3 rfl) ⟨rfl, rfl, trivial⟩ ?_;refine DN.sg00 rfl rfl rfl rfl rfl (o_move rfl) ⟨rfl, rfl, trivial⟩ ?_;refine DN.sg00 rfl rfl rfl rfl rfl (o_move rfl) ⟨rfl, rfl, trivial⟩ ?_;obtain ⟨x15, ex15, h⟩ := b_bind h;refine DN.sg00 rfl rfl rfl rfl rfl (o_sub rfl ex15) ⟨rfl, rfl, rfl, trivial⟩ ?_;obtain ⟨x16, ex16, h⟩ := b_bind h;refine DN.sg00 rfl rfl rfl rfl rfl (o_index (t := (.int .i64)) rfl U24 sz3 ex16) ⟨rfl, rfl, rfl, trivial⟩ ?_;refine DN.sg00 rfl rfl rfl rfl rfl (o_load_at (t := (.int .i64)) rfl sz3 rfl) ⟨rfl, rfl, trivial⟩ ?_;refine df mixed ?_;refine gb (o_leq rfl) ?_;refine pt (nl ?_);exact jz ((), decide (x14 ≤ x16)) h [0]
      ·replace h := b_ifn (d_f hb) h;iterate 9 refine dg ?_
       refine df mixed ?_;refine gn ?_;refine pf (nl ?_);exact jz ((), false) h [0]
     ·refine cv h (fun h => ?_) (fun h => ?_)
      ·refine sr (cq (nt (JC.ret (br (JN.blk_r (JN.then_r ?_))))));obtain rfl := hR _ h;exact ra
      ·refine JC.skip (JN.blk_n (tn (JC.region (mq ?_))));obtain ⟨x17, ex17, h⟩ := b_bind h;refine jb (o_add rfl ex17) ?_;refine aq (nl ?_);exact jz ((), x17) h [0]
  ·refine xa ?_;exact jz ((), ()) h []
 ·refine sr (cq (nt (JC.ret ?_)));cases h;exact ra


def ref_ring_l3 (k : Nat) (a0 : dChange) (y10 : (List Bool) × Int) : Nat → ((List Bool) × Int) → Option (List Bool)
 | 0, _ => none
 | n + 1, y17 =>
  (geti a0.1 y10.2).bind fun x19 =>
  if y17.2 < (x19.1.length : Int) then ((geti a0.1 y10.2).bind fun x20 =>
  (geti x20.1 y17.2).bind fun x21 =>
  (geti y17.1 x21).bind fun x22 =>
  (ck (y17.2 + (1 : Int))).bind fun x23 =>
  ref_ring_l3 k a0 y10 n (List.set y17.1 (Int.toNat x21) true, x23)) else (some y17.1)

def ref_ring_l2 (k : Nat) (a0 : dChange) (a1 : Int) : Nat → ((List Bool) × Int) → Option (List Bool)
 | 0, _ => none
 | n + 1, y10 =>
  if y10.2 < (a0.1.length : Int) then (((((if ¬ (y10.2 = a1) then ((geti y10.1 y10.2).bind fun x16 =>
  some (!x16)) else (some false)) : Option (Bool)).bind fun x14 =>
  if x14 = true then (some y10.1) else (ref_ring_l3 k a0 y10 k (y10.1, (0 : Int)))) : Option ((List Bool))).bind fun x12 =>
  (ck (y10.2 + (1 : Int))).bind fun x24 =>
  ref_ring_l2 k a0 a1 n (x12, x24)) else (some y10.1)

def ref_ring_l1 (k : Nat) (a0 : dChange) (a1 : Int) : Nat → ((List Bool) × Int) → Option (List Bool)
 | 0, _ => none
 | n + 1, y6 =>
  if y6.2 < (a0.1.length : Int) then (((ref_ring_l2 k a0 a1 k (y6.1, (0 : Int))) : Option ((List Bool))).bind fun x8 =>
  (ck (y6.2 + (1 : Int))).bind fun x25 =>
  ref_ring_l1 k a0 a1 n (x8, x25)) else (some y6.1)
def ref_ring (k : Nat) (a0 : dChange) (a1 : Int) : Option Bool :=
 (chkP (0 ≤ (a0.1.length : Int) ∧ okLen (Int.toNat (a0.1.length : Int)))).bind fun _ =>
 ((ref_ring_l1 k a0 a1 k (List.replicate (Int.toNat (a0.1.length : Int)) false, (0 : Int))) : Option ((List Bool))).bind fun x4 =>
 (geti x4 a1).bind fun x26 =>
 some x26

theorem ref_ring_ok (k : Nat) (a0 : dChange) (a1 : Int) (r : Bool) (h : ref_ring k a0 a1 = some r) :
 Ctr Tryz.prog 117 [.rep tChange a0, I a1] [] (fun _ : Unit => (resA [.eq (.bool r)], [])) := by
 unfold ref_ring at h;replace h := b_top h;refine Ctr.of 63 Tryz.func117 rfl Tryz.ntmps117 rfl fun S w0 => ?_;refine sr (bx fun b1 => ?_);refine cq (nt (sr ?_));refine fl fo26_0 ?_;refine lo sz22 ?_;refine ol U22 ?_;obtain ⟨u2, eu2, h⟩ := b_bind h;refine JO.s01 rfl rfl rfl (o_make (t := .bool) (d := false) rfl sl111 zr4 (chkP_some eu2).1 (chkP_some eu2).2) ⟨rfl, rfl, trivial⟩ fun v3 => ?_;refine aq (nt ?_);refine JC.cutB (Z := Unit) (α := (List Bool)) (fun z5 x4 => [(1, I a1), (5, .eq v3)]) (fun z5 x4 => [.sl v3 4 .bool x4]) h (fun K h => ?_) (fun z5 x4 h => ?_)
 ·refine sr (cq (nt (JC.block ?_)));refine JC.loopB (Z := Unit) (α := (List Bool) × Int) (fun z7 y6 => [(1, I a1), (2, Pt b1), (5, .eq v3), (6, I y6.2)]) (fun z7 y6 => [.obj b1 26 (.rep tChange a0), .sl v3 4 .bool y6.1]) (ref_ring_l1 k a0 a1) k () (List.replicate (Int.toNat (a0.1.length : Int)) false, (0 : Int)) (fun _ => rfl) h (SE.fin [1, 0] ⟨rfl, rfl, rfl, rfl, trivial⟩ rfl) (fun n z7 y6 h => ?_);unfold ref_ring_l1 at h;refine JC.seq (sr (mq ?_));refine fl fo26_0 ?_;refine lo sz22 ?_;refine ol U22 ?_;refine jb (o_lss rfl) ?_;refine nt (ci h (fun h => ?_) (fun h => ?_))
  ·refine sk (JC.cutB (Z := Unit) (α := (List Bool)) (fun z9 x8 => [(1, I a1), (2, Pt b1), (5, .eq v3), (6, I y6.2)]) (fun z9 x8 => [.obj b1 26 (.rep tChange a0), .sl v3 4 .bool x8]) h (fun K h => ?_) (fun z9 x8 h => ?_))
   ·refine JC.block (sr (cq (nt (JC.block ?_))));refine JC.loopB (Z := Unit) (α := (List Bool) × Int) (fun z11 y10 => [(1, I a1), (2, Pt b1), (5, .eq v3), (6, I y6.2), (7, I y10.2)]) (fun z11 y10 => [.obj b1 26 (.rep tChange a0), .sl v3 4 .bool y10.1]) (ref_ring_l2 k a0 a1) k () (y6.1, (0 : Int)) (fun _ => rfl) h (SE.fin [0, 1] ⟨rfl, rfl, rfl, rfl, rfl, trivial⟩ rfl) (fun n z11 y10 h => ?_);unfold ref_ring_l2 at h;refine JC.seq (sr (mq ?_));refine fl fo26_0 ?_;refine lo sz22 ?_;refine ol U22 ?_;refine jb (o_lss rfl) ?_;refine nt (ci h (fun h => ?_) (fun h => ?_))
    ·refine sk (JC.cutB (Z := Unit) (α := (List Bool)) (fun z13 x12 => [(1, I a1), (2, Pt b1), (5, .eq v3), (6, I y6.2), (7, I y10.2)]) (fun z13 x12 => [.obj b1 26 (.rep tChange a0), .sl v3 4 .bool x12]) h (fun K h => ?_) (fun z13 x12 h => ?_))
     ·refine JC.block (JC.seq (JC.cutB (Z := Unit) (α := Bool) (fun z15 x14 => [(1, I a1), (2, Pt b1), (5, .eq v3), (6, I y6.2), (7, I y10.2), (36, .eq (.bool x14))]) (fun z15 x14 => [.obj b1 26 (.rep tChange a0), .sl v3 4 .bool y10.1]) h (fun K h => ?_) (fun z15 x14 h => ?_)))
      ·refine JC.region ?_;iterate 2 refine mq ?_
       refine jb (o_neq rfl) ?_;refine mq ?_;refine JO.bool (s := 30) rfl (fun hb => ?_) (fun hb => ?_)
       ·replace h := b_if (n_t hb) h;refine gm ?_;refine gm ?_;obtain ⟨x16, ex16, h⟩ := b_bind h;refine fr 1 ?_;refine JO.g11 rfl rfl rfl rfl rfl rfl (o_index_own (t := .bool) rfl U111 sz4 ex16) ⟨rfl, rfl, trivial⟩ ?_;refine JO.g11 rfl rfl rfl rfl rfl rfl (o_load_el (i := Int.toNat y10.2) (off := 0) rfl sz4 (fun _ => rfl) rfl (geti_some ex16).2.2 rfl) ⟨rfl, trivial⟩ ?_;refine ga (o_not rfl) ?_;refine pt (nl ?_);exact jz ((), !x16) h [1, 0]
       ·replace h := b_ifn (n_fn hb) h;iterate 5 refine gn ?_
        refine pf (nl ?_);exact jz ((), false) h [0, 1]
      ·refine cv h (fun h => ?_) (fun h => ?_)
       ·refine JC.exit (JN.then_x (JN.blk_hit (JN.then_n ?_)));exact jz ((), y10.1) h [0, 1]
       ·refine sk (sr (cq (nt (JC.block ?_))));refine JC.loopB (Z := Unit) (α := (List Bool) × Int) (fun z18 y17 => [(1, I a1), (2, Pt b1), (5, .eq v3), (6, I y6.2), (7, I y10.2), (8, I y17.2)]) (fun z18 y17 => [.obj b1 26 (.rep tChange a0), .sl v3 4 .bool y17.1]) (ref_ring_l3 k a0 y10) k () (y10.1, (0 : Int)) (fun _ => rfl) h (SE.fin [0, 1] ⟨rfl, rfl, rfl, rfl, rfl, rfl, trivial⟩ rfl) (fun n z18 y17 h => ?_);unfold ref_ring_l3 at h;refine JC.seq (sr (mq ?_));refine fl fo26_0 ?_;refine lo sz22 ?_;refine mq ?_;obtain ⟨x19, ex19, h⟩ := b_bind h;refine jb (o_index (t := tThing) rfl U22 sz74 ex19) ?_;refine ja (o_field_at 1 false rfl fo74_0 rfl) ?_;refine ja (o_load_at (t := (.slice (.int .i64))) rfl sz24 rfl) ?_;refine ol U24 ?_;refine jb (o_lss rfl) ?_;refine nt (ci h (fun h => ?_) (fun h => ?_))
        ·refine sk (JC.seq (JC.block (JC.region (mq ?_))));refine fl fo26_0 ?_;refine lo sz22 ?_;refine mq ?_;obtain ⟨x20, ex20, h⟩ := b_bind h;refine jb (o_index (t := tThing) rfl U22 sz74 ex20) ?_;refine ja (o_field_at 1 false rfl fo74_0 rfl) ?_;refine ja (o_load_at (t := (.slice (.int .i64))) rfl sz24 rfl) ?_;refine mq ?_;obtain ⟨x21, ex21, h⟩ := b_bind h;refine jb (o_index (t := (.int .i64)) rfl U24 sz3 ex21) ?_;refine ja (o_load_at (t := (.int .i64)) rfl sz3 rfl) ?_;obtain ⟨x22, ex22, h⟩ := b_bind h;refine fr 1 ?_;refine kb (o_index_own (t := .bool) rfl U111 sz4 ex22) ?_;refine JO.n11 rfl rfl (o_store_elW (i := Int.toNat x21) rfl sz4 rfl (geti_lt ex22) rfl .bool rfl) ⟨rfl, rfl, trivial⟩ ?_;refine JO.nil (JN.blk_n (tn (JC.region (mq ?_))));obtain ⟨x23, ex23, h⟩ := b_bind h;refine jb (o_add rfl ex23) ?_;refine aq (nl ?_);exact jz ((), (List.set y17.1 (Int.toNat x21) true, x23)) h [1, 0]
        ·refine JC.exit (JN.then_x (JN.then_x (JN.blk_hit (bn ?_))));exact jz ((), y17.1) h [0, 1]
     ·refine JC.region (mq ?_);obtain ⟨x24, ex24, h⟩ := b_bind h;refine jb (o_add rfl ex24) ?_;refine aq (nl ?_);exact jz ((), (x12, x24)) h [0, 1]
    ·refine JC.exit (JN.then_x (JN.then_x (JN.blk_hit (bn ?_))));exact jz ((), y10.1) h [0, 1]
   ·refine JC.region (mq ?_);obtain ⟨x25, ex25, h⟩ := b_bind h;refine jb (o_add rfl ex25) ?_;refine aq (nl ?_);exact jz ((), (x8, x25)) h [0, 1]
  ·refine xa ?_;exact jz ((), y6.1) h [1]
 ·refine sr ?_;iterate 2 refine mq ?_
  obtain ⟨x26, ex26, h⟩ := b_bind h;refine kb (o_index_own (t := .bool) rfl U111 sz4 ex26) ?_;refine ka (o_load_el (i := Int.toNat a1) (off := 0) rfl sz4 (fun _ => rfl) rfl (geti_some ex26).2.2 rfl) ?_;refine aq (nt (JC.ret ?_));cases h;exact ra


def ref_Check_l1 (k : Nat) (a0 : dChange) : Nat → Int → Option (Except Int Unit)
 | 0, _ => none
 | n + 1, y5 =>
  if y5 < (a0.1.length : Int) then ((geti a0.1 y5).bind fun x7 =>
  (ref_things k a0 x7.1 y5).bind fun r9 =>
  if ¬ (r9 = (0 : Int)) then (some (.error r9)) else ((((ref_inside k x7.2.1 (1 : Int) (4 : Int)).bind fun r12 =>
  if ¬ (r12 = true) then (some true) else ((ref_inside k x7.2.2.1 (1 : Int) (4 : Int)).bind fun r13 =>
  some (!r13))) : Option (Bool)).bind fun x10 =>
  if x10 = true then (some (.error (1 : Int))) else ((ref_inside k x7.2.2.2.1 (0 : Int) (2 : Int)).bind fun r14 =>
  if ¬ (r14 = true) then (some (.error (8 : Int))) else ((ref_inside k x7.2.2.2.2 (0 : Int) (30 : Int)).bind fun r15 =>
  if ¬ (r15 = true) then (some (.error (1 : Int))) else ((ck (y5 + (1 : Int))).bind fun x16 =>
  ref_Check_l1 k a0 n x16))))) else (some (.ok ()))

def ref_Check_l2 (k : Nat) (a0 : dChange) : Nat → Int → Option (Except Int Unit)
 | 0, _ => none
 | n + 1, y19 =>
  if y19 < (a0.1.length : Int) then ((ref_ring k a0 y19).bind fun r21 =>
  if r21 = true then (some (.error (9 : Int))) else ((ck (y19 + (1 : Int))).bind fun x22 =>
  ref_Check_l2 k a0 n x22)) else (some (.ok ()))

def ref_Check_l3 (k : Nat) (a0 : dChange) : Nat → Int → Option (Except Int Unit)
 | 0, _ => none
 | n + 1, y26 =>
  if y26 < (a0.2.1.length : Int) then ((geti a0.2.1 y26).bind fun x28 =>
  (ref_things k a0 x28.1 (-1 : Int)).bind fun r30 =>
  if ¬ (r30 = (0 : Int)) then (some (.error r30)) else ((ref_inside k x28.2.1 (0 : Int) (2 : Int)).bind fun r31 =>
  if ¬ (r31 = true) then (some (.error (8 : Int))) else ((ref_inside k x28.2.2 (0 : Int) (9 : Int)).bind fun r32 =>
  if ¬ (r32 = true) then (some (.error (1 : Int))) else ((ck (y26 + (1 : Int))).bind fun x33 =>
  ref_Check_l3 k a0 n x33)))) else (some (.ok ()))
def ref_Check (k : Nat) (a0 : dChange) : Option Int :=
 (ref_sized k (a0.1.length : Int) (4 : Int)).bind fun r2 =>
 if ¬ (r2 = (0 : Int)) then (some r2) else (bE (α := Unit) (ref_Check_l1 k a0 k (0 : Int)) (some) fun _ =>
 bE (α := Unit) (ref_Check_l2 k a0 k (0 : Int)) (some) fun _ =>
 (ref_sized k (a0.2.1.length : Int) (3 : Int)).bind fun r23 =>
 if ¬ (r23 = (0 : Int)) then (some r23) else (bE (α := Unit) (ref_Check_l3 k a0 k (0 : Int)) (some) fun _ =>
 (ref_things k a0 a0.2.2.1 (-1 : Int)).bind fun r34 =>
 if ¬ (r34 = (0 : Int)) then (some r34) else ((ref_things k a0 a0.2.2.2 (-1 : Int)).bind fun r35 =>
 some r35)))

theorem ref_Check_ok (k : Nat) (a0 : dChange) (r : Int) (h : ref_Check k a0 = some r) :
 Ctr Tryz.prog 98 [.rep tChange a0] [] (fun _ : Unit => (resA [I r], [])) := by
 unfold ref_Check at h;replace h := b_top h;refine Ctr.of 113 Tryz.func98 rfl Tryz.ntmps98 rfl fun S w0 => ?_;refine sr (bx fun b1 => ?_);refine cq (nt (JC.seq (sr ?_)));refine fl fo26_0 ?_;refine lo sz22 ?_;refine ol U22 ?_;obtain ⟨r2, er2, h⟩ := b_bind h;refine jb (o_call [.tmp 15, .const (.int .i64 (4))] rfl rfl en70 rfl (ref_sized_ok k (a0.1.length : Int) (4 : Int) r2 er2)) ?_;refine aq (nt (sr ?_));refine mq ?_;refine jb (o_neq rfl) ?_;refine nt (cn h (fun h => ?_) (fun h => ?_))
 ·refine sr (mq ?_);refine aq (nt (rx ?_));cases h;exact ra
 ·refine sk (JC.cutE (Z := Unit) (α := Unit) (fun z4 x3 => [(1, Pt b1)]) (fun z4 x3 => [.obj b1 26 (.rep tChange a0)]) (fun e => e = r) h (fun e h => Option.some.inj h) (fun K hR h => ?_) (fun z4 x3 h => ?_))
  ·refine sr (cq (nt (JC.block ?_)));refine JC.loopB (Z := Unit) (α := Int) (fun z6 y5 => [(1, Pt b1), (4, I y5)]) (fun z6 y5 => [.obj b1 26 (.rep tChange a0)]) (ref_Check_l1 k a0) k () (0 : Int) (fun _ => rfl) h (SE.fin [0] ⟨rfl, rfl, trivial⟩ rfl) (fun n z6 y5 h => ?_);unfold ref_Check_l1 at h;refine JC.seq (sr (mq ?_));refine fl fo26_0 ?_;refine lo sz22 ?_;refine ol U22 ?_;refine jb (o_lss rfl) ?_;refine nt (ci h (fun h => ?_) (fun h => ?_))
   ·refine sk (JC.seq (JC.block (sr (fl fo26_0 ?_))));refine lo sz22 ?_;refine mq ?_;obtain ⟨x7, ex7, h⟩ := b_bind h;refine jb (o_index (t := tThing) rfl U22 sz74 ex7) ?_;refine ja (o_load_at (t := tThing) rfl sz74 rfl) ?_;refine JO.s01 rfl rfl rfl (o_alloc rfl za74 al74) trivial fun b8 => ?_;refine JO.n11 rfl rfl (o_store rfl sz74 rfl rfl rfl) ⟨rfl, rfl, trivial⟩ ?_;refine nt (JC.seq (sr (fr 1 ?_)));refine lo sz26 ?_;refine fl fo74_0 ?_;refine fr 1 ?_;refine lo sz24 ?_;refine mq ?_;obtain ⟨r9, er9, h⟩ := b_bind h;refine jc (o_call [.tmp 32, .tmp 34, .tmp 35] rfl rfl en116 rfl (ref_things_ok k a0 x7.1 y5 r9 er9)) ?_;refine aq (nt (sr ?_));refine mq ?_;refine jb (o_neq rfl) ?_;refine nt (cn h (fun h => ?_) (fun h => ?_))
    ·refine sr (mq ?_);refine aq (nt (rx (br (JN.blk_r (JN.then_r ?_)))));obtain rfl := hR _ h;exact ra
    ·refine sk (JC.seq (JC.cutB (Z := Unit) (α := Bool) (fun z11 x10 => [(1, Pt b1), (4, I y5), (5, Pt b8), (49, .eq (.bool x10))]) (fun z11 x10 => [.obj b1 26 (.rep tChange a0), .obj b8 74 (.rep tThing x7)]) h (fun K h => ?_) (fun z11 x10 h => ?_)))
     ·refine JC.region (fl fo74_1 ?_);refine lo sz3 ?_;obtain ⟨r12, er12, h⟩ := b_bind h;refine jc (o_call [.tmp 41, .const (.int .i64 (1)), .const (.int .i64 (4))] rfl rfl en71 rfl (ref_inside_ok k x7.2.1 (1 : Int) (4 : Int) r12 er12)) ?_;refine ja (o_not rfl) ?_;refine mq ?_;refine JO.bool (s := 44) rfl (fun hb => ?_) (fun hb => ?_)
      ·replace h := b_if (nv_t hb) h;iterate 4 refine gn ?_
       refine pt (nl ?_);exact jz ((), true) h [1, 0]
      ·replace h := b_ifn (nv_fn hb) h;refine ga (o_field_obj rfl fo74_2) ?_;refine JO.g11 rfl rfl rfl rfl rfl rfl (o_load_obj rfl sz3 nfs rfl) ⟨rfl, trivial⟩ ?_;obtain ⟨r13, er13, h⟩ := b_bind h;refine gc (o_call [.tmp 46, .const (.int .i64 (1)), .const (.int .i64 (4))] rfl rfl en71 rfl (ref_inside_ok k x7.2.2.1 (1 : Int) (4 : Int) r13 er13)) ?_;refine ga (o_not rfl) ?_;refine pf (nl ?_);exact jz ((), !r13) h [1, 0]
     ·refine cv h (fun h => ?_) (fun h => ?_)
      ·refine sr (cq (nt (rx (br (JN.blk_r (JN.then_r ?_))))));obtain rfl := hR _ h;exact ra
      ·refine sk (JC.seq (sr (fl fo74_3 ?_)));refine fr 1 ?_;refine lo sz3 ?_;obtain ⟨r14, er14, h⟩ := b_bind h;refine jc (o_call [.tmp 51, .const (.int .i64 (0)), .const (.int .i64 (2))] rfl rfl en71 rfl (ref_inside_ok k x7.2.2.2.1 (0 : Int) (2 : Int) r14 er14)) ?_;refine ja (o_not rfl) ?_;refine nt (cw h (fun h => ?_) (fun h => ?_))
       ·refine sr (cq (nt (rx (br (JN.blk_r (JN.then_r ?_))))));obtain rfl := hR _ h;exact ra
       ·refine sk (sr (fl fo74_4 ?_));refine lo sz3 ?_;obtain ⟨r15, er15, h⟩ := b_bind h;refine jc (o_call [.tmp 55, .const (.int .i64 (0)), .const (.int .i64 (30))] rfl rfl en71 rfl (ref_inside_ok k x7.2.2.2.2 (0 : Int) (30 : Int) r15 er15)) ?_;refine ja (o_not rfl) ?_;refine nt (cw h (fun h => ?_) (fun h => ?_))
        ·refine sr (cq (nt (JC.ret (br (JN.blk_r (JN.then_r ?_))))));obtain rfl := hR _ h;exact ra
        ·refine JC.skip (JN.blk_n (tn (JC.region (mq ?_))));obtain ⟨x16, ex16, h⟩ := b_bind h;refine jb (o_add rfl ex16) ?_;refine aq (nl ?_);exact jz ((), x16) h [1]
   ·refine xa ?_;exact jz ((), ()) h [0]
  ·refine JC.cutE (Z := Unit) (α := Unit) (fun z18 x17 => [(1, Pt b1)]) (fun z18 x17 => [.obj b1 26 (.rep tChange a0)]) (fun e => e = r) h (fun e h => Option.some.inj h) (fun K hR h => ?_) (fun z18 x17 h => ?_)
   ·refine sr (cq (nt (JC.block ?_)));refine JC.loopB (Z := Unit) (α := Int) (fun z20 y19 => [(1, Pt b1), (7, I y19)]) (fun z20 y19 => [.obj b1 26 (.rep tChange a0)]) (ref_Check_l2 k a0) k () (0 : Int) (fun _ => rfl) h (SE.fin [0] ⟨rfl, rfl, trivial⟩ rfl) (fun n z20 y19 h => ?_);unfold ref_Check_l2 at h;refine JC.seq (sr (mq ?_));refine fl fo26_0 ?_;refine lo sz22 ?_;refine ol U22 ?_;refine jb (o_lss rfl) ?_;refine nt (ci h (fun h => ?_) (fun h => ?_))
    ·refine sk (JC.seq (JC.block (sr (lo sz26 ?_))));refine mq ?_;obtain ⟨r21, er21, h⟩ := b_bind h;refine jb (o_call [.tmp 65, .tmp 66] rfl rfl en117 rfl (ref_ring_ok k a0 y19 r21 er21)) ?_;refine nt (cv h (fun h => ?_) (fun h => ?_))
     ·refine sr (cq (nt (JC.ret (br (JN.blk_r (JN.then_r ?_))))));obtain rfl := hR _ h;exact ra
     ·refine JC.skip (JN.blk_n (tn (JC.region (mq ?_))));obtain ⟨x22, ex22, h⟩ := b_bind h;refine jb (o_add rfl ex22) ?_;refine aq (nl ?_);exact jz ((), x22) h [0]
    ·refine xa ?_;exact jz ((), ()) h [0]
   ·refine JC.seq (sr (fl fo26_1 ?_));refine lo sz23 ?_;refine ol U23 ?_;obtain ⟨r23, er23, h⟩ := b_bind h;refine jb (o_call [.tmp 70, .const (.int .i64 (3))] rfl rfl en70 rfl (ref_sized_ok k (a0.2.1.length : Int) (3 : Int) r23 er23)) ?_;refine aq (nt (sr ?_));refine mq ?_;refine jb (o_neq rfl) ?_;refine nt (cn h (fun h => ?_) (fun h => ?_))
    ·refine sr (mq ?_);refine aq (nt (rx ?_));cases h;exact ra
    ·refine sk (JC.cutE (Z := Unit) (α := Unit) (fun z25 x24 => [(1, Pt b1)]) (fun z25 x24 => [.obj b1 26 (.rep tChange a0)]) (fun e => e = r) h (fun e h => Option.some.inj h) (fun K hR h => ?_) (fun z25 x24 h => ?_))
     ·refine sr (cq (nt (JC.block ?_)));refine JC.loopB (Z := Unit) (α := Int) (fun z27 y26 => [(1, Pt b1), (9, I y26)]) (fun z27 y26 => [.obj b1 26 (.rep tChange a0)]) (ref_Check_l3 k a0) k () (0 : Int) (fun _ => rfl) h (SE.fin [0] ⟨rfl, rfl, trivial⟩ rfl) (fun n z27 y26 h => ?_);unfold ref_Check_l3 at h;refine JC.seq (sr (mq ?_));refine fl fo26_1 ?_;refine lo sz23 ?_;refine ol U23 ?_;refine jb (o_lss rfl) ?_;refine nt (ci h (fun h => ?_) (fun h => ?_))
      ·refine sk (JC.seq (JC.block (sr (fl fo26_1 ?_))));refine lo sz23 ?_;refine mq ?_;obtain ⟨x28, ex28, h⟩ := b_bind h;refine jb (o_index (t := tDresser) rfl U23 sz52 ex28) ?_;refine ja (o_load_at (t := tDresser) rfl sz52 rfl) ?_;refine JO.s01 rfl rfl rfl (o_alloc rfl za52 al52) trivial fun b29 => ?_;refine JO.n11 rfl rfl (o_store rfl sz52 rfl rfl rfl) ⟨rfl, rfl, trivial⟩ ?_;refine nt (JC.seq (sr (fr 1 ?_)));refine lo sz26 ?_;refine fl fo52_0 ?_;refine fr 1 ?_;refine lo sz24 ?_;obtain ⟨r30, er30, h⟩ := b_bind h;refine jc (o_call [.tmp 87, .tmp 89, .const (.int .i64 (-1))] rfl rfl en116 rfl (ref_things_ok k a0 x28.1 (-1 : Int) r30 er30)) ?_;refine aq (nt (sr ?_));refine mq ?_;refine jb (o_neq rfl) ?_;refine nt (cn h (fun h => ?_) (fun h => ?_))
       ·refine sr (mq ?_);refine aq (nt (rx (br (JN.blk_r (JN.then_r ?_)))));obtain rfl := hR _ h;exact ra
       ·refine sk (JC.seq (sr (fl fo52_1 ?_)));refine lo sz3 ?_;obtain ⟨r31, er31, h⟩ := b_bind h;refine jc (o_call [.tmp 95, .const (.int .i64 (0)), .const (.int .i64 (2))] rfl rfl en71 rfl (ref_inside_ok k x28.2.1 (0 : Int) (2 : Int) r31 er31)) ?_;refine ja (o_not rfl) ?_;refine nt (cw h (fun h => ?_) (fun h => ?_))
        ·refine sr (cq (nt (rx (br (JN.blk_r (JN.then_r ?_))))));obtain rfl := hR _ h;exact ra
        ·refine sk (sr (fl fo52_2 ?_));refine lo sz3 ?_;obtain ⟨r32, er32, h⟩ := b_bind h;refine jc (o_call [.tmp 99, .const (.int .i64 (0)), .const (.int .i64 (9))] rfl rfl en71 rfl (ref_inside_ok k x28.2.2 (0 : Int) (9 : Int) r32 er32)) ?_;refine ja (o_not rfl) ?_;refine nt (cw h (fun h => ?_) (fun h => ?_))
         ·refine sr (cq (nt (JC.ret (br (JN.blk_r (JN.then_r ?_))))));obtain rfl := hR _ h;exact ra
         ·refine JC.skip (JN.blk_n (tn (JC.region (mq ?_))));obtain ⟨x33, ex33, h⟩ := b_bind h;refine jb (o_add rfl ex33) ?_;refine aq (nl ?_);exact jz ((), x33) h [1]
      ·refine xa ?_;exact jz ((), ()) h [0]
     ·refine JC.seq (sr (lo sz26 ?_));refine fl fo26_2 ?_;refine lo sz24 ?_;obtain ⟨r34, er34, h⟩ := b_bind h;refine jc (o_call [.tmp 102, .tmp 104, .const (.int .i64 (-1))] rfl rfl en116 rfl (ref_things_ok k a0 a0.2.2.1 (-1 : Int) r34 er34)) ?_;refine aq (nt (sr ?_));refine mq ?_;refine jb (o_neq rfl) ?_;refine nt (cn h (fun h => ?_) (fun h => ?_))
      ·refine sr (mq ?_);refine aq (nt (rx ?_));cases h;exact ra
      ·refine sk (sr (lo sz26 ?_));refine fl fo26_3 ?_;refine lo sz24 ?_;obtain ⟨r35, er35, h⟩ := b_bind h;refine jc (o_call [.tmp 109, .tmp 111, .const (.int .i64 (-1))] rfl rfl en116 rfl (ref_things_ok k a0 a0.2.2.2 (-1 : Int) r35 er35)) ?_;refine aq (nt (JC.ret ?_));cases h;exact ra


def ref_asked (k : Nat) (a0 : dChange) : Option Int :=
 (ref_Check k a0).bind fun r2 =>
 if ¬ (r2 = (0 : Int)) then (some r2) else ((ref_tasks k a0).bind fun r3 =>
 if (4 : Int) < (r3.length : Int) then (some (6 : Int)) else (some (0 : Int)))

theorem ref_asked_ok (k : Nat) (a0 : dChange) (r : Int) (h : ref_asked k a0 = some r) :
 Ctr Tryz.prog 53 [.rep tChange a0] [] (fun _ : Unit => (resA [I r], [])) := by
 unfold ref_asked at h;replace h := b_top h;refine Ctr.of 13 Tryz.func53 rfl Tryz.ntmps53 rfl fun S w0 => ?_;refine sr (bx fun b1 => ?_);refine cq (nt (JC.seq (sr ?_)));refine lo sz26 ?_;obtain ⟨r2, er2, h⟩ := b_bind h;refine ja (o_call [.tmp 4] rfl rfl en98 rfl (ref_Check_ok k a0 r2 er2)) ?_;refine aq (nt (sr ?_));refine mq ?_;refine jb (o_neq rfl) ?_;refine nt (cn h (fun h => ?_) (fun h => ?_))
 ·refine sr (mq ?_);refine aq (nt (rx ?_));cases h;exact ra
 ·refine sk (JC.seq (sr (lo sz26 ?_)));obtain ⟨r3, er3, h⟩ := b_bind h;refine ja (o_call [.tmp 9] rfl rfl en61 rfl (ref_tasks_ok k a0 r3 er3)) ?_;refine ol U112 ?_;refine jb (o_gtr rfl) ?_;refine nt (ci h (fun h => ?_) (fun h => ?_))
  ·refine sr (cq (nt (rx ?_)));cases h;exact ra
  ·refine sk (sr (cq (nt (JC.ret ?_))));cases h;exact ra


def ref_takes (k : Nat) (a0 : dChange) (a1 : dTask) : Option Int :=
 if a1.2 = true then ((geti a0.1 a1.1).bind fun x3 =>
 some x3.2.2.1) else ((geti a0.1 a1.1).bind fun x4 =>
 some x4.2.1)

theorem ref_takes_ok (k : Nat) (a0 : dChange) (a1 : dTask) (r : Int) (h : ref_takes k a0 a1 = some r) :
 Ctr Tryz.prog 63 [.rep tChange a0, .rep tTask a1] [] (fun _ : Unit => (resA [I r], [])) := by
 unfold ref_takes at h;replace h := b_top h;refine Ctr.of 21 Tryz.func63 rfl Tryz.ntmps63 rfl fun S w0 => ?_;refine sr (bx fun b1 => ?_);refine bx fun b2 => ?_;refine cq (nt (JC.seq (sr ?_)));refine fl fo116_1 ?_;refine lo sz4 ?_;refine nt (cv h (fun h => ?_) (fun h => ?_))
 ·refine sr (fl fo26_0 ?_);refine fr 1 ?_;refine lo sz22 ?_;refine fl fo116_0 ?_;refine fr 1 ?_;refine lo sz3 ?_;obtain ⟨x3, ex3, h⟩ := b_bind h;refine jb (o_index (t := tThing) rfl U22 sz74 ex3) ?_;refine ja (o_field_at 1 false rfl fo74_2 rfl) ?_;refine ja (o_load_at (t := (.int .i64)) rfl sz3 rfl) ?_;refine aq (nt (rx ?_));cases h;exact ra
 ·refine sk (sr (fl fo26_0 ?_));refine fr 1 ?_;refine lo sz22 ?_;refine fl fo116_0 ?_;refine fr 1 ?_;refine lo sz3 ?_;obtain ⟨x4, ex4, h⟩ := b_bind h;refine jb (o_index (t := tThing) rfl U22 sz74 ex4) ?_;refine ja (o_field_at 1 false rfl fo74_1 rfl) ?_;refine ja (o_load_at (t := (.int .i64)) rfl sz3 rfl) ?_;refine aq (nt (JC.ret ?_));cases h;exact ra


end Go.Proofs.YtfhdclhbdmhnmaaGreat
