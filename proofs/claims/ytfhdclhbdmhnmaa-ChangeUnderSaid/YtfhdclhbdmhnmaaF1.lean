/- The program's functions, part 3: what each computes, and that the code computes it. Printed by a program of this proof's own. -/
import Derived.Test.YtfhdclhbdmhnmaaP2
set_option linter.unusedVariables false
set_option maxRecDepth 4000
namespace Go.Proofs.Ytfhdclhbdmhnmaa
open K Go Go.Proofs
def chg_Learn_l2 (k : Nat) (q3 : (dChange × (List (Bool × Int)) × (List Int))) (y9 : Int × Bool × Int × Int × Int) : Nat → (Int × Bool × Int × Int × Int) → Option (Int × Bool × Int × Int)
 | 0, _ => none
 | n + 1, y13 =>
  if y13.2.2.2.2 < (q3.1.1.length : Int) then ((((geti q3.1.2.1 y9.2.2.2.2).bind fun x17 =>
  (slc_Contains_int k x17.1 y13.2.2.2.2).bind fun r18 =>
  if r18 = true then (some (y13.1, y13.2.1, y13.2.2.1, y13.2.2.2.1)) else ((slc_Clone_Dresser k q3.1.2.1).bind fun r19 =>
  (geti r19 y9.2.2.2.2).bind fun x21 =>
  (slc_Clone_int k x21.1).bind fun r22 =>
  (chkP (okLen (List.length r22 + List.length [y13.2.2.2.2]))).bind fun _ =>
  (geti r19 y9.2.2.2.2).bind fun x26 =>
  (slc_Sort_int k (r22 ++ [y13.2.2.2.2])).bind fun r28 =>
  (chg_quick_fewest k ((q3.1.1, q3.1.2.1, q3.1.2.2.1, q3.1.2.2.2), q3.2.1, q3.2.2) (List.set r19 (Int.toNat y9.2.2.2.2) (r28, x26.2.1, x26.2.2))).bind fun r29 =>
  ((if r29.2 = true then (if ¬ (y13.2.1 = true) then (some true) else (some (decide (r29.1 < y13.1)))) else (some false)) : Option (Bool)).bind fun x30 =>
  if x30 = true then (some (r29.1, true, y9.2.2.2.2, y13.2.2.2.2)) else (some (y13.1, y13.2.1, y13.2.2.1, y13.2.2.2.1)))) : Option (Int × Bool × Int × Int)).bind fun x15 =>
  (ck (y13.2.2.2.2 + (1 : Int))).bind fun x32 =>
  chg_Learn_l2 k q3 y9 n (x15.1, x15.2.1, x15.2.2.1, x15.2.2.2, x32)) else (some (y13.1, y13.2.1, y13.2.2.1, y13.2.2.2.1))

def chg_Learn_l1 (k : Nat) (q3 : (dChange × (List (Bool × Int)) × (List Int))) : Nat → (Int × Bool × Int × Int × Int) → Option (Int × Int × Int)
 | 0, _ => none
 | n + 1, y9 =>
  if y9.2.2.2.2 < (q3.1.2.1.length : Int) then (((chg_Learn_l2 k q3 y9 k (y9.1, y9.2.1, y9.2.2.1, y9.2.2.2.1, (0 : Int))) : Option (Int × Bool × Int × Int)).bind fun x11 =>
  (ck (y9.2.2.2.2 + (1 : Int))).bind fun x33 =>
  chg_Learn_l1 k q3 n (x11.1, x11.2.1, x11.2.2.1, x11.2.2.2, x33)) else (some (y9.1, y9.2.2.1, y9.2.2.2.1))
def chg_Learn (k : Nat) (a0 : dChange) : Option (Int × Int × Int × Int) :=
 (chg_begin k a0).bind fun r2 =>
 casesO r2.1 (if ¬ (r2.2 = (0 : Int)) then (some ((0 : Int), (0 : Int), (0 : Int), r2.2)) else (none)) (fun q3 => if ¬ (r2.2 = (0 : Int)) then (some ((0 : Int), (0 : Int), (0 : Int), r2.2)) else ((chg_least k ((q3.1.1, q3.1.2.1, q3.1.2.2.1, q3.1.2.2.2), q3.2.1, q3.2.2)).bind fun r6 =>
 ((chg_Learn_l1 k q3 k (r6.2.1, r6.2.2, (-1 : Int), (-1 : Int), (0 : Int))) : Option (Int × Int × Int)).bind fun x7 =>
 if x7.2.1 < (0 : Int) then (some ((0 : Int), (0 : Int), (0 : Int), (11 : Int))) else (some (x7.2.1, x7.2.2, x7.1, (0 : Int)))))

theorem chg_Learn_ok (k : Nat) (a0 : dChange) (r : Int × Int × Int × Int) (h : chg_Learn k a0 = some r) :
 Ctr Try.prog 29 [.rep tChange a0] [] (fun _ : Unit => (resA [.eq (.int .i64 r.1), .eq (.int .i64 r.2.1), .eq (.int .i64 r.2.2.1), .eq (.int .i64 r.2.2.2)], [])) := by
 unfold chg_Learn at h
 replace h := b_top h
 refine Ctr.of 115 Try.func29 rfl Try.ntmps29 rfl fun S w0 => ?_
 refine sr ?_
 refine JO.s01 rfl rfl rfl (o_box rfl rfl) ⟨rfl, trivial⟩ fun b1 => ?_
 refine cq ?_
 refine cq ?_
 refine cq ?_
 refine cq ?_
 refine nt ?_
 refine sr ?_
 refine JO.s11 rfl rfl rfl (o_load_obj rfl sz28 (nfn) rfl) ⟨rfl, trivial⟩ ?_
 obtain ⟨r2, er2, h⟩ := b_bind h
 have cr2 := chg_begin_ok k a0 r2 er2
 rcases hr : r2.1 with _ | q3
 ·
  rw [hr] at h cr2; replace h := co_n h
  refine JO.stepG (Δ := []) (F := _) (fun _ _ _ => wanted_none rfl _) rfl rfl (o_call [.tmp 19] rfl rfl en67 rfl cr2) ⟨rfl, trivial⟩ fun _ => ?_
  refine mq ?_
  refine JO.s rfl (o_extract rfl rfl) ⟨rfl, trivial⟩ ?_
  refine JO.s rfl (o_extract rfl rfl) ⟨rfl, trivial⟩ ?_
  refine aq ?_
  refine aq ?_
  refine nt ?_
  refine JC.seq ?_
  refine sr ?_
  refine mq ?_
  refine JO.s rfl (o_neq rfl) ⟨rfl, rfl, trivial⟩ ?_
  refine nt ?_
  refine JC.cond rfl (fun hb => ?_) (fun hb => ?_)
  ·
   replace h := b_if (n_t hb) h
   refine sr ?_
   refine mq ?_
   refine cq ?_
   refine cq ?_
   refine cq ?_
   refine aq ?_
   refine nt ?_
   refine JC.ret ?_
   refine JN.then_r ?_
   obtain rfl := Option.some.inj h
   exact JN.ret () [_, _, _, _] 0 ⟨rfl, rfl, rfl, rfl, trivial⟩ rfl
  ·
   replace h := b_ifn (n_fn hb) h
   refine JC.skip ?_
   refine JN.then_n ?_
   show JC _ _ _ _ _
   refine sr ?_
   refine mq ?_
   cases h
 ·
  rw [hr] at h cr2; replace h := co_s h
  refine JO.stepG (Δ := []) (F := _) (fun _ _ _ => wanted_none rfl _) rfl rfl (o_call [.tmp 19] rfl rfl en67 rfl cr2) ⟨rfl, trivial⟩ fun z4 => ?_
  refine mq ?_
  refine JO.s rfl (o_extract rfl rfl) ⟨rfl, trivial⟩ ?_
  refine JO.s rfl (o_extract rfl rfl) ⟨rfl, trivial⟩ ?_
  refine aq ?_
  refine aq ?_
  refine nt ?_
  refine JC.seq ?_
  refine sr ?_
  refine mq ?_
  refine JO.s rfl (o_neq rfl) ⟨rfl, rfl, trivial⟩ ?_
  refine nt ?_
  refine JC.cond rfl (fun hb => ?_) (fun hb => ?_)
  ·
   replace h := b_if (n_t hb) h
   refine sr ?_
   refine mq ?_
   refine cq ?_
   refine cq ?_
   refine cq ?_
   refine aq ?_
   refine nt ?_
   refine JC.ret ?_
   refine JN.then_r ?_
   obtain rfl := Option.some.inj h
   exact JN.ret () [_, _, _, _] 0 ⟨rfl, rfl, rfl, rfl, trivial⟩ rfl
  ·
   replace h := b_ifn (n_fn hb) h
   refine JC.skip ?_
   refine JN.then_n ?_
   show JC _ _ _ _ _
   refine sr ?_
   refine mq ?_
   refine JO.s01 rfl rfl rfl (o_call [.tmp 27] rfl rfl en69 rfl (chg_quick_plans_ok z4.1)) ⟨rfl, trivial⟩ fun b5 => ?_
   refine mq ?_
   refine JO.s rfl (o_mkfn [.tmp 29] [] [(.pointer (some ⟨z4.1, 0, none⟩))] [] rfl rfl rfl) ⟨rfl, trivial⟩ ?_
   refine JO.front 2 rfl ?_
   refine JO.se (SE.rawInv (Known k ((q3.1.1, q3.1.2.1, q3.1.2.2.1, q3.1.2.2.2), q3.2.1, q3.2.2)) known_nil) ?_
   obtain ⟨r6, er6, h⟩ := b_bind h
   have cr6 := chg_least_ok k ((q3.1.1, q3.1.2.1, q3.1.2.2.1, q3.1.2.2.2), q3.2.1, q3.2.2) z4.1 z4.2 b5 r6 er6
   refine JO.front 1 rfl ?_
   refine JO.front 1 rfl ?_
   refine JO.front 2 rfl ?_
   refine JO.stepG (Δ := [_, _, _]) (F := _) (fun _ _ _ => wanted_none rfl _) rfl rfl (o_call [.tmp 28, .tmp 30] rfl rfl en68 rfl cr6) ⟨rfl, rfl, trivial⟩ fun _ => ?_
   refine mq ?_
   refine JO.s rfl (o_extract rfl rfl) ⟨rfl, trivial⟩ ?_
   refine JO.s rfl (o_extract rfl rfl) ⟨rfl, trivial⟩ ?_
   refine JO.s rfl (o_extract rfl rfl) ⟨rfl, trivial⟩ ?_
   refine aq ?_
   refine aq ?_
   refine aq ?_
   refine nt ?_
   refine sr ?_
   refine cq ?_
   refine cq ?_
   refine nt ?_
   refine JC.cutB (Z := Unit) (α := Int × Int × Int) (fun z8 x7 => [(9, .eq (.int .i64 x7.1)), (11, .eq (.int .i64 x7.2.1)), (12, .eq (.int .i64 x7.2.2))]) (fun z8 x7 => [.inv z4.2 (Known k ((q3.1.1, q3.1.2.1, q3.1.2.2.1, q3.1.2.2.2), q3.2.1, q3.2.2))]) h (fun K h => ?_) (fun z8 x7 h => ?_)
   ·
    refine sr ?_
    refine mq ?_
    refine JO.s rfl (o_nil_obj rfl) ⟨rfl, trivial⟩ ?_
    refine JO.s rfl (o_field_obj rfl fo120_0) ⟨rfl, trivial⟩ ?_
    refine JO.s rfl (o_field_obj rfl fo28_1) ⟨rfl, trivial⟩ ?_
    refine JO.s11 rfl rfl rfl (o_load_obj rfl sz26 (fun _ => rfl) rfl) ⟨rfl, trivial⟩ ?_
    refine JO.s rfl (o_len rfl rfl Try.underlying26) ⟨rfl, trivial⟩ ?_
    refine JO.mc rfl ?_
    refine nt ?_
    refine JC.block ?_
    refine JC.loopB (Z := Unit) (α := Int × Bool × Int × Int × Int) (fun z10 y9 => [(6, .eq (.pointer (some ⟨z4.1, 0, none⟩))), (9, .eq (.int .i64 y9.1)), (10, .eq (.bool y9.2.1)), (11, .eq (.int .i64 y9.2.2.1)), (12, .eq (.int .i64 y9.2.2.2.1)), (40, .eq (.int .i64 (q3.1.2.1.length : Int))), (41, .eq (.int .i64 y9.2.2.2.2))]) (fun z10 y9 => [.obj z4.1 120 (.agg (.pair (.agg (.pair (.rep (.slice tThing) q3.1.1) (.pair (.rep (.slice tDresser) q3.1.2.1) (.pair (.rep (.slice (.int .i64)) q3.1.2.2.1) (.rep (.slice (.int .i64)) q3.1.2.2.2))))) (.pair (.rep (.slice (.tag 131 133)) q3.2.1) (.pair (.rep (.arr 8 (.int .u8)) q3.2.2) (.eq (.map (some z4.2))))))), .inv z4.2 (Known k ((q3.1.1, q3.1.2.1, q3.1.2.2.1, q3.1.2.2.2), q3.2.1, q3.2.2))]) (chg_Learn_l1 k q3) k () (r6.2.1, r6.2.2, (-1 : Int), (-1 : Int), (0 : Int)) (fun _ => rfl) h (SE.fin [0, 1] ⟨rfl, rfl, rfl, rfl, rfl, rfl, rfl, trivial⟩ rfl) (fun n z10 y9 h => ?_)
    unfold chg_Learn_l1 at h
    refine sr ?_
    refine JO.s rfl (o_lss rfl) ⟨rfl, rfl, trivial⟩ ?_
    refine nt ?_
    refine JC.seq ?_
    refine JC.cond rfl (fun hb => ?_) (fun hb => ?_)
    ·
     replace h := b_if (d_t hb) h
     refine JC.skip ?_
     refine JN.then_n ?_
     show JC _ _ _ _ _
     refine JC.cutB (Z := Unit) (α := Int × Bool × Int × Int) (fun z12 x11 => [(6, .eq (.pointer (some ⟨z4.1, 0, none⟩))), (9, .eq (.int .i64 x11.1)), (10, .eq (.bool x11.2.1)), (11, .eq (.int .i64 x11.2.2.1)), (12, .eq (.int .i64 x11.2.2.2)), (40, .eq (.int .i64 (q3.1.2.1.length : Int))), (41, .eq (.int .i64 y9.2.2.2.2))]) (fun z12 x11 => [.obj z4.1 120 (.agg (.pair (.agg (.pair (.rep (.slice tThing) q3.1.1) (.pair (.rep (.slice tDresser) q3.1.2.1) (.pair (.rep (.slice (.int .i64)) q3.1.2.2.1) (.rep (.slice (.int .i64)) q3.1.2.2.2))))) (.pair (.rep (.slice (.tag 131 133)) q3.2.1) (.pair (.rep (.arr 8 (.int .u8)) q3.2.2) (.eq (.map (some z4.2))))))), .inv z4.2 (Known k ((q3.1.1, q3.1.2.1, q3.1.2.2.1, q3.1.2.2.2), q3.2.1, q3.2.2))]) h (fun K h => ?_) (fun z12 x11 h => ?_)
     ·
      refine JC.block ?_
      refine sr ?_
      refine mq ?_
      refine aq ?_
      refine nt ?_
      refine JC.scopeS rfl (fl_hit fl_lab) ?_
      refine JC.seq ?_
      refine JC.label ?_
      refine JN.then_n ?_
      show JC _ _ _ _ _
      refine sr ?_
      refine mq ?_
      refine JO.s rfl (o_nil_obj rfl) ⟨rfl, trivial⟩ ?_
      refine JO.s rfl (o_field_obj rfl fo120_0) ⟨rfl, trivial⟩ ?_
      refine JO.s rfl (o_field_obj rfl fo28_0) ⟨rfl, trivial⟩ ?_
      refine JO.s11 rfl rfl rfl (o_load_obj rfl sz25 (fun _ => rfl) rfl) ⟨rfl, trivial⟩ ?_
      refine JO.s rfl (o_len rfl rfl Try.underlying25) ⟨rfl, trivial⟩ ?_
      refine JO.mc rfl ?_
      refine nt ?_
      refine JC.block ?_
      refine JC.loopB (Z := Unit) (α := Int × Bool × Int × Int × Int) (fun z14 y13 => [(6, .eq (.pointer (some ⟨z4.1, 0, none⟩))), (9, .eq (.int .i64 y13.1)), (10, .eq (.bool y13.2.1)), (11, .eq (.int .i64 y13.2.2.1)), (12, .eq (.int .i64 y13.2.2.2.1)), (13, .eq (.int .i64 y9.2.2.2.2)), (40, .eq (.int .i64 (q3.1.2.1.length : Int))), (41, .eq (.int .i64 y9.2.2.2.2)), (49, .eq (.int .i64 (q3.1.1.length : Int))), (50, .eq (.int .i64 y13.2.2.2.2))]) (fun z14 y13 => [.obj z4.1 120 (.agg (.pair (.agg (.pair (.rep (.slice tThing) q3.1.1) (.pair (.rep (.slice tDresser) q3.1.2.1) (.pair (.rep (.slice (.int .i64)) q3.1.2.2.1) (.rep (.slice (.int .i64)) q3.1.2.2.2))))) (.pair (.rep (.slice (.tag 131 133)) q3.2.1) (.pair (.rep (.arr 8 (.int .u8)) q3.2.2) (.eq (.map (some z4.2))))))), .inv z4.2 (Known k ((q3.1.1, q3.1.2.1, q3.1.2.2.1, q3.1.2.2.2), q3.2.1, q3.2.2))]) (chg_Learn_l2 k q3 y9) k () (y9.1, y9.2.1, y9.2.2.1, y9.2.2.2.1, (0 : Int)) (fun _ => rfl) h (SE.fin [0, 1] ⟨rfl, rfl, rfl, rfl, rfl, rfl, rfl, rfl, rfl, rfl, trivial⟩ rfl) (fun n z14 y13 h => ?_)
      unfold chg_Learn_l2 at h
      refine sr ?_
      refine JO.s rfl (o_lss rfl) ⟨rfl, rfl, trivial⟩ ?_
      refine nt ?_
      refine JC.seq ?_
      refine JC.cond rfl (fun hb => ?_) (fun hb => ?_)
      ·
       replace h := b_if (d_t hb) h
       refine JC.skip ?_
       refine JN.then_n ?_
       show JC _ _ _ _ _
       refine JC.cutB (Z := Unit) (α := Int × Bool × Int × Int) (fun z16 x15 => [(6, .eq (.pointer (some ⟨z4.1, 0, none⟩))), (9, .eq (.int .i64 x15.1)), (10, .eq (.bool x15.2.1)), (11, .eq (.int .i64 x15.2.2.1)), (12, .eq (.int .i64 x15.2.2.2)), (13, .eq (.int .i64 y9.2.2.2.2)), (40, .eq (.int .i64 (q3.1.2.1.length : Int))), (41, .eq (.int .i64 y9.2.2.2.2)), (49, .eq (.int .i64 (q3.1.1.length : Int))), (50, .eq (.int .i64 y13.2.2.2.2))]) (fun z16 x15 => [.obj z4.1 120 (.agg (.pair (.agg (.pair (.rep (.slice tThing) q3.1.1) (.pair (.rep (.slice tDresser) q3.1.2.1) (.pair (.rep (.slice (.int .i64)) q3.1.2.2.1) (.rep (.slice (.int .i64)) q3.1.2.2.2))))) (.pair (.rep (.slice (.tag 131 133)) q3.2.1) (.pair (.rep (.arr 8 (.int .u8)) q3.2.2) (.eq (.map (some z4.2))))))), .inv z4.2 (Known k ((q3.1.1, q3.1.2.1, q3.1.2.2.1, q3.1.2.2.2), q3.2.1, q3.2.2))]) h (fun K h => ?_) (fun z16 x15 h => ?_)
       ·
        refine JC.block ?_
        refine sr ?_
        refine mq ?_
        refine aq ?_
        refine nt ?_
        refine JC.seq ?_
        refine sr ?_
        refine mq ?_
        refine JO.s rfl (o_nil_obj rfl) ⟨rfl, trivial⟩ ?_
        refine JO.s rfl (o_field_obj rfl fo120_0) ⟨rfl, trivial⟩ ?_
        refine JO.s rfl (o_field_obj rfl fo28_1) ⟨rfl, trivial⟩ ?_
        refine JO.s11 rfl rfl rfl (o_load_obj rfl sz26 (fun _ => rfl) rfl) ⟨rfl, trivial⟩ ?_
        refine mq ?_
        obtain ⟨x17, ex17, h⟩ := b_bind h
        refine JO.s rfl (o_index (t := tDresser) rfl Try.underlying26 sz53 ex17) ⟨rfl, rfl, trivial⟩ ?_
        refine JO.s rfl (o_field_at 1 false rfl fo53_0 rfl) ⟨rfl, trivial⟩ ?_
        refine JO.s rfl (o_load_at (t := (.slice (.int .i64))) rfl sz22 rfl) ⟨rfl, trivial⟩ ?_
        refine mq ?_
        obtain ⟨r18, er18, h⟩ := b_bind h
        have cr18 := slc_Contains_int_ok k x17.1 y13.2.2.2.2 r18 er18
        refine JO.s rfl (o_call [.tmp 61, .tmp 62] rfl rfl en74 rfl cr18) ⟨rfl, rfl, trivial⟩ ?_
        refine nt ?_
        refine JC.cond rfl (fun hb => ?_) (fun hb => ?_)
        ·
         replace h := b_if (v_t hb) h
         refine JC.exit ?_
         refine JN.then_x ?_
         refine JN.blk_hit ?_
         refine JN.then_n ?_
         exact JN.z ((), (y13.1, y13.2.1, y13.2.2.1, y13.2.2.2.1)) h (SE.fin [0, 1] ⟨rfl, rfl, rfl, rfl, rfl, rfl, rfl, rfl, rfl, rfl, trivial⟩ rfl)
        ·
         replace h := b_ifn (v_f hb) h
         refine JC.skip ?_
         refine JN.then_n ?_
         show JC _ _ _ _ _
         refine sr ?_
         refine mq ?_
         refine JO.s rfl (o_nil_obj rfl) ⟨rfl, trivial⟩ ?_
         refine JO.s rfl (o_field_obj rfl fo120_0) ⟨rfl, trivial⟩ ?_
         refine JO.s rfl (o_field_obj rfl fo28_1) ⟨rfl, trivial⟩ ?_
         refine JO.s11 rfl rfl rfl (o_load_obj rfl sz26 (fun _ => rfl) rfl) ⟨rfl, trivial⟩ ?_
         obtain ⟨r19, er19, h⟩ := b_bind h
         have cr19 := slc_Clone_Dresser_ok k q3.1.2.1 r19 er19
         refine JO.s01 rfl rfl rfl (o_call [.tmp 68] rfl rfl en72 rfl cr19) ⟨rfl, trivial⟩ fun v20 => ?_
         refine aq ?_
         refine nt ?_
         refine sr ?_
         iterate 4 refine mq ?_
         obtain ⟨x21, ex21, h⟩ := b_bind h
         refine JO.s11 rfl rfl rfl (o_index_own (t := tDresser) rfl Try.underlying26 sz53 ex21) ⟨rfl, rfl, trivial⟩ ?_
         refine JO.s11 rfl rfl rfl (o_field_el rfl fo53_0 (geti_ne ex21)) ⟨rfl, trivial⟩ ?_
         refine JO.s11 rfl rfl rfl (o_load_el (i := Int.toNat y9.2.2.2.2) (off := 0) rfl sz22 (fun _ => rfl) rfl (geti_some ex21).2.2 rfl) ⟨rfl, trivial⟩ ?_
         obtain ⟨r22, er22, h⟩ := b_bind h
         have cr22 := slc_Clone_int_ok k x21.1 r22 er22
         refine JO.s01 rfl rfl rfl (o_call [.tmp 76] rfl rfl en75 rfl cr22) ⟨rfl, trivial⟩ fun v23 => ?_
         refine mq ?_
         refine JO.s rfl (o_litB (t := (.int .i64)) [(.tmp 78, _)] [y13.2.2.2.2] rfl rfl sl22 (.cons rfl .int .nil) rfl rfl) ⟨rfl, trivial⟩ ?_
         obtain ⟨u24, eu24, h⟩ := b_bind h
         refine JO.s1x rfl rfl rfl (o_append rfl rfl sl22 (chkP_some eu24)) ⟨rfl, rfl, trivial⟩ fun v25 => ?_
         refine JO.front 1 rfl ?_
         refine JO.se SE.toAlt ?_
         obtain ⟨x26, ex26, h⟩ := b_bind h
         have ax26 := geti_map (f := altF) ex26
         refine JO.s11 rfl rfl rfl (o_index_own (t := (.agg (.pair (.alt (.slice (.int .i64))) (.pair (.int .i64) (.int .i64))))) rfl Try.underlying26 sz53 ax26) ⟨rfl, rfl, trivial⟩ ?_
         refine JO.s11 rfl rfl rfl (o_field_el rfl fo53_0 (geti_ne ax26)) ⟨rfl, trivial⟩ ?_
         refine JO.front 1 rfl ?_
         refine JO.one fun o27 => ?_
         refine JO.front 1 rfl ?_
         refine JO.n11 rfl rfl (o_store_el (d' := ((Sum.inr v25), x26.2.1, x26.2.2)) (i := Int.toNat y9.2.2.2.2) (off := 0) rfl sz22 rfl (geti_some ax26).2.2 (.altR o27) o27 (.agg (.left .whole))) ⟨rfl, rfl, trivial⟩ ?_
         refine nt ?_
         refine sr ?_
         iterate 2 refine mq ?_
         have bx26 := geti_set ((Sum.inr v25), x26.2.1, x26.2.2) ax26
         refine JO.s11 rfl rfl rfl (o_index_own (t := (.agg (.pair (.alt (.slice (.int .i64))) (.pair (.int .i64) (.int .i64))))) rfl Try.underlying26 sz53 bx26) ⟨rfl, rfl, trivial⟩ ?_
         refine JO.s11 rfl rfl rfl (o_field_el rfl fo53_0 (geti_ne bx26)) ⟨rfl, trivial⟩ ?_
         refine JO.s11 rfl rfl rfl (o_load_el (i := Int.toNat y9.2.2.2.2) (off := 0) rfl sz22 (fun _ => rfl) rfl (geti_some bx26).2.2 rfl) ⟨rfl, trivial⟩ ?_
         refine JO.se (SE.altR 87 rfl rfl) ?_
         obtain ⟨r28, er28, h⟩ := b_bind h
         have cr28 := slc_Sort_int_ok k (r22 ++ [y13.2.2.2.2]) v25 r28 er28
         refine JO.front 1 rfl ?_
         refine JO.s11 rfl rfl rfl (o_call [.tmp 87] rfl rfl en76 rfl cr28) ⟨rfl, trivial⟩ ?_
         refine JO.front 1 rfl ?_
         refine JO.front 1 rfl ?_
         refine JO.se SE.ofAlt ?_
         refine nt ?_
         refine sr ?_
         iterate 2 refine mq ?_
         refine JO.se (SE.frz [15, 69, 70, 72, 83, 91] ⟨rfl, rfl, rfl, rfl, rfl, rfl, trivial⟩) ?_
         obtain ⟨r29, er29, h⟩ := b_bind h
         have cr29 := chg_quick_fewest_ok k ((q3.1.1, q3.1.2.1, q3.1.2.2.1, q3.1.2.2.2), q3.2.1, q3.2.2) z4.1 (.map (some z4.2)) (List.set r19 (Int.toNat y9.2.2.2.2) (r28, x26.2.1, x26.2.2)) r29 er29
         refine JO.s11 rfl rfl rfl (o_call [.tmp 90, .tmp 91] rfl rfl en73 rfl cr29) ⟨rfl, rfl, trivial⟩ ?_
         refine mq ?_
         refine JO.s rfl (o_extract rfl rfl) ⟨rfl, trivial⟩ ?_
         refine JO.s rfl (o_extract rfl rfl) ⟨rfl, trivial⟩ ?_
         refine aq ?_
         refine aq ?_
         refine nt ?_
         refine JC.cutB (Z := Unit) (α := Bool) (fun z31 x30 => [(6, .eq (.pointer (some ⟨z4.1, 0, none⟩))), (9, .eq (.int .i64 y13.1)), (10, .eq (.bool y13.2.1)), (11, .eq (.int .i64 y13.2.2.1)), (12, .eq (.int .i64 y13.2.2.2.1)), (13, .eq (.int .i64 y9.2.2.2.2)), (14, .eq (.int .i64 y13.2.2.2.2)), (16, .eq (.int .i64 r29.1)), (40, .eq (.int .i64 (q3.1.2.1.length : Int))), (41, .eq (.int .i64 y9.2.2.2.2)), (49, .eq (.int .i64 (q3.1.1.length : Int))), (50, .eq (.int .i64 y13.2.2.2.2)), (104, .eq (.bool x30))]) (fun z31 x30 => [.obj z4.1 120 (.agg (.pair (.agg (.pair (.rep (.slice tThing) q3.1.1) (.pair (.rep (.slice tDresser) q3.1.2.1) (.pair (.rep (.slice (.int .i64)) q3.1.2.2.1) (.rep (.slice (.int .i64)) q3.1.2.2.2))))) (.pair (.rep (.slice (.tag 131 133)) q3.2.1) (.pair (.rep (.arr 8 (.int .u8)) q3.2.2) (.eq (.map (some z4.2))))))), .inv z4.2 (Known k ((q3.1.1, q3.1.2.1, q3.1.2.2.1, q3.1.2.2.2), q3.2.1, q3.2.2))]) h (fun K h => ?_) (fun z31 x30 h => ?_)
         ·
          refine JC.region ?_
          iterate 2 refine mq ?_
          refine JO.bool (s := 96) rfl (fun hb => ?_) (fun hb => ?_)
          ·
           replace h := b_if (v_t hb) h
           refine gm ?_
           refine JO.g00 rfl rfl rfl rfl rfl rfl (o_not rfl) ⟨rfl, trivial⟩ ?_
           refine gm ?_
           refine JO.bool (s := 99) rfl (fun hb => ?_) (fun hb => ?_)
           ·
            replace h := b_if (nv_t hb) h
            iterate 3 refine gn ?_
            refine JO.g00 rfl rfl rfl rfl rfl rfl (o_pick_t rfl) ⟨rfl, rfl, trivial⟩ ?_
            refine pt ?_
            refine JO.nil ?_
            refine JN.then_n ?_
            exact JN.z ((), true) h (SE.fin [0, 1] ⟨rfl, rfl, rfl, rfl, rfl, rfl, rfl, rfl, rfl, rfl, rfl, rfl, rfl, trivial⟩ rfl)
           ·
            replace h := b_ifn (nv_fn hb) h
            refine gm ?_
            refine gm ?_
            refine JO.g00 rfl rfl rfl rfl rfl rfl (o_lss rfl) ⟨rfl, rfl, trivial⟩ ?_
            refine JO.g00 rfl rfl rfl rfl rfl rfl (o_pick_f rfl) ⟨rfl, rfl, trivial⟩ ?_
            refine pt ?_
            refine JO.nil ?_
            refine JN.then_n ?_
            exact JN.z ((), decide (r29.1 < y13.1)) h (SE.fin [0, 1] ⟨rfl, rfl, rfl, rfl, rfl, rfl, rfl, rfl, rfl, rfl, rfl, rfl, rfl, trivial⟩ rfl)
          ·
           replace h := b_ifn (v_f hb) h
           iterate 3 refine gn ?_
           refine JO.gnou rfl rfl rfl rfl rfl rfl ?_
           refine JO.gnou rfl rfl rfl rfl rfl rfl ?_
           refine JO.gnou rfl rfl rfl rfl rfl rfl ?_
           refine gn ?_
           refine pf ?_
           refine JO.nil ?_
           refine JN.then_n ?_
           exact JN.z ((), false) h (SE.fin [0, 1] ⟨rfl, rfl, rfl, rfl, rfl, rfl, rfl, rfl, rfl, rfl, rfl, rfl, rfl, trivial⟩ rfl)
         ·
          refine JC.cond rfl (fun hb => ?_) (fun hb => ?_)
          ·
           replace h := b_if (v_t hb) h
           refine JC.region ?_
           iterate 3 refine mq ?_
           refine aq ?_
           refine aq ?_
           refine aq ?_
           refine cq ?_
           refine JO.nil ?_
           refine JN.blk_n ?_
           refine JN.then_n ?_
           exact JN.z ((), (r29.1, true, y9.2.2.2.2, y13.2.2.2.2)) h (SE.fin [0, 1] ⟨rfl, rfl, rfl, rfl, rfl, rfl, rfl, rfl, rfl, rfl, trivial⟩ rfl)
          ·
           replace h := b_ifn (v_f hb) h
           refine JC.skip ?_
           refine JN.blk_n ?_
           refine JN.then_n ?_
           exact JN.z ((), (y13.1, y13.2.1, y13.2.2.1, y13.2.2.2.1)) h (SE.fin [0, 1] ⟨rfl, rfl, rfl, rfl, rfl, rfl, rfl, rfl, rfl, rfl, trivial⟩ rfl)
       ·
        refine JC.region ?_
        obtain ⟨x32, ex32, h⟩ := b_bind h
        refine JO.s rfl (o_add rfl ex32) ⟨rfl, rfl, trivial⟩ ?_
        refine mq ?_
        refine JO.nil ?_
        refine JN.then_n ?_
        exact JN.z ((), (x15.1, x15.2.1, x15.2.2.1, x15.2.2.2, x32)) h (SE.fin [0, 1] ⟨rfl, rfl, rfl, rfl, rfl, rfl, rfl, rfl, rfl, rfl, trivial⟩ rfl)
      ·
       replace h := b_ifn (d_f hb) h
       refine JC.exit ?_
       refine JN.then_x ?_
       refine JN.then_x ?_
       refine JN.blk_hit ?_
       refine JN.jmp_n ?_
       refine JN.blk_n ?_
       refine JN.then_n ?_
       exact JN.z ((), (y13.1, y13.2.1, y13.2.2.1, y13.2.2.2.1)) h (SE.fin [0, 1] ⟨rfl, rfl, rfl, rfl, rfl, rfl, rfl, trivial⟩ rfl)
     ·
      refine JC.region ?_
      obtain ⟨x33, ex33, h⟩ := b_bind h
      refine JO.s rfl (o_add rfl ex33) ⟨rfl, rfl, trivial⟩ ?_
      refine mq ?_
      refine JO.nil ?_
      refine JN.then_n ?_
      exact JN.z ((), (x11.1, x11.2.1, x11.2.2.1, x11.2.2.2, x33)) h (SE.fin [0, 1] ⟨rfl, rfl, rfl, rfl, rfl, rfl, rfl, trivial⟩ rfl)
    ·
     replace h := b_ifn (d_f hb) h
     refine JC.exit ?_
     refine JN.then_x ?_
     refine JN.then_x ?_
     refine JN.blk_hit ?_
     refine JN.then_n ?_
     exact JN.z ((), (y9.1, y9.2.2.1, y9.2.2.2.1)) h (SE.fin [1] ⟨rfl, rfl, rfl, trivial⟩ rfl)
   ·
    refine JC.seq ?_
    refine sr ?_
    refine mq ?_
    refine JO.s rfl (o_lss rfl) ⟨rfl, rfl, trivial⟩ ?_
    refine nt ?_
    refine JC.cond rfl (fun hb => ?_) (fun hb => ?_)
    ·
     replace h := b_if (d_t hb) h
     refine sr ?_
     refine cq ?_
     refine cq ?_
     refine cq ?_
     refine cq ?_
     refine nt ?_
     refine JC.ret ?_
     refine JN.then_r ?_
     obtain rfl := Option.some.inj h
     exact JN.ret () [_, _, _, _] 0 ⟨rfl, rfl, rfl, rfl, trivial⟩ rfl
    ·
     replace h := b_ifn (d_f hb) h
     refine JC.skip ?_
     refine JN.then_n ?_
     show JC _ _ _ _ _
     refine sr ?_
     iterate 3 refine mq ?_
     refine aq ?_
     refine aq ?_
     refine aq ?_
     refine cq ?_
     refine nt ?_
     refine JC.ret ?_
     obtain rfl := Option.some.inj h
     exact JN.ret () [_, _, _, _] 0 ⟨rfl, rfl, rfl, rfl, trivial⟩ rfl


def chg_Through_l1 (k : Nat) (a0 : (List dChange)) : Nat → ((List dquick) × Int) → Option (Except ((List Int) × Int) (List dquick))
 | 0, _ => none
 | n + 1, y4 =>
  if y4.2 < (a0.length : Int) then ((geti a0 y4.2).bind fun x6 =>
  (chg_begin k x6).bind fun r8 =>
  casesO r8.1 (if ¬ (r8.2 = (0 : Int)) then (some (.error ([], r8.2))) else (none)) (fun q9 => if ¬ (r8.2 = (0 : Int)) then (some (.error ([], r8.2))) else ((chkP (okLen (List.length y4.1 + List.length [((q9.1.1, q9.1.2.1, q9.1.2.2.1, q9.1.2.2.2), q9.2.1, q9.2.2, ())]))).bind fun _ =>
  (ck (y4.2 + (1 : Int))).bind fun x13 =>
  chg_Through_l1 k a0 n (y4.1 ++ [((q9.1.1, q9.1.2.1, q9.1.2.2.1, q9.1.2.2.2), q9.2.1, q9.2.2, ())], x13)))) else (some (.ok y4.1))

def chg_Through_l2 (k : Nat) (x2 : (List dquick)) : Nat → Int → Option (Except ((List Int) × Int) Unit)
 | 0, _ => none
 | n + 1, y16 =>
  if y16 < (x2.length : Int) then ((geti x2 y16).bind fun x18 =>
  (geti x2 (0 : Int)).bind fun x19 =>
  if ¬ ((x18.1.2.1.length : Int) = (x19.1.2.1.length : Int)) then (some (.error ([], (9 : Int)))) else ((ck (y16 + (1 : Int))).bind fun x20 =>
  chg_Through_l2 k x2 n x20)) else (some (.ok ()))

def chg_Through_l3 (k : Nat) (a1 : (List Int)) : Nat → Int → Option (Except ((List Int) × Int) Unit)
 | 0, _ => none
 | n + 1, y24 =>
  if y24 < (a1.length : Int) then ((geti a1 y24).bind fun x26 =>
  (chg_outside k x26 (0 : Int) (20 : Int)).bind fun r27 =>
  if r27 = true then (some (.error ([], (1 : Int)))) else ((ck (y24 + (1 : Int))).bind fun x28 =>
  chg_Through_l3 k a1 n x28)) else (some (.ok ()))

def chg_Through_l5 (k : Nat) (x36 : Int) (r41 : (List dDresser)) : Nat → ((List dDresser) × Int) → Option (List dDresser)
 | 0, _ => none
 | n + 1, y45 =>
  if y45.2 < (r41.length : Int) then ((geti y45.1 y45.2).bind fun x47 =>
  (ck (x47.2.2 - x36)).bind fun x48 =>
  (geti y45.1 y45.2).bind fun x49 =>
  (ck (y45.2 + (1 : Int))).bind fun x50 =>
  chg_Through_l5 k x36 r41 n (List.set y45.1 (Int.toNat y45.2) (x49.1, x49.2.1, imax (0 : Int) x48), x50)) else (some y45.1)

def chg_Through_l4 (k : Nat) (a1 : (List Int)) (x2 : (List dquick)) : Nat → ((List Int) × Int × Int) → Option (Except ((List Int) × Int) (List Int))
 | 0, _ => none
 | n + 1, y31 =>
  if y31.2.2 < (x2.length : Int) then (bE (α := (List Int) × Int) ((geti x2 y31.2.2).bind fun x35 =>
  ((if (0 : Int) < y31.2.2 then ((ck (y31.2.2 - (1 : Int))).bind fun x38 =>
  (geti a1 x38).bind fun x39 =>
  (ck (y31.2.1 + x39)).bind fun x40 =>
  some x40) else (some y31.2.1)) : Option (Int)).bind fun x36 =>
  (slc_Clone_Dresser k x35.1.2.1).bind fun r41 =>
  ((chg_Through_l5 k x36 r41 k (r41, (0 : Int))) : Option ((List dDresser))).bind fun x43 =>
  (chg_quick_fewestF k x35 x43).bind fun r51 =>
  if ¬ (r51.2 = true) then (some (.error ([], (11 : Int)))) else ((ck (x36 + r51.1)).bind fun x52 =>
  (chkP (okLen (List.length y31.1 + List.length [x52]))).bind fun _ =>
  some (.ok (y31.1 ++ [x52], x52)))) (fun e => some (.error e)) fun x33 =>
  (ck (y31.2.2 + (1 : Int))).bind fun x55 =>
  chg_Through_l4 k a1 x2 n (x33.1, x33.2, x55)) else (some (.ok y31.1))
def chg_Through (k : Nat) (a0 : (List dChange)) (a1 : (List Int)) : Option ((List Int) × Int) :=
 (chg_sized k (a0.length : Int) (3 : Int)).bind fun r1 =>
 if ¬ (r1 = (0 : Int)) then (some ([], r1)) else (bE (α := (List dquick)) (chg_Through_l1 k a0 k (([] : (List dquick)), (0 : Int))) (some) fun x2 =>
 bE (α := Unit) (chg_Through_l2 k x2 k (0 : Int)) (some) fun _ =>
 (ck ((a0.length : Int) - (1 : Int))).bind fun x21 =>
 if ¬ ((a1.length : Int) = x21) then (some ([], (9 : Int))) else (bE (α := Unit) (chg_Through_l3 k a1 k (0 : Int)) (some) fun _ =>
 bE (α := (List Int)) (chg_Through_l4 k a1 x2 k (([] : (List Int)), (0 : Int), (0 : Int))) (some) fun x29 =>
 some (x29, (0 : Int))))

theorem chg_Through_ok (k : Nat) (a0 : (List dChange)) (a1 : (List Int)) (r : (List Int) × Int) (h : chg_Through k a0 a1 = some r) :
 Ctr Try.prog 33 [.rep (.slice tChange) a0, .rep (.slice (.int .i64)) a1] [] (fun _ : Unit => (resA [.rep (.slice (.int .i64)) r.1, .eq (.int .i64 r.2)], [])) := by
 unfold chg_Through at h
 replace h := b_top h
 refine Ctr.of 143 Try.func33 rfl Try.ntmps33 rfl fun S w0 => ?_
 refine sr ?_
 refine cq ?_
 refine cq ?_
 refine nt ?_
 refine JC.seq ?_
 refine sr ?_
 refine mq ?_
 refine JO.s rfl (o_len rfl rfl Try.underlying62) ⟨rfl, trivial⟩ ?_
 obtain ⟨r1, er1, h⟩ := b_bind h
 have cr1 := chg_sized_ok k (a0.length : Int) (3 : Int) r1 er1
 refine JO.s rfl (o_call [.tmp 25, .const (.int .i64 (3))] rfl rfl en78 rfl cr1) ⟨rfl, rfl, trivial⟩ ?_
 refine aq ?_
 refine nt ?_
 refine sr ?_
 refine mq ?_
 refine JO.s rfl (o_neq rfl) ⟨rfl, rfl, trivial⟩ ?_
 refine nt ?_
 refine JC.cond rfl (fun hb => ?_) (fun hb => ?_)
 ·
  replace h := b_if (n_t hb) h
  refine sr ?_
  refine mq ?_
  refine cq ?_
  refine aq ?_
  refine nt ?_
  refine JC.ret ?_
  refine JN.then_r ?_
  refine JN.se (SE.ent (t := (.slice (.int .i64))) (x := []) 4 rfl .nil rfl rfl) ?_
  obtain rfl := Option.some.inj h
  exact JN.ret () [_, _] 0 ⟨rfl, rfl, trivial⟩ rfl
 ·
  replace h := b_ifn (n_fn hb) h
  refine JC.skip ?_
  refine JN.then_n ?_
  show JC _ _ _ _ _
  refine sr ?_
  refine cq ?_
  refine nt ?_
  refine JC.cutE (Z := Value) (α := (List dquick)) (fun z3 x2 => [(0, .rep (.slice tChange) a0), (1, .rep (.slice (.int .i64)) a1), (7, .eq z3)]) (fun z3 x2 => [.sl z3 98 (.ptr tquick) x2]) (fun e => e = r) h (fun e h => Option.some.inj h) (fun K hR h => ?_) (fun z3 x2 h => ?_)
  ·
   refine sr ?_
   refine mq ?_
   refine JO.s rfl (o_len rfl rfl Try.underlying62) ⟨rfl, trivial⟩ ?_
   refine JO.mc rfl ?_
   refine nt ?_
   refine JC.block ?_
   refine JC.se (SE.nil 98 (.ptr tquick)) ?_
   refine JC.loopB (Z := Value) (α := (List dquick) × Int) (fun z5 y4 => [(0, .rep (.slice tChange) a0), (1, .rep (.slice (.int .i64)) a1), (7, .eq z5), (30, .rep (.slice tChange) a0), (31, .eq (.int .i64 (a0.length : Int))), (32, .eq (.int .i64 y4.2))]) (fun z5 y4 => [.sl z5 98 (.ptr tquick) y4.1]) (chg_Through_l1 k a0) k (.slice none 0 0) (([] : (List dquick)), (0 : Int)) (fun _ => rfl) h (SE.fin [0] ⟨rfl, rfl, rfl, rfl, rfl, rfl, trivial⟩ rfl) (fun n z5 y4 h => ?_)
   unfold chg_Through_l1 at h
   refine sr ?_
   refine JO.s rfl (o_lss rfl) ⟨rfl, rfl, trivial⟩ ?_
   refine nt ?_
   refine JC.seq ?_
   refine JC.cond rfl (fun hb => ?_) (fun hb => ?_)
   ·
    replace h := b_if (d_t hb) h
    refine JC.skip ?_
    refine JN.then_n ?_
    show JC _ _ _ _ _
    refine JC.seq ?_
    refine JC.block ?_
    refine sr ?_
    obtain ⟨x6, ex6, h⟩ := b_bind h
    refine JO.s rfl (o_index (t := tChange) rfl Try.underlying62 sz28 ex6) ⟨rfl, rfl, trivial⟩ ?_
    refine JO.s rfl (o_load_at (t := tChange) rfl sz28 rfl) ⟨rfl, trivial⟩ ?_
    refine JO.s01 rfl rfl rfl (o_alloc rfl za28 al28) trivial fun b7 => ?_
    refine JO.n11 rfl rfl (o_store rfl sz28 rfl rfl rfl) ⟨rfl, rfl, trivial⟩ ?_
    refine nt ?_
    refine sr ?_
    refine JO.s11 rfl rfl rfl (o_load_obj rfl sz28 (nfn) rfl) ⟨rfl, trivial⟩ ?_
    obtain ⟨r8, er8, h⟩ := b_bind h
    have cr8 := chg_begin_ok k x6 r8 er8
    rcases hr : r8.1 with _ | q9
    ·
     rw [hr] at h cr8; replace h := co_n h
     refine JO.stepG (Δ := []) (F := _) (fun _ _ _ => wanted_none rfl _) rfl rfl (o_call [.tmp 37] rfl rfl en67 rfl cr8) ⟨rfl, trivial⟩ fun _ => ?_
     refine mq ?_
     refine JO.s rfl (o_extract rfl rfl) ⟨rfl, trivial⟩ ?_
     refine JO.s rfl (o_extract rfl rfl) ⟨rfl, trivial⟩ ?_
     refine aq ?_
     refine aq ?_
     refine nt ?_
     refine JC.seq ?_
     refine sr ?_
     refine mq ?_
     refine JO.s rfl (o_neq rfl) ⟨rfl, rfl, trivial⟩ ?_
     refine nt ?_
     refine JC.cond rfl (fun hb => ?_) (fun hb => ?_)
     ·
      replace h := b_if (n_t hb) h
      refine sr ?_
      refine mq ?_
      refine cq ?_
      refine aq ?_
      refine nt ?_
      refine JC.ret ?_
      refine JN.then_r ?_
      refine JN.blk_r ?_
      refine JN.then_r ?_
      refine JN.then_r ?_
      refine JN.blk_r ?_
      refine JN.then_r ?_
      refine JN.se (SE.ent (t := (.slice (.int .i64))) (x := []) 4 rfl .nil rfl rfl) ?_
      obtain rfl := hR _ h
      exact JN.ret () [_, _] 0 ⟨rfl, rfl, trivial⟩ rfl
     ·
      replace h := b_ifn (n_fn hb) h
      refine JC.skip ?_
      refine JN.then_n ?_
      show JC _ _ _ _ _
      refine JC.region ?_
      iterate 2 refine mq ?_
      cases h
    ·
     rw [hr] at h cr8; replace h := co_s h
     refine JO.stepG (Δ := []) (F := _) (fun _ _ _ => wanted_none rfl _) rfl rfl (o_call [.tmp 37] rfl rfl en67 rfl cr8) ⟨rfl, trivial⟩ fun z10 => ?_
     refine mq ?_
     refine JO.s rfl (o_extract rfl rfl) ⟨rfl, trivial⟩ ?_
     refine JO.s rfl (o_extract rfl rfl) ⟨rfl, trivial⟩ ?_
     refine aq ?_
     refine aq ?_
     refine nt ?_
     refine JC.seq ?_
     refine sr ?_
     refine mq ?_
     refine JO.s rfl (o_neq rfl) ⟨rfl, rfl, trivial⟩ ?_
     refine nt ?_
     refine JC.cond rfl (fun hb => ?_) (fun hb => ?_)
     ·
      replace h := b_if (n_t hb) h
      refine sr ?_
      refine mq ?_
      refine cq ?_
      refine aq ?_
      refine nt ?_
      refine JC.ret ?_
      refine JN.then_r ?_
      refine JN.blk_r ?_
      refine JN.then_r ?_
      refine JN.then_r ?_
      refine JN.blk_r ?_
      refine JN.then_r ?_
      refine JN.se (SE.ent (t := (.slice (.int .i64))) (x := []) 4 rfl .nil rfl rfl) ?_
      obtain rfl := hR _ h
      exact JN.ret () [_, _] 0 ⟨rfl, rfl, trivial⟩ rfl
     ·
      replace h := b_ifn (n_fn hb) h
      refine JC.skip ?_
      refine JN.then_n ?_
      show JC _ _ _ _ _
      refine JC.region ?_
      iterate 2 refine mq ?_
      refine JO.se (SE.frzObj (t := tquick) (x := ((q9.1.1, q9.1.2.1, q9.1.2.2.1, q9.1.2.2.2), q9.2.1, q9.2.2, ())) [10, 39, 45] (.agg (.pair (.agg (.pair .rep (.pair .rep (.pair .rep .rep)))) (.pair .rep (.pair .rep (.ign rfl))))) ⟨rfl, rfl, rfl, trivial⟩) ?_
      refine JO.s rfl (o_litB (t := (.ptr tquick)) [(.tmp 45, _)] [((q9.1.1, q9.1.2.1, q9.1.2.2.1, q9.1.2.2.2), q9.2.1, q9.2.2, ())] rfl rfl sl128 (.cons trivial .ptr .nil) rfl rfl) ⟨rfl, trivial⟩ ?_
      obtain ⟨u11, eu11, h⟩ := b_bind h
      refine JO.front 2 rfl ?_
      refine JO.s1x rfl rfl rfl (o_append rfl rfl sl128 (chkP_some eu11)) ⟨rfl, rfl, trivial⟩ fun v12 => ?_
      refine aq ?_
      refine JO.nil ?_
      refine JN.blk_n ?_
      refine JN.then_n ?_
      show JC _ _ _ _ _
      refine JC.region ?_
      obtain ⟨x13, ex13, h⟩ := b_bind h
      refine JO.s rfl (o_add rfl ex13) ⟨rfl, rfl, trivial⟩ ?_
      refine mq ?_
      refine JO.nil ?_
      refine JN.then_n ?_
      exact JN.z (v12, (y4.1 ++ [((q9.1.1, q9.1.2.1, q9.1.2.2.1, q9.1.2.2.2), q9.2.1, q9.2.2, ())], x13)) h (SE.fin [0] ⟨rfl, rfl, rfl, rfl, rfl, rfl, trivial⟩ rfl)
   ·
    replace h := b_ifn (d_f hb) h
    refine JC.exit ?_
    refine JN.then_x ?_
    refine JN.then_x ?_
    refine JN.blk_hit ?_
    refine JN.then_n ?_
    exact JN.z (z5, y4.1) h (SE.fin [0] ⟨rfl, rfl, rfl, trivial⟩ rfl)
  ·
   refine JC.cutE (Z := Unit) (α := Unit) (fun z15 x14 => [(0, .rep (.slice tChange) a0), (1, .rep (.slice (.int .i64)) a1), (7, .eq z3)]) (fun z15 x14 => [.sl z3 98 (.ptr tquick) x2]) (fun e => e = r) h (fun e h => Option.some.inj h) (fun K hR h => ?_) (fun z15 x14 h => ?_)
   ·
    refine sr ?_
    refine mq ?_
    refine JO.s11 rfl rfl rfl (o_len_own rfl rfl Try.underlying128) ⟨rfl, trivial⟩ ?_
    refine JO.mc rfl ?_
    refine nt ?_
    refine JC.block ?_
    refine JC.loopB (Z := Unit) (α := Int) (fun z17 y16 => [(0, .rep (.slice tChange) a0), (1, .rep (.slice (.int .i64)) a1), (7, .eq z3), (49, .eq z3), (50, .eq (.int .i64 (x2.length : Int))), (51, .eq (.int .i64 y16))]) (fun z17 y16 => [.sl z3 98 (.ptr tquick) x2]) (chg_Through_l2 k x2) k () (0 : Int) (fun _ => rfl) h (SE.fin [0] ⟨rfl, rfl, rfl, rfl, rfl, rfl, trivial⟩ rfl) (fun n z17 y16 h => ?_)
    unfold chg_Through_l2 at h
    refine sr ?_
    refine JO.s rfl (o_lss rfl) ⟨rfl, rfl, trivial⟩ ?_
    refine nt ?_
    refine JC.seq ?_
    refine JC.cond rfl (fun hb => ?_) (fun hb => ?_)
    ·
     replace h := b_if (d_t hb) h
     refine JC.skip ?_
     refine JN.then_n ?_
     show JC _ _ _ _ _
     refine JC.seq ?_
     refine JC.block ?_
     refine sr ?_
     obtain ⟨x18, ex18, h⟩ := b_bind h
     refine JO.s11 rfl rfl rfl (o_index_own (t := (.ptr tquick)) rfl Try.underlying128 sz98 ex18) ⟨rfl, rfl, trivial⟩ ?_
     refine JO.s11 rfl rfl rfl (o_load_el (i := Int.toNat y16) (off := 0) rfl sz98 (fun _ => rfl) rfl (geti_some ex18).2.2 rfl) ⟨rfl, trivial⟩ ?_
     refine aq ?_
     refine nt ?_
     refine JC.seq ?_
     refine JC.drawN ?_
     refine dm ?_
     refine DN.s00 rfl rfl rfl (o_nil_at rfl) ⟨rfl, trivial⟩ ?_
     refine DN.s00 rfl rfl rfl (o_field_at 4 true rfl fo120_0 rfl) ⟨rfl, trivial⟩ ?_
     refine DN.s00 rfl rfl rfl (o_field_at 1 false rfl fo28_1 rfl) ⟨rfl, trivial⟩ ?_
     refine DN.s00 rfl rfl rfl (o_load_at (t := (.slice tDresser)) rfl sz26 rfl) ⟨rfl, trivial⟩ ?_
     refine DN.s00 rfl rfl rfl (o_len rfl rfl Try.underlying26) ⟨rfl, trivial⟩ ?_
     refine dm ?_
     obtain ⟨x19, ex19, h⟩ := b_bind h
     refine DN.s11 0 rfl rfl rfl rfl (o_index_own (t := (.ptr tquick)) rfl Try.underlying128 sz98 ex19) ⟨rfl, rfl, trivial⟩ ?_
     refine DN.s11 0 rfl rfl rfl rfl (o_load_el (i := Int.toNat (0 : Int)) (off := 0) rfl sz98 (fun _ => rfl) rfl (geti_some ex19).2.2 rfl) ⟨rfl, trivial⟩ ?_
     refine DN.s00 rfl rfl rfl (o_nil_at rfl) ⟨rfl, trivial⟩ ?_
     refine DN.s00 rfl rfl rfl (o_field_at 4 true rfl fo120_0 rfl) ⟨rfl, trivial⟩ ?_
     refine DN.s00 rfl rfl rfl (o_field_at 1 false rfl fo28_1 rfl) ⟨rfl, trivial⟩ ?_
     refine DN.s00 rfl rfl rfl (o_load_at (t := (.slice tDresser)) rfl sz26 rfl) ⟨rfl, trivial⟩ ?_
     refine DN.s00 rfl rfl rfl (o_len rfl rfl Try.underlying26) ⟨rfl, trivial⟩ ?_
     refine DN.fin (by kernel_rfl) mixed ?_
     refine JO.s rfl (o_neq rfl) ⟨rfl, rfl, trivial⟩ ?_
     refine nt ?_
     refine JC.cond rfl (fun hb => ?_) (fun hb => ?_)
     ·
      replace h := b_if (n_t hb) h
      refine sr ?_
      refine cq ?_
      refine cq ?_
      refine nt ?_
      refine JC.ret ?_
      refine JN.blk_r ?_
      refine JN.then_r ?_
      refine JN.then_r ?_
      refine JN.blk_r ?_
      refine JN.then_r ?_
      refine JN.se (SE.ent (t := (.slice (.int .i64))) (x := []) 4 rfl .nil rfl rfl) ?_
      obtain rfl := hR _ h
      exact JN.ret () [_, _] 0 ⟨rfl, rfl, trivial⟩ rfl
     ·
      replace h := b_ifn (n_fn hb) h
      refine JC.skip ?_
      refine JN.blk_n ?_
      refine JN.then_n ?_
      show JC _ _ _ _ _
      refine JC.region ?_
      obtain ⟨x20, ex20, h⟩ := b_bind h
      refine JO.s rfl (o_add rfl ex20) ⟨rfl, rfl, trivial⟩ ?_
      refine mq ?_
      refine JO.nil ?_
      refine JN.then_n ?_
      exact JN.z ((), x20) h (SE.fin [0] ⟨rfl, rfl, rfl, rfl, rfl, rfl, trivial⟩ rfl)
    ·
     replace h := b_ifn (d_f hb) h
     refine JC.exit ?_
     refine JN.then_x ?_
     refine JN.then_x ?_
     refine JN.blk_hit ?_
     refine JN.then_n ?_
     exact JN.z ((), ()) h (SE.fin [0] ⟨rfl, rfl, rfl, trivial⟩ rfl)
   ·
    refine JC.seq ?_
    refine sr ?_
    refine mq ?_
    refine JO.s rfl (o_len rfl rfl Try.underlying22) ⟨rfl, trivial⟩ ?_
    refine mq ?_
    refine JO.s rfl (o_len rfl rfl Try.underlying62) ⟨rfl, trivial⟩ ?_
    obtain ⟨x21, ex21, h⟩ := b_bind h
    refine JO.s rfl (o_sub rfl ex21) ⟨rfl, rfl, trivial⟩ ?_
    refine JO.s rfl (o_neq rfl) ⟨rfl, rfl, trivial⟩ ?_
    refine nt ?_
    refine JC.cond rfl (fun hb => ?_) (fun hb => ?_)
    ·
     replace h := b_if (n_t hb) h
     refine sr ?_
     refine cq ?_
     refine cq ?_
     refine nt ?_
     refine JC.ret ?_
     refine JN.then_r ?_
     refine JN.se (SE.ent (t := (.slice (.int .i64))) (x := []) 4 rfl .nil rfl rfl) ?_
     obtain rfl := Option.some.inj h
     exact JN.ret () [_, _] 0 ⟨rfl, rfl, trivial⟩ rfl
    ·
     replace h := b_ifn (n_fn hb) h
     refine JC.skip ?_
     refine JN.then_n ?_
     show JC _ _ _ _ _
     refine JC.cutE (Z := Unit) (α := Unit) (fun z23 x22 => [(1, .rep (.slice (.int .i64)) a1), (7, .eq z3)]) (fun z23 x22 => [.sl z3 98 (.ptr tquick) x2]) (fun e => e = r) h (fun e h => Option.some.inj h) (fun K hR h => ?_) (fun z23 x22 h => ?_)
     ·
      refine sr ?_
      refine mq ?_
      refine JO.s rfl (o_len rfl rfl Try.underlying22) ⟨rfl, trivial⟩ ?_
      refine JO.mc rfl ?_
      refine nt ?_
      refine JC.block ?_
      refine JC.loopB (Z := Unit) (α := Int) (fun z25 y24 => [(1, .rep (.slice (.int .i64)) a1), (7, .eq z3), (77, .rep (.slice (.int .i64)) a1), (78, .eq (.int .i64 (a1.length : Int))), (79, .eq (.int .i64 y24))]) (fun z25 y24 => [.sl z3 98 (.ptr tquick) x2]) (chg_Through_l3 k a1) k () (0 : Int) (fun _ => rfl) h (SE.fin [0] ⟨rfl, rfl, rfl, rfl, rfl, trivial⟩ rfl) (fun n z25 y24 h => ?_)
      unfold chg_Through_l3 at h
      refine sr ?_
      refine JO.s rfl (o_lss rfl) ⟨rfl, rfl, trivial⟩ ?_
      refine nt ?_
      refine JC.seq ?_
      refine JC.cond rfl (fun hb => ?_) (fun hb => ?_)
      ·
       replace h := b_if (d_t hb) h
       refine JC.skip ?_
       refine JN.then_n ?_
       show JC _ _ _ _ _
       refine JC.seq ?_
       refine JC.block ?_
       refine sr ?_
       obtain ⟨x26, ex26, h⟩ := b_bind h
       refine JO.s rfl (o_index (t := (.int .i64)) rfl Try.underlying22 sz3 ex26) ⟨rfl, rfl, trivial⟩ ?_
       refine JO.s rfl (o_load_at (t := (.int .i64)) rfl sz3 rfl) ⟨rfl, trivial⟩ ?_
       refine aq ?_
       refine nt ?_
       refine sr ?_
       refine mq ?_
       obtain ⟨r27, er27, h⟩ := b_bind h
       have cr27 := chg_outside_ok k x26 (0 : Int) (20 : Int) r27 er27
       refine JO.s rfl (o_call [.tmp 83, .const (.int .i64 (0)), .const (.int .i64 (20))] rfl rfl en71 rfl cr27) ⟨rfl, rfl, rfl, trivial⟩ ?_
       refine nt ?_
       refine JC.cond rfl (fun hb => ?_) (fun hb => ?_)
       ·
        replace h := b_if (v_t hb) h
        refine sr ?_
        refine cq ?_
        refine cq ?_
        refine nt ?_
        refine JC.ret ?_
        refine JN.blk_r ?_
        refine JN.then_r ?_
        refine JN.then_r ?_
        refine JN.blk_r ?_
        refine JN.then_r ?_
        refine JN.se (SE.ent (t := (.slice (.int .i64))) (x := []) 4 rfl .nil rfl rfl) ?_
        obtain rfl := hR _ h
        exact JN.ret () [_, _] 0 ⟨rfl, rfl, trivial⟩ rfl
       ·
        replace h := b_ifn (v_f hb) h
        refine JC.skip ?_
        refine JN.blk_n ?_
        refine JN.then_n ?_
        show JC _ _ _ _ _
        refine JC.region ?_
        obtain ⟨x28, ex28, h⟩ := b_bind h
        refine JO.s rfl (o_add rfl ex28) ⟨rfl, rfl, trivial⟩ ?_
        refine mq ?_
        refine JO.nil ?_
        refine JN.then_n ?_
        exact JN.z ((), x28) h (SE.fin [0] ⟨rfl, rfl, rfl, rfl, rfl, trivial⟩ rfl)
      ·
       replace h := b_ifn (d_f hb) h
       refine JC.exit ?_
       refine JN.then_x ?_
       refine JN.then_x ?_
       refine JN.blk_hit ?_
       refine JN.then_n ?_
       exact JN.z ((), ()) h (SE.fin [0] ⟨rfl, rfl, trivial⟩ rfl)
     ·
      refine sr ?_
      refine cq ?_
      refine nt ?_
      refine sr ?_
      refine cq ?_
      refine nt ?_
      refine JC.cutE (Z := Value) (α := (List Int)) (fun z30 x29 => [(16, .eq z30)]) (fun z30 x29 => [.sl z30 3 (.int .i64) x29]) (fun e => e = r) h (fun e h => Option.some.inj h) (fun K hR h => ?_) (fun z30 x29 h => ?_)
      ·
       refine sr ?_
       refine mq ?_
       refine JO.s11 rfl rfl rfl (o_len_own rfl rfl Try.underlying128) ⟨rfl, trivial⟩ ?_
       refine JO.mc rfl ?_
       refine nt ?_
       refine JC.block ?_
       refine JC.se (SE.nil 3 (.int .i64)) ?_
       refine JC.loopB (Z := Value) (α := (List Int) × Int × Int) (fun z32 y31 => [(1, .rep (.slice (.int .i64)) a1), (16, .eq z32), (17, .eq (.int .i64 y31.2.1)), (86, .eq z3), (87, .eq (.int .i64 (x2.length : Int))), (88, .eq (.int .i64 y31.2.2))]) (fun z32 y31 => [.sl z32 3 (.int .i64) y31.1, .sl z3 98 (.ptr tquick) x2]) (chg_Through_l4 k a1 x2) k (.slice none 0 0) (([] : (List Int)), (0 : Int), (0 : Int)) (fun _ => rfl) h (SE.fin [0, 1] ⟨rfl, rfl, rfl, rfl, rfl, rfl, trivial⟩ rfl) (fun n z32 y31 h => ?_)
       unfold chg_Through_l4 at h
       refine sr ?_
       refine JO.s rfl (o_lss rfl) ⟨rfl, rfl, trivial⟩ ?_
       refine nt ?_
       refine JC.seq ?_
       refine JC.cond rfl (fun hb => ?_) (fun hb => ?_)
       ·
        replace h := b_if (d_t hb) h
        refine JC.skip ?_
        refine JN.then_n ?_
        show JC _ _ _ _ _
        refine JC.cutE (Z := Value) (α := (List Int) × Int) (fun z34 x33 => [(1, .rep (.slice (.int .i64)) a1), (16, .eq z34), (17, .eq (.int .i64 x33.2)), (86, .eq z3), (87, .eq (.int .i64 (x2.length : Int))), (88, .eq (.int .i64 y31.2.2))]) (fun z34 x33 => [.sl z34 3 (.int .i64) x33.1, .sl z3 98 (.ptr tquick) x2]) (fun e => e = r) h (fun e h => hR e h) (fun K hR h => ?_) (fun z34 x33 h => ?_)
        ·
         refine JC.block ?_
         refine sr ?_
         refine mq ?_
         obtain ⟨x35, ex35, h⟩ := b_bind h
         refine JO.front 1 rfl ?_
         refine JO.s11 rfl rfl rfl (o_index_own (t := (.ptr tquick)) rfl Try.underlying128 sz98 ex35) ⟨rfl, rfl, trivial⟩ ?_
         refine JO.s11 rfl rfl rfl (o_load_el (i := Int.toNat y31.2.2) (off := 0) rfl sz98 (fun _ => rfl) rfl (geti_some ex35).2.2 rfl) ⟨rfl, trivial⟩ ?_
         refine aq ?_
         refine aq ?_
         refine nt ?_
         refine JC.cutB (Z := Unit) (α := Int) (fun z37 x36 => [(1, .rep (.slice (.int .i64)) a1), (16, .eq z32), (17, .eq (.int .i64 x36)), (19, .at tquick x35), (86, .eq z3), (87, .eq (.int .i64 (x2.length : Int))), (88, .eq (.int .i64 y31.2.2))]) (fun z37 x36 => [.sl z32 3 (.int .i64) y31.1, .sl z3 98 (.ptr tquick) x2]) h (fun K h => ?_) (fun z37 x36 h => ?_)
         ·
          refine sr ?_
          refine mq ?_
          refine JO.s rfl (o_gtr rfl) ⟨rfl, rfl, trivial⟩ ?_
          refine nt ?_
          refine JC.cond rfl (fun hb => ?_) (fun hb => ?_)
          ·
           replace h := b_if (d_t hb) h
           refine JC.region ?_
           iterate 3 refine mq ?_
           obtain ⟨x38, ex38, h⟩ := b_bind h
           refine JO.s rfl (o_sub rfl ex38) ⟨rfl, rfl, trivial⟩ ?_
           obtain ⟨x39, ex39, h⟩ := b_bind h
           refine JO.s rfl (o_index (t := (.int .i64)) rfl Try.underlying22 sz3 ex39) ⟨rfl, rfl, trivial⟩ ?_
           refine JO.s rfl (o_load_at (t := (.int .i64)) rfl sz3 rfl) ⟨rfl, trivial⟩ ?_
           obtain ⟨x40, ex40, h⟩ := b_bind h
           refine JO.s rfl (o_add rfl ex40) ⟨rfl, rfl, trivial⟩ ?_
           refine aq ?_
           refine JO.nil ?_
           refine JN.then_n ?_
           exact JN.z ((), x40) h (SE.fin [1, 0] ⟨rfl, rfl, rfl, rfl, rfl, rfl, rfl, trivial⟩ rfl)
          ·
           replace h := b_ifn (d_f hb) h
           refine JC.skip ?_
           refine JN.then_n ?_
           exact JN.z ((), y31.2.1) h (SE.fin [1, 0] ⟨rfl, rfl, rfl, rfl, rfl, rfl, rfl, trivial⟩ rfl)
         ·
          refine sr ?_
          refine mq ?_
          refine JO.s rfl (o_nil_at rfl) ⟨rfl, trivial⟩ ?_
          refine JO.s rfl (o_field_at 4 true rfl fo120_0 rfl) ⟨rfl, trivial⟩ ?_
          refine JO.s rfl (o_field_at 1 false rfl fo28_1 rfl) ⟨rfl, trivial⟩ ?_
          refine JO.s rfl (o_load_at (t := (.slice tDresser)) rfl sz26 rfl) ⟨rfl, trivial⟩ ?_
          obtain ⟨r41, er41, h⟩ := b_bind h
          have cr41 := slc_Clone_Dresser_ok k x35.1.2.1 r41 er41
          refine JO.s01 rfl rfl rfl (o_call [.tmp 106] rfl rfl en72 rfl cr41) ⟨rfl, trivial⟩ fun v42 => ?_
          refine aq ?_
          refine nt ?_
          refine JC.cutB (Z := Unit) (α := (List dDresser)) (fun z44 x43 => [(1, .rep (.slice (.int .i64)) a1), (16, .eq z32), (17, .eq (.int .i64 x36)), (19, .at tquick x35), (20, .eq v42), (86, .eq z3), (87, .eq (.int .i64 (x2.length : Int))), (88, .eq (.int .i64 y31.2.2))]) (fun z44 x43 => [.sl z32 3 (.int .i64) y31.1, .sl v42 53 tDresser x43, .sl z3 98 (.ptr tquick) x2]) h (fun K h => ?_) (fun z44 x43 h => ?_)
          ·
           refine sr ?_
           refine mq ?_
           refine JO.s11 rfl rfl rfl (o_len_own rfl rfl Try.underlying26) ⟨rfl, trivial⟩ ?_
           refine JO.mc rfl ?_
           refine nt ?_
           refine JC.block ?_
           refine JC.loopB (Z := Unit) (α := (List dDresser) × Int) (fun z46 y45 => [(1, .rep (.slice (.int .i64)) a1), (16, .eq z32), (17, .eq (.int .i64 x36)), (19, .at tquick x35), (20, .eq v42), (86, .eq z3), (87, .eq (.int .i64 (x2.length : Int))), (88, .eq (.int .i64 y31.2.2)), (109, .eq (.int .i64 (r41.length : Int))), (110, .eq (.int .i64 y45.2))]) (fun z46 y45 => [.sl z32 3 (.int .i64) y31.1, .sl v42 53 tDresser y45.1, .sl z3 98 (.ptr tquick) x2]) (chg_Through_l5 k x36 r41) k () (r41, (0 : Int)) (fun _ => rfl) h (SE.fin [1, 0, 2] ⟨rfl, rfl, rfl, rfl, rfl, rfl, rfl, rfl, rfl, rfl, trivial⟩ rfl) (fun n z46 y45 h => ?_)
           unfold chg_Through_l5 at h
           refine sr ?_
           refine JO.s rfl (o_lss rfl) ⟨rfl, rfl, trivial⟩ ?_
           refine nt ?_
           refine JC.seq ?_
           refine JC.cond rfl (fun hb => ?_) (fun hb => ?_)
           ·
            replace h := b_if (d_t hb) h
            refine JC.skip ?_
            refine JN.then_n ?_
            show JC _ _ _ _ _
            refine JC.seq ?_
            refine JC.block ?_
            refine sr ?_
            refine mq ?_
            refine aq ?_
            refine nt ?_
            refine JC.region ?_
            iterate 4 refine mq ?_
            obtain ⟨x47, ex47, h⟩ := b_bind h
            refine JO.front 1 rfl ?_
            refine JO.s11 rfl rfl rfl (o_index_own (t := tDresser) rfl Try.underlying26 sz53 ex47) ⟨rfl, rfl, trivial⟩ ?_
            refine JO.s11 rfl rfl rfl (o_field_el rfl fo53_2 (geti_ne ex47)) ⟨rfl, trivial⟩ ?_
            refine JO.s11 rfl rfl rfl (o_load_el (i := Int.toNat y45.2) (off := 2) rfl sz3 (fun _ => rfl) rfl (geti_some ex47).2.2 rfl) ⟨rfl, trivial⟩ ?_
            refine mq ?_
            obtain ⟨x48, ex48, h⟩ := b_bind h
            refine JO.s rfl (o_sub rfl ex48) ⟨rfl, rfl, trivial⟩ ?_
            refine JO.s rfl (o_max rfl rfl) ⟨rfl, rfl, trivial⟩ ?_
            obtain ⟨x49, ex49, h⟩ := b_bind h
            refine JO.s11 rfl rfl rfl (o_index_own (t := tDresser) rfl Try.underlying26 sz53 ex49) ⟨rfl, rfl, trivial⟩ ?_
            refine JO.s11 rfl rfl rfl (o_field_el rfl fo53_2 (geti_ne ex49)) ⟨rfl, trivial⟩ ?_
            refine JO.n11 rfl rfl (o_store_el (i := Int.toNat y45.2) (off := 2) rfl sz3 rfl (geti_some ex49).2.2 .int rfl (.agg (.right (.right .whole rfl) rfl))) ⟨rfl, rfl, trivial⟩ ?_
            refine JO.nil ?_
            refine JN.blk_n ?_
            refine JN.then_n ?_
            show JC _ _ _ _ _
            refine JC.region ?_
            obtain ⟨x50, ex50, h⟩ := b_bind h
            refine JO.s rfl (o_add rfl ex50) ⟨rfl, rfl, trivial⟩ ?_
            refine mq ?_
            refine JO.nil ?_
            refine JN.then_n ?_
            exact JN.z ((), (List.set y45.1 (Int.toNat y45.2) (x49.1, x49.2.1, imax (0 : Int) x48), x50)) h (SE.fin [1, 0, 2] ⟨rfl, rfl, rfl, rfl, rfl, rfl, rfl, rfl, rfl, rfl, trivial⟩ rfl)
           ·
            replace h := b_ifn (d_f hb) h
            refine JC.exit ?_
            refine JN.then_x ?_
            refine JN.then_x ?_
            refine JN.blk_hit ?_
            refine JN.then_n ?_
            exact JN.z ((), y45.1) h (SE.fin [0, 1, 2] ⟨rfl, rfl, rfl, rfl, rfl, rfl, rfl, rfl, trivial⟩ rfl)
          ·
           refine sr ?_
           iterate 2 refine mq ?_
           obtain ⟨r51, er51, h⟩ := b_bind h
           have cr51 := chg_quick_fewestF_ok k x35 x43 r51 er51
           refine JO.front 1 rfl ?_
           refine JO.s11 rfl rfl rfl (OpT.borrow (N := [(.tmp 127, .at tquick x35), (.tmp 128, .eq v42)]) (o_call [.tmp 127, .tmp 128] rfl rfl en73 rfl cr51) (fun _ _ _ hv hn => ⟨hn.1, (lend hn.2.1 hv), trivial⟩) (fun _ => ⟨rfl, flat_nil⟩)) ⟨rfl, rfl, trivial⟩ ?_
           refine mq ?_
           refine JO.s rfl (o_extract rfl rfl) ⟨rfl, trivial⟩ ?_
           refine JO.s rfl (o_extract rfl rfl) ⟨rfl, trivial⟩ ?_
           refine aq ?_
           refine aq ?_
           refine nt ?_
           refine JC.seq ?_
           refine sr ?_
           refine mq ?_
           refine JO.s rfl (o_not rfl) ⟨rfl, trivial⟩ ?_
           refine nt ?_
           refine JC.cond rfl (fun hb => ?_) (fun hb => ?_)
           ·
            replace h := b_if (nv_t hb) h
            refine sr ?_
            refine cq ?_
            refine cq ?_
            refine nt ?_
            refine JC.ret ?_
            refine JN.then_r ?_
            refine JN.blk_r ?_
            refine JN.then_r ?_
            refine JN.then_r ?_
            refine JN.blk_r ?_
            refine JN.then_r ?_
            refine JN.se (SE.ent (t := (.slice (.int .i64))) (x := []) 4 rfl .nil rfl rfl) ?_
            obtain rfl := hR _ h
            exact JN.ret () [_, _] 0 ⟨rfl, rfl, trivial⟩ rfl
           ·
            replace h := b_ifn (nv_fn hb) h
            refine JC.skip ?_
            refine JN.then_n ?_
            show JC _ _ _ _ _
            refine sr ?_
            iterate 2 refine mq ?_
            obtain ⟨x52, ex52, h⟩ := b_bind h
            refine JO.s rfl (o_add rfl ex52) ⟨rfl, rfl, trivial⟩ ?_
            refine aq ?_
            refine nt ?_
            refine JC.region ?_
            iterate 2 refine mq ?_
            refine JO.s rfl (o_litB (t := (.int .i64)) [(.tmp 138, _)] [x52] rfl rfl sl22 (.cons rfl .int .nil) rfl rfl) ⟨rfl, trivial⟩ ?_
            obtain ⟨u53, eu53, h⟩ := b_bind h
            refine JO.front 1 rfl ?_
            refine JO.s1x rfl rfl rfl (o_append rfl rfl sl22 (chkP_some eu53)) ⟨rfl, rfl, trivial⟩ fun v54 => ?_
            refine aq ?_
            refine JO.nil ?_
            refine JN.blk_n ?_
            refine JN.then_n ?_
            exact JN.z (v54, (y31.1 ++ [x52], x52)) h (SE.fin [0, 2] ⟨rfl, rfl, rfl, rfl, rfl, rfl, trivial⟩ rfl)
        ·
         refine JC.region ?_
         obtain ⟨x55, ex55, h⟩ := b_bind h
         refine JO.s rfl (o_add rfl ex55) ⟨rfl, rfl, trivial⟩ ?_
         refine mq ?_
         refine JO.nil ?_
         refine JN.then_n ?_
         exact JN.z (z34, (x33.1, x33.2, x55)) h (SE.fin [0, 1] ⟨rfl, rfl, rfl, rfl, rfl, rfl, trivial⟩ rfl)
       ·
        replace h := b_ifn (d_f hb) h
        refine JC.exit ?_
        refine JN.then_x ?_
        refine JN.then_x ?_
        refine JN.blk_hit ?_
        refine JN.then_n ?_
        exact JN.z (z32, y31.1) h (SE.fin [0] ⟨rfl, trivial⟩ rfl)
      ·
       refine sr ?_
       refine mq ?_
       refine aq ?_
       refine cq ?_
       refine nt ?_
       refine JC.ret ?_
       refine JN.se (SE.frz [4, 16, 142] ⟨rfl, rfl, rfl, trivial⟩) ?_
       obtain rfl := Option.some.inj h
       exact JN.ret () [_, _] 0 ⟨rfl, rfl, trivial⟩ rfl


def chg_Wearing_l1 (k : Nat) (a1 : (List dStep)) (a2 : Int) (q3 : (dChange × (List (Bool × Int)) × (List Int))) (r6 : (List Int) × (List Int)) : Nat → (Int × Int × Int) → Option (Int × Int)
 | 0, _ => none
 | n + 1, y10 =>
  if y10.2.2 < (a1.length : Int) then ((((geti a1 y10.2.2).bind fun x14 =>
  (geti q3.2.1 x14.1).bind fun x16 =>
  if ¬ (x16.1 = true) then ((geti r6.1 y10.2.2).bind fun x17 =>
  if x17 ≤ a2 then ((cond x16.1 (chg_on_thing k x16.2) (chg_off_thing k x16.2)).bind fun r18 =>
  (chg_of k [r18]).bind fun r19 =>
  some (iandn .u8 y10.1 r19, y10.2.1)) else (some (y10.1, y10.2.1))) else ((chkP (0 ≤ x14.1 ∧ x14.1 < 4)).bind fun _ =>
  (geti r6.2 x14.1).bind fun x21 =>
  if x21 ≤ a2 then ((cond x16.1 (chg_on_thing k x16.2) (chg_off_thing k x16.2)).bind fun r22 =>
  (chg_of k [r22]).bind fun r23 =>
  some (y10.1, ior .u8 y10.2.1 r23)) else (some (y10.1, y10.2.1)))) : Option (Int × Int)).bind fun x12 =>
  (ck (y10.2.2 + (1 : Int))).bind fun x24 =>
  chg_Wearing_l1 k a1 a2 q3 r6 n (x12.1, x12.2, x24)) else (some (y10.1, y10.2.1))
def chg_Wearing (k : Nat) (a0 : dChange) (a1 : (List dStep)) (a2 : Int) : Option ((List Int) × Int) :=
 (chg_asked k a0 a1).bind fun r2 =>
 casesO r2.1 (if ¬ (r2.2 = (0 : Int)) then (some ([], r2.2)) else (if a2 < (0 : Int) then (some ([], (1 : Int))) else (none))) (fun q3 => if ¬ (r2.2 = (0 : Int)) then (some ([], r2.2)) else (if a2 < (0 : Int) then (some ([], (1 : Int))) else ((chg_of k q3.1.2.2.1).bind fun r5 =>
 (chg_quick_begins k ((q3.1.1, q3.1.2.1, q3.1.2.2.1, q3.1.2.2.2), q3.2.1, q3.2.2) a1).bind fun r6 =>
 ((chg_Wearing_l1 k a1 a2 q3 r6 k (r5, (0 : Int), (0 : Int))) : Option (Int × Int)).bind fun x8 =>
 (chg_set_list k (ior .u8 x8.1 x8.2)).bind fun r25 =>
 some (r25, (0 : Int)))))

theorem chg_Wearing_ok (k : Nat) (a0 : dChange) (a1 : (List dStep)) (a2 : Int) (r : (List Int) × Int) (h : chg_Wearing k a0 a1 a2 = some r) :
 Ctr Try.prog 39 [.rep tChange a0, .rep (.slice tStep) a1, .eq (.int .i64 a2)] [] (fun _ : Unit => (resA [.rep (.slice (.int .i64)) r.1, .eq (.int .i64 r.2)], [])) := by
 unfold chg_Wearing at h
 replace h := b_top h
 refine Ctr.of 88 Try.func39 rfl Try.ntmps39 rfl fun S w0 => ?_
 refine sr ?_
 refine JO.s01 rfl rfl rfl (o_box rfl rfl) ⟨rfl, trivial⟩ fun b1 => ?_
 refine cq ?_
 refine cq ?_
 refine nt ?_
 refine sr ?_
 refine JO.s11 rfl rfl rfl (o_load_obj rfl sz28 (nfn) rfl) ⟨rfl, trivial⟩ ?_
 refine mq ?_
 obtain ⟨r2, er2, h⟩ := b_bind h
 have cr2 := chg_asked_ok k a0 a1 r2 er2
 rcases hr : r2.1 with _ | q3
 ·
  rw [hr] at h cr2; replace h := co_n h
  refine JO.stepG (Δ := []) (F := _) (fun _ _ _ => wanted_none rfl _) rfl rfl (o_call [.tmp 18, .tmp 19] rfl rfl en64 rfl cr2) ⟨rfl, rfl, trivial⟩ fun _ => ?_
  refine mq ?_
  refine JO.s rfl (o_extract rfl rfl) ⟨rfl, trivial⟩ ?_
  refine JO.s rfl (o_extract rfl rfl) ⟨rfl, trivial⟩ ?_
  refine aq ?_
  refine aq ?_
  refine nt ?_
  refine JC.seq ?_
  refine sr ?_
  refine mq ?_
  refine JO.s rfl (o_neq rfl) ⟨rfl, rfl, trivial⟩ ?_
  refine nt ?_
  refine JC.cond rfl (fun hb => ?_) (fun hb => ?_)
  ·
   replace h := b_if (n_t hb) h
   refine sr ?_
   refine mq ?_
   refine cq ?_
   refine aq ?_
   refine nt ?_
   refine JC.ret ?_
   refine JN.then_r ?_
   refine JN.se (SE.ent (t := (.slice (.int .i64))) (x := []) 6 rfl .nil rfl rfl) ?_
   obtain rfl := Option.some.inj h
   exact JN.ret () [_, _] 0 ⟨rfl, rfl, trivial⟩ rfl
  ·
   replace h := b_ifn (n_fn hb) h
   refine JC.skip ?_
   refine JN.then_n ?_
   show JC _ _ _ _ _
   refine JC.seq ?_
   refine sr ?_
   refine mq ?_
   refine JO.s rfl (o_lss rfl) ⟨rfl, rfl, trivial⟩ ?_
   refine nt ?_
   refine JC.cond rfl (fun hb => ?_) (fun hb => ?_)
   ·
    replace h := b_if (d_t hb) h
    refine sr ?_
    refine cq ?_
    refine cq ?_
    refine nt ?_
    refine JC.ret ?_
    refine JN.then_r ?_
    refine JN.se (SE.ent (t := (.slice (.int .i64))) (x := []) 6 rfl .nil rfl rfl) ?_
    obtain rfl := Option.some.inj h
    exact JN.ret () [_, _] 0 ⟨rfl, rfl, trivial⟩ rfl
   ·
    replace h := b_ifn (d_f hb) h
    refine JC.skip ?_
    refine JN.then_n ?_
    show JC _ _ _ _ _
    refine sr ?_
    refine mq ?_
    cases h
 ·
  rw [hr] at h cr2; replace h := co_s h
  refine JO.stepG (Δ := []) (F := _) (fun _ _ _ => wanted_none rfl _) rfl rfl (o_call [.tmp 18, .tmp 19] rfl rfl en64 rfl cr2) ⟨rfl, rfl, trivial⟩ fun z4 => ?_
  refine mq ?_
  refine JO.s rfl (o_extract rfl rfl) ⟨rfl, trivial⟩ ?_
  refine JO.s rfl (o_extract rfl rfl) ⟨rfl, trivial⟩ ?_
  refine aq ?_
  refine aq ?_
  refine nt ?_
  refine JC.seq ?_
  refine sr ?_
  refine mq ?_
  refine JO.s rfl (o_neq rfl) ⟨rfl, rfl, trivial⟩ ?_
  refine nt ?_
  refine JC.cond rfl (fun hb => ?_) (fun hb => ?_)
  ·
   replace h := b_if (n_t hb) h
   refine sr ?_
   refine mq ?_
   refine cq ?_
   refine aq ?_
   refine nt ?_
   refine JC.ret ?_
   refine JN.then_r ?_
   refine JN.se (SE.ent (t := (.slice (.int .i64))) (x := []) 6 rfl .nil rfl rfl) ?_
   obtain rfl := Option.some.inj h
   exact JN.ret () [_, _] 0 ⟨rfl, rfl, trivial⟩ rfl
  ·
   replace h := b_ifn (n_fn hb) h
   refine JC.skip ?_
   refine JN.then_n ?_
   show JC _ _ _ _ _
   refine JC.seq ?_
   refine sr ?_
   refine mq ?_
   refine JO.s rfl (o_lss rfl) ⟨rfl, rfl, trivial⟩ ?_
   refine nt ?_
   refine JC.cond rfl (fun hb => ?_) (fun hb => ?_)
   ·
    replace h := b_if (d_t hb) h
    refine sr ?_
    refine cq ?_
    refine cq ?_
    refine nt ?_
    refine JC.ret ?_
    refine JN.then_r ?_
    refine JN.se (SE.ent (t := (.slice (.int .i64))) (x := []) 6 rfl .nil rfl rfl) ?_
    obtain rfl := Option.some.inj h
    exact JN.ret () [_, _] 0 ⟨rfl, rfl, trivial⟩ rfl
   ·
    replace h := b_ifn (d_f hb) h
    refine JC.skip ?_
    refine JN.then_n ?_
    show JC _ _ _ _ _
    refine sr ?_
    refine mq ?_
    refine JO.s rfl (o_nil_obj rfl) ⟨rfl, trivial⟩ ?_
    refine JO.s rfl (o_field_obj rfl fo120_0) ⟨rfl, trivial⟩ ?_
    refine JO.s rfl (o_field_obj rfl fo28_2) ⟨rfl, trivial⟩ ?_
    refine JO.s11 rfl rfl rfl (o_load_obj rfl sz22 (fun _ => rfl) rfl) ⟨rfl, trivial⟩ ?_
    obtain ⟨r5, er5, h⟩ := b_bind h
    have cr5 := chg_of_ok k q3.1.2.2.1 r5 er5
    refine JO.s rfl (o_call [.tmp 32] rfl rfl en81 rfl cr5) ⟨rfl, trivial⟩ ?_
    refine aq ?_
    refine nt ?_
    refine sr ?_
    iterate 2 refine mq ?_
    obtain ⟨r6, er6, h⟩ := b_bind h
    have cr6 := chg_quick_begins_ok k ((q3.1.1, q3.1.2.1, q3.1.2.2.1, q3.1.2.2.2), q3.2.1, q3.2.2) z4.1 (.map (some z4.2)) a1 r6 er6
    refine JO.s11 rfl rfl rfl (o_call [.tmp 35, .tmp 36] rfl rfl en65 rfl cr6) ⟨rfl, rfl, trivial⟩ ?_
    refine mq ?_
    refine JO.s rfl (o_extract rfl rfl) ⟨rfl, trivial⟩ ?_
    refine JO.s rfl (o_extract rfl rfl) ⟨rfl, trivial⟩ ?_
    refine JO.s01 rfl rfl rfl (o_alloc rfl za101 al101) trivial fun b7 => ?_
    refine aq ?_
    refine JO.n11 rfl rfl (o_store rfl sz101 rfl rfl rfl) ⟨rfl, rfl, trivial⟩ ?_
    refine nt ?_
    refine sr ?_
    refine cq ?_
    refine nt ?_
    refine JC.cutB (Z := Unit) (α := Int × Int) (fun z9 x8 => [(10, .eq (.int .u8 x8.1)), (13, .eq (.int .u8 x8.2))]) (fun z9 x8 => [.raw z4.2 (.map #[] 0)]) h (fun K h => ?_) (fun z9 x8 h => ?_)
    ·
     refine sr ?_
     refine mq ?_
     refine JO.s rfl (o_len rfl rfl Try.underlying30) ⟨rfl, trivial⟩ ?_
     refine JO.mc rfl ?_
     refine nt ?_
     refine JC.block ?_
     refine JC.loopB (Z := Unit) (α := Int × Int × Int) (fun z11 y10 => [(2, .eq (.int .i64 a2)), (8, .eq (.pointer (some ⟨z4.1, 0, none⟩))), (10, .eq (.int .u8 y10.1)), (11, .rep (.slice (.int .i64)) r6.1), (12, .eq (.pointer (some ⟨b7, 0, none⟩))), (13, .eq (.int .u8 y10.2.1)), (40, .rep (.slice tStep) a1), (41, .eq (.int .i64 (a1.length : Int))), (42, .eq (.int .i64 y10.2.2))]) (fun z11 y10 => [.obj z4.1 120 (.agg (.pair (.agg (.pair (.rep (.slice tThing) q3.1.1) (.pair (.rep (.slice tDresser) q3.1.2.1) (.pair (.rep (.slice (.int .i64)) q3.1.2.2.1) (.rep (.slice (.int .i64)) q3.1.2.2.2))))) (.pair (.rep (.slice (.tag 131 133)) q3.2.1) (.pair (.rep (.arr 8 (.int .u8)) q3.2.2) (.eq (.map (some z4.2))))))), .obj b7 101 (.rep (.arr 4 (.int .i64)) r6.2), .raw z4.2 (.map #[] 0)]) (chg_Wearing_l1 k a1 a2 q3 r6) k () (r5, (0 : Int), (0 : Int)) (fun _ => rfl) h (SE.fin [1, 0, 2] ⟨rfl, rfl, rfl, rfl, rfl, rfl, rfl, rfl, rfl, trivial⟩ rfl) (fun n z11 y10 h => ?_)
     unfold chg_Wearing_l1 at h
     refine sr ?_
     refine JO.s rfl (o_lss rfl) ⟨rfl, rfl, trivial⟩ ?_
     refine nt ?_
     refine JC.seq ?_
     refine JC.cond rfl (fun hb => ?_) (fun hb => ?_)
     ·
      replace h := b_if (d_t hb) h
      refine JC.skip ?_
      refine JN.then_n ?_
      show JC _ _ _ _ _
      refine JC.cutB (Z := Unit) (α := Int × Int) (fun z13 x12 => [(2, .eq (.int .i64 a2)), (8, .eq (.pointer (some ⟨z4.1, 0, none⟩))), (10, .eq (.int .u8 x12.1)), (11, .rep (.slice (.int .i64)) r6.1), (12, .eq (.pointer (some ⟨b7, 0, none⟩))), (13, .eq (.int .u8 x12.2)), (40, .rep (.slice tStep) a1), (41, .eq (.int .i64 (a1.length : Int))), (42, .eq (.int .i64 y10.2.2))]) (fun z13 x12 => [.obj z4.1 120 (.agg (.pair (.agg (.pair (.rep (.slice tThing) q3.1.1) (.pair (.rep (.slice tDresser) q3.1.2.1) (.pair (.rep (.slice (.int .i64)) q3.1.2.2.1) (.rep (.slice (.int .i64)) q3.1.2.2.2))))) (.pair (.rep (.slice (.tag 131 133)) q3.2.1) (.pair (.rep (.arr 8 (.int .u8)) q3.2.2) (.eq (.map (some z4.2))))))), .obj b7 101 (.rep (.arr 4 (.int .i64)) r6.2), .raw z4.2 (.map #[] 0)]) h (fun K h => ?_) (fun z13 x12 h => ?_)
      ·
       refine JC.block ?_
       refine sr ?_
       refine mq ?_
       obtain ⟨x14, ex14, h⟩ := b_bind h
       refine JO.s rfl (o_index (t := tStep) rfl Try.underlying30 sz43 ex14) ⟨rfl, rfl, trivial⟩ ?_
       refine JO.s rfl (o_load_at (t := tStep) rfl sz43 rfl) ⟨rfl, trivial⟩ ?_
       refine JO.s01 rfl rfl rfl (o_alloc rfl za43 al43) trivial fun b15 => ?_
       refine aq ?_
       refine JO.n11 rfl rfl (o_store rfl sz43 rfl rfl rfl) ⟨rfl, rfl, trivial⟩ ?_
       refine nt ?_
       refine JC.seq ?_
       refine JC.drawN ?_
       refine dm ?_
       refine DN.s00 rfl rfl rfl (o_nil_obj rfl) ⟨rfl, trivial⟩ ?_
       refine DN.s00 rfl rfl rfl (o_field_obj rfl fo120_1) ⟨rfl, trivial⟩ ?_
       refine DN.s11 1 rfl rfl rfl rfl (o_load_obj rfl sz116 (fun _ => rfl) rfl) ⟨rfl, trivial⟩ ?_
       refine DN.s00 rfl rfl rfl (o_field_obj rfl fo43_0) ⟨rfl, trivial⟩ ?_
       refine DN.s11 0 rfl rfl rfl rfl (o_load_obj rfl sz3 (fun _ => rfl) rfl) ⟨rfl, trivial⟩ ?_
       refine DN.fin (by kernel_rfl) mixed ?_
       obtain ⟨x16, ex16, h⟩ := b_bind h
       refine JO.s rfl (o_index (t := (.tag 131 133)) rfl Try.underlying116 sz130 ex16) ⟨rfl, rfl, trivial⟩ ?_
       refine JO.s rfl (o_load_at (t := (.tag 131 133)) rfl sz130 rfl) ⟨rfl, trivial⟩ ?_
       refine aq ?_
       refine nt ?_
       refine sr ?_
       refine mq ?_
       refine nt ?_
       refine JC.block ?_
       refine sr ?_
       refine JO.s rfl (o_as0 rfl ta131 (by decide)) ⟨rfl, trivial⟩ ?_
       refine JO.s rfl (o_extract rfl rfl) ⟨rfl, trivial⟩ ?_
       refine JO.s rfl (o_extract rfl rfl) ⟨rfl, trivial⟩ ?_
       refine nt ?_
       refine JC.cond rfl (fun hb => ?_) (fun hb => ?_)
       ·
        replace h := b_if (nv_t hb) h
        refine sr ?_
        iterate 2 refine mq ?_
        obtain ⟨x17, ex17, h⟩ := b_bind h
        refine JO.s rfl (o_index (t := (.int .i64)) rfl Try.underlying22 sz3 ex17) ⟨rfl, rfl, trivial⟩ ?_
        refine JO.s rfl (o_load_at (t := (.int .i64)) rfl sz3 rfl) ⟨rfl, trivial⟩ ?_
        refine mq ?_
        refine JO.s rfl (o_leq rfl) ⟨rfl, rfl, trivial⟩ ?_
        refine nt ?_
        refine JC.cond rfl (fun hb => ?_) (fun hb => ?_)
        ·
         replace h := b_if (d_t hb) h
         refine JC.region ?_
         iterate 2 refine mq ?_
         obtain ⟨r18, er18, h⟩ := b_bind h
         refine JO.s rfl (o_invoke rfl rfl mt131_thing mt133_thing (ctr_cond (fun hb => chg_off_thing_ok k x16.2 r18 (by simpa [hb] using er18)) (fun hb => chg_on_thing_ok k x16.2 r18 (by simpa [hb] using er18)))) ⟨rfl, trivial⟩ ?_
         refine JO.s rfl (o_litB (t := (.int .i64)) [(.tmp 79, _)] [r18] rfl rfl sl22 (.cons rfl .int .nil) rfl rfl) ⟨rfl, trivial⟩ ?_
         obtain ⟨r19, er19, h⟩ := b_bind h
         have cr19 := chg_of_ok k [r18] r19 er19
         refine JO.s rfl (o_call [.tmp 80] rfl rfl en81 rfl cr19) ⟨rfl, trivial⟩ ?_
         refine JO.s rfl (o_andn rfl) ⟨rfl, rfl, trivial⟩ ?_
         refine aq ?_
         refine JO.nil ?_
         refine JN.blk_n ?_
         refine JN.blk_n ?_
         refine JN.then_n ?_
         exact JN.z ((), (iandn .u8 y10.1 r19, y10.2.1)) h (SE.fin [1, 2, 3] ⟨rfl, rfl, rfl, rfl, rfl, rfl, rfl, rfl, rfl, trivial⟩ rfl)
        ·
         replace h := b_ifn (d_f hb) h
         refine JC.skip ?_
         refine JN.blk_n ?_
         refine JN.blk_n ?_
         refine JN.then_n ?_
         exact JN.z ((), (y10.1, y10.2.1)) h (SE.fin [1, 2, 3] ⟨rfl, rfl, rfl, rfl, rfl, rfl, rfl, rfl, rfl, trivial⟩ rfl)
       ·
        replace h := b_ifn (nv_fn hb) h
        refine sr ?_
        refine JO.s rfl (o_field_obj rfl fo43_0) ⟨rfl, trivial⟩ ?_
        refine JO.s11 rfl rfl rfl (o_load_obj rfl sz3 (fun _ => rfl) rfl) ⟨rfl, trivial⟩ ?_
        obtain ⟨u20, eu20, h⟩ := b_bind h
        refine JO.s rfl (o_index_arr rfl Try.underlying101 sz3 (chkP_some eu20).1 (chkP_some eu20).2) ⟨rfl, rfl, trivial⟩ ?_
        obtain ⟨x21, ex21, h⟩ := b_bind h
        refine JO.front 2 rfl ?_
        refine JO.s11 rfl rfl rfl (o_load_arr (t := (.int .i64)) (off := 0) (i := x14.1) (N := 4) rfl sz3 (fun _ => rfl) rfl rfl rfl rfl ex21) ⟨rfl, trivial⟩ ?_
        refine mq ?_
        refine JO.s rfl (o_leq rfl) ⟨rfl, rfl, trivial⟩ ?_
        refine nt ?_
        refine JC.cond rfl (fun hb => ?_) (fun hb => ?_)
        ·
         replace h := b_if (d_t hb) h
         refine JC.region ?_
         iterate 2 refine mq ?_
         obtain ⟨r22, er22, h⟩ := b_bind h
         refine JO.s rfl (o_invoke rfl rfl mt131_thing mt133_thing (ctr_cond (fun hb => chg_off_thing_ok k x16.2 r22 (by simpa [hb] using er22)) (fun hb => chg_on_thing_ok k x16.2 r22 (by simpa [hb] using er22)))) ⟨rfl, trivial⟩ ?_
         refine JO.s rfl (o_litB (t := (.int .i64)) [(.tmp 64, _)] [r22] rfl rfl sl22 (.cons rfl .int .nil) rfl rfl) ⟨rfl, trivial⟩ ?_
         obtain ⟨r23, er23, h⟩ := b_bind h
         have cr23 := chg_of_ok k [r22] r23 er23
         refine JO.s rfl (o_call [.tmp 65] rfl rfl en81 rfl cr23) ⟨rfl, trivial⟩ ?_
         refine JO.s rfl (o_or rfl) ⟨rfl, rfl, trivial⟩ ?_
         refine aq ?_
         refine JO.nil ?_
         refine JN.blk_n ?_
         refine JN.blk_n ?_
         refine JN.then_n ?_
         exact JN.z ((), (y10.1, ior .u8 y10.2.1 r23)) h (SE.fin [2, 0, 3] ⟨rfl, rfl, rfl, rfl, rfl, rfl, rfl, rfl, rfl, trivial⟩ rfl)
        ·
         replace h := b_ifn (d_f hb) h
         refine JC.skip ?_
         refine JN.blk_n ?_
         refine JN.blk_n ?_
         refine JN.then_n ?_
         exact JN.z ((), (y10.1, y10.2.1)) h (SE.fin [2, 0, 3] ⟨rfl, rfl, rfl, rfl, rfl, rfl, rfl, rfl, rfl, trivial⟩ rfl)
      ·
       refine JC.region ?_
       obtain ⟨x24, ex24, h⟩ := b_bind h
       refine JO.s rfl (o_add rfl ex24) ⟨rfl, rfl, trivial⟩ ?_
       refine mq ?_
       refine JO.nil ?_
       refine JN.then_n ?_
       exact JN.z ((), (x12.1, x12.2, x24)) h (SE.fin [0, 1, 2] ⟨rfl, rfl, rfl, rfl, rfl, rfl, rfl, rfl, rfl, trivial⟩ rfl)
     ·
      replace h := b_ifn (d_f hb) h
      refine JC.exit ?_
      refine JN.then_x ?_
      refine JN.then_x ?_
      refine JN.blk_hit ?_
      refine JN.then_n ?_
      exact JN.z ((), (y10.1, y10.2.1)) h (SE.fin [2] ⟨rfl, rfl, trivial⟩ rfl)
    ·
     refine sr ?_
     iterate 2 refine mq ?_
     refine JO.s rfl (o_or rfl) ⟨rfl, rfl, trivial⟩ ?_
     obtain ⟨r25, er25, h⟩ := b_bind h
     have cr25 := chg_set_list_ok k (ior .u8 x8.1 x8.2) r25 er25
     refine JO.s rfl (o_call [.tmp 86] rfl rfl en82 rfl cr25) ⟨rfl, trivial⟩ ?_
     refine aq ?_
     refine cq ?_
     refine nt ?_
     refine JC.ret ?_
     obtain rfl := Option.some.inj h
     exact JN.ret () [_, _] 0 ⟨rfl, rfl, trivial⟩ rfl


def kit_SameInts_l1 (k : Nat) (a0 : (List Int)) (a1 : (List Int)) : Nat → Int → Option (Except Bool Unit)
 | 0, _ => none
 | n + 1, y3 =>
  if y3 < (a0.length : Int) then ((geti a0 y3).bind fun x5 =>
  (geti a1 y3).bind fun x6 =>
  if ¬ (x5 = x6) then (some (.error false)) else ((ck (y3 + (1 : Int))).bind fun x7 =>
  kit_SameInts_l1 k a0 a1 n x7)) else (some (.ok ()))
def kit_SameInts (k : Nat) (a0 : (List Int)) (a1 : (List Int)) : Option Bool :=
 if ¬ ((a0.length : Int) = (a1.length : Int)) then (some false) else (bE (α := Unit) (kit_SameInts_l1 k a0 a1 k (0 : Int)) (some) fun _ =>
 some true)

theorem kit_SameInts_ok (k : Nat) (a0 : (List Int)) (a1 : (List Int)) (r : Bool) (h : kit_SameInts k a0 a1 = some r) :
 Ctr Try.prog 40 [.rep (.slice (.int .i64)) a0, .rep (.slice (.int .i64)) a1] [] (fun _ : Unit => (resA [.eq (.bool r)], [])) := by
 unfold kit_SameInts at h
 replace h := b_top h
 refine Ctr.of 26 Try.func40 rfl Try.ntmps40 rfl fun S w0 => ?_
 refine sr ?_
 refine cq ?_
 refine nt ?_
 refine JC.seq ?_
 refine sr ?_
 refine mq ?_
 refine JO.s rfl (o_len rfl rfl Try.underlying22) ⟨rfl, trivial⟩ ?_
 refine mq ?_
 refine JO.s rfl (o_len rfl rfl Try.underlying22) ⟨rfl, trivial⟩ ?_
 refine JO.s rfl (o_neq rfl) ⟨rfl, rfl, trivial⟩ ?_
 refine nt ?_
 refine JC.cond rfl (fun hb => ?_) (fun hb => ?_)
 ·
  replace h := b_if (n_t hb) h
  refine sr ?_
  refine cq ?_
  refine nt ?_
  refine JC.ret ?_
  refine JN.then_r ?_
  obtain rfl := Option.some.inj h
  exact JN.ret () [_] 0 ⟨rfl, trivial⟩ rfl
 ·
  replace h := b_ifn (n_fn hb) h
  refine JC.skip ?_
  refine JN.then_n ?_
  show JC _ _ _ _ _
  refine JC.cutE (Z := Unit) (α := Unit) (fun z2 x1 => []) (fun z2 x1 => []) (fun e => e = r) h (fun e h => Option.some.inj h) (fun K hR h => ?_) (fun z2 x1 h => ?_)
  ·
   refine sr ?_
   refine cq ?_
   refine nt ?_
   refine JC.block ?_
   refine JC.loopB (Z := Unit) (α := Int) (fun z4 y3 => [(0, .rep (.slice (.int .i64)) a0), (1, .rep (.slice (.int .i64)) a1), (5, .eq (.int .i64 y3))]) (fun z4 y3 => []) (kit_SameInts_l1 k a0 a1) k () (0 : Int) (fun _ => rfl) h (SE.fin [] ⟨rfl, rfl, rfl, trivial⟩ rfl) (fun n z4 y3 h => ?_)
   unfold kit_SameInts_l1 at h
   refine JC.seq ?_
   refine sr ?_
   iterate 2 refine mq ?_
   refine JO.s rfl (o_len rfl rfl Try.underlying22) ⟨rfl, trivial⟩ ?_
   refine JO.s rfl (o_lss rfl) ⟨rfl, rfl, trivial⟩ ?_
   refine nt ?_
   refine JC.cond rfl (fun hb => ?_) (fun hb => ?_)
   ·
    replace h := b_if (d_t hb) h
    refine JC.skip ?_
    refine JN.then_n ?_
    show JC _ _ _ _ _
    refine JC.seq ?_
    refine JC.block ?_
    refine JC.seq ?_
    refine JC.drawN ?_
    refine dm ?_
    refine dm ?_
    obtain ⟨x5, ex5, h⟩ := b_bind h
    refine DN.s00 rfl rfl rfl (o_index (t := (.int .i64)) rfl Try.underlying22 sz3 ex5) ⟨rfl, rfl, trivial⟩ ?_
    refine DN.s00 rfl rfl rfl (o_load_at (t := (.int .i64)) rfl sz3 rfl) ⟨rfl, trivial⟩ ?_
    refine dm ?_
    refine dm ?_
    obtain ⟨x6, ex6, h⟩ := b_bind h
    refine DN.s00 rfl rfl rfl (o_index (t := (.int .i64)) rfl Try.underlying22 sz3 ex6) ⟨rfl, rfl, trivial⟩ ?_
    refine DN.s00 rfl rfl rfl (o_load_at (t := (.int .i64)) rfl sz3 rfl) ⟨rfl, trivial⟩ ?_
    refine DN.fin (by kernel_rfl) mixed ?_
    refine JO.s rfl (o_neq rfl) ⟨rfl, rfl, trivial⟩ ?_
    refine nt ?_
    refine JC.cond rfl (fun hb => ?_) (fun hb => ?_)
    ·
     replace h := b_if (n_t hb) h
     refine sr ?_
     refine cq ?_
     refine nt ?_
     refine JC.ret ?_
     refine JN.blk_r ?_
     refine JN.then_r ?_
     refine JN.then_r ?_
     refine JN.blk_r ?_
     refine JN.then_r ?_
     obtain rfl := hR _ h
     exact JN.ret () [_] 0 ⟨rfl, trivial⟩ rfl
    ·
     replace h := b_ifn (n_fn hb) h
     refine JC.skip ?_
     refine JN.blk_n ?_
     refine JN.then_n ?_
     show JC _ _ _ _ _
     refine JC.region ?_
     refine mq ?_
     obtain ⟨x7, ex7, h⟩ := b_bind h
     refine JO.s rfl (o_add rfl ex7) ⟨rfl, rfl, trivial⟩ ?_
     refine aq ?_
     refine JO.nil ?_
     refine JN.then_n ?_
     exact JN.z ((), x7) h (SE.fin [] ⟨rfl, rfl, rfl, trivial⟩ rfl)
   ·
    replace h := b_ifn (d_f hb) h
    refine JC.exit ?_
    refine JN.then_x ?_
    refine JN.then_x ?_
    refine JN.blk_hit ?_
    refine JN.then_n ?_
    exact JN.z ((), ()) h (SE.fin [] trivial rfl)
  ·
   refine sr ?_
   refine cq ?_
   refine nt ?_
   refine JC.ret ?_
   obtain rfl := Option.some.inj h
   exact JN.ret () [_] 0 ⟨rfl, trivial⟩ rfl


def kit_SameSteps_l1 (k : Nat) (a0 : (List dStep)) (a1 : (List dStep)) : Nat → Int → Option (Except Bool Unit)
 | 0, _ => none
 | n + 1, y3 =>
  if y3 < (a0.length : Int) then ((geti a0 y3).bind fun x5 =>
  (geti a1 y3).bind fun x6 =>
  if ¬ (x5 = x6) then (some (.error false)) else ((ck (y3 + (1 : Int))).bind fun x7 =>
  kit_SameSteps_l1 k a0 a1 n x7)) else (some (.ok ()))
def kit_SameSteps (k : Nat) (a0 : (List dStep)) (a1 : (List dStep)) : Option Bool :=
 if ¬ ((a0.length : Int) = (a1.length : Int)) then (some false) else (bE (α := Unit) (kit_SameSteps_l1 k a0 a1 k (0 : Int)) (some) fun _ =>
 some true)

theorem kit_SameSteps_ok (k : Nat) (a0 : (List dStep)) (a1 : (List dStep)) (r : Bool) (h : kit_SameSteps k a0 a1 = some r) :
 Ctr Try.prog 44 [.rep (.slice tStep) a0, .rep (.slice tStep) a1] [] (fun _ : Unit => (resA [.eq (.bool r)], [])) := by
 unfold kit_SameSteps at h
 replace h := b_top h
 refine Ctr.of 26 Try.func44 rfl Try.ntmps44 rfl fun S w0 => ?_
 refine sr ?_
 refine cq ?_
 refine nt ?_
 refine JC.seq ?_
 refine sr ?_
 refine mq ?_
 refine JO.s rfl (o_len rfl rfl Try.underlying30) ⟨rfl, trivial⟩ ?_
 refine mq ?_
 refine JO.s rfl (o_len rfl rfl Try.underlying30) ⟨rfl, trivial⟩ ?_
 refine JO.s rfl (o_neq rfl) ⟨rfl, rfl, trivial⟩ ?_
 refine nt ?_
 refine JC.cond rfl (fun hb => ?_) (fun hb => ?_)
 ·
  replace h := b_if (n_t hb) h
  refine sr ?_
  refine cq ?_
  refine nt ?_
  refine JC.ret ?_
  refine JN.then_r ?_
  obtain rfl := Option.some.inj h
  exact JN.ret () [_] 0 ⟨rfl, trivial⟩ rfl
 ·
  replace h := b_ifn (n_fn hb) h
  refine JC.skip ?_
  refine JN.then_n ?_
  show JC _ _ _ _ _
  refine JC.cutE (Z := Unit) (α := Unit) (fun z2 x1 => []) (fun z2 x1 => []) (fun e => e = r) h (fun e h => Option.some.inj h) (fun K hR h => ?_) (fun z2 x1 h => ?_)
  ·
   refine sr ?_
   refine cq ?_
   refine nt ?_
   refine JC.block ?_
   refine JC.loopB (Z := Unit) (α := Int) (fun z4 y3 => [(0, .rep (.slice tStep) a0), (1, .rep (.slice tStep) a1), (5, .eq (.int .i64 y3))]) (fun z4 y3 => []) (kit_SameSteps_l1 k a0 a1) k () (0 : Int) (fun _ => rfl) h (SE.fin [] ⟨rfl, rfl, rfl, trivial⟩ rfl) (fun n z4 y3 h => ?_)
   unfold kit_SameSteps_l1 at h
   refine JC.seq ?_
   refine sr ?_
   iterate 2 refine mq ?_
   refine JO.s rfl (o_len rfl rfl Try.underlying30) ⟨rfl, trivial⟩ ?_
   refine JO.s rfl (o_lss rfl) ⟨rfl, rfl, trivial⟩ ?_
   refine nt ?_
   refine JC.cond rfl (fun hb => ?_) (fun hb => ?_)
   ·
    replace h := b_if (d_t hb) h
    refine JC.skip ?_
    refine JN.then_n ?_
    show JC _ _ _ _ _
    refine JC.seq ?_
    refine JC.block ?_
    refine JC.seq ?_
    refine JC.drawN ?_
    refine dm ?_
    refine dm ?_
    obtain ⟨x5, ex5, h⟩ := b_bind h
    refine DN.s00 rfl rfl rfl (o_index (t := tStep) rfl Try.underlying30 sz43 ex5) ⟨rfl, rfl, trivial⟩ ?_
    refine DN.s00 rfl rfl rfl (o_load_at (t := tStep) rfl sz43 rfl) ⟨rfl, trivial⟩ ?_
    refine dm ?_
    refine dm ?_
    obtain ⟨x6, ex6, h⟩ := b_bind h
    refine DN.s00 rfl rfl rfl (o_index (t := tStep) rfl Try.underlying30 sz43 ex6) ⟨rfl, rfl, trivial⟩ ?_
    refine DN.s00 rfl rfl rfl (o_load_at (t := tStep) rfl sz43 rfl) ⟨rfl, trivial⟩ ?_
    refine DN.fin (by kernel_rfl) mixed ?_
    refine JO.s rfl (o_neqs rfl eq43 rfl) ⟨rfl, rfl, trivial⟩ ?_
    refine nt ?_
    refine JC.cond rfl (fun hb => ?_) (fun hb => ?_)
    ·
     replace h := b_if (n_t hb) h
     refine sr ?_
     refine cq ?_
     refine nt ?_
     refine JC.ret ?_
     refine JN.blk_r ?_
     refine JN.then_r ?_
     refine JN.then_r ?_
     refine JN.blk_r ?_
     refine JN.then_r ?_
     obtain rfl := hR _ h
     exact JN.ret () [_] 0 ⟨rfl, trivial⟩ rfl
    ·
     replace h := b_ifn (n_fn hb) h
     refine JC.skip ?_
     refine JN.blk_n ?_
     refine JN.then_n ?_
     show JC _ _ _ _ _
     refine JC.region ?_
     refine mq ?_
     obtain ⟨x7, ex7, h⟩ := b_bind h
     refine JO.s rfl (o_add rfl ex7) ⟨rfl, rfl, trivial⟩ ?_
     refine aq ?_
     refine JO.nil ?_
     refine JN.then_n ?_
     exact JN.z ((), x7) h (SE.fin [] ⟨rfl, rfl, rfl, trivial⟩ rfl)
   ·
    replace h := b_ifn (d_f hb) h
    refine JC.exit ?_
    refine JN.then_x ?_
    refine JN.then_x ?_
    refine JN.blk_hit ?_
    refine JN.then_n ?_
    exact JN.z ((), ()) h (SE.fin [] trivial rfl)
  ·
   refine sr ?_
   refine cq ?_
   refine nt ?_
   refine JC.ret ?_
   obtain rfl := Option.some.inj h
   exact JN.ret () [_] 0 ⟨rfl, trivial⟩ rfl


def law_quick (k : Nat) (a0 : Int) (a1 : Int) (a2 : (List Int)) : Option dChange :=
 some ([([(1 : Int)], (2 : Int), (2 : Int), (0 : Int), (0 : Int)), ([], (1 : Int), (1 : Int), (1 : Int), a0), ([], (1 : Int), (1 : Int), (2 : Int), (2 : Int)), ([], (3 : Int), (3 : Int), (0 : Int), (0 : Int))], [([(0 : Int), (1 : Int), (2 : Int)], (1 : Int), a1), (a2, (0 : Int), (1 : Int))], [(0 : Int), (1 : Int)], [(1 : Int), (2 : Int)])

theorem law_quick_ok (k : Nat) (a0 : Int) (a1 : Int) (a2 : (List Int)) (r : dChange) (h : law_quick k a0 a1 a2 = some r) :
 Ctr Try.prog 58 [.eq (.int .i64 a0), .eq (.int .i64 a1), .rep (.slice (.int .i64)) a2] [] (fun _ : Unit => (resA [.rep tChange r], [])) := by
 unfold law_quick at h
 replace h := b_top h
 refine Ctr.of 23 Try.func58 rfl Try.ntmps58 rfl fun S w0 => ?_
 refine sr ?_
 refine JO.s01 rfl rfl rfl (o_alloc rfl za28 al28) trivial fun b1 => ?_
 refine nt ?_
 refine sr ?_
 refine JO.s rfl (o_litB (t := (.int .i64)) [(.const (.int .i64 (1)), _)] [(1 : Int)] rfl rfl sl22 (.cons rfl .int .nil) rfl rfl) ⟨rfl, trivial⟩ ?_
 refine JO.s rfl (o_buildT [(0, .tmp 7, _), (1, .const (.int .i64 (2)), _), (2, .const (.int .i64 (2)), _)] rfl pl45 za45 alb45 (stors ⟨rfl, rfl, rfl, trivial⟩) rfl) ⟨rfl, rfl, rfl, trivial⟩ ?_
 refine mq ?_
 refine JO.s rfl (o_buildT [(1, .const (.int .i64 (1)), _), (2, .const (.int .i64 (1)), _), (3, .const (.int .i64 (1)), _), (4, .tmp 9, _)] rfl pl45 za45 alb45 (stors ⟨rfl, rfl, rfl, rfl, trivial⟩) rfl) ⟨rfl, rfl, rfl, rfl, trivial⟩ ?_
 refine JO.s rfl (o_buildT [(1, .const (.int .i64 (1)), _), (2, .const (.int .i64 (1)), _), (3, .const (.int .i64 (2)), _), (4, .const (.int .i64 (2)), _)] rfl pl45 za45 alb45 (stors ⟨rfl, rfl, rfl, rfl, trivial⟩) rfl) ⟨rfl, rfl, rfl, rfl, trivial⟩ ?_
 refine JO.s rfl (o_buildT [(1, .const (.int .i64 (3)), _), (2, .const (.int .i64 (3)), _)] rfl pl45 za45 alb45 (stors ⟨rfl, rfl, trivial⟩) rfl) ⟨rfl, rfl, trivial⟩ ?_
 refine JO.s rfl (o_litB (t := tThing) [(.tmp 8, _), (.tmp 10, _), (.tmp 11, _), (.tmp 12, _)] [([(1 : Int)], (2 : Int), (2 : Int), (0 : Int), (0 : Int)), ([], (1 : Int), (1 : Int), (1 : Int), a0), ([], (1 : Int), (1 : Int), (2 : Int), (2 : Int)), ([], (3 : Int), (3 : Int), (0 : Int), (0 : Int))] rfl rfl sl25 (.cons trivial (.agg (.pair .rep (.pair .int (.pair .int (.pair .int .int))))) (.cons trivial (.agg (.pair .nil (.pair .int (.pair .int (.pair .int .int))))) (.cons trivial (.agg (.pair .nil (.pair .int (.pair .int (.pair .int .int))))) (.cons trivial (.agg (.pair .nil (.pair .int (.pair .int (.pair .int .int))))) .nil)))) rfl rfl) ⟨rfl, rfl, rfl, rfl, trivial⟩ ?_
 refine JO.s rfl (o_litB (t := (.int .i64)) [(.const (.int .i64 (0)), _), (.const (.int .i64 (1)), _), (.const (.int .i64 (2)), _)] [(0 : Int), (1 : Int), (2 : Int)] rfl rfl sl22 (.cons rfl .int (.cons rfl .int (.cons rfl .int .nil))) rfl rfl) ⟨rfl, rfl, rfl, trivial⟩ ?_
 refine mq ?_
 refine JO.s rfl (o_buildT [(0, .tmp 14, _), (1, .const (.int .i64 (1)), _), (2, .tmp 15, _)] rfl pl53 za53 alb53 (stors ⟨rfl, rfl, rfl, trivial⟩) rfl) ⟨rfl, rfl, rfl, trivial⟩ ?_
 refine mq ?_
 refine JO.s rfl (o_buildT [(0, .tmp 17, _), (2, .const (.int .i64 (1)), _)] rfl pl53 za53 alb53 (stors ⟨rfl, rfl, trivial⟩) rfl) ⟨rfl, rfl, trivial⟩ ?_
 refine JO.s rfl (o_litB (t := tDresser) [(.tmp 16, _), (.tmp 18, _)] [([(0 : Int), (1 : Int), (2 : Int)], (1 : Int), a1), (a2, (0 : Int), (1 : Int))] rfl rfl sl26 (.cons trivial (.agg (.pair .rep (.pair .int .int))) (.cons trivial (.agg (.pair .rep (.pair .int .int))) .nil)) rfl rfl) ⟨rfl, rfl, trivial⟩ ?_
 refine JO.s rfl (o_litB (t := (.int .i64)) [(.const (.int .i64 (0)), _), (.const (.int .i64 (1)), _)] [(0 : Int), (1 : Int)] rfl rfl sl22 (.cons rfl .int (.cons rfl .int .nil)) rfl rfl) ⟨rfl, rfl, trivial⟩ ?_
 refine JO.s rfl (o_litB (t := (.int .i64)) [(.const (.int .i64 (1)), _), (.const (.int .i64 (2)), _)] [(1 : Int), (2 : Int)] rfl rfl sl22 (.cons rfl .int (.cons rfl .int .nil)) rfl rfl) ⟨rfl, rfl, trivial⟩ ?_
 refine JO.s rfl (o_buildT [(0, .tmp 13, _), (1, .tmp 19, _), (2, .tmp 20, _), (3, .tmp 21, _)] rfl pl28 za28 alb28 (stors ⟨rfl, rfl, rfl, rfl, trivial⟩) rfl) ⟨rfl, rfl, rfl, rfl, trivial⟩ ?_
 refine JO.n11 rfl rfl (o_store rfl sz28 trivial rfl rfl) ⟨rfl, rfl, trivial⟩ ?_
 refine nt ?_
 refine JC.ret ?_
 refine JN.se (SE.objE (a := .agg (.pair (.rep (.slice tThing) [([(1 : Int)], (2 : Int), (2 : Int), (0 : Int), (0 : Int)), ([], (1 : Int), (1 : Int), (1 : Int), a0), ([], (1 : Int), (1 : Int), (2 : Int), (2 : Int)), ([], (3 : Int), (3 : Int), (0 : Int), (0 : Int))]) (.pair (.rep (.slice tDresser) [([(0 : Int), (1 : Int), (2 : Int)], (1 : Int), a1), (a2, (0 : Int), (1 : Int))]) (.pair (.rep (.slice (.int .i64)) [(0 : Int), (1 : Int)]) (.rep (.slice (.int .i64)) [(1 : Int), (2 : Int)]))))) (a' := .rep tChange ([([(1 : Int)], (2 : Int), (2 : Int), (0 : Int), (0 : Int)), ([], (1 : Int), (1 : Int), (1 : Int), a0), ([], (1 : Int), (1 : Int), (2 : Int), (2 : Int)), ([], (3 : Int), (3 : Int), (0 : Int), (0 : Int))], [([(0 : Int), (1 : Int), (2 : Int)], (1 : Int), a1), (a2, (0 : Int), (1 : Int))], [(0 : Int), (1 : Int)], [(1 : Int), (2 : Int)])) (AE.ent (.agg (.pair .rep (.pair .rep (.pair .rep .rep)))))) ?_
 obtain rfl := Option.some.inj h
 exact JN.ret () [.rep tChange ([([(1 : Int)], (2 : Int), (2 : Int), (0 : Int), (0 : Int)), ([], (1 : Int), (1 : Int), (1 : Int), a0), ([], (1 : Int), (1 : Int), (2 : Int), (2 : Int)), ([], (3 : Int), (3 : Int), (0 : Int), (0 : Int))], [([(0 : Int), (1 : Int), (2 : Int)], (1 : Int), a1), (a2, (0 : Int), (1 : Int))], [(0 : Int), (1 : Int)], [(1 : Int), (2 : Int)])] 0 ⟨⟨_, _, _, _, _, rfl, (.head _), sz28, (nfn), rfl⟩, trivial⟩ rfl


def law_first (k : Nat) : Option (List dStep) :=
 some [((1 : Int), (0 : Int)), ((0 : Int), (0 : Int)), ((2 : Int), (0 : Int)), ((3 : Int), (1 : Int))]

theorem law_first_ok (k : Nat) (r : (List dStep)) (h : law_first k = some r) :
 Ctr Try.prog 59 [] [] (fun _ : Unit => (resA [.rep (.slice tStep) r], [])) := by
 unfold law_first at h
 replace h := b_top h
 refine Ctr.of 6 Try.func59 rfl Try.ntmps59 rfl fun S w0 => ?_
 refine sr ?_
 refine cq ?_
 refine nt ?_
 refine sr ?_
 refine JO.s rfl (o_buildT [(0, .const (.int .i64 (1)), _), (1, .const (.int .i64 (0)), _)] rfl pl43 za43 alb43 (stors ⟨rfl, rfl, trivial⟩) rfl) ⟨rfl, rfl, trivial⟩ ?_
 refine JO.s rfl (o_buildT [(0, .const (.int .i64 (0)), _), (1, .const (.int .i64 (0)), _)] rfl pl43 za43 alb43 (stors ⟨rfl, rfl, trivial⟩) rfl) ⟨rfl, rfl, trivial⟩ ?_
 refine JO.s rfl (o_buildT [(0, .const (.int .i64 (2)), _), (1, .const (.int .i64 (0)), _)] rfl pl43 za43 alb43 (stors ⟨rfl, rfl, trivial⟩) rfl) ⟨rfl, rfl, trivial⟩ ?_
 refine JO.s rfl (o_buildT [(0, .const (.int .i64 (3)), _), (1, .const (.int .i64 (1)), _)] rfl pl43 za43 alb43 (stors ⟨rfl, rfl, trivial⟩) rfl) ⟨rfl, rfl, trivial⟩ ?_
 refine JO.s rfl (o_litB (t := tStep) [(.tmp 1, _), (.tmp 2, _), (.tmp 3, _), (.tmp 4, _)] [((1 : Int), (0 : Int)), ((0 : Int), (0 : Int)), ((2 : Int), (0 : Int)), ((3 : Int), (1 : Int))] rfl rfl sl30 (.cons trivial (.agg (.pair .int .int)) (.cons trivial (.agg (.pair .int .int)) (.cons trivial (.agg (.pair .int .int)) (.cons trivial (.agg (.pair .int .int)) .nil)))) rfl rfl) ⟨rfl, rfl, rfl, rfl, trivial⟩ ?_
 refine aq ?_
 refine nt ?_
 refine JC.ret ?_
 obtain rfl := Option.some.inj h
 exact JN.ret () [_] 0 ⟨rfl, trivial⟩ rfl


def law_dressed (k : Nat) : Option Bool :=
 (law_quick k (0 : Int) (0 : Int) [(0 : Int), (2 : Int)]).bind fun r1 =>
 (chg_Fewest k r1).bind fun r3 =>
 (law_first k).bind fun r4 =>
 (chg_Begins k r1 r4).bind fun r5 =>
 (law_quick k (3 : Int) (0 : Int) [(0 : Int), (2 : Int)]).bind fun r6 =>
 (law_first k).bind fun r7 =>
 (chg_Late k r6 r7).bind fun r8 =>
 (chg_Spare k r1 (1 : Int)).bind fun r9 =>
 (law_first k).bind fun r10 =>
 (chg_Wearing k r1 r10 (4 : Int)).bind fun r11 =>
 (law_quick k (0 : Int) (3 : Int) [(0 : Int), (2 : Int)]).bind fun r12 =>
 (law_quick k (0 : Int) (3 : Int) [(0 : Int), (2 : Int)]).bind fun r13 =>
 (chg_Through k [r12, r13] [(0 : Int)]).bind fun r14 =>
 (law_quick k (0 : Int) (0 : Int) [(0 : Int)]).bind fun r15 =>
 (chg_Learn k r15).bind fun r16 =>
 ((if r3.2.2 = (0 : Int) then (if r5.2 = (0 : Int) then (if r8.2.2 = (0 : Int) then (if r9.2 = (0 : Int) then (if r11.2 = (0 : Int) then (if r14.2 = (0 : Int) then (if r16.2.2.2 = (0 : Int) then (if r3.2.1 = (4 : Int) then (if r8.1 = (2 : Int) then (if r8.2.1 = (3 : Int) then (if r9.1 = (3 : Int) then (if r16.1 = (1 : Int) then (if r16.2.1 = (2 : Int) then (if r16.2.2.1 = (4 : Int) then ((law_first k).bind fun r19 =>
 (kit_SameSteps k r3.1 r19).bind fun r20 =>
 if r20 = true then ((kit_SameInts k r5.1 [(0 : Int), (1 : Int), (3 : Int), (1 : Int)]).bind fun r21 =>
 if r21 = true then ((kit_SameInts k r11.1 [(1 : Int), (2 : Int)]).bind fun r22 =>
 if r22 = true then ((kit_SameInts k r14.1 [(7 : Int), (11 : Int)]).bind fun r23 =>
 some r23) else (some false)) else (some false)) else (some false)) else (some false)) else (some false)) else (some false)) else (some false)) else (some false)) else (some false)) else (some false)) else (some false)) else (some false)) else (some false)) else (some false)) else (some false)) else (some false)) else (some false)) : Option (Bool)).bind fun x17 =>
 some x17

theorem law_dressed_ok (k : Nat) (r : Bool) (h : law_dressed k = some r) :
 Ctr Try.prog 22 [] [] (fun _ : Unit => (resA [.eq (.bool r)], [])) := by
 unfold law_dressed at h
 replace h := b_top h
 refine Ctr.of 145 Try.func22 rfl Try.ntmps22 rfl fun S w0 => ?_
 refine sr ?_
 refine cq ?_
 refine nt ?_
 refine sr ?_
 refine JO.s rfl (o_litB (t := (.int .i64)) [(.const (.int .i64 (0)), _), (.const (.int .i64 (2)), _)] [(0 : Int), (2 : Int)] rfl rfl sl22 (.cons rfl .int (.cons rfl .int .nil)) rfl rfl) ⟨rfl, rfl, trivial⟩ ?_
 obtain ⟨r1, er1, h⟩ := b_bind h
 have cr1 := law_quick_ok k (0 : Int) (0 : Int) [(0 : Int), (2 : Int)] r1 er1
 refine JO.s rfl (o_call [.const (.int .i64 (0)), .const (.int .i64 (0)), .tmp 20] rfl rfl en58 rfl cr1) ⟨rfl, rfl, rfl, trivial⟩ ?_
 refine JO.s01 rfl rfl rfl (o_alloc rfl za28 al28) trivial fun b2 => ?_
 refine JO.n11 rfl rfl (o_store rfl sz28 rfl rfl rfl) ⟨rfl, rfl, trivial⟩ ?_
 refine nt ?_
 refine sr ?_
 refine JO.s11 rfl rfl rfl (o_load_obj rfl sz28 (nfn) rfl) ⟨rfl, trivial⟩ ?_
 obtain ⟨r3, er3, h⟩ := b_bind h
 have cr3 := chg_Fewest_ok k r1 r3 er3
 refine JO.s rfl (o_call [.tmp 23] rfl rfl en25 rfl cr3) ⟨rfl, trivial⟩ ?_
 refine mq ?_
 refine JO.s rfl (o_extract rfl rfl) ⟨rfl, trivial⟩ ?_
 refine JO.s rfl (o_extract rfl rfl) ⟨rfl, trivial⟩ ?_
 refine JO.s rfl (o_extract rfl rfl) ⟨rfl, trivial⟩ ?_
 refine aq ?_
 refine aq ?_
 refine aq ?_
 refine nt ?_
 refine JC.seq ?_
 refine JC.drawN ?_
 refine DN.s11 0 rfl rfl rfl rfl (o_load_obj rfl sz28 (nfn) rfl) ⟨rfl, trivial⟩ ?_
 obtain ⟨r4, er4, h⟩ := b_bind h
 have cr4 := law_first_ok k  r4 er4
 refine DN.s00 rfl rfl rfl (o_call [] rfl rfl en59 rfl cr4) trivial ?_
 obtain ⟨r5, er5, h⟩ := b_bind h
 have cr5 := chg_Begins_ok k r1 r4 r5 er5
 refine DN.s00 rfl rfl rfl (o_call [.tmp 29, .tmp 30] rfl rfl en20 rfl cr5) ⟨rfl, rfl, trivial⟩ ?_
 refine dm ?_
 refine DN.s00 rfl rfl rfl (o_extract rfl rfl) ⟨rfl, trivial⟩ ?_
 refine DN.s00 rfl rfl rfl (o_extract rfl rfl) ⟨rfl, trivial⟩ ?_
 refine DN.s00 rfl rfl rfl (o_assign rfl) ⟨rfl, trivial⟩ ?_
 refine DN.fin (by kernel_rfl) mixed ?_
 refine aq ?_
 refine nt ?_
 refine sr ?_
 refine JO.s rfl (o_litB (t := (.int .i64)) [(.const (.int .i64 (0)), _), (.const (.int .i64 (2)), _)] [(0 : Int), (2 : Int)] rfl rfl sl22 (.cons rfl .int (.cons rfl .int .nil)) rfl rfl) ⟨rfl, rfl, trivial⟩ ?_
 obtain ⟨r6, er6, h⟩ := b_bind h
 have cr6 := law_quick_ok k (3 : Int) (0 : Int) [(0 : Int), (2 : Int)] r6 er6
 refine JO.s rfl (o_call [.const (.int .i64 (3)), .const (.int .i64 (0)), .tmp 35] rfl rfl en58 rfl cr6) ⟨rfl, rfl, rfl, trivial⟩ ?_
 obtain ⟨r7, er7, h⟩ := b_bind h
 have cr7 := law_first_ok k  r7 er7
 refine JO.s rfl (o_call [] rfl rfl en59 rfl cr7) trivial ?_
 obtain ⟨r8, er8, h⟩ := b_bind h
 have cr8 := chg_Late_ok k r6 r7 r8 er8
 refine JO.s rfl (o_call [.tmp 36, .tmp 37] rfl rfl en21 rfl cr8) ⟨rfl, rfl, trivial⟩ ?_
 refine mq ?_
 refine JO.s rfl (o_extract rfl rfl) ⟨rfl, trivial⟩ ?_
 refine JO.s rfl (o_extract rfl rfl) ⟨rfl, trivial⟩ ?_
 refine JO.s rfl (o_extract rfl rfl) ⟨rfl, trivial⟩ ?_
 refine aq ?_
 refine aq ?_
 refine aq ?_
 refine nt ?_
 refine sr ?_
 refine JO.s11 rfl rfl rfl (o_load_obj rfl sz28 (nfn) rfl) ⟨rfl, trivial⟩ ?_
 obtain ⟨r9, er9, h⟩ := b_bind h
 have cr9 := chg_Spare_ok k r1 (1 : Int) r9 er9
 refine JO.s rfl (o_call [.tmp 43, .const (.int .i64 (1))] rfl rfl en26 rfl cr9) ⟨rfl, rfl, trivial⟩ ?_
 refine mq ?_
 refine JO.s rfl (o_extract rfl rfl) ⟨rfl, trivial⟩ ?_
 refine JO.s rfl (o_extract rfl rfl) ⟨rfl, trivial⟩ ?_
 refine aq ?_
 refine aq ?_
 refine nt ?_
 refine JC.seq ?_
 refine JC.drawN ?_
 refine DN.s11 0 rfl rfl rfl rfl (o_load_obj rfl sz28 (nfn) rfl) ⟨rfl, trivial⟩ ?_
 obtain ⟨r10, er10, h⟩ := b_bind h
 have cr10 := law_first_ok k  r10 er10
 refine DN.s00 rfl rfl rfl (o_call [] rfl rfl en59 rfl cr10) trivial ?_
 obtain ⟨r11, er11, h⟩ := b_bind h
 have cr11 := chg_Wearing_ok k r1 r10 (4 : Int) r11 er11
 refine DN.s00 rfl rfl rfl (o_call [.tmp 48, .tmp 49, .const (.int .i64 (4))] rfl rfl en39 rfl cr11) ⟨rfl, rfl, rfl, trivial⟩ ?_
 refine dm ?_
 refine DN.s00 rfl rfl rfl (o_extract rfl rfl) ⟨rfl, trivial⟩ ?_
 refine DN.s00 rfl rfl rfl (o_extract rfl rfl) ⟨rfl, trivial⟩ ?_
 refine DN.s00 rfl rfl rfl (o_assign rfl) ⟨rfl, trivial⟩ ?_
 refine DN.fin (by kernel_rfl) mixed ?_
 refine aq ?_
 refine nt ?_
 refine sr ?_
 refine JO.s rfl (o_litB (t := (.int .i64)) [(.const (.int .i64 (0)), _), (.const (.int .i64 (2)), _)] [(0 : Int), (2 : Int)] rfl rfl sl22 (.cons rfl .int (.cons rfl .int .nil)) rfl rfl) ⟨rfl, rfl, trivial⟩ ?_
 obtain ⟨r12, er12, h⟩ := b_bind h
 have cr12 := law_quick_ok k (0 : Int) (3 : Int) [(0 : Int), (2 : Int)] r12 er12
 refine JO.s rfl (o_call [.const (.int .i64 (0)), .const (.int .i64 (3)), .tmp 54] rfl rfl en58 rfl cr12) ⟨rfl, rfl, rfl, trivial⟩ ?_
 refine JO.s rfl (o_litB (t := (.int .i64)) [(.const (.int .i64 (0)), _), (.const (.int .i64 (2)), _)] [(0 : Int), (2 : Int)] rfl rfl sl22 (.cons rfl .int (.cons rfl .int .nil)) rfl rfl) ⟨rfl, rfl, trivial⟩ ?_
 obtain ⟨r13, er13, h⟩ := b_bind h
 have cr13 := law_quick_ok k (0 : Int) (3 : Int) [(0 : Int), (2 : Int)] r13 er13
 refine JO.s rfl (o_call [.const (.int .i64 (0)), .const (.int .i64 (3)), .tmp 56] rfl rfl en58 rfl cr13) ⟨rfl, rfl, rfl, trivial⟩ ?_
 refine JO.s rfl (o_litB (t := tChange) [(.tmp 55, _), (.tmp 57, _)] [r12, r13] rfl rfl sl62 (.cons rfl .rep (.cons rfl .rep .nil)) rfl rfl) ⟨rfl, rfl, trivial⟩ ?_
 refine JO.s rfl (o_litB (t := (.int .i64)) [(.const (.int .i64 (0)), _)] [(0 : Int)] rfl rfl sl22 (.cons rfl .int .nil) rfl rfl) ⟨rfl, trivial⟩ ?_
 obtain ⟨r14, er14, h⟩ := b_bind h
 have cr14 := chg_Through_ok k [r12, r13] [(0 : Int)] r14 er14
 refine JO.s rfl (o_call [.tmp 58, .tmp 59] rfl rfl en33 rfl cr14) ⟨rfl, rfl, trivial⟩ ?_
 refine mq ?_
 refine JO.s rfl (o_extract rfl rfl) ⟨rfl, trivial⟩ ?_
 refine JO.s rfl (o_extract rfl rfl) ⟨rfl, trivial⟩ ?_
 refine aq ?_
 refine aq ?_
 refine nt ?_
 refine sr ?_
 refine JO.s rfl (o_litB (t := (.int .i64)) [(.const (.int .i64 (0)), _)] [(0 : Int)] rfl rfl sl22 (.cons rfl .int .nil) rfl rfl) ⟨rfl, trivial⟩ ?_
 obtain ⟨r15, er15, h⟩ := b_bind h
 have cr15 := law_quick_ok k (0 : Int) (0 : Int) [(0 : Int)] r15 er15
 refine JO.s rfl (o_call [.const (.int .i64 (0)), .const (.int .i64 (0)), .tmp 64] rfl rfl en58 rfl cr15) ⟨rfl, rfl, rfl, trivial⟩ ?_
 obtain ⟨r16, er16, h⟩ := b_bind h
 have cr16 := chg_Learn_ok k r15 r16 er16
 refine JO.s rfl (o_call [.tmp 65] rfl rfl en29 rfl cr16) ⟨rfl, trivial⟩ ?_
 refine mq ?_
 refine JO.s rfl (o_extract rfl rfl) ⟨rfl, trivial⟩ ?_
 refine JO.s rfl (o_extract rfl rfl) ⟨rfl, trivial⟩ ?_
 refine JO.s rfl (o_extract rfl rfl) ⟨rfl, trivial⟩ ?_
 refine JO.s rfl (o_extract rfl rfl) ⟨rfl, trivial⟩ ?_
 refine aq ?_
 refine aq ?_
 refine aq ?_
 refine aq ?_
 refine nt ?_
 refine JC.cutB (Z := Unit) (α := Bool) (fun z18 x17 => [(0, .eq (.bool x17))]) (fun z18 x17 => []) h (fun K h => ?_) (fun z18 x17 h => ?_)
 ·
  refine JC.region ?_
  refine mq ?_
  refine JO.s rfl (o_eql rfl) ⟨rfl, rfl, trivial⟩ ?_
  refine mq ?_
  refine JO.bool (s := 73) rfl (fun hb => ?_) (fun hb => ?_)
  ·
   replace h := b_if (d_t hb) h
   refine gm ?_
   refine JO.g00 rfl rfl rfl rfl rfl rfl (o_eql rfl) ⟨rfl, rfl, trivial⟩ ?_
   refine pt ?_
   refine mq ?_
   refine JO.bool (s := 77) rfl (fun hb => ?_) (fun hb => ?_)
   ·
    replace h := b_if (d_t hb) h
    refine gm ?_
    refine JO.g00 rfl rfl rfl rfl rfl rfl (o_eql rfl) ⟨rfl, rfl, trivial⟩ ?_
    refine pt ?_
    refine mq ?_
    refine JO.bool (s := 81) rfl (fun hb => ?_) (fun hb => ?_)
    ·
     replace h := b_if (d_t hb) h
     refine gm ?_
     refine JO.g00 rfl rfl rfl rfl rfl rfl (o_eql rfl) ⟨rfl, rfl, trivial⟩ ?_
     refine pt ?_
     refine mq ?_
     refine JO.bool (s := 85) rfl (fun hb => ?_) (fun hb => ?_)
     ·
      replace h := b_if (d_t hb) h
      refine gm ?_
      refine JO.g00 rfl rfl rfl rfl rfl rfl (o_eql rfl) ⟨rfl, rfl, trivial⟩ ?_
      refine pt ?_
      refine mq ?_
      refine JO.bool (s := 89) rfl (fun hb => ?_) (fun hb => ?_)
      ·
       replace h := b_if (d_t hb) h
       refine gm ?_
       refine JO.g00 rfl rfl rfl rfl rfl rfl (o_eql rfl) ⟨rfl, rfl, trivial⟩ ?_
       refine pt ?_
       refine mq ?_
       refine JO.bool (s := 93) rfl (fun hb => ?_) (fun hb => ?_)
       ·
        replace h := b_if (d_t hb) h
        refine gm ?_
        refine JO.g00 rfl rfl rfl rfl rfl rfl (o_eql rfl) ⟨rfl, rfl, trivial⟩ ?_
        refine pt ?_
        refine mq ?_
        refine JO.bool (s := 97) rfl (fun hb => ?_) (fun hb => ?_)
        ·
         replace h := b_if (d_t hb) h
         refine gm ?_
         refine JO.g00 rfl rfl rfl rfl rfl rfl (o_eql rfl) ⟨rfl, rfl, trivial⟩ ?_
         refine pt ?_
         refine mq ?_
         refine JO.bool (s := 101) rfl (fun hb => ?_) (fun hb => ?_)
         ·
          replace h := b_if (d_t hb) h
          refine gm ?_
          refine JO.g00 rfl rfl rfl rfl rfl rfl (o_eql rfl) ⟨rfl, rfl, trivial⟩ ?_
          refine pt ?_
          refine mq ?_
          refine JO.bool (s := 105) rfl (fun hb => ?_) (fun hb => ?_)
          ·
           replace h := b_if (d_t hb) h
           refine gm ?_
           refine JO.g00 rfl rfl rfl rfl rfl rfl (o_eql rfl) ⟨rfl, rfl, trivial⟩ ?_
           refine pt ?_
           refine mq ?_
           refine JO.bool (s := 109) rfl (fun hb => ?_) (fun hb => ?_)
           ·
            replace h := b_if (d_t hb) h
            refine gm ?_
            refine JO.g00 rfl rfl rfl rfl rfl rfl (o_eql rfl) ⟨rfl, rfl, trivial⟩ ?_
            refine pt ?_
            refine mq ?_
            refine JO.bool (s := 113) rfl (fun hb => ?_) (fun hb => ?_)
            ·
             replace h := b_if (d_t hb) h
             refine gm ?_
             refine JO.g00 rfl rfl rfl rfl rfl rfl (o_eql rfl) ⟨rfl, rfl, trivial⟩ ?_
             refine pt ?_
             refine mq ?_
             refine JO.bool (s := 117) rfl (fun hb => ?_) (fun hb => ?_)
             ·
              replace h := b_if (d_t hb) h
              refine gm ?_
              refine JO.g00 rfl rfl rfl rfl rfl rfl (o_eql rfl) ⟨rfl, rfl, trivial⟩ ?_
              refine pt ?_
              refine mq ?_
              refine JO.bool (s := 121) rfl (fun hb => ?_) (fun hb => ?_)
              ·
               replace h := b_if (d_t hb) h
               refine gm ?_
               refine JO.g00 rfl rfl rfl rfl rfl rfl (o_eql rfl) ⟨rfl, rfl, trivial⟩ ?_
               refine pt ?_
               refine mq ?_
               refine JO.bool (s := 125) rfl (fun hb => ?_) (fun hb => ?_)
               ·
                replace h := b_if (d_t hb) h
                refine gm ?_
                obtain ⟨r19, er19, h⟩ := b_bind h
                have cr19 := law_first_ok k  r19 er19
                refine JO.g00 rfl rfl rfl rfl rfl rfl (o_call [] rfl rfl en59 rfl cr19) trivial ?_
                obtain ⟨r20, er20, h⟩ := b_bind h
                have cr20 := kit_SameSteps_ok k r3.1 r19 r20 er20
                refine JO.g00 rfl rfl rfl rfl rfl rfl (o_call [.tmp 126, .tmp 127] rfl rfl en44 rfl cr20) ⟨rfl, rfl, trivial⟩ ?_
                refine pt ?_
                refine mq ?_
                refine JO.bool (s := 130) rfl (fun hb => ?_) (fun hb => ?_)
                ·
                 replace h := b_if (v_t hb) h
                 refine gm ?_
                 refine JO.g00 rfl rfl rfl rfl rfl rfl (o_litB (t := (.int .i64)) [(.const (.int .i64 (0)), _), (.const (.int .i64 (1)), _), (.const (.int .i64 (3)), _), (.const (.int .i64 (1)), _)] [(0 : Int), (1 : Int), (3 : Int), (1 : Int)] rfl rfl sl22 (.cons rfl .int (.cons rfl .int (.cons rfl .int (.cons rfl .int .nil)))) rfl rfl) ⟨rfl, rfl, rfl, rfl, trivial⟩ ?_
                 obtain ⟨r21, er21, h⟩ := b_bind h
                 have cr21 := kit_SameInts_ok k r5.1 [(0 : Int), (1 : Int), (3 : Int), (1 : Int)] r21 er21
                 refine JO.g00 rfl rfl rfl rfl rfl rfl (o_call [.tmp 131, .tmp 132] rfl rfl en40 rfl cr21) ⟨rfl, rfl, trivial⟩ ?_
                 refine pt ?_
                 refine mq ?_
                 refine JO.bool (s := 135) rfl (fun hb => ?_) (fun hb => ?_)
                 ·
                  replace h := b_if (v_t hb) h
                  refine gm ?_
                  refine JO.g00 rfl rfl rfl rfl rfl rfl (o_litB (t := (.int .i64)) [(.const (.int .i64 (1)), _), (.const (.int .i64 (2)), _)] [(1 : Int), (2 : Int)] rfl rfl sl22 (.cons rfl .int (.cons rfl .int .nil)) rfl rfl) ⟨rfl, rfl, trivial⟩ ?_
                  obtain ⟨r22, er22, h⟩ := b_bind h
                  have cr22 := kit_SameInts_ok k r11.1 [(1 : Int), (2 : Int)] r22 er22
                  refine JO.g00 rfl rfl rfl rfl rfl rfl (o_call [.tmp 136, .tmp 137] rfl rfl en40 rfl cr22) ⟨rfl, rfl, trivial⟩ ?_
                  refine pt ?_
                  refine mq ?_
                  refine JO.bool (s := 140) rfl (fun hb => ?_) (fun hb => ?_)
                  ·
                   replace h := b_if (v_t hb) h
                   refine gm ?_
                   refine JO.g00 rfl rfl rfl rfl rfl rfl (o_litB (t := (.int .i64)) [(.const (.int .i64 (7)), _), (.const (.int .i64 (11)), _)] [(7 : Int), (11 : Int)] rfl rfl sl22 (.cons rfl .int (.cons rfl .int .nil)) rfl rfl) ⟨rfl, rfl, trivial⟩ ?_
                   obtain ⟨r23, er23, h⟩ := b_bind h
                   have cr23 := kit_SameInts_ok k r14.1 [(7 : Int), (11 : Int)] r23 er23
                   refine JO.g00 rfl rfl rfl rfl rfl rfl (o_call [.tmp 141, .tmp 142] rfl rfl en40 rfl cr23) ⟨rfl, rfl, trivial⟩ ?_
                   refine pt ?_
                   refine aq ?_
                   refine JO.nil ?_
                   refine JN.then_n ?_
                   exact JN.z ((), r23) h (SE.fin [] ⟨rfl, trivial⟩ rfl)
                  ·
                   replace h := b_ifn (v_f hb) h
                   iterate 3 refine gn ?_
                   refine pf ?_
                   refine aq ?_
                   refine JO.nil ?_
                   refine JN.then_n ?_
                   exact JN.z ((), false) h (SE.fin [] ⟨rfl, trivial⟩ rfl)
                 ·
                  replace h := b_ifn (v_f hb) h
                  iterate 3 refine gn ?_
                  refine pf ?_
                  refine mq ?_
                  iterate 3 refine gn ?_
                  refine pf ?_
                  refine aq ?_
                  refine JO.nil ?_
                  refine JN.then_n ?_
                  exact JN.z ((), false) h (SE.fin [] ⟨rfl, trivial⟩ rfl)
                ·
                 replace h := b_ifn (v_f hb) h
                 iterate 3 refine gn ?_
                 refine pf ?_
                 refine mq ?_
                 iterate 3 refine gn ?_
                 refine pf ?_
                 refine mq ?_
                 iterate 3 refine gn ?_
                 refine pf ?_
                 refine aq ?_
                 refine JO.nil ?_
                 refine JN.then_n ?_
                 exact JN.z ((), false) h (SE.fin [] ⟨rfl, trivial⟩ rfl)
               ·
                replace h := b_ifn (d_f hb) h
                iterate 3 refine gn ?_
                refine pf ?_
                refine mq ?_
                iterate 3 refine gn ?_
                refine pf ?_
                refine mq ?_
                iterate 3 refine gn ?_
                refine pf ?_
                refine mq ?_
                iterate 3 refine gn ?_
                refine pf ?_
                refine aq ?_
                refine JO.nil ?_
                refine JN.then_n ?_
                exact JN.z ((), false) h (SE.fin [] ⟨rfl, trivial⟩ rfl)
              ·
               replace h := b_ifn (d_f hb) h
               iterate 2 refine gn ?_
               refine pf ?_
               refine mq ?_
               iterate 3 refine gn ?_
               refine pf ?_
               refine mq ?_
               iterate 3 refine gn ?_
               refine pf ?_
               refine mq ?_
               iterate 3 refine gn ?_
               refine pf ?_
               refine mq ?_
               iterate 3 refine gn ?_
               refine pf ?_
               refine aq ?_
               refine JO.nil ?_
               refine JN.then_n ?_
               exact JN.z ((), false) h (SE.fin [] ⟨rfl, trivial⟩ rfl)
             ·
              replace h := b_ifn (d_f hb) h
              iterate 2 refine gn ?_
              refine pf ?_
              refine mq ?_
              iterate 2 refine gn ?_
              refine pf ?_
              refine mq ?_
              iterate 3 refine gn ?_
              refine pf ?_
              refine mq ?_
              iterate 3 refine gn ?_
              refine pf ?_
              refine mq ?_
              iterate 3 refine gn ?_
              refine pf ?_
              refine mq ?_
              iterate 3 refine gn ?_
              refine pf ?_
              refine aq ?_
              refine JO.nil ?_
              refine JN.then_n ?_
              exact JN.z ((), false) h (SE.fin [] ⟨rfl, trivial⟩ rfl)
            ·
             replace h := b_ifn (d_f hb) h
             iterate 2 refine gn ?_
             refine pf ?_
             refine mq ?_
             iterate 2 refine gn ?_
             refine pf ?_
             refine mq ?_
             iterate 2 refine gn ?_
             refine pf ?_
             refine mq ?_
             iterate 3 refine gn ?_
             refine pf ?_
             refine mq ?_
             iterate 3 refine gn ?_
             refine pf ?_
             refine mq ?_
             iterate 3 refine gn ?_
             refine pf ?_
             refine mq ?_
             iterate 3 refine gn ?_
             refine pf ?_
             refine aq ?_
             refine JO.nil ?_
             refine JN.then_n ?_
             exact JN.z ((), false) h (SE.fin [] ⟨rfl, trivial⟩ rfl)
           ·
            replace h := b_ifn (d_f hb) h
            iterate 2 refine gn ?_
            refine pf ?_
            refine mq ?_
            iterate 2 refine gn ?_
            refine pf ?_
            refine mq ?_
            iterate 2 refine gn ?_
            refine pf ?_
            refine mq ?_
            iterate 2 refine gn ?_
            refine pf ?_
            refine mq ?_
            iterate 3 refine gn ?_
            refine pf ?_
            refine mq ?_
            iterate 3 refine gn ?_
            refine pf ?_
            refine mq ?_
            iterate 3 refine gn ?_
            refine pf ?_
            refine mq ?_
            iterate 3 refine gn ?_
            refine pf ?_
            refine aq ?_
            refine JO.nil ?_
            refine JN.then_n ?_
            exact JN.z ((), false) h (SE.fin [] ⟨rfl, trivial⟩ rfl)
          ·
           replace h := b_ifn (d_f hb) h
           iterate 2 refine gn ?_
           refine pf ?_
           refine mq ?_
           iterate 2 refine gn ?_
           refine pf ?_
           refine mq ?_
           iterate 2 refine gn ?_
           refine pf ?_
           refine mq ?_
           iterate 2 refine gn ?_
           refine pf ?_
           refine mq ?_
           iterate 2 refine gn ?_
           refine pf ?_
           refine mq ?_
           iterate 3 refine gn ?_
           refine pf ?_
           refine mq ?_
           iterate 3 refine gn ?_
           refine pf ?_
           refine mq ?_
           iterate 3 refine gn ?_
           refine pf ?_
           refine mq ?_
           iterate 3 refine gn ?_
           refine pf ?_
           refine aq ?_
           refine JO.nil ?_
           refine JN.then_n ?_
           exact JN.z ((), false) h (SE.fin [] ⟨rfl, trivial⟩ rfl)
         ·
          replace h := b_ifn (d_f hb) h
          iterate 2 refine gn ?_
          refine pf ?_
          refine mq ?_
          iterate 2 refine gn ?_
          refine pf ?_
          refine mq ?_
          iterate 2 refine gn ?_
          refine pf ?_
          refine mq ?_
          iterate 2 refine gn ?_
          refine pf ?_
          refine mq ?_
          iterate 2 refine gn ?_
          refine pf ?_
          refine mq ?_
          iterate 2 refine gn ?_
          refine pf ?_
          refine mq ?_
          iterate 3 refine gn ?_
          refine pf ?_
          refine mq ?_
          iterate 3 refine gn ?_
          refine pf ?_
          refine mq ?_
          iterate 3 refine gn ?_
          refine pf ?_
          refine mq ?_
          iterate 3 refine gn ?_
          refine pf ?_
          refine aq ?_
          refine JO.nil ?_
          refine JN.then_n ?_
          exact JN.z ((), false) h (SE.fin [] ⟨rfl, trivial⟩ rfl)
        ·
         replace h := b_ifn (d_f hb) h
         iterate 2 refine gn ?_
         refine pf ?_
         refine mq ?_
         iterate 2 refine gn ?_
         refine pf ?_
         refine mq ?_
         iterate 2 refine gn ?_
         refine pf ?_
         refine mq ?_
         iterate 2 refine gn ?_
         refine pf ?_
         refine mq ?_
         iterate 2 refine gn ?_
         refine pf ?_
         refine mq ?_
         iterate 2 refine gn ?_
         refine pf ?_
         refine mq ?_
         iterate 2 refine gn ?_
         refine pf ?_
         refine mq ?_
         iterate 3 refine gn ?_
         refine pf ?_
         refine mq ?_
         iterate 3 refine gn ?_
         refine pf ?_
         refine mq ?_
         iterate 3 refine gn ?_
         refine pf ?_
         refine mq ?_
         iterate 3 refine gn ?_
         refine pf ?_
         refine aq ?_
         refine JO.nil ?_
         refine JN.then_n ?_
         exact JN.z ((), false) h (SE.fin [] ⟨rfl, trivial⟩ rfl)
       ·
        replace h := b_ifn (d_f hb) h
        iterate 2 refine gn ?_
        refine pf ?_
        refine mq ?_
        iterate 2 refine gn ?_
        refine pf ?_
        refine mq ?_
        iterate 2 refine gn ?_
        refine pf ?_
        refine mq ?_
        iterate 2 refine gn ?_
        refine pf ?_
        refine mq ?_
        iterate 2 refine gn ?_
        refine pf ?_
        refine mq ?_
        iterate 2 refine gn ?_
        refine pf ?_
        refine mq ?_
        iterate 2 refine gn ?_
        refine pf ?_
        refine mq ?_
        iterate 2 refine gn ?_
        refine pf ?_
        refine mq ?_
        iterate 3 refine gn ?_
        refine pf ?_
        refine mq ?_
        iterate 3 refine gn ?_
        refine pf ?_
        refine mq ?_
        iterate 3 refine gn ?_
        refine pf ?_
        refine mq ?_
        iterate 3 refine gn ?_
        refine pf ?_
        refine aq ?_
        refine JO.nil ?_
        refine JN.then_n ?_
        exact JN.z ((), false) h (SE.fin [] ⟨rfl, trivial⟩ rfl)
      ·
       replace h := b_ifn (d_f hb) h
       iterate 2 refine gn ?_
       refine pf ?_
       refine mq ?_
       iterate 2 refine gn ?_
       refine pf ?_
       refine mq ?_
       iterate 2 refine gn ?_
       refine pf ?_
       refine mq ?_
       iterate 2 refine gn ?_
       refine pf ?_
       refine mq ?_
       iterate 2 refine gn ?_
       refine pf ?_
       refine mq ?_
       iterate 2 refine gn ?_
       refine pf ?_
       refine mq ?_
       iterate 2 refine gn ?_
       refine pf ?_
       refine mq ?_
       iterate 2 refine gn ?_
       refine pf ?_
       refine mq ?_
       iterate 2 refine gn ?_
       refine pf ?_
       refine mq ?_
       iterate 3 refine gn ?_
       refine pf ?_
       refine mq ?_
       iterate 3 refine gn ?_
       refine pf ?_
       refine mq ?_
       iterate 3 refine gn ?_
       refine pf ?_
       refine mq ?_
       iterate 3 refine gn ?_
       refine pf ?_
       refine aq ?_
       refine JO.nil ?_
       refine JN.then_n ?_
       exact JN.z ((), false) h (SE.fin [] ⟨rfl, trivial⟩ rfl)
     ·
      replace h := b_ifn (d_f hb) h
      iterate 2 refine gn ?_
      refine pf ?_
      refine mq ?_
      iterate 2 refine gn ?_
      refine pf ?_
      refine mq ?_
      iterate 2 refine gn ?_
      refine pf ?_
      refine mq ?_
      iterate 2 refine gn ?_
      refine pf ?_
      refine mq ?_
      iterate 2 refine gn ?_
      refine pf ?_
      refine mq ?_
      iterate 2 refine gn ?_
      refine pf ?_
      refine mq ?_
      iterate 2 refine gn ?_
      refine pf ?_
      refine mq ?_
      iterate 2 refine gn ?_
      refine pf ?_
      refine mq ?_
      iterate 2 refine gn ?_
      refine pf ?_
      refine mq ?_
      iterate 2 refine gn ?_
      refine pf ?_
      refine mq ?_
      iterate 3 refine gn ?_
      refine pf ?_
      refine mq ?_
      iterate 3 refine gn ?_
      refine pf ?_
      refine mq ?_
      iterate 3 refine gn ?_
      refine pf ?_
      refine mq ?_
      iterate 3 refine gn ?_
      refine pf ?_
      refine aq ?_
      refine JO.nil ?_
      refine JN.then_n ?_
      exact JN.z ((), false) h (SE.fin [] ⟨rfl, trivial⟩ rfl)
    ·
     replace h := b_ifn (d_f hb) h
     iterate 2 refine gn ?_
     refine pf ?_
     refine mq ?_
     iterate 2 refine gn ?_
     refine pf ?_
     refine mq ?_
     iterate 2 refine gn ?_
     refine pf ?_
     refine mq ?_
     iterate 2 refine gn ?_
     refine pf ?_
     refine mq ?_
     iterate 2 refine gn ?_
     refine pf ?_
     refine mq ?_
     iterate 2 refine gn ?_
     refine pf ?_
     refine mq ?_
     iterate 2 refine gn ?_
     refine pf ?_
     refine mq ?_
     iterate 2 refine gn ?_
     refine pf ?_
     refine mq ?_
     iterate 2 refine gn ?_
     refine pf ?_
     refine mq ?_
     iterate 2 refine gn ?_
     refine pf ?_
     refine mq ?_
     iterate 2 refine gn ?_
     refine pf ?_
     refine mq ?_
     iterate 3 refine gn ?_
     refine pf ?_
     refine mq ?_
     iterate 3 refine gn ?_
     refine pf ?_
     refine mq ?_
     iterate 3 refine gn ?_
     refine pf ?_
     refine mq ?_
     iterate 3 refine gn ?_
     refine pf ?_
     refine aq ?_
     refine JO.nil ?_
     refine JN.then_n ?_
     exact JN.z ((), false) h (SE.fin [] ⟨rfl, trivial⟩ rfl)
   ·
    replace h := b_ifn (d_f hb) h
    iterate 2 refine gn ?_
    refine pf ?_
    refine mq ?_
    iterate 2 refine gn ?_
    refine pf ?_
    refine mq ?_
    iterate 2 refine gn ?_
    refine pf ?_
    refine mq ?_
    iterate 2 refine gn ?_
    refine pf ?_
    refine mq ?_
    iterate 2 refine gn ?_
    refine pf ?_
    refine mq ?_
    iterate 2 refine gn ?_
    refine pf ?_
    refine mq ?_
    iterate 2 refine gn ?_
    refine pf ?_
    refine mq ?_
    iterate 2 refine gn ?_
    refine pf ?_
    refine mq ?_
    iterate 2 refine gn ?_
    refine pf ?_
    refine mq ?_
    iterate 2 refine gn ?_
    refine pf ?_
    refine mq ?_
    iterate 2 refine gn ?_
    refine pf ?_
    refine mq ?_
    iterate 2 refine gn ?_
    refine pf ?_
    refine mq ?_
    iterate 3 refine gn ?_
    refine pf ?_
    refine mq ?_
    iterate 3 refine gn ?_
    refine pf ?_
    refine mq ?_
    iterate 3 refine gn ?_
    refine pf ?_
    refine mq ?_
    iterate 3 refine gn ?_
    refine pf ?_
    refine aq ?_
    refine JO.nil ?_
    refine JN.then_n ?_
    exact JN.z ((), false) h (SE.fin [] ⟨rfl, trivial⟩ rfl)
  ·
   replace h := b_ifn (d_f hb) h
   iterate 2 refine gn ?_
   refine pf ?_
   refine mq ?_
   iterate 2 refine gn ?_
   refine pf ?_
   refine mq ?_
   iterate 2 refine gn ?_
   refine pf ?_
   refine mq ?_
   iterate 2 refine gn ?_
   refine pf ?_
   refine mq ?_
   iterate 2 refine gn ?_
   refine pf ?_
   refine mq ?_
   iterate 2 refine gn ?_
   refine pf ?_
   refine mq ?_
   iterate 2 refine gn ?_
   refine pf ?_
   refine mq ?_
   iterate 2 refine gn ?_
   refine pf ?_
   refine mq ?_
   iterate 2 refine gn ?_
   refine pf ?_
   refine mq ?_
   iterate 2 refine gn ?_
   refine pf ?_
   refine mq ?_
   iterate 2 refine gn ?_
   refine pf ?_
   refine mq ?_
   iterate 2 refine gn ?_
   refine pf ?_
   refine mq ?_
   iterate 2 refine gn ?_
   refine pf ?_
   refine mq ?_
   iterate 3 refine gn ?_
   refine pf ?_
   refine mq ?_
   iterate 3 refine gn ?_
   refine pf ?_
   refine mq ?_
   iterate 3 refine gn ?_
   refine pf ?_
   refine mq ?_
   iterate 3 refine gn ?_
   refine pf ?_
   refine aq ?_
   refine JO.nil ?_
   refine JN.then_n ?_
   exact JN.z ((), false) h (SE.fin [] ⟨rfl, trivial⟩ rfl)
 ·
  refine JC.ret ?_
  obtain rfl := Option.some.inj h
  exact JN.ret () [_] 0 ⟨rfl, trivial⟩ rfl


def law_lasts (k : Nat) (a0 : dChange) (a1 : dTask) : Option Int :=
 if a1.2 = true then ((geti a0.1 a1.1).bind fun x3 =>
 some x3.2.2.1) else ((geti a0.1 a1.1).bind fun x4 =>
 some x4.2.1)

theorem law_lasts_ok (k : Nat) (a0 : dChange) (a1 : dTask) (r : Int) (h : law_lasts k a0 a1 = some r) :
 Ctr Try.prog 24 [.rep tChange a0, .rep tTask a1] [] (fun _ : Unit => (resA [.eq (.int .i64 r)], [])) := by
 unfold law_lasts at h
 replace h := b_top h
 refine Ctr.of 21 Try.func24 rfl Try.ntmps24 rfl fun S w0 => ?_
 refine sr ?_
 refine JO.s01 rfl rfl rfl (o_box rfl rfl) ⟨rfl, trivial⟩ fun b1 => ?_
 refine JO.s01 rfl rfl rfl (o_box rfl rfl) ⟨rfl, trivial⟩ fun b2 => ?_
 refine cq ?_
 refine nt ?_
 refine JC.seq ?_
 refine sr ?_
 refine JO.s rfl (o_field_obj rfl fo41_1) ⟨rfl, trivial⟩ ?_
 refine JO.s11 rfl rfl rfl (o_load_obj rfl sz4 (fun _ => rfl) rfl) ⟨rfl, trivial⟩ ?_
 refine nt ?_
 refine JC.cond rfl (fun hb => ?_) (fun hb => ?_)
 ·
  replace h := b_if (v_t hb) h
  refine sr ?_
  refine JO.s rfl (o_field_obj rfl fo28_0) ⟨rfl, trivial⟩ ?_
  refine JO.front 1 rfl ?_
  refine JO.s11 rfl rfl rfl (o_load_obj rfl sz25 (fun _ => rfl) rfl) ⟨rfl, trivial⟩ ?_
  refine JO.s rfl (o_field_obj rfl fo41_0) ⟨rfl, trivial⟩ ?_
  refine JO.front 1 rfl ?_
  refine JO.s11 rfl rfl rfl (o_load_obj rfl sz3 (fun _ => rfl) rfl) ⟨rfl, trivial⟩ ?_
  obtain ⟨x3, ex3, h⟩ := b_bind h
  refine JO.s rfl (o_index (t := tThing) rfl Try.underlying25 sz45 ex3) ⟨rfl, rfl, trivial⟩ ?_
  refine JO.s rfl (o_field_at 1 false rfl fo45_2 rfl) ⟨rfl, trivial⟩ ?_
  refine JO.s rfl (o_load_at (t := (.int .i64)) rfl sz3 rfl) ⟨rfl, trivial⟩ ?_
  refine aq ?_
  refine nt ?_
  refine JC.ret ?_
  refine JN.then_r ?_
  obtain rfl := Option.some.inj h
  exact JN.ret () [_] 0 ⟨rfl, trivial⟩ rfl
 ·
  replace h := b_ifn (v_f hb) h
  refine JC.skip ?_
  refine JN.then_n ?_
  show JC _ _ _ _ _
  refine sr ?_
  refine JO.s rfl (o_field_obj rfl fo28_0) ⟨rfl, trivial⟩ ?_
  refine JO.front 1 rfl ?_
  refine JO.s11 rfl rfl rfl (o_load_obj rfl sz25 (fun _ => rfl) rfl) ⟨rfl, trivial⟩ ?_
  refine JO.s rfl (o_field_obj rfl fo41_0) ⟨rfl, trivial⟩ ?_
  refine JO.front 1 rfl ?_
  refine JO.s11 rfl rfl rfl (o_load_obj rfl sz3 (fun _ => rfl) rfl) ⟨rfl, trivial⟩ ?_
  obtain ⟨x4, ex4, h⟩ := b_bind h
  refine JO.s rfl (o_index (t := tThing) rfl Try.underlying25 sz45 ex4) ⟨rfl, rfl, trivial⟩ ?_
  refine JO.s rfl (o_field_at 1 false rfl fo45_1 rfl) ⟨rfl, trivial⟩ ?_
  refine JO.s rfl (o_load_at (t := (.int .i64)) rfl sz3 rfl) ⟨rfl, trivial⟩ ?_
  refine aq ?_
  refine nt ?_
  refine JC.ret ?_
  obtain rfl := Option.some.inj h
  exact JN.ret () [_] 0 ⟨rfl, trivial⟩ rfl


def chg_Tasks_l1 (k : Nat) (q3 : (dChange × (List (Bool × Int)) × (List Int))) : Nat → ((List dTask) × Int) → Option (List dTask)
 | 0, _ => none
 | n + 1, y9 =>
  if y9.2 < (q3.2.1.length : Int) then ((((geti q3.2.1 y9.2).bind fun x13 =>
  if ¬ (x13.1 = true) then ((chg_off_thing k (cond x13.1 (0 : Int) x13.2)).bind fun r14 =>
  (chkP (okLen (List.length y9.1 + List.length [(r14, false)]))).bind fun _ =>
  some (y9.1 ++ [(r14, false)])) else (if x13.1 = true then ((chg_on_thing k (cond x13.1 x13.2 (0 : Int))).bind fun r17 =>
  (chkP (okLen (List.length y9.1 + List.length [(r17, true)]))).bind fun _ =>
  some (y9.1 ++ [(r17, true)])) else (some y9.1))) : Option ((List dTask))).bind fun x11 =>
  (ck (y9.2 + (1 : Int))).bind fun x20 =>
  chg_Tasks_l1 k q3 n (x11, x20)) else (some y9.1)
def chg_Tasks (k : Nat) (a0 : dChange) : Option ((List dTask) × Int) :=
 (chg_begin k a0).bind fun r2 =>
 casesO r2.1 (if ¬ (r2.2 = (0 : Int)) then (some ([], r2.2)) else (none)) (fun q3 => if ¬ (r2.2 = (0 : Int)) then (some ([], r2.2)) else (((chg_Tasks_l1 k q3 k (([] : (List dTask)), (0 : Int))) : Option ((List dTask))).bind fun x7 =>
 some (x7, (0 : Int))))

theorem chg_Tasks_ok (k : Nat) (a0 : dChange) (r : (List dTask) × Int) (h : chg_Tasks k a0 = some r) :
 Ctr Try.prog 34 [.rep tChange a0] [] (fun _ : Unit => (resA [.rep (.slice tTask) r.1, .eq (.int .i64 r.2)], [])) := by
 unfold chg_Tasks at h
 replace h := b_top h
 refine Ctr.of 49 Try.func34 rfl Try.ntmps34 rfl fun S w0 => ?_
 refine sr ?_
 refine JO.s01 rfl rfl rfl (o_box rfl rfl) ⟨rfl, trivial⟩ fun b1 => ?_
 refine cq ?_
 refine cq ?_
 refine nt ?_
 refine sr ?_
 refine JO.s11 rfl rfl rfl (o_load_obj rfl sz28 (nfn) rfl) ⟨rfl, trivial⟩ ?_
 obtain ⟨r2, er2, h⟩ := b_bind h
 have cr2 := chg_begin_ok k a0 r2 er2
 rcases hr : r2.1 with _ | q3
 ·
  rw [hr] at h cr2; replace h := co_n h
  refine JO.stepG (Δ := []) (F := _) (fun _ _ _ => wanted_none rfl _) rfl rfl (o_call [.tmp 12] rfl rfl en67 rfl cr2) ⟨rfl, trivial⟩ fun _ => ?_
  refine mq ?_
  refine JO.s rfl (o_extract rfl rfl) ⟨rfl, trivial⟩ ?_
  refine JO.s rfl (o_extract rfl rfl) ⟨rfl, trivial⟩ ?_
  refine aq ?_
  refine aq ?_
  refine nt ?_
  refine JC.seq ?_
  refine sr ?_
  refine mq ?_
  refine JO.s rfl (o_neq rfl) ⟨rfl, rfl, trivial⟩ ?_
  refine nt ?_
  refine JC.cond rfl (fun hb => ?_) (fun hb => ?_)
  ·
   replace h := b_if (n_t hb) h
   refine sr ?_
   refine mq ?_
   refine cq ?_
   refine aq ?_
   refine nt ?_
   refine JC.ret ?_
   refine JN.then_r ?_
   refine JN.se (SE.ent (t := (.slice tTask)) (x := []) 2 rfl .nil rfl rfl) ?_
   obtain rfl := Option.some.inj h
   exact JN.ret () [_, _] 0 ⟨rfl, rfl, trivial⟩ rfl
  ·
   replace h := b_ifn (n_fn hb) h
   refine JC.skip ?_
   refine JN.then_n ?_
   show JC _ _ _ _ _
   refine sr ?_
   refine cq ?_
   refine nt ?_
   refine JC.seq ?_
   refine sr ?_
   refine mq ?_
   cases h
 ·
  rw [hr] at h cr2; replace h := co_s h
  refine JO.stepG (Δ := []) (F := _) (fun _ _ _ => wanted_none rfl _) rfl rfl (o_call [.tmp 12] rfl rfl en67 rfl cr2) ⟨rfl, trivial⟩ fun z6 => ?_
  refine mq ?_
  refine JO.s rfl (o_extract rfl rfl) ⟨rfl, trivial⟩ ?_
  refine JO.s rfl (o_extract rfl rfl) ⟨rfl, trivial⟩ ?_
  refine aq ?_
  refine aq ?_
  refine nt ?_
  refine JC.seq ?_
  refine sr ?_
  refine mq ?_
  refine JO.s rfl (o_neq rfl) ⟨rfl, rfl, trivial⟩ ?_
  refine nt ?_
  refine JC.cond rfl (fun hb => ?_) (fun hb => ?_)
  ·
   replace h := b_if (n_t hb) h
   refine sr ?_
   refine mq ?_
   refine cq ?_
   refine aq ?_
   refine nt ?_
   refine JC.ret ?_
   refine JN.then_r ?_
   refine JN.se (SE.ent (t := (.slice tTask)) (x := []) 2 rfl .nil rfl rfl) ?_
   obtain rfl := Option.some.inj h
   exact JN.ret () [_, _] 0 ⟨rfl, rfl, trivial⟩ rfl
  ·
   replace h := b_ifn (n_fn hb) h
   refine JC.skip ?_
   refine JN.then_n ?_
   show JC _ _ _ _ _
   refine sr ?_
   refine cq ?_
   refine nt ?_
   refine JC.cutB (Z := Value) (α := (List dTask)) (fun z8 x7 => [(6, .eq z8)]) (fun z8 x7 => [.sl z8 41 tTask x7, .raw z6.2 (.map #[] 0)]) h (fun K h => ?_) (fun z8 x7 h => ?_)
   ·
    refine sr ?_
    refine mq ?_
    refine JO.s rfl (o_nil_obj rfl) ⟨rfl, trivial⟩ ?_
    refine JO.s rfl (o_field_obj rfl fo120_1) ⟨rfl, trivial⟩ ?_
    refine JO.s11 rfl rfl rfl (o_load_obj rfl sz116 (fun _ => rfl) rfl) ⟨rfl, trivial⟩ ?_
    refine JO.s rfl (o_len rfl rfl Try.underlying116) ⟨rfl, trivial⟩ ?_
    refine JO.mc rfl ?_
    refine nt ?_
    refine JC.block ?_
    refine JC.se (SE.nil 41 tTask) ?_
    refine JC.loopB (Z := Value) (α := (List dTask) × Int) (fun z10 y9 => [(6, .eq z10), (22, .rep (.slice (.tag 131 133)) q3.2.1), (23, .eq (.int .i64 (q3.2.1.length : Int))), (24, .eq (.int .i64 y9.2))]) (fun z10 y9 => [.sl z10 41 tTask y9.1, .raw z6.2 (.map #[] 0)]) (chg_Tasks_l1 k q3) k (.slice none 0 0) (([] : (List dTask)), (0 : Int)) (fun _ => rfl) h (SE.fin [0, 2] ⟨rfl, rfl, rfl, rfl, trivial⟩ rfl) (fun n z10 y9 h => ?_)
    unfold chg_Tasks_l1 at h
    refine sr ?_
    refine JO.s rfl (o_lss rfl) ⟨rfl, rfl, trivial⟩ ?_
    refine nt ?_
    refine JC.seq ?_
    refine JC.cond rfl (fun hb => ?_) (fun hb => ?_)
    ·
     replace h := b_if (d_t hb) h
     refine JC.skip ?_
     refine JN.then_n ?_
     show JC _ _ _ _ _
     refine JC.cutB (Z := Value) (α := (List dTask)) (fun z12 x11 => [(6, .eq z12), (22, .rep (.slice (.tag 131 133)) q3.2.1), (23, .eq (.int .i64 (q3.2.1.length : Int))), (24, .eq (.int .i64 y9.2))]) (fun z12 x11 => [.sl z12 41 tTask x11, .raw z6.2 (.map #[] 0)]) h (fun K h => ?_) (fun z12 x11 h => ?_)
     ·
      refine JC.block ?_
      refine sr ?_
      obtain ⟨x13, ex13, h⟩ := b_bind h
      refine JO.s rfl (o_index (t := (.tag 131 133)) rfl Try.underlying116 sz130 ex13) ⟨rfl, rfl, trivial⟩ ?_
      refine JO.s rfl (o_load_at (t := (.tag 131 133)) rfl sz130 rfl) ⟨rfl, trivial⟩ ?_
      refine aq ?_
      refine nt ?_
      refine sr ?_
      refine mq ?_
      refine nt ?_
      refine JC.block ?_
      refine sr ?_
      refine JO.s rfl (o_as0 rfl ta131 (by decide)) ⟨rfl, trivial⟩ ?_
      refine JO.s rfl (o_extract rfl rfl) ⟨rfl, trivial⟩ ?_
      refine JO.s rfl (o_extract rfl rfl) ⟨rfl, trivial⟩ ?_
      refine nt ?_
      refine JC.cond rfl (fun hb => ?_) (fun hb => ?_)
      ·
       replace h := b_if (nv_t hb) h
       refine sr ?_
       refine aq ?_
       refine nt ?_
       refine JC.region ?_
       iterate 2 refine mq ?_
       obtain ⟨r14, er14, h⟩ := b_bind h
       have cr14 := chg_off_thing_ok k (cond x13.1 (0 : Int) x13.2) r14 er14
       refine JO.s rfl (o_call [.tmp 33] rfl rfl en79 rfl cr14) ⟨rfl, trivial⟩ ?_
       refine JO.s rfl (o_buildT [(0, .tmp 34, _)] rfl pl41 za41 alb41 (stors ⟨rfl, trivial⟩) rfl) ⟨rfl, trivial⟩ ?_
       refine JO.s rfl (o_litB (t := tTask) [(.tmp 35, _)] [(r14, false)] rfl rfl sl38 (.cons trivial (.agg (.pair .int .bool)) .nil) rfl rfl) ⟨rfl, trivial⟩ ?_
       obtain ⟨u15, eu15, h⟩ := b_bind h
       refine JO.s1x rfl rfl rfl (o_append rfl rfl sl38 (chkP_some eu15)) ⟨rfl, rfl, trivial⟩ fun v16 => ?_
       refine aq ?_
       refine JO.nil ?_
       refine JN.blk_n ?_
       refine JN.blk_n ?_
       refine JN.then_n ?_
       exact JN.z (v16, y9.1 ++ [(r14, false)]) h (SE.fin [0, 1] ⟨rfl, rfl, rfl, rfl, trivial⟩ rfl)
      ·
       replace h := b_ifn (nv_fn hb) h
       refine sr ?_
       refine JO.s rfl (o_as1 rfl ta133 (by decide)) ⟨rfl, trivial⟩ ?_
       refine JO.s rfl (o_extract rfl rfl) ⟨rfl, trivial⟩ ?_
       refine JO.s rfl (o_extract rfl rfl) ⟨rfl, trivial⟩ ?_
       refine nt ?_
       refine JC.cond rfl (fun hb => ?_) (fun hb => ?_)
       ·
        replace h := b_if (v_t hb) h
        refine sr ?_
        refine aq ?_
        refine nt ?_
        refine JC.region ?_
        iterate 2 refine mq ?_
        obtain ⟨r17, er17, h⟩ := b_bind h
        have cr17 := chg_on_thing_ok k (cond x13.1 x13.2 (0 : Int)) r17 er17
        refine JO.s rfl (o_call [.tmp 42] rfl rfl en80 rfl cr17) ⟨rfl, trivial⟩ ?_
        refine JO.s rfl (o_buildT [(0, .tmp 43, _), (1, .const (.bool true), _)] rfl pl41 za41 alb41 (stors ⟨rfl, rfl, trivial⟩) rfl) ⟨rfl, rfl, trivial⟩ ?_
        refine JO.s rfl (o_litB (t := tTask) [(.tmp 44, _)] [(r17, true)] rfl rfl sl38 (.cons trivial (.agg (.pair .int .bool)) .nil) rfl rfl) ⟨rfl, trivial⟩ ?_
        obtain ⟨u18, eu18, h⟩ := b_bind h
        refine JO.s1x rfl rfl rfl (o_append rfl rfl sl38 (chkP_some eu18)) ⟨rfl, rfl, trivial⟩ fun v19 => ?_
        refine aq ?_
        refine JO.nil ?_
        refine JN.blk_n ?_
        refine JN.blk_n ?_
        refine JN.then_n ?_
        exact JN.z (v19, y9.1 ++ [(r17, true)]) h (SE.fin [0, 1] ⟨rfl, rfl, rfl, rfl, trivial⟩ rfl)
       ·
        replace h := b_ifn (v_f hb) h
        refine JC.skip ?_
        refine JN.blk_n ?_
        refine JN.blk_n ?_
        refine JN.then_n ?_
        exact JN.z (z10, y9.1) h (SE.fin [0, 1] ⟨rfl, rfl, rfl, rfl, trivial⟩ rfl)
     ·
      refine JC.region ?_
      obtain ⟨x20, ex20, h⟩ := b_bind h
      refine JO.s rfl (o_add rfl ex20) ⟨rfl, rfl, trivial⟩ ?_
      refine mq ?_
      refine JO.nil ?_
      refine JN.then_n ?_
      exact JN.z (z12, (x11, x20)) h (SE.fin [0, 1] ⟨rfl, rfl, rfl, rfl, trivial⟩ rfl)
    ·
     replace h := b_ifn (d_f hb) h
     refine JC.exit ?_
     refine JN.then_x ?_
     refine JN.then_x ?_
     refine JN.blk_hit ?_
     refine JN.then_n ?_
     exact JN.z (z10, y9.1) h (SE.fin [0, 1] ⟨rfl, trivial⟩ rfl)
   ·
    refine sr ?_
    refine mq ?_
    refine aq ?_
    refine cq ?_
    refine nt ?_
    refine JC.ret ?_
    refine JN.se (SE.frz [2, 6, 48] ⟨rfl, rfl, rfl, trivial⟩) ?_
    obtain rfl := Option.some.inj h
    exact JN.ret () [_, _] 0 ⟨rfl, rfl, trivial⟩ rfl


def kit_SameTasks_l1 (k : Nat) (a0 : (List dTask)) (a1 : (List dTask)) : Nat → Int → Option (Except Bool Unit)
 | 0, _ => none
 | n + 1, y3 =>
  if y3 < (a0.length : Int) then ((geti a0 y3).bind fun x5 =>
  (geti a1 y3).bind fun x6 =>
  if ¬ (x5 = x6) then (some (.error false)) else ((ck (y3 + (1 : Int))).bind fun x7 =>
  kit_SameTasks_l1 k a0 a1 n x7)) else (some (.ok ()))
def kit_SameTasks (k : Nat) (a0 : (List dTask)) (a1 : (List dTask)) : Option Bool :=
 if ¬ ((a0.length : Int) = (a1.length : Int)) then (some false) else (bE (α := Unit) (kit_SameTasks_l1 k a0 a1 k (0 : Int)) (some) fun _ =>
 some true)

theorem kit_SameTasks_ok (k : Nat) (a0 : (List dTask)) (a1 : (List dTask)) (r : Bool) (h : kit_SameTasks k a0 a1 = some r) :
 Ctr Try.prog 35 [.rep (.slice tTask) a0, .rep (.slice tTask) a1] [] (fun _ : Unit => (resA [.eq (.bool r)], [])) := by
 unfold kit_SameTasks at h
 replace h := b_top h
 refine Ctr.of 26 Try.func35 rfl Try.ntmps35 rfl fun S w0 => ?_
 refine sr ?_
 refine cq ?_
 refine nt ?_
 refine JC.seq ?_
 refine sr ?_
 refine mq ?_
 refine JO.s rfl (o_len rfl rfl Try.underlying38) ⟨rfl, trivial⟩ ?_
 refine mq ?_
 refine JO.s rfl (o_len rfl rfl Try.underlying38) ⟨rfl, trivial⟩ ?_
 refine JO.s rfl (o_neq rfl) ⟨rfl, rfl, trivial⟩ ?_
 refine nt ?_
 refine JC.cond rfl (fun hb => ?_) (fun hb => ?_)
 ·
  replace h := b_if (n_t hb) h
  refine sr ?_
  refine cq ?_
  refine nt ?_
  refine JC.ret ?_
  refine JN.then_r ?_
  obtain rfl := Option.some.inj h
  exact JN.ret () [_] 0 ⟨rfl, trivial⟩ rfl
 ·
  replace h := b_ifn (n_fn hb) h
  refine JC.skip ?_
  refine JN.then_n ?_
  show JC _ _ _ _ _
  refine JC.cutE (Z := Unit) (α := Unit) (fun z2 x1 => []) (fun z2 x1 => []) (fun e => e = r) h (fun e h => Option.some.inj h) (fun K hR h => ?_) (fun z2 x1 h => ?_)
  ·
   refine sr ?_
   refine cq ?_
   refine nt ?_
   refine JC.block ?_
   refine JC.loopB (Z := Unit) (α := Int) (fun z4 y3 => [(0, .rep (.slice tTask) a0), (1, .rep (.slice tTask) a1), (5, .eq (.int .i64 y3))]) (fun z4 y3 => []) (kit_SameTasks_l1 k a0 a1) k () (0 : Int) (fun _ => rfl) h (SE.fin [] ⟨rfl, rfl, rfl, trivial⟩ rfl) (fun n z4 y3 h => ?_)
   unfold kit_SameTasks_l1 at h
   refine JC.seq ?_
   refine sr ?_
   iterate 2 refine mq ?_
   refine JO.s rfl (o_len rfl rfl Try.underlying38) ⟨rfl, trivial⟩ ?_
   refine JO.s rfl (o_lss rfl) ⟨rfl, rfl, trivial⟩ ?_
   refine nt ?_
   refine JC.cond rfl (fun hb => ?_) (fun hb => ?_)
   ·
    replace h := b_if (d_t hb) h
    refine JC.skip ?_
    refine JN.then_n ?_
    show JC _ _ _ _ _
    refine JC.seq ?_
    refine JC.block ?_
    refine JC.seq ?_
    refine JC.drawN ?_
    refine dm ?_
    refine dm ?_
    obtain ⟨x5, ex5, h⟩ := b_bind h
    refine DN.s00 rfl rfl rfl (o_index (t := tTask) rfl Try.underlying38 sz41 ex5) ⟨rfl, rfl, trivial⟩ ?_
    refine DN.s00 rfl rfl rfl (o_load_at (t := tTask) rfl sz41 rfl) ⟨rfl, trivial⟩ ?_
    refine dm ?_
    refine dm ?_
    obtain ⟨x6, ex6, h⟩ := b_bind h
    refine DN.s00 rfl rfl rfl (o_index (t := tTask) rfl Try.underlying38 sz41 ex6) ⟨rfl, rfl, trivial⟩ ?_
    refine DN.s00 rfl rfl rfl (o_load_at (t := tTask) rfl sz41 rfl) ⟨rfl, trivial⟩ ?_
    refine DN.fin (by kernel_rfl) mixed ?_
    refine JO.s rfl (o_neqs rfl eq41 rfl) ⟨rfl, rfl, trivial⟩ ?_
    refine nt ?_
    refine JC.cond rfl (fun hb => ?_) (fun hb => ?_)
    ·
     replace h := b_if (n_t hb) h
     refine sr ?_
     refine cq ?_
     refine nt ?_
     refine JC.ret ?_
     refine JN.blk_r ?_
     refine JN.then_r ?_
     refine JN.then_r ?_
     refine JN.blk_r ?_
     refine JN.then_r ?_
     obtain rfl := hR _ h
     exact JN.ret () [_] 0 ⟨rfl, trivial⟩ rfl
    ·
     replace h := b_ifn (n_fn hb) h
     refine JC.skip ?_
     refine JN.blk_n ?_
     refine JN.then_n ?_
     show JC _ _ _ _ _
     refine JC.region ?_
     refine mq ?_
     obtain ⟨x7, ex7, h⟩ := b_bind h
     refine JO.s rfl (o_add rfl ex7) ⟨rfl, rfl, trivial⟩ ?_
     refine aq ?_
     refine JO.nil ?_
     refine JN.then_n ?_
     exact JN.z ((), x7) h (SE.fin [] ⟨rfl, rfl, rfl, trivial⟩ rfl)
   ·
    replace h := b_ifn (d_f hb) h
    refine JC.exit ?_
    refine JN.then_x ?_
    refine JN.then_x ?_
    refine JN.blk_hit ?_
    refine JN.then_n ?_
    exact JN.z ((), ()) h (SE.fin [] trivial rfl)
  ·
   refine sr ?_
   refine cq ?_
   refine nt ?_
   refine JC.ret ?_
   obtain rfl := Option.some.inj h
   exact JN.ret () [_] 0 ⟨rfl, trivial⟩ rfl


def chg_Bars (k : Nat) (a0 : dChange) (a1 : (List dStep)) : Option (Int × Int) :=
 (chg_asked k a0 a1).bind fun r2 =>
 casesO r2.1 (if ¬ (r2.2 = (0 : Int)) then (some ((0 : Int), r2.2)) else (none)) (fun q3 => if ¬ (r2.2 = (0 : Int)) then (some ((0 : Int), r2.2)) else ((chg_quick_length k ((q3.1.1, q3.1.2.1, q3.1.2.2.1, q3.1.2.2.2), q3.2.1, q3.2.2) a1).bind fun r5 =>
 some (r5, (0 : Int))))

theorem chg_Bars_ok (k : Nat) (a0 : dChange) (a1 : (List dStep)) (r : Int × Int) (h : chg_Bars k a0 a1 = some r) :
 Ctr Try.prog 38 [.rep tChange a0, .rep (.slice tStep) a1] [] (fun _ : Unit => (resA [.eq (.int .i64 r.1), .eq (.int .i64 r.2)], [])) := by
 unfold chg_Bars at h
 replace h := b_top h
 refine Ctr.of 20 Try.func38 rfl Try.ntmps38 rfl fun S w0 => ?_
 refine sr ?_
 refine JO.s01 rfl rfl rfl (o_box rfl rfl) ⟨rfl, trivial⟩ fun b1 => ?_
 refine cq ?_
 refine cq ?_
 refine nt ?_
 refine sr ?_
 refine JO.s11 rfl rfl rfl (o_load_obj rfl sz28 (nfn) rfl) ⟨rfl, trivial⟩ ?_
 refine mq ?_
 obtain ⟨r2, er2, h⟩ := b_bind h
 have cr2 := chg_asked_ok k a0 a1 r2 er2
 rcases hr : r2.1 with _ | q3
 ·
  rw [hr] at h cr2; replace h := co_n h
  refine JO.stepG (Δ := []) (F := _) (fun _ _ _ => wanted_none rfl _) rfl rfl (o_call [.tmp 9, .tmp 10] rfl rfl en64 rfl cr2) ⟨rfl, rfl, trivial⟩ fun _ => ?_
  refine mq ?_
  refine JO.s rfl (o_extract rfl rfl) ⟨rfl, trivial⟩ ?_
  refine JO.s rfl (o_extract rfl rfl) ⟨rfl, trivial⟩ ?_
  refine aq ?_
  refine aq ?_
  refine nt ?_
  refine JC.seq ?_
  refine sr ?_
  refine mq ?_
  refine JO.s rfl (o_neq rfl) ⟨rfl, rfl, trivial⟩ ?_
  refine nt ?_
  refine JC.cond rfl (fun hb => ?_) (fun hb => ?_)
  ·
   replace h := b_if (n_t hb) h
   refine sr ?_
   refine mq ?_
   refine cq ?_
   refine aq ?_
   refine nt ?_
   refine JC.ret ?_
   refine JN.then_r ?_
   obtain rfl := Option.some.inj h
   exact JN.ret () [_, _] 0 ⟨rfl, rfl, trivial⟩ rfl
  ·
   replace h := b_ifn (n_fn hb) h
   refine JC.skip ?_
   refine JN.then_n ?_
   show JC _ _ _ _ _
   refine sr ?_
   iterate 2 refine mq ?_
   cases h
 ·
  rw [hr] at h cr2; replace h := co_s h
  refine JO.stepG (Δ := []) (F := _) (fun _ _ _ => wanted_none rfl _) rfl rfl (o_call [.tmp 9, .tmp 10] rfl rfl en64 rfl cr2) ⟨rfl, rfl, trivial⟩ fun z4 => ?_
  refine mq ?_
  refine JO.s rfl (o_extract rfl rfl) ⟨rfl, trivial⟩ ?_
  refine JO.s rfl (o_extract rfl rfl) ⟨rfl, trivial⟩ ?_
  refine aq ?_
  refine aq ?_
  refine nt ?_
  refine JC.seq ?_
  refine sr ?_
  refine mq ?_
  refine JO.s rfl (o_neq rfl) ⟨rfl, rfl, trivial⟩ ?_
  refine nt ?_
  refine JC.cond rfl (fun hb => ?_) (fun hb => ?_)
  ·
   replace h := b_if (n_t hb) h
   refine sr ?_
   refine mq ?_
   refine cq ?_
   refine aq ?_
   refine nt ?_
   refine JC.ret ?_
   refine JN.then_r ?_
   obtain rfl := Option.some.inj h
   exact JN.ret () [_, _] 0 ⟨rfl, rfl, trivial⟩ rfl
  ·
   replace h := b_ifn (n_fn hb) h
   refine JC.skip ?_
   refine JN.then_n ?_
   show JC _ _ _ _ _
   refine sr ?_
   iterate 2 refine mq ?_
   refine JO.front 1 rfl ?_
   refine JO.se (SE.rawInv (Known k ((q3.1.1, q3.1.2.1, q3.1.2.2.1, q3.1.2.2.2), q3.2.1, q3.2.2)) known_nil) ?_
   obtain ⟨r5, er5, h⟩ := b_bind h
   have cr5 := chg_quick_length_ok k ((q3.1.1, q3.1.2.1, q3.1.2.2.1, q3.1.2.2.2), q3.2.1, q3.2.2) z4.1 z4.2 a1 r5 er5
   refine JO.front 1 rfl ?_
   refine JO.stepG (Δ := [_, _]) (F := _) (fun _ _ _ => wanted_none rfl _) rfl rfl (o_call [.tmp 17, .tmp 18] rfl rfl en70 rfl cr5) ⟨rfl, rfl, trivial⟩ fun _ => ?_
   refine aq ?_
   refine cq ?_
   refine nt ?_
   refine JC.ret ?_
   obtain rfl := Option.some.inj h
   exact JN.ret () [_, _] 0 ⟨rfl, rfl, trivial⟩ rfl


def law_ChangeUnder_l3 (k : Nat) (r3 : dChange × dLots) (x27 : dTask) (r37 : (List Int) × Int) : Nat → Int → Option (Except Bool Unit)
 | 0, _ => none
 | n + 1, y40 =>
  if y40 < (r37.1.length : Int) then ((geti r3.1.1 x27.1).bind fun x42 =>
  (geti r37.1 y40).bind fun x43 =>
  (kit_At k x42.1 x43).bind fun r44 =>
  if (0 : Int) ≤ r44 then (some (.error false)) else ((ck (y40 + (1 : Int))).bind fun x45 =>
  law_ChangeUnder_l3 k r3 x27 r37 n x45)) else (some (.ok ()))

def law_ChangeUnder_l4 (k : Nat) (r3 : dChange × dLots) (r5 : (List dStep) × dLots) (r6 : (List dTask) × Int) (r7 : (List Int) × Int) (y22 : Int) (x27 : dTask) (y30 : Int) : Nat → Int → Option (Except Bool Unit)
 | 0, _ => none
 | n + 1, y46 =>
  if y46 < (r5.1.length : Int) then ((geti r5.1 y46).bind fun x48 =>
  (geti r6.1 x48.1).bind fun x49 =>
  ((if ¬ (y46 = y22) then ((geti r7.1 y46).bind fun x53 =>
  if x53 ≤ y30 then ((geti r7.1 y46).bind fun x54 =>
  (law_lasts k r3.1 x49).bind fun r55 =>
  (ck (x54 + r55)).bind fun x56 =>
  if y30 < x56 then ((geti r3.1.1 x27.1).bind fun x57 =>
  (kit_At k x57.1 x49.1).bind fun r58 =>
  some (decide ((0 : Int) ≤ r58))) else (some false)) else (some false)) else (some false)) : Option (Bool)).bind fun x51 =>
  if x51 = true then (some (.error false)) else ((ck (y46 + (1 : Int))).bind fun x59 =>
  law_ChangeUnder_l4 k r3 r5 r6 r7 y22 x27 y30 n x59)) else (some (.ok ()))

def law_ChangeUnder_l2 (k : Nat) (r3 : dChange × dLots) (r5 : (List dStep) × dLots) (r6 : (List dTask) × Int) (r7 : (List Int) × Int) (y22 : Int) (x27 : dTask) : Nat → Int → Option (Except Bool Unit)
 | 0, _ => none
 | n + 1, y30 =>
  (geti r7.1 y22).bind fun x32 =>
  (law_lasts k r3.1 x27).bind fun r33 =>
  (ck (x32 + r33)).bind fun x34 =>
  if y30 < x34 then (bE (α := Unit) ((chg_Wearing k r3.1 r5.1 y30).bind fun r37 =>
  if ¬ (r37.2 = (0 : Int)) then (some (.error false)) else (bE (α := Unit) (law_ChangeUnder_l3 k r3 x27 r37 k (0 : Int)) (fun e => some (.error e)) fun _ =>
  law_ChangeUnder_l4 k r3 r5 r6 r7 y22 x27 y30 k (0 : Int))) (fun e => some (.error e)) fun _ =>
  (ck (y30 + (1 : Int))).bind fun x60 =>
  law_ChangeUnder_l2 k r3 r5 r6 r7 y22 x27 n x60) else (some (.ok ()))

def law_ChangeUnder_l1 (k : Nat) (r3 : dChange × dLots) (r5 : (List dStep) × dLots) (r6 : (List dTask) × Int) (r7 : (List Int) × Int) : Nat → Int → Option (Except Bool Unit)
 | 0, _ => none
 | n + 1, y22 =>
  if y22 < (r5.1.length : Int) then (bE (α := Unit) ((geti r5.1 y22).bind fun x26 =>
  (geti r6.1 x26.1).bind fun x27 =>
  (geti r7.1 y22).bind fun x29 =>
  law_ChangeUnder_l2 k r3 r5 r6 r7 y22 x27 k x29) (fun e => some (.error e)) fun _ =>
  (ck (y22 + (1 : Int))).bind fun x61 =>
  law_ChangeUnder_l1 k r3 r5 r6 r7 n x61) else (some (.ok ()))

def law_ChangeUnder_l5 (k : Nat) (r7 : (List Int) × Int) : Nat → (Int × Int) → Option Int
 | 0, _ => none
 | n + 1, y68 =>
  if y68.2 < (r7.1.length : Int) then ((geti r7.1 y68.2).bind fun x70 =>
  (ck (y68.2 + (1 : Int))).bind fun x71 =>
  law_ChangeUnder_l5 k r7 n (imin y68.1 x70, x71)) else (some y68.1)
def law_ChangeUnder (k : Nat) (a0 : (List Int)) : Option Bool :=
 (kit_NewLots k a0).bind fun r1 =>
 (kit_ChangeOf k (r1.1, r1.2.1, r1.2.2)).bind fun r3 =>
 (kit_PlanOf k (r3.2.1, r3.2.2.1, r3.2.2.2) r3.1).bind fun r5 =>
 (chg_Tasks k r3.1).bind fun r6 =>
 (chg_Begins k r3.1 r5.1).bind fun r7 =>
 (chg_Bars k r3.1 r5.1).bind fun r8 =>
 ((if ¬ (r6.2 = (0 : Int)) then (some true) else (some (!decide (r7.2 = r8.2)))) : Option (Bool)).bind fun x9 =>
 if x9 = true then (some false) else (if ¬ (r7.2 = (0 : Int)) then (((if r7.2 = (8 : Int) then (if (r7.1.length : Int) = (0 : Int) then (if r8.1 = (0 : Int) then ((law_dressed k).bind fun r13 =>
 some r13) else (some false)) else (some false)) else (if r7.2 = (5 : Int) then (if (r7.1.length : Int) = (0 : Int) then (if r8.1 = (0 : Int) then ((law_dressed k).bind fun r14 =>
 some r14) else (some false)) else (some false)) else (if r7.2 = (7 : Int) then (if (r7.1.length : Int) = (0 : Int) then (if r8.1 = (0 : Int) then ((law_dressed k).bind fun r15 =>
 some r15) else (some false)) else (some false)) else (some false)))) : Option (Bool)).bind fun x11 =>
 some x11) else (((if ¬ ((r7.1.length : Int) = (r5.1.length : Int)) then (some true) else (if r8.1 < (0 : Int) then (some true) else (if (60 : Int) < r8.1 then (some true) else ((kit_TasksOf k r3.1).bind fun r18 =>
 (kit_SameTasks k r6.1 r18).bind fun r19 =>
 some (!r19))))) : Option (Bool)).bind fun x16 =>
 if x16 = true then (some false) else (bE (α := Unit) (law_ChangeUnder_l1 k r3 r5 r6 r7 k (0 : Int)) (some) fun _ =>
 (chg_Wearing k r3.1 r5.1 r8.1).bind fun r62 =>
 ((if ¬ (r62.2 = (0 : Int)) then (some true) else ((kit_SameInts k r62.1 r3.1.2.2.2).bind fun r65 =>
 some (!r65))) : Option (Bool)).bind fun x63 =>
 if x63 = true then (some false) else (((law_ChangeUnder_l5 k r7 k ((100 : Int), (0 : Int))) : Option (Int)).bind fun x66 =>
 bE (α := Unit) (if (0 : Int) < x66 then ((ck (x66 - (1 : Int))).bind fun x74 =>
 (chg_Wearing k r3.1 r5.1 (imin x74 (50 : Int))).bind fun r75 =>
 ((if ¬ (r75.2 = (0 : Int)) then (some true) else ((kit_SameInts k r75.1 r3.1.2.2.1).bind fun r78 =>
 if ¬ (r78 = true) then (some (decide ((0 : Int) < (r5.1.length : Int)))) else (some false))) : Option (Bool)).bind fun x76 =>
 if x76 = true then (some (.error false)) else (some (.ok ()))) else (some (.ok ()))) (some) fun _ =>
 (law_dressed k).bind fun r79 =>
 some r79))))

theorem law_ChangeUnder_ok (k : Nat) (a0 : (List Int)) (r : Bool) (h : law_ChangeUnder k a0 = some r) :
 Ctr Try.prog 10 [.rep (.slice (.int .i64)) a0] [] (fun _ : Unit => (resA [.eq (.bool r)], [])) := by
 unfold law_ChangeUnder at h
 replace h := b_top h
 refine Ctr.of 261 Try.func10 rfl Try.ntmps10 rfl fun S w0 => ?_
 refine sr ?_
 refine cq ?_
 refine nt ?_
 refine sr ?_
 refine mq ?_
 obtain ⟨r1, er1, h⟩ := b_bind h
 have cr1 := kit_NewLots_ok k a0 r1 er1
 refine JO.s01 rfl rfl rfl (o_call [.tmp 24] rfl rfl en17 rfl cr1) ⟨rfl, trivial⟩ fun b2 => ?_
 refine aq ?_
 refine nt ?_
 refine sr ?_
 refine mq ?_
 obtain ⟨r3, er3, h⟩ := b_bind h
 have cr3 := kit_ChangeOf_ok k (r1.1, r1.2.1, r1.2.2) b2 r3 er3
 refine JO.s11 rfl rfl rfl (o_call [.tmp 26] rfl rfl en18 rfl cr3) ⟨rfl, trivial⟩ ?_
 refine JO.s01 rfl rfl rfl (o_alloc rfl za28 al28) trivial fun b4 => ?_
 refine JO.n11 rfl rfl (o_store rfl sz28 rfl rfl rfl) ⟨rfl, rfl, trivial⟩ ?_
 refine nt ?_
 refine sr ?_
 refine mq ?_
 refine JO.s11 rfl rfl rfl (o_load_obj rfl sz28 (nfn) rfl) ⟨rfl, trivial⟩ ?_
 obtain ⟨r5, er5, h⟩ := b_bind h
 have cr5 := kit_PlanOf_ok k (r3.2.1, r3.2.2.1, r3.2.2.2) b2 r3.1 r5 er5
 refine JO.front 1 rfl ?_
 refine JO.s11 rfl rfl rfl (o_call [.tmp 28, .tmp 29] rfl rfl en19 rfl cr5) ⟨rfl, rfl, trivial⟩ ?_
 refine aq ?_
 refine nt ?_
 refine sr ?_
 refine JO.front 1 rfl ?_
 refine JO.s11 rfl rfl rfl (o_load_obj rfl sz28 (nfn) rfl) ⟨rfl, trivial⟩ ?_
 obtain ⟨r6, er6, h⟩ := b_bind h
 have cr6 := chg_Tasks_ok k r3.1 r6 er6
 refine JO.s rfl (o_call [.tmp 32] rfl rfl en34 rfl cr6) ⟨rfl, trivial⟩ ?_
 refine mq ?_
 refine JO.s rfl (o_extract rfl rfl) ⟨rfl, trivial⟩ ?_
 refine JO.s rfl (o_extract rfl rfl) ⟨rfl, trivial⟩ ?_
 refine aq ?_
 refine aq ?_
 refine nt ?_
 refine sr ?_
 refine JO.s11 rfl rfl rfl (o_load_obj rfl sz28 (nfn) rfl) ⟨rfl, trivial⟩ ?_
 refine mq ?_
 obtain ⟨r7, er7, h⟩ := b_bind h
 have cr7 := chg_Begins_ok k r3.1 r5.1 r7 er7
 refine JO.s rfl (o_call [.tmp 37, .tmp 38] rfl rfl en20 rfl cr7) ⟨rfl, rfl, trivial⟩ ?_
 refine mq ?_
 refine JO.s rfl (o_extract rfl rfl) ⟨rfl, trivial⟩ ?_
 refine JO.s rfl (o_extract rfl rfl) ⟨rfl, trivial⟩ ?_
 refine aq ?_
 refine aq ?_
 refine nt ?_
 refine sr ?_
 refine JO.s11 rfl rfl rfl (o_load_obj rfl sz28 (nfn) rfl) ⟨rfl, trivial⟩ ?_
 refine mq ?_
 obtain ⟨r8, er8, h⟩ := b_bind h
 have cr8 := chg_Bars_ok k r3.1 r5.1 r8 er8
 refine JO.s rfl (o_call [.tmp 43, .tmp 44] rfl rfl en38 rfl cr8) ⟨rfl, rfl, trivial⟩ ?_
 refine mq ?_
 refine JO.s rfl (o_extract rfl rfl) ⟨rfl, trivial⟩ ?_
 refine JO.s rfl (o_extract rfl rfl) ⟨rfl, trivial⟩ ?_
 refine aq ?_
 refine aq ?_
 refine nt ?_
 refine JC.seq ?_
 refine JC.cutB (Z := Unit) (α := Bool) (fun z10 x9 => [(4, .eq (.pointer (some ⟨b4, 0, none⟩))), (5, .rep (.slice tStep) r5.1), (6, .rep (.slice tTask) r6.1), (8, .rep (.slice (.int .i64)) r7.1), (9, .eq (.int .i64 r7.2)), (10, .eq (.int .i64 r8.1)), (54, .eq (.bool x9))]) (fun z10 x9 => [.obj b4 28 (.rep tChange r3.1)]) h (fun K h => ?_) (fun z10 x9 h => ?_)
 ·
  refine JC.region ?_
  refine mq ?_
  refine JO.s rfl (o_neq rfl) ⟨rfl, rfl, trivial⟩ ?_
  refine mq ?_
  refine JO.bool (s := 50) rfl (fun hb => ?_) (fun hb => ?_)
  ·
   replace h := b_if (n_t hb) h
   iterate 3 refine gn ?_
   refine pt ?_
   refine JO.nil ?_
   refine JN.then_n ?_
   exact JN.z ((), true) h (SE.fin [0] ⟨rfl, rfl, rfl, rfl, rfl, rfl, rfl, trivial⟩ rfl)
  ·
   replace h := b_ifn (n_fn hb) h
   refine gm ?_
   refine gm ?_
   refine JO.g00 rfl rfl rfl rfl rfl rfl (o_neq rfl) ⟨rfl, rfl, trivial⟩ ?_
   refine pf ?_
   refine JO.nil ?_
   refine JN.then_n ?_
   exact JN.z ((), !decide (r7.2 = r8.2)) h (SE.fin [0] ⟨rfl, rfl, rfl, rfl, rfl, rfl, rfl, trivial⟩ rfl)
 ·
  refine JC.cond rfl (fun hb => ?_) (fun hb => ?_)
  ·
   replace h := b_if (v_t hb) h
   refine sr ?_
   refine cq ?_
   refine nt ?_
   refine JC.ret ?_
   refine JN.then_r ?_
   obtain rfl := Option.some.inj h
   exact JN.ret () [_] 0 ⟨rfl, trivial⟩ rfl
  ·
   replace h := b_ifn (v_f hb) h
   refine JC.skip ?_
   refine JN.then_n ?_
   show JC _ _ _ _ _
   refine JC.seq ?_
   refine sr ?_
   refine mq ?_
   refine JO.s rfl (o_neq rfl) ⟨rfl, rfl, trivial⟩ ?_
   refine nt ?_
   refine JC.cond rfl (fun hb => ?_) (fun hb => ?_)
   ·
    replace h := b_if (n_t hb) h
    refine JC.cutB (Z := Unit) (α := Bool) (fun z12 x11 => [(2, .eq (.bool x11))]) (fun z12 x11 => []) h (fun K h => ?_) (fun z12 x11 h => ?_)
    ·
     refine JC.region ?_
     refine mq ?_
     refine JO.s rfl (o_eql rfl) ⟨rfl, rfl, trivial⟩ ?_
     refine mq ?_
     refine JO.bool (s := 59) rfl (fun hb => ?_) (fun hb => ?_)
     ·
      replace h := b_if (d_t hb) h
      iterate 2 refine gn ?_
      refine pt ?_
      refine mq ?_
      iterate 2 refine gn ?_
      refine pt ?_
      refine mq ?_
      refine gm ?_
      refine JO.g00 rfl rfl rfl rfl rfl rfl (o_len rfl rfl Try.underlying22) ⟨rfl, trivial⟩ ?_
      refine JO.g00 rfl rfl rfl rfl rfl rfl (o_eql rfl) ⟨rfl, rfl, trivial⟩ ?_
      refine pt ?_
      refine mq ?_
      refine JO.bool (s := 72) rfl (fun hb => ?_) (fun hb => ?_)
      ·
       replace h := b_if (d_t hb) h
       refine gm ?_
       refine JO.g00 rfl rfl rfl rfl rfl rfl (o_eql rfl) ⟨rfl, rfl, trivial⟩ ?_
       refine pt ?_
       refine mq ?_
       refine JO.bool (s := 76) rfl (fun hb => ?_) (fun hb => ?_)
       ·
        replace h := b_if (d_t hb) h
        obtain ⟨r13, er13, h⟩ := b_bind h
        have cr13 := law_dressed_ok k  r13 er13
        refine JO.g00 rfl rfl rfl rfl rfl rfl (o_call [] rfl rfl en22 rfl cr13) trivial ?_
        refine pt ?_
        refine aq ?_
        refine JO.nil ?_
        refine JN.then_n ?_
        exact JN.z ((), r13) h (SE.fin [] ⟨rfl, trivial⟩ rfl)
       ·
        replace h := b_ifn (d_f hb) h
        refine gn ?_
        refine pf ?_
        refine aq ?_
        refine JO.nil ?_
        refine JN.then_n ?_
        exact JN.z ((), false) h (SE.fin [] ⟨rfl, trivial⟩ rfl)
      ·
       replace h := b_ifn (d_f hb) h
       iterate 2 refine gn ?_
       refine pf ?_
       refine mq ?_
       refine gn ?_
       refine pf ?_
       refine aq ?_
       refine JO.nil ?_
       refine JN.then_n ?_
       exact JN.z ((), false) h (SE.fin [] ⟨rfl, trivial⟩ rfl)
     ·
      replace h := b_ifn (d_f hb) h
      refine gm ?_
      refine JO.g00 rfl rfl rfl rfl rfl rfl (o_eql rfl) ⟨rfl, rfl, trivial⟩ ?_
      refine pf ?_
      refine mq ?_
      refine JO.bool (s := 63) rfl (fun hb => ?_) (fun hb => ?_)
      ·
       replace h := b_if (d_t hb) h
       iterate 2 refine gn ?_
       refine pt ?_
       refine mq ?_
       refine gm ?_
       refine JO.g00 rfl rfl rfl rfl rfl rfl (o_len rfl rfl Try.underlying22) ⟨rfl, trivial⟩ ?_
       refine JO.g00 rfl rfl rfl rfl rfl rfl (o_eql rfl) ⟨rfl, rfl, trivial⟩ ?_
       refine pt ?_
       refine mq ?_
       refine JO.bool (s := 72) rfl (fun hb => ?_) (fun hb => ?_)
       ·
        replace h := b_if (d_t hb) h
        refine gm ?_
        refine JO.g00 rfl rfl rfl rfl rfl rfl (o_eql rfl) ⟨rfl, rfl, trivial⟩ ?_
        refine pt ?_
        refine mq ?_
        refine JO.bool (s := 76) rfl (fun hb => ?_) (fun hb => ?_)
        ·
         replace h := b_if (d_t hb) h
         obtain ⟨r14, er14, h⟩ := b_bind h
         have cr14 := law_dressed_ok k  r14 er14
         refine JO.g00 rfl rfl rfl rfl rfl rfl (o_call [] rfl rfl en22 rfl cr14) trivial ?_
         refine pt ?_
         refine aq ?_
         refine JO.nil ?_
         refine JN.then_n ?_
         exact JN.z ((), r14) h (SE.fin [] ⟨rfl, trivial⟩ rfl)
        ·
         replace h := b_ifn (d_f hb) h
         refine gn ?_
         refine pf ?_
         refine aq ?_
         refine JO.nil ?_
         refine JN.then_n ?_
         exact JN.z ((), false) h (SE.fin [] ⟨rfl, trivial⟩ rfl)
       ·
        replace h := b_ifn (d_f hb) h
        iterate 2 refine gn ?_
        refine pf ?_
        refine mq ?_
        refine gn ?_
        refine pf ?_
        refine aq ?_
        refine JO.nil ?_
        refine JN.then_n ?_
        exact JN.z ((), false) h (SE.fin [] ⟨rfl, trivial⟩ rfl)
      ·
       replace h := b_ifn (d_f hb) h
       refine gm ?_
       refine JO.g00 rfl rfl rfl rfl rfl rfl (o_eql rfl) ⟨rfl, rfl, trivial⟩ ?_
       refine pf ?_
       refine mq ?_
       refine JO.bool (s := 67) rfl (fun hb => ?_) (fun hb => ?_)
       ·
        replace h := b_if (d_t hb) h
        refine gm ?_
        refine JO.g00 rfl rfl rfl rfl rfl rfl (o_len rfl rfl Try.underlying22) ⟨rfl, trivial⟩ ?_
        refine JO.g00 rfl rfl rfl rfl rfl rfl (o_eql rfl) ⟨rfl, rfl, trivial⟩ ?_
        refine pt ?_
        refine mq ?_
        refine JO.bool (s := 72) rfl (fun hb => ?_) (fun hb => ?_)
        ·
         replace h := b_if (d_t hb) h
         refine gm ?_
         refine JO.g00 rfl rfl rfl rfl rfl rfl (o_eql rfl) ⟨rfl, rfl, trivial⟩ ?_
         refine pt ?_
         refine mq ?_
         refine JO.bool (s := 76) rfl (fun hb => ?_) (fun hb => ?_)
         ·
          replace h := b_if (d_t hb) h
          obtain ⟨r15, er15, h⟩ := b_bind h
          have cr15 := law_dressed_ok k  r15 er15
          refine JO.g00 rfl rfl rfl rfl rfl rfl (o_call [] rfl rfl en22 rfl cr15) trivial ?_
          refine pt ?_
          refine aq ?_
          refine JO.nil ?_
          refine JN.then_n ?_
          exact JN.z ((), r15) h (SE.fin [] ⟨rfl, trivial⟩ rfl)
         ·
          replace h := b_ifn (d_f hb) h
          refine gn ?_
          refine pf ?_
          refine aq ?_
          refine JO.nil ?_
          refine JN.then_n ?_
          exact JN.z ((), false) h (SE.fin [] ⟨rfl, trivial⟩ rfl)
        ·
         replace h := b_ifn (d_f hb) h
         iterate 2 refine gn ?_
         refine pf ?_
         refine mq ?_
         refine gn ?_
         refine pf ?_
         refine aq ?_
         refine JO.nil ?_
         refine JN.then_n ?_
         exact JN.z ((), false) h (SE.fin [] ⟨rfl, trivial⟩ rfl)
       ·
        replace h := b_ifn (d_f hb) h
        iterate 3 refine gn ?_
        refine pf ?_
        refine mq ?_
        iterate 2 refine gn ?_
        refine pf ?_
        refine mq ?_
        refine gn ?_
        refine pf ?_
        refine aq ?_
        refine JO.nil ?_
        refine JN.then_n ?_
        exact JN.z ((), false) h (SE.fin [] ⟨rfl, trivial⟩ rfl)
    ·
     refine JC.ret ?_
     refine JN.then_r ?_
     obtain rfl := Option.some.inj h
     exact JN.ret () [_] 0 ⟨rfl, trivial⟩ rfl
   ·
    replace h := b_ifn (n_fn hb) h
    refine JC.skip ?_
    refine JN.then_n ?_
    show JC _ _ _ _ _
    refine JC.seq ?_
    refine JC.cutB (Z := Unit) (α := Bool) (fun z17 x16 => [(4, .eq (.pointer (some ⟨b4, 0, none⟩))), (5, .rep (.slice tStep) r5.1), (6, .rep (.slice tTask) r6.1), (8, .rep (.slice (.int .i64)) r7.1), (10, .eq (.int .i64 r8.1)), (98, .eq (.bool x16))]) (fun z17 x16 => [.obj b4 28 (.rep tChange r3.1)]) h (fun K h => ?_) (fun z17 x16 h => ?_)
    ·
     refine JC.region ?_
     refine mq ?_
     refine JO.s rfl (o_len rfl rfl Try.underlying22) ⟨rfl, trivial⟩ ?_
     refine mq ?_
     refine JO.s rfl (o_len rfl rfl Try.underlying30) ⟨rfl, trivial⟩ ?_
     refine JO.s rfl (o_neq rfl) ⟨rfl, rfl, trivial⟩ ?_
     refine mq ?_
     refine JO.bool (s := 84) rfl (fun hb => ?_) (fun hb => ?_)
     ·
      replace h := b_if (n_t hb) h
      iterate 2 refine gn ?_
      refine pt ?_
      refine mq ?_
      iterate 2 refine gn ?_
      refine pt ?_
      refine mq ?_
      iterate 5 refine gn ?_
      refine pt ?_
      refine JO.nil ?_
      refine JN.then_n ?_
      exact JN.z ((), true) h (SE.fin [0] ⟨rfl, rfl, rfl, rfl, rfl, rfl, trivial⟩ rfl)
     ·
      replace h := b_ifn (n_fn hb) h
      refine gm ?_
      refine JO.g00 rfl rfl rfl rfl rfl rfl (o_lss rfl) ⟨rfl, rfl, trivial⟩ ?_
      refine pf ?_
      refine mq ?_
      refine JO.bool (s := 88) rfl (fun hb => ?_) (fun hb => ?_)
      ·
       replace h := b_if (d_t hb) h
       iterate 2 refine gn ?_
       refine pt ?_
       refine mq ?_
       iterate 5 refine gn ?_
       refine pt ?_
       refine JO.nil ?_
       refine JN.then_n ?_
       exact JN.z ((), true) h (SE.fin [0] ⟨rfl, rfl, rfl, rfl, rfl, rfl, trivial⟩ rfl)
      ·
       replace h := b_ifn (d_f hb) h
       refine gm ?_
       refine JO.g00 rfl rfl rfl rfl rfl rfl (o_gtr rfl) ⟨rfl, rfl, trivial⟩ ?_
       refine pf ?_
       refine mq ?_
       refine JO.bool (s := 92) rfl (fun hb => ?_) (fun hb => ?_)
       ·
        replace h := b_if (d_t hb) h
        iterate 5 refine gn ?_
        refine pt ?_
        refine JO.nil ?_
        refine JN.then_n ?_
        exact JN.z ((), true) h (SE.fin [0] ⟨rfl, rfl, rfl, rfl, rfl, rfl, trivial⟩ rfl)
       ·
        replace h := b_ifn (d_f hb) h
        refine gm ?_
        refine JO.g11 rfl rfl rfl rfl rfl rfl (o_load_obj rfl sz28 (nfn) rfl) ⟨rfl, trivial⟩ ?_
        obtain ⟨r18, er18, h⟩ := b_bind h
        have cr18 := kit_TasksOf_ok k r3.1 r18 er18
        refine JO.g00 rfl rfl rfl rfl rfl rfl (o_call [.tmp 94] rfl rfl en23 rfl cr18) ⟨rfl, trivial⟩ ?_
        obtain ⟨r19, er19, h⟩ := b_bind h
        have cr19 := kit_SameTasks_ok k r6.1 r18 r19 er19
        refine JO.g00 rfl rfl rfl rfl rfl rfl (o_call [.tmp 93, .tmp 95] rfl rfl en35 rfl cr19) ⟨rfl, rfl, trivial⟩ ?_
        refine JO.g00 rfl rfl rfl rfl rfl rfl (o_not rfl) ⟨rfl, trivial⟩ ?_
        refine pf ?_
        refine JO.nil ?_
        refine JN.then_n ?_
        exact JN.z ((), !r19) h (SE.fin [0] ⟨rfl, rfl, rfl, rfl, rfl, rfl, trivial⟩ rfl)
    ·
     refine JC.cond rfl (fun hb => ?_) (fun hb => ?_)
     ·
      replace h := b_if (v_t hb) h
      refine sr ?_
      refine cq ?_
      refine nt ?_
      refine JC.ret ?_
      refine JN.then_r ?_
      obtain rfl := Option.some.inj h
      exact JN.ret () [_] 0 ⟨rfl, trivial⟩ rfl
     ·
      replace h := b_ifn (v_f hb) h
      refine JC.skip ?_
      refine JN.then_n ?_
      show JC _ _ _ _ _
      refine JC.cutE (Z := Unit) (α := Unit) (fun z21 x20 => [(4, .eq (.pointer (some ⟨b4, 0, none⟩))), (5, .rep (.slice tStep) r5.1), (8, .rep (.slice (.int .i64)) r7.1), (10, .eq (.int .i64 r8.1))]) (fun z21 x20 => [.obj b4 28 (.rep tChange r3.1)]) (fun e => e = r) h (fun e h => Option.some.inj h) (fun K hR h => ?_) (fun z21 x20 h => ?_)
      ·
       refine sr ?_
       refine cq ?_
       refine nt ?_
       refine JC.block ?_
       refine JC.loopB (Z := Unit) (α := Int) (fun z23 y22 => [(4, .eq (.pointer (some ⟨b4, 0, none⟩))), (5, .rep (.slice tStep) r5.1), (6, .rep (.slice tTask) r6.1), (8, .rep (.slice (.int .i64)) r7.1), (10, .eq (.int .i64 r8.1)), (12, .eq (.int .i64 y22))]) (fun z23 y22 => [.obj b4 28 (.rep tChange r3.1)]) (law_ChangeUnder_l1 k r3 r5 r6 r7) k () (0 : Int) (fun _ => rfl) h (SE.fin [0] ⟨rfl, rfl, rfl, rfl, rfl, rfl, trivial⟩ rfl) (fun n z23 y22 h => ?_)
       unfold law_ChangeUnder_l1 at h
       refine JC.seq ?_
       refine sr ?_
       iterate 2 refine mq ?_
       refine JO.s rfl (o_len rfl rfl Try.underlying30) ⟨rfl, trivial⟩ ?_
       refine JO.s rfl (o_lss rfl) ⟨rfl, rfl, trivial⟩ ?_
       refine nt ?_
       refine JC.cond rfl (fun hb => ?_) (fun hb => ?_)
       ·
        replace h := b_if (d_t hb) h
        refine JC.skip ?_
        refine JN.then_n ?_
        show JC _ _ _ _ _
        refine JC.cutE (Z := Unit) (α := Unit) (fun z25 x24 => [(4, .eq (.pointer (some ⟨b4, 0, none⟩))), (5, .rep (.slice tStep) r5.1), (6, .rep (.slice tTask) r6.1), (8, .rep (.slice (.int .i64)) r7.1), (10, .eq (.int .i64 r8.1)), (12, .eq (.int .i64 y22))]) (fun z25 x24 => [.obj b4 28 (.rep tChange r3.1)]) (fun e => e = r) h (fun e h => hR e h) (fun K hR h => ?_) (fun z25 x24 h => ?_)
        ·
         refine JC.block ?_
         refine sr ?_
         iterate 3 refine mq ?_
         obtain ⟨x26, ex26, h⟩ := b_bind h
         refine JO.s rfl (o_index (t := tStep) rfl Try.underlying30 sz43 ex26) ⟨rfl, rfl, trivial⟩ ?_
         refine JO.s rfl (o_field_at 1 false rfl fo43_0 rfl) ⟨rfl, trivial⟩ ?_
         refine JO.s rfl (o_load_at (t := (.int .i64)) rfl sz3 rfl) ⟨rfl, trivial⟩ ?_
         obtain ⟨x27, ex27, h⟩ := b_bind h
         refine JO.s rfl (o_index (t := tTask) rfl Try.underlying38 sz41 ex27) ⟨rfl, rfl, trivial⟩ ?_
         refine JO.s rfl (o_load_at (t := tTask) rfl sz41 rfl) ⟨rfl, trivial⟩ ?_
         refine JO.s01 rfl rfl rfl (o_alloc rfl za41 al41) trivial fun b28 => ?_
         refine JO.n11 rfl rfl (o_store rfl sz41 rfl rfl rfl) ⟨rfl, rfl, trivial⟩ ?_
         refine nt ?_
         refine sr ?_
         iterate 2 refine mq ?_
         obtain ⟨x29, ex29, h⟩ := b_bind h
         refine JO.s rfl (o_index (t := (.int .i64)) rfl Try.underlying22 sz3 ex29) ⟨rfl, rfl, trivial⟩ ?_
         refine JO.s rfl (o_load_at (t := (.int .i64)) rfl sz3 rfl) ⟨rfl, trivial⟩ ?_
         refine aq ?_
         refine nt ?_
         refine JC.block ?_
         refine JC.loopB (Z := Unit) (α := Int) (fun z31 y30 => [(4, .eq (.pointer (some ⟨b4, 0, none⟩))), (5, .rep (.slice tStep) r5.1), (6, .rep (.slice tTask) r6.1), (8, .rep (.slice (.int .i64)) r7.1), (10, .eq (.int .i64 r8.1)), (12, .eq (.int .i64 y22)), (13, .eq (.pointer (some ⟨b28, 0, none⟩))), (14, .eq (.int .i64 y30))]) (fun z31 y30 => [.obj b4 28 (.rep tChange r3.1), .obj b28 41 (.rep tTask x27)]) (law_ChangeUnder_l2 k r3 r5 r6 r7 y22 x27) k () x29 (fun _ => rfl) h (SE.fin [1, 0] ⟨rfl, rfl, rfl, rfl, rfl, rfl, rfl, rfl, trivial⟩ rfl) (fun n z31 y30 h => ?_)
         unfold law_ChangeUnder_l2 at h
         refine JC.seq ?_
         refine JC.seq ?_
         refine JC.drawN ?_
         refine dm ?_
         refine dm ?_
         refine dm ?_
         obtain ⟨x32, ex32, h⟩ := b_bind h
         refine DN.s00 rfl rfl rfl (o_index (t := (.int .i64)) rfl Try.underlying22 sz3 ex32) ⟨rfl, rfl, trivial⟩ ?_
         refine DN.s00 rfl rfl rfl (o_load_at (t := (.int .i64)) rfl sz3 rfl) ⟨rfl, trivial⟩ ?_
         refine DN.s11 0 rfl rfl rfl rfl (o_load_obj rfl sz28 (nfn) rfl) ⟨rfl, trivial⟩ ?_
         refine DN.s11 1 rfl rfl rfl rfl (o_load_obj rfl sz41 (nfn) rfl) ⟨rfl, trivial⟩ ?_
         obtain ⟨r33, er33, h⟩ := b_bind h
         have cr33 := law_lasts_ok k r3.1 x27 r33 er33
         refine DN.s00 rfl rfl rfl (o_call [.tmp 122, .tmp 123] rfl rfl en24 rfl cr33) ⟨rfl, rfl, trivial⟩ ?_
         obtain ⟨x34, ex34, h⟩ := b_bind h
         refine DN.s00 rfl rfl rfl (o_add rfl ex34) ⟨rfl, rfl, trivial⟩ ?_
         refine DN.fin (by kernel_rfl) mixed ?_
         refine JO.s rfl (o_lss rfl) ⟨rfl, rfl, trivial⟩ ?_
         refine nt ?_
         refine JC.cond rfl (fun hb => ?_) (fun hb => ?_)
         ·
          replace h := b_if (d_t hb) h
          refine JC.skip ?_
          refine JN.then_n ?_
          show JC _ _ _ _ _
          refine JC.cutE (Z := Unit) (α := Unit) (fun z36 x35 => [(4, .eq (.pointer (some ⟨b4, 0, none⟩))), (5, .rep (.slice tStep) r5.1), (6, .rep (.slice tTask) r6.1), (8, .rep (.slice (.int .i64)) r7.1), (10, .eq (.int .i64 r8.1)), (12, .eq (.int .i64 y22)), (13, .eq (.pointer (some ⟨b28, 0, none⟩))), (14, .eq (.int .i64 y30))]) (fun z36 x35 => [.obj b4 28 (.rep tChange r3.1), .obj b28 41 (.rep tTask x27)]) (fun e => e = r) h (fun e h => hR e h) (fun K hR h => ?_) (fun z36 x35 h => ?_)
          ·
           refine JC.block ?_
           refine sr ?_
           refine JO.s11 rfl rfl rfl (o_load_obj rfl sz28 (nfn) rfl) ⟨rfl, trivial⟩ ?_
           iterate 2 refine mq ?_
           obtain ⟨r37, er37, h⟩ := b_bind h
           have cr37 := chg_Wearing_ok k r3.1 r5.1 y30 r37 er37
           refine JO.s rfl (o_call [.tmp 130, .tmp 131, .tmp 132] rfl rfl en39 rfl cr37) ⟨rfl, rfl, rfl, trivial⟩ ?_
           refine mq ?_
           refine JO.s rfl (o_extract rfl rfl) ⟨rfl, trivial⟩ ?_
           refine JO.s rfl (o_extract rfl rfl) ⟨rfl, trivial⟩ ?_
           refine aq ?_
           refine aq ?_
           refine nt ?_
           refine JC.seq ?_
           refine sr ?_
           refine mq ?_
           refine JO.s rfl (o_neq rfl) ⟨rfl, rfl, trivial⟩ ?_
           refine nt ?_
           refine JC.cond rfl (fun hb => ?_) (fun hb => ?_)
           ·
            replace h := b_if (n_t hb) h
            refine sr ?_
            refine cq ?_
            refine nt ?_
            refine JC.ret ?_
            refine JN.then_r ?_
            refine JN.blk_r ?_
            refine JN.then_r ?_
            refine JN.then_r ?_
            refine JN.blk_r ?_
            refine JN.blk_r ?_
            refine JN.then_r ?_
            refine JN.then_r ?_
            refine JN.blk_r ?_
            refine JN.then_r ?_
            obtain rfl := hR _ h
            exact JN.ret () [_] 0 ⟨rfl, trivial⟩ rfl
           ·
            replace h := b_ifn (n_fn hb) h
            refine JC.skip ?_
            refine JN.then_n ?_
            show JC _ _ _ _ _
            refine JC.cutE (Z := Unit) (α := Unit) (fun z39 x38 => [(4, .eq (.pointer (some ⟨b4, 0, none⟩))), (5, .rep (.slice tStep) r5.1), (6, .rep (.slice tTask) r6.1), (8, .rep (.slice (.int .i64)) r7.1), (10, .eq (.int .i64 r8.1)), (12, .eq (.int .i64 y22)), (13, .eq (.pointer (some ⟨b28, 0, none⟩))), (14, .eq (.int .i64 y30))]) (fun z39 x38 => [.obj b4 28 (.rep tChange r3.1), .obj b28 41 (.rep tTask x27)]) (fun e => e = r) h (fun e h => hR e h) (fun K hR h => ?_) (fun z39 x38 h => ?_)
            ·
             refine sr ?_
             refine cq ?_
             refine nt ?_
             refine JC.block ?_
             refine JC.loopB (Z := Unit) (α := Int) (fun z41 y40 => [(4, .eq (.pointer (some ⟨b4, 0, none⟩))), (5, .rep (.slice tStep) r5.1), (6, .rep (.slice tTask) r6.1), (8, .rep (.slice (.int .i64)) r7.1), (10, .eq (.int .i64 r8.1)), (12, .eq (.int .i64 y22)), (13, .eq (.pointer (some ⟨b28, 0, none⟩))), (14, .eq (.int .i64 y30)), (15, .rep (.slice (.int .i64)) r37.1), (17, .eq (.int .i64 y40))]) (fun z41 y40 => [.obj b4 28 (.rep tChange r3.1), .obj b28 41 (.rep tTask x27)]) (law_ChangeUnder_l3 k r3 x27 r37) k () (0 : Int) (fun _ => rfl) h (SE.fin [0, 1] ⟨rfl, rfl, rfl, rfl, rfl, rfl, rfl, rfl, rfl, rfl, trivial⟩ rfl) (fun n z41 y40 h => ?_)
             unfold law_ChangeUnder_l3 at h
             refine JC.seq ?_
             refine sr ?_
             iterate 2 refine mq ?_
             refine JO.s rfl (o_len rfl rfl Try.underlying22) ⟨rfl, trivial⟩ ?_
             refine JO.s rfl (o_lss rfl) ⟨rfl, rfl, trivial⟩ ?_
             refine nt ?_
             refine JC.cond rfl (fun hb => ?_) (fun hb => ?_)
             ·
              replace h := b_if (d_t hb) h
              refine JC.skip ?_
              refine JN.then_n ?_
              show JC _ _ _ _ _
              refine JC.seq ?_
              refine JC.block ?_
              refine JC.seq ?_
              refine JC.drawN ?_
              refine DN.s00 rfl rfl rfl (o_field_obj rfl fo28_0) ⟨rfl, trivial⟩ ?_
              refine DN.s11 0 rfl rfl rfl rfl (o_load_obj rfl sz25 (fun _ => rfl) rfl) ⟨rfl, trivial⟩ ?_
              refine DN.s00 rfl rfl rfl (o_field_obj rfl fo41_0) ⟨rfl, trivial⟩ ?_
              refine DN.s11 1 rfl rfl rfl rfl (o_load_obj rfl sz3 (fun _ => rfl) rfl) ⟨rfl, trivial⟩ ?_
              obtain ⟨x42, ex42, h⟩ := b_bind h
              refine DN.s00 rfl rfl rfl (o_index (t := tThing) rfl Try.underlying25 sz45 ex42) ⟨rfl, rfl, trivial⟩ ?_
              refine DN.s00 rfl rfl rfl (o_field_at 1 false rfl fo45_0 rfl) ⟨rfl, trivial⟩ ?_
              refine DN.s00 rfl rfl rfl (o_load_at (t := (.slice (.int .i64))) rfl sz22 rfl) ⟨rfl, trivial⟩ ?_
              refine dm ?_
              refine dm ?_
              obtain ⟨x43, ex43, h⟩ := b_bind h
              refine DN.s00 rfl rfl rfl (o_index (t := (.int .i64)) rfl Try.underlying22 sz3 ex43) ⟨rfl, rfl, trivial⟩ ?_
              refine DN.s00 rfl rfl rfl (o_load_at (t := (.int .i64)) rfl sz3 rfl) ⟨rfl, trivial⟩ ?_
              refine DN.fin (by kernel_rfl) mixed ?_
              obtain ⟨r44, er44, h⟩ := b_bind h
              have cr44 := kit_At_ok k x42.1 x43 r44 er44
              refine JO.s rfl (o_call [.tmp 150, .tmp 154] rfl rfl en30 rfl cr44) ⟨rfl, rfl, trivial⟩ ?_
              refine JO.s rfl (o_geq rfl) ⟨rfl, rfl, trivial⟩ ?_
              refine nt ?_
              refine JC.cond rfl (fun hb => ?_) (fun hb => ?_)
              ·
               replace h := b_if (d_t hb) h
               refine sr ?_
               refine cq ?_
               refine nt ?_
               refine JC.ret ?_
               refine JN.blk_r ?_
               refine JN.then_r ?_
               refine JN.then_r ?_
               refine JN.blk_r ?_
               refine JN.then_r ?_
               refine JN.blk_r ?_
               refine JN.then_r ?_
               refine JN.then_r ?_
               refine JN.blk_r ?_
               refine JN.blk_r ?_
               refine JN.then_r ?_
               refine JN.then_r ?_
               refine JN.blk_r ?_
               refine JN.then_r ?_
               obtain rfl := hR _ h
               exact JN.ret () [_] 0 ⟨rfl, trivial⟩ rfl
              ·
               replace h := b_ifn (d_f hb) h
               refine JC.skip ?_
               refine JN.blk_n ?_
               refine JN.then_n ?_
               show JC _ _ _ _ _
               refine JC.region ?_
               refine mq ?_
               obtain ⟨x45, ex45, h⟩ := b_bind h
               refine JO.s rfl (o_add rfl ex45) ⟨rfl, rfl, trivial⟩ ?_
               refine aq ?_
               refine JO.nil ?_
               refine JN.then_n ?_
               exact JN.z ((), x45) h (SE.fin [0, 1] ⟨rfl, rfl, rfl, rfl, rfl, rfl, rfl, rfl, rfl, rfl, trivial⟩ rfl)
             ·
              replace h := b_ifn (d_f hb) h
              refine JC.exit ?_
              refine JN.then_x ?_
              refine JN.then_x ?_
              refine JN.blk_hit ?_
              refine JN.then_n ?_
              exact JN.z ((), ()) h (SE.fin [0, 1] ⟨rfl, rfl, rfl, rfl, rfl, rfl, rfl, rfl, trivial⟩ rfl)
            ·
             refine sr ?_
             refine cq ?_
             refine nt ?_
             refine JC.block ?_
             refine JC.loopB (Z := Unit) (α := Int) (fun z47 y46 => [(4, .eq (.pointer (some ⟨b4, 0, none⟩))), (5, .rep (.slice tStep) r5.1), (6, .rep (.slice tTask) r6.1), (8, .rep (.slice (.int .i64)) r7.1), (10, .eq (.int .i64 r8.1)), (12, .eq (.int .i64 y22)), (13, .eq (.pointer (some ⟨b28, 0, none⟩))), (14, .eq (.int .i64 y30)), (18, .eq (.int .i64 y46))]) (fun z47 y46 => [.obj b4 28 (.rep tChange r3.1), .obj b28 41 (.rep tTask x27)]) (law_ChangeUnder_l4 k r3 r5 r6 r7 y22 x27 y30) k () (0 : Int) (fun _ => rfl) h (SE.fin [0, 1] ⟨rfl, rfl, rfl, rfl, rfl, rfl, rfl, rfl, rfl, trivial⟩ rfl) (fun n z47 y46 h => ?_)
             unfold law_ChangeUnder_l4 at h
             refine JC.seq ?_
             refine sr ?_
             iterate 2 refine mq ?_
             refine JO.s rfl (o_len rfl rfl Try.underlying30) ⟨rfl, trivial⟩ ?_
             refine JO.s rfl (o_lss rfl) ⟨rfl, rfl, trivial⟩ ?_
             refine nt ?_
             refine JC.cond rfl (fun hb => ?_) (fun hb => ?_)
             ·
              replace h := b_if (d_t hb) h
              refine JC.skip ?_
              refine JN.then_n ?_
              show JC _ _ _ _ _
              refine JC.seq ?_
              refine JC.block ?_
              refine sr ?_
              iterate 3 refine mq ?_
              obtain ⟨x48, ex48, h⟩ := b_bind h
              refine JO.s rfl (o_index (t := tStep) rfl Try.underlying30 sz43 ex48) ⟨rfl, rfl, trivial⟩ ?_
              refine JO.s rfl (o_field_at 1 false rfl fo43_0 rfl) ⟨rfl, trivial⟩ ?_
              refine JO.s rfl (o_load_at (t := (.int .i64)) rfl sz3 rfl) ⟨rfl, trivial⟩ ?_
              obtain ⟨x49, ex49, h⟩ := b_bind h
              refine JO.s rfl (o_index (t := tTask) rfl Try.underlying38 sz41 ex49) ⟨rfl, rfl, trivial⟩ ?_
              refine JO.s rfl (o_load_at (t := tTask) rfl sz41 rfl) ⟨rfl, trivial⟩ ?_
              refine JO.s01 rfl rfl rfl (o_alloc rfl za41 al41) trivial fun b50 => ?_
              refine JO.n11 rfl rfl (o_store rfl sz41 rfl rfl rfl) ⟨rfl, rfl, trivial⟩ ?_
              refine nt ?_
              refine JC.cutB (Z := Unit) (α := Bool) (fun z52 x51 => [(4, .eq (.pointer (some ⟨b4, 0, none⟩))), (5, .rep (.slice tStep) r5.1), (6, .rep (.slice tTask) r6.1), (8, .rep (.slice (.int .i64)) r7.1), (10, .eq (.int .i64 r8.1)), (12, .eq (.int .i64 y22)), (13, .eq (.pointer (some ⟨b28, 0, none⟩))), (14, .eq (.int .i64 y30)), (18, .eq (.int .i64 y46)), (206, .eq (.bool x51))]) (fun z52 x51 => [.obj b4 28 (.rep tChange r3.1), .obj b28 41 (.rep tTask x27)]) h (fun K h => ?_) (fun z52 x51 h => ?_)
              ·
               refine JC.drawN ?_
               refine dm ?_
               refine dm ?_
               refine DN.s00 rfl rfl rfl (o_neq rfl) ⟨rfl, rfl, trivial⟩ ?_
               refine DN.fork rfl rfl rfl (o_move rfl) ⟨rfl, trivial⟩ (fun hb => ?_) (fun hb => ?_)
               ·
                replace h := b_if (n_t hb) h
                refine DN.sg00 rfl rfl rfl rfl rfl (o_move rfl) ⟨rfl, rfl, trivial⟩ ?_
                refine DN.sg00 rfl rfl rfl rfl rfl (o_move rfl) ⟨rfl, rfl, trivial⟩ ?_
                obtain ⟨x53, ex53, h⟩ := b_bind h
                refine DN.sg00 rfl rfl rfl rfl rfl (o_index (t := (.int .i64)) rfl Try.underlying22 sz3 ex53) ⟨rfl, rfl, rfl, trivial⟩ ?_
                refine DN.sg00 rfl rfl rfl rfl rfl (o_load_at (t := (.int .i64)) rfl sz3 rfl) ⟨rfl, rfl, trivial⟩ ?_
                refine DN.sg00 rfl rfl rfl rfl rfl (o_move rfl) ⟨rfl, rfl, trivial⟩ ?_
                refine DN.sg00 rfl rfl rfl rfl rfl (o_leq rfl) ⟨rfl, rfl, rfl, trivial⟩ ?_
                refine DN.s00 rfl rfl rfl (o_pick_t rfl) ⟨rfl, rfl, trivial⟩ ?_
                refine DN.fork rfl rfl rfl (o_move rfl) ⟨rfl, trivial⟩ (fun hb => ?_) (fun hb => ?_)
                ·
                 replace h := b_if (d_t hb) h
                 refine DN.sg00 rfl rfl rfl rfl rfl (o_move rfl) ⟨rfl, rfl, trivial⟩ ?_
                 refine DN.sg00 rfl rfl rfl rfl rfl (o_move rfl) ⟨rfl, rfl, trivial⟩ ?_
                 refine DN.sg00 rfl rfl rfl rfl rfl (o_move rfl) ⟨rfl, rfl, trivial⟩ ?_
                 obtain ⟨x54, ex54, h⟩ := b_bind h
                 refine DN.sg00 rfl rfl rfl rfl rfl (o_index (t := (.int .i64)) rfl Try.underlying22 sz3 ex54) ⟨rfl, rfl, rfl, trivial⟩ ?_
                 refine DN.sg00 rfl rfl rfl rfl rfl (o_load_at (t := (.int .i64)) rfl sz3 rfl) ⟨rfl, rfl, trivial⟩ ?_
                 refine DN.sg11 1 rfl rfl rfl rfl rfl rfl (o_load_obj rfl sz28 (nfn) rfl) ⟨rfl, rfl, trivial⟩ ?_
                 refine DN.sg11 0 rfl rfl rfl rfl rfl rfl (o_load_obj rfl sz41 (nfn) rfl) ⟨rfl, rfl, trivial⟩ ?_
                 obtain ⟨r55, er55, h⟩ := b_bind h
                 have cr55 := law_lasts_ok k r3.1 x49 r55 er55
                 refine DN.sg00 rfl rfl rfl rfl rfl (o_call [.tmp 188, .tmp 189] rfl rfl en24 rfl cr55) ⟨rfl, rfl, rfl, trivial⟩ ?_
                 obtain ⟨x56, ex56, h⟩ := b_bind h
                 refine DN.sg00 rfl rfl rfl rfl rfl (o_add rfl ex56) ⟨rfl, rfl, rfl, trivial⟩ ?_
                 refine DN.sg00 rfl rfl rfl rfl rfl (o_lss rfl) ⟨rfl, rfl, rfl, trivial⟩ ?_
                 refine DN.s00 rfl rfl rfl (o_pick_t rfl) ⟨rfl, rfl, trivial⟩ ?_
                 refine DN.fork rfl rfl rfl (o_move rfl) ⟨rfl, trivial⟩ (fun hb => ?_) (fun hb => ?_)
                 ·
                  replace h := b_if (d_t hb) h
                  refine DN.sg00 rfl rfl rfl rfl rfl (o_field_obj rfl fo28_0) ⟨rfl, rfl, trivial⟩ ?_
                  refine DN.sg11 1 rfl rfl rfl rfl rfl rfl (o_load_obj rfl sz25 (fun _ => rfl) rfl) ⟨rfl, rfl, trivial⟩ ?_
                  refine DN.sg00 rfl rfl rfl rfl rfl (o_field_obj rfl fo41_0) ⟨rfl, rfl, trivial⟩ ?_
                  refine DN.sg11 2 rfl rfl rfl rfl rfl rfl (o_load_obj rfl sz3 (fun _ => rfl) rfl) ⟨rfl, rfl, trivial⟩ ?_
                  obtain ⟨x57, ex57, h⟩ := b_bind h
                  refine DN.sg00 rfl rfl rfl rfl rfl (o_index (t := tThing) rfl Try.underlying25 sz45 ex57) ⟨rfl, rfl, rfl, trivial⟩ ?_
                  refine DN.sg00 rfl rfl rfl rfl rfl (o_field_at 1 false rfl fo45_0 rfl) ⟨rfl, rfl, trivial⟩ ?_
                  refine DN.sg00 rfl rfl rfl rfl rfl (o_load_at (t := (.slice (.int .i64))) rfl sz22 rfl) ⟨rfl, rfl, trivial⟩ ?_
                  refine DN.sg00 rfl rfl rfl rfl rfl (o_field_obj rfl fo41_0) ⟨rfl, rfl, trivial⟩ ?_
                  refine DN.sg11 0 rfl rfl rfl rfl rfl rfl (o_load_obj rfl sz3 (fun _ => rfl) rfl) ⟨rfl, rfl, trivial⟩ ?_
                  refine DN.fin (by kernel_rfl) mixed ?_
                  obtain ⟨r58, er58, h⟩ := b_bind h
                  have cr58 := kit_At_ok k x57.1 x49.1 r58 er58
                  refine JO.g00 rfl rfl rfl rfl rfl rfl (o_call [.tmp 201, .tmp 203] rfl rfl en30 rfl cr58) ⟨rfl, rfl, trivial⟩ ?_
                  refine JO.g00 rfl rfl rfl rfl rfl rfl (o_geq rfl) ⟨rfl, rfl, trivial⟩ ?_
                  refine pt ?_
                  refine JO.nil ?_
                  refine JN.then_n ?_
                  exact JN.z ((), decide ((0 : Int) ≤ r58)) h (SE.fin [1, 2] ⟨rfl, rfl, rfl, rfl, rfl, rfl, rfl, rfl, rfl, rfl, trivial⟩ rfl)
                 ·
                  replace h := b_ifn (d_f hb) h
                  iterate 9 refine dg ?_
                  refine DN.fin (by kernel_rfl) mixed ?_
                  iterate 2 refine gn ?_
                  refine pf ?_
                  refine JO.nil ?_
                  refine JN.then_n ?_
                  exact JN.z ((), false) h (SE.fin [1, 2] ⟨rfl, rfl, rfl, rfl, rfl, rfl, rfl, rfl, rfl, rfl, trivial⟩ rfl)
                ·
                 replace h := b_ifn (d_f hb) h
                 iterate 10 refine dg ?_
                 refine DN.s00 rfl rfl rfl (o_pick_f rfl) ⟨rfl, rfl, trivial⟩ ?_
                 refine dm ?_
                 iterate 9 refine dg ?_
                 refine DN.fin (by kernel_rfl) mixed ?_
                 iterate 2 refine gn ?_
                 refine pf ?_
                 refine JO.nil ?_
                 refine JN.then_n ?_
                 exact JN.z ((), false) h (SE.fin [1, 2] ⟨rfl, rfl, rfl, rfl, rfl, rfl, rfl, rfl, rfl, rfl, trivial⟩ rfl)
               ·
                replace h := b_ifn (n_fn hb) h
                iterate 6 refine dg ?_
                refine DN.s00 rfl rfl rfl (o_pick_f rfl) ⟨rfl, rfl, trivial⟩ ?_
                refine dm ?_
                iterate 10 refine dg ?_
                refine DN.s00 rfl rfl rfl (o_pick_f rfl) ⟨rfl, rfl, trivial⟩ ?_
                refine dm ?_
                iterate 9 refine dg ?_
                refine DN.fin (by kernel_rfl) mixed ?_
                iterate 2 refine gn ?_
                refine pf ?_
                refine JO.nil ?_
                refine JN.then_n ?_
                exact JN.z ((), false) h (SE.fin [1, 2] ⟨rfl, rfl, rfl, rfl, rfl, rfl, rfl, rfl, rfl, rfl, trivial⟩ rfl)
              ·
               refine JC.cond rfl (fun hb => ?_) (fun hb => ?_)
               ·
                replace h := b_if (v_t hb) h
                refine sr ?_
                refine cq ?_
                refine nt ?_
                refine JC.ret ?_
                refine JN.blk_r ?_
                refine JN.then_r ?_
                refine JN.then_r ?_
                refine JN.blk_r ?_
                refine JN.blk_r ?_
                refine JN.then_r ?_
                refine JN.then_r ?_
                refine JN.blk_r ?_
                refine JN.blk_r ?_
                refine JN.then_r ?_
                refine JN.then_r ?_
                refine JN.blk_r ?_
                refine JN.then_r ?_
                obtain rfl := hR _ h
                exact JN.ret () [_] 0 ⟨rfl, trivial⟩ rfl
               ·
                replace h := b_ifn (v_f hb) h
                refine JC.skip ?_
                refine JN.blk_n ?_
                refine JN.then_n ?_
                show JC _ _ _ _ _
                refine JC.region ?_
                refine mq ?_
                obtain ⟨x59, ex59, h⟩ := b_bind h
                refine JO.s rfl (o_add rfl ex59) ⟨rfl, rfl, trivial⟩ ?_
                refine aq ?_
                refine JO.nil ?_
                refine JN.then_n ?_
                exact JN.z ((), x59) h (SE.fin [0, 1] ⟨rfl, rfl, rfl, rfl, rfl, rfl, rfl, rfl, rfl, trivial⟩ rfl)
             ·
              replace h := b_ifn (d_f hb) h
              refine JC.exit ?_
              refine JN.then_x ?_
              refine JN.then_x ?_
              refine JN.blk_hit ?_
              refine JN.blk_n ?_
              refine JN.then_n ?_
              exact JN.z ((), ()) h (SE.fin [0, 1] ⟨rfl, rfl, rfl, rfl, rfl, rfl, rfl, rfl, trivial⟩ rfl)
          ·
           refine JC.region ?_
           refine mq ?_
           obtain ⟨x60, ex60, h⟩ := b_bind h
           refine JO.s rfl (o_add rfl ex60) ⟨rfl, rfl, trivial⟩ ?_
           refine aq ?_
           refine JO.nil ?_
           refine JN.then_n ?_
           exact JN.z ((), x60) h (SE.fin [0, 1] ⟨rfl, rfl, rfl, rfl, rfl, rfl, rfl, rfl, trivial⟩ rfl)
         ·
          replace h := b_ifn (d_f hb) h
          refine JC.exit ?_
          refine JN.then_x ?_
          refine JN.then_x ?_
          refine JN.blk_hit ?_
          refine JN.blk_n ?_
          refine JN.then_n ?_
          exact JN.z ((), ()) h (SE.fin [0] ⟨rfl, rfl, rfl, rfl, rfl, rfl, trivial⟩ rfl)
        ·
         refine JC.region ?_
         refine mq ?_
         obtain ⟨x61, ex61, h⟩ := b_bind h
         refine JO.s rfl (o_add rfl ex61) ⟨rfl, rfl, trivial⟩ ?_
         refine aq ?_
         refine JO.nil ?_
         refine JN.then_n ?_
         exact JN.z ((), x61) h (SE.fin [0] ⟨rfl, rfl, rfl, rfl, rfl, rfl, trivial⟩ rfl)
       ·
        replace h := b_ifn (d_f hb) h
        refine JC.exit ?_
        refine JN.then_x ?_
        refine JN.then_x ?_
        refine JN.blk_hit ?_
        refine JN.then_n ?_
        exact JN.z ((), ()) h (SE.fin [0] ⟨rfl, rfl, rfl, rfl, trivial⟩ rfl)
      ·
       refine sr ?_
       refine JO.s11 rfl rfl rfl (o_load_obj rfl sz28 (nfn) rfl) ⟨rfl, trivial⟩ ?_
       iterate 2 refine mq ?_
       obtain ⟨r62, er62, h⟩ := b_bind h
       have cr62 := chg_Wearing_ok k r3.1 r5.1 r8.1 r62 er62
       refine JO.s rfl (o_call [.tmp 208, .tmp 209, .tmp 210] rfl rfl en39 rfl cr62) ⟨rfl, rfl, rfl, trivial⟩ ?_
       refine mq ?_
       refine JO.s rfl (o_extract rfl rfl) ⟨rfl, trivial⟩ ?_
       refine JO.s rfl (o_extract rfl rfl) ⟨rfl, trivial⟩ ?_
       refine aq ?_
       refine aq ?_
       refine nt ?_
       refine JC.seq ?_
       refine JC.cutB (Z := Unit) (α := Bool) (fun z64 x63 => [(4, .eq (.pointer (some ⟨b4, 0, none⟩))), (5, .rep (.slice tStep) r5.1), (8, .rep (.slice (.int .i64)) r7.1), (222, .eq (.bool x63))]) (fun z64 x63 => [.obj b4 28 (.rep tChange r3.1)]) h (fun K h => ?_) (fun z64 x63 h => ?_)
       ·
        refine JC.region ?_
        refine mq ?_
        refine JO.s rfl (o_neq rfl) ⟨rfl, rfl, trivial⟩ ?_
        refine mq ?_
        refine JO.bool (s := 216) rfl (fun hb => ?_) (fun hb => ?_)
        ·
         replace h := b_if (n_t hb) h
         iterate 5 refine gn ?_
         refine pt ?_
         refine JO.nil ?_
         refine JN.then_n ?_
         exact JN.z ((), true) h (SE.fin [0] ⟨rfl, rfl, rfl, rfl, trivial⟩ rfl)
        ·
         replace h := b_ifn (n_fn hb) h
         refine gm ?_
         refine JO.g00 rfl rfl rfl rfl rfl rfl (o_field_obj rfl fo28_3) ⟨rfl, trivial⟩ ?_
         refine JO.g11 rfl rfl rfl rfl rfl rfl (o_load_obj rfl sz22 (fun _ => rfl) rfl) ⟨rfl, trivial⟩ ?_
         obtain ⟨r65, er65, h⟩ := b_bind h
         have cr65 := kit_SameInts_ok k r62.1 r3.1.2.2.2 r65 er65
         refine JO.g00 rfl rfl rfl rfl rfl rfl (o_call [.tmp 217, .tmp 219] rfl rfl en40 rfl cr65) ⟨rfl, rfl, trivial⟩ ?_
         refine JO.g00 rfl rfl rfl rfl rfl rfl (o_not rfl) ⟨rfl, trivial⟩ ?_
         refine pf ?_
         refine JO.nil ?_
         refine JN.then_n ?_
         exact JN.z ((), !r65) h (SE.fin [0] ⟨rfl, rfl, rfl, rfl, trivial⟩ rfl)
       ·
        refine JC.cond rfl (fun hb => ?_) (fun hb => ?_)
        ·
         replace h := b_if (v_t hb) h
         refine sr ?_
         refine cq ?_
         refine nt ?_
         refine JC.ret ?_
         refine JN.then_r ?_
         obtain rfl := Option.some.inj h
         exact JN.ret () [_] 0 ⟨rfl, trivial⟩ rfl
        ·
         replace h := b_ifn (v_f hb) h
         refine JC.skip ?_
         refine JN.then_n ?_
         show JC _ _ _ _ _
         refine sr ?_
         refine cq ?_
         refine nt ?_
         refine JC.cutB (Z := Unit) (α := Int) (fun z67 x66 => [(4, .eq (.pointer (some ⟨b4, 0, none⟩))), (5, .rep (.slice tStep) r5.1), (22, .eq (.int .i64 x66))]) (fun z67 x66 => [.obj b4 28 (.rep tChange r3.1)]) h (fun K h => ?_) (fun z67 x66 h => ?_)
         ·
          refine sr ?_
          refine cq ?_
          refine nt ?_
          refine JC.block ?_
          refine JC.loopB (Z := Unit) (α := Int × Int) (fun z69 y68 => [(4, .eq (.pointer (some ⟨b4, 0, none⟩))), (5, .rep (.slice tStep) r5.1), (8, .rep (.slice (.int .i64)) r7.1), (22, .eq (.int .i64 y68.1)), (23, .eq (.int .i64 y68.2))]) (fun z69 y68 => [.obj b4 28 (.rep tChange r3.1)]) (law_ChangeUnder_l5 k r7) k () ((100 : Int), (0 : Int)) (fun _ => rfl) h (SE.fin [0] ⟨rfl, rfl, rfl, rfl, rfl, trivial⟩ rfl) (fun n z69 y68 h => ?_)
          unfold law_ChangeUnder_l5 at h
          refine JC.seq ?_
          refine sr ?_
          iterate 2 refine mq ?_
          refine JO.s rfl (o_len rfl rfl Try.underlying22) ⟨rfl, trivial⟩ ?_
          refine JO.s rfl (o_lss rfl) ⟨rfl, rfl, trivial⟩ ?_
          refine nt ?_
          refine JC.cond rfl (fun hb => ?_) (fun hb => ?_)
          ·
           replace h := b_if (d_t hb) h
           refine JC.skip ?_
           refine JN.then_n ?_
           show JC _ _ _ _ _
           refine JC.seq ?_
           refine JC.block ?_
           refine JC.region ?_
           iterate 3 refine mq ?_
           obtain ⟨x70, ex70, h⟩ := b_bind h
           refine JO.s rfl (o_index (t := (.int .i64)) rfl Try.underlying22 sz3 ex70) ⟨rfl, rfl, trivial⟩ ?_
           refine JO.s rfl (o_load_at (t := (.int .i64)) rfl sz3 rfl) ⟨rfl, trivial⟩ ?_
           refine JO.s rfl (o_min rfl rfl) ⟨rfl, rfl, trivial⟩ ?_
           refine aq ?_
           refine JO.nil ?_
           refine JN.blk_n ?_
           refine JN.then_n ?_
           show JC _ _ _ _ _
           refine JC.region ?_
           refine mq ?_
           obtain ⟨x71, ex71, h⟩ := b_bind h
           refine JO.s rfl (o_add rfl ex71) ⟨rfl, rfl, trivial⟩ ?_
           refine aq ?_
           refine JO.nil ?_
           refine JN.then_n ?_
           exact JN.z ((), (imin y68.1 x70, x71)) h (SE.fin [0] ⟨rfl, rfl, rfl, rfl, rfl, trivial⟩ rfl)
          ·
           replace h := b_ifn (d_f hb) h
           refine JC.exit ?_
           refine JN.then_x ?_
           refine JN.then_x ?_
           refine JN.blk_hit ?_
           refine JN.then_n ?_
           exact JN.z ((), y68.1) h (SE.fin [0] ⟨rfl, rfl, rfl, trivial⟩ rfl)
         ·
          refine JC.cutE (Z := Unit) (α := Unit) (fun z73 x72 => []) (fun z73 x72 => []) (fun e => e = r) h (fun e h => Option.some.inj h) (fun K hR h => ?_) (fun z73 x72 h => ?_)
          ·
           refine sr ?_
           refine mq ?_
           refine JO.s rfl (o_gtr rfl) ⟨rfl, rfl, trivial⟩ ?_
           refine nt ?_
           refine JC.cond rfl (fun hb => ?_) (fun hb => ?_)
           ·
            replace h := b_if (d_t hb) h
            refine sr ?_
            refine JO.s11 rfl rfl rfl (o_load_obj rfl sz28 (nfn) rfl) ⟨rfl, trivial⟩ ?_
            iterate 2 refine mq ?_
            obtain ⟨x74, ex74, h⟩ := b_bind h
            refine JO.s rfl (o_sub rfl ex74) ⟨rfl, rfl, trivial⟩ ?_
            refine JO.s rfl (o_min rfl rfl) ⟨rfl, rfl, trivial⟩ ?_
            obtain ⟨r75, er75, h⟩ := b_bind h
            have cr75 := chg_Wearing_ok k r3.1 r5.1 (imin x74 (50 : Int)) r75 er75
            refine JO.s rfl (o_call [.tmp 238, .tmp 239, .tmp 242] rfl rfl en39 rfl cr75) ⟨rfl, rfl, rfl, trivial⟩ ?_
            refine mq ?_
            refine JO.s rfl (o_extract rfl rfl) ⟨rfl, trivial⟩ ?_
            refine JO.s rfl (o_extract rfl rfl) ⟨rfl, trivial⟩ ?_
            refine aq ?_
            refine aq ?_
            refine nt ?_
            refine JC.cutB (Z := Unit) (α := Bool) (fun z77 x76 => [(259, .eq (.bool x76))]) (fun z77 x76 => []) h (fun K h => ?_) (fun z77 x76 h => ?_)
            ·
             refine JC.region ?_
             refine mq ?_
             refine JO.s rfl (o_neq rfl) ⟨rfl, rfl, trivial⟩ ?_
             refine mq ?_
             refine JO.bool (s := 248) rfl (fun hb => ?_) (fun hb => ?_)
             ·
              replace h := b_if (n_t hb) h
              iterate 6 refine gn ?_
              refine JO.gnou rfl rfl rfl rfl rfl rfl ?_
              refine JO.gnou rfl rfl rfl rfl rfl rfl ?_
              refine JO.gnou rfl rfl rfl rfl rfl rfl ?_
              refine gn ?_
              refine pt ?_
              refine JO.nil ?_
              refine JN.then_n ?_
              exact JN.z ((), true) h (SE.fin [] ⟨rfl, trivial⟩ rfl)
             ·
              replace h := b_ifn (n_fn hb) h
              refine gm ?_
              refine JO.g00 rfl rfl rfl rfl rfl rfl (o_field_obj rfl fo28_2) ⟨rfl, trivial⟩ ?_
              refine JO.g11 rfl rfl rfl rfl rfl rfl (o_load_obj rfl sz22 (fun _ => rfl) rfl) ⟨rfl, trivial⟩ ?_
              obtain ⟨r78, er78, h⟩ := b_bind h
              have cr78 := kit_SameInts_ok k r75.1 r3.1.2.2.1 r78 er78
              refine JO.g00 rfl rfl rfl rfl rfl rfl (o_call [.tmp 249, .tmp 251] rfl rfl en40 rfl cr78) ⟨rfl, rfl, trivial⟩ ?_
              refine JO.g00 rfl rfl rfl rfl rfl rfl (o_not rfl) ⟨rfl, trivial⟩ ?_
              refine gm ?_
              refine JO.bool (s := 254) rfl (fun hb => ?_) (fun hb => ?_)
              ·
               replace h := b_if (nv_t hb) h
               refine gm ?_
               refine JO.g00 rfl rfl rfl rfl rfl rfl (o_len rfl rfl Try.underlying30) ⟨rfl, trivial⟩ ?_
               refine JO.g00 rfl rfl rfl rfl rfl rfl (o_gtr rfl) ⟨rfl, rfl, trivial⟩ ?_
               refine JO.g00 rfl rfl rfl rfl rfl rfl (o_pick_t rfl) ⟨rfl, rfl, trivial⟩ ?_
               refine pf ?_
               refine JO.nil ?_
               refine JN.then_n ?_
               exact JN.z ((), decide ((0 : Int) < (r5.1.length : Int))) h (SE.fin [] ⟨rfl, trivial⟩ rfl)
              ·
               replace h := b_ifn (nv_fn hb) h
               iterate 3 refine gn ?_
               refine JO.g00 rfl rfl rfl rfl rfl rfl (o_pick_f rfl) ⟨rfl, rfl, trivial⟩ ?_
               refine pf ?_
               refine JO.nil ?_
               refine JN.then_n ?_
               exact JN.z ((), false) h (SE.fin [] ⟨rfl, trivial⟩ rfl)
            ·
             refine JC.cond rfl (fun hb => ?_) (fun hb => ?_)
             ·
              replace h := b_if (v_t hb) h
              refine sr ?_
              refine cq ?_
              refine nt ?_
              refine JC.ret ?_
              refine JN.then_r ?_
              obtain rfl := hR _ h
              exact JN.ret () [_] 0 ⟨rfl, trivial⟩ rfl
             ·
              replace h := b_ifn (v_f hb) h
              refine JC.skip ?_
              refine JN.then_n ?_
              exact JN.z ((), ()) h (SE.fin [] trivial rfl)
           ·
            replace h := b_ifn (d_f hb) h
            refine JC.skip ?_
            refine JN.then_n ?_
            exact JN.z ((), ()) h (SE.fin [] trivial rfl)
          ·
           refine sr ?_
           obtain ⟨r79, er79, h⟩ := b_bind h
           have cr79 := law_dressed_ok k  r79 er79
           refine JO.s rfl (o_call [] rfl rfl en22 rfl cr79) trivial ?_
           refine aq ?_
           refine nt ?_
           refine JC.ret ?_
           obtain rfl := Option.some.inj h
           exact JN.ret () [_] 0 ⟨rfl, trivial⟩ rfl


end Go.Proofs.Ytfhdclhbdmhnmaa
