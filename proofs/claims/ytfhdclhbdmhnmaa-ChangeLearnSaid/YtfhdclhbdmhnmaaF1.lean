/- The program's functions, part 3: what each computes, and that the code computes it. Printed by a program of this proof's own. -/
import Derived.Test.YtfhdclhbdmhnmaaP2
set_option linter.unusedVariables false
set_option maxRecDepth 4000
namespace Go.Proofs.Ytfhdclhbdmhnmaa
open K Go Go.Proofs
def chg_Through_l1 (k : Nat) (a0 : (List dChange)) : Nat → ((List dquick) × Int) → Option (Except ((List Int) × Int) (List dquick))
 | 0, _ => none
 | n + 1, y4 =>
  if y4.2 < (a0.length : Int) then ((geti a0 y4.2).bind fun x6 =>
  (chg_begin k x6).bind fun r8 =>
  casesO r8.1 (if ¬ (r8.2 = (0 : Int)) then (some (.error ([], r8.2))) else (none)) (fun q9 => if ¬ (r8.2 = (0 : Int)) then (some (.error ([], r8.2))) else ((chkP (okLen (List.length y4.1 + List.length [((q9.1.1, q9.1.2.1, q9.1.2.2.1, q9.1.2.2.2), q9.2.1, q9.2.2, ())]))).bind fun _ =>
  (ck (y4.2 + (1 : Int))).bind fun x13 =>
  chg_Through_l1 k a0 n (y4.1 ++ [((q9.1.1, q9.1.2.1, q9.1.2.2.1, q9.1.2.2.2), q9.2.1, q9.2.2, ())], x13)))) else (some (.ok y4.1))

def chg_Through_l2 (k : Nat) (x2 : (List dquick)) : Nat → Int → Option (Except ((List Int) × Int) Unit)
 | 0, _ => none
 | n + 1, y16 =>
  if y16 < (x2.length : Int) then ((geti x2 y16).bind fun x18 =>
  (geti x2 (0 : Int)).bind fun x19 =>
  if ¬ ((x18.1.2.1.length : Int) = (x19.1.2.1.length : Int)) then (some (.error ([], (9 : Int)))) else ((ck (y16 + (1 : Int))).bind fun x20 =>
  chg_Through_l2 k x2 n x20)) else (some (.ok ()))

def chg_Through_l3 (k : Nat) (a1 : (List Int)) : Nat → Int → Option (Except ((List Int) × Int) Unit)
 | 0, _ => none
 | n + 1, y24 =>
  if y24 < (a1.length : Int) then ((geti a1 y24).bind fun x26 =>
  (chg_outside k x26 (0 : Int) (20 : Int)).bind fun r27 =>
  if r27 = true then (some (.error ([], (1 : Int)))) else ((ck (y24 + (1 : Int))).bind fun x28 =>
  chg_Through_l3 k a1 n x28)) else (some (.ok ()))

def chg_Through_l5 (k : Nat) (x36 : Int) (r41 : (List dDresser)) : Nat → ((List dDresser) × Int) → Option (List dDresser)
 | 0, _ => none
 | n + 1, y45 =>
  if y45.2 < (r41.length : Int) then ((geti y45.1 y45.2).bind fun x47 =>
  (ck (x47.2.2 - x36)).bind fun x48 =>
  (geti y45.1 y45.2).bind fun x49 =>
  (ck (y45.2 + (1 : Int))).bind fun x50 =>
  chg_Through_l5 k x36 r41 n (List.set y45.1 (Int.toNat y45.2) (x49.1, x49.2.1, imax (0 : Int) x48), x50)) else (some y45.1)

def chg_Through_l4 (k : Nat) (a1 : (List Int)) (x2 : (List dquick)) : Nat → ((List Int) × Int × Int) → Option (Except ((List Int) × Int) (List Int))
 | 0, _ => none
 | n + 1, y31 =>
  if y31.2.2 < (x2.length : Int) then (bE (α := (List Int) × Int) ((geti x2 y31.2.2).bind fun x35 =>
  ((if (0 : Int) < y31.2.2 then ((ck (y31.2.2 - (1 : Int))).bind fun x38 =>
  (geti a1 x38).bind fun x39 =>
  (ck (y31.2.1 + x39)).bind fun x40 =>
  some x40) else (some y31.2.1)) : Option (Int)).bind fun x36 =>
  (slc_Clone_Dresser k x35.1.2.1).bind fun r41 =>
  ((chg_Through_l5 k x36 r41 k (r41, (0 : Int))) : Option ((List dDresser))).bind fun x43 =>
  (chg_quick_fewestF k x35 x43).bind fun r51 =>
  if ¬ (r51.2 = true) then (some (.error ([], (11 : Int)))) else ((ck (x36 + r51.1)).bind fun x52 =>
  (chkP (okLen (List.length y31.1 + List.length [x52]))).bind fun _ =>
  some (.ok (y31.1 ++ [x52], x52)))) (fun e => some (.error e)) fun x33 =>
  (ck (y31.2.2 + (1 : Int))).bind fun x55 =>
  chg_Through_l4 k a1 x2 n (x33.1, x33.2, x55)) else (some (.ok y31.1))
def chg_Through (k : Nat) (a0 : (List dChange)) (a1 : (List Int)) : Option ((List Int) × Int) :=
 (chg_sized k (a0.length : Int) (3 : Int)).bind fun r1 =>
 if ¬ (r1 = (0 : Int)) then (some ([], r1)) else (bE (α := (List dquick)) (chg_Through_l1 k a0 k (([] : (List dquick)), (0 : Int))) (some) fun x2 =>
 bE (α := Unit) (chg_Through_l2 k x2 k (0 : Int)) (some) fun _ =>
 (ck ((a0.length : Int) - (1 : Int))).bind fun x21 =>
 if ¬ ((a1.length : Int) = x21) then (some ([], (9 : Int))) else (bE (α := Unit) (chg_Through_l3 k a1 k (0 : Int)) (some) fun _ =>
 bE (α := (List Int)) (chg_Through_l4 k a1 x2 k (([] : (List Int)), (0 : Int), (0 : Int))) (some) fun x29 =>
 some (x29, (0 : Int))))

theorem chg_Through_ok (k : Nat) (a0 : (List dChange)) (a1 : (List Int)) (r : (List Int) × Int) (h : chg_Through k a0 a1 = some r) :
 Ctr Try.prog 33 [.rep (.slice tChange) a0, .rep (.slice (.int .i64)) a1] [] (fun _ : Unit => (resA [.rep (.slice (.int .i64)) r.1, .eq (.int .i64 r.2)], [])) := by
 unfold chg_Through at h
 replace h := b_top h
 refine Ctr.of 143 Try.func33 rfl Try.ntmps33 rfl fun S w0 => ?_
 refine JC.seq ?_
 refine JC.region ?_
 refine JO.ac rfl ?_
 refine JO.ac rfl ?_
 refine JO.nil ?_
 refine JN.then_n ?_
 show JC _ _ _ _ _
 refine JC.seq ?_
 refine JC.seq ?_
 refine JC.region ?_
 refine JO.mv rfl rfl ?_
 refine JO.s rfl (o_len rfl rfl Try.underlying62) ⟨rfl, trivial⟩ ?_
 obtain ⟨r1, er1, h⟩ := b_bind h
 have cr1 := chg_sized_ok k (a0.length : Int) (3 : Int) r1 er1
 refine JO.s rfl (o_call [.tmp 25, .const (.int .i64 (3))] rfl rfl en78 rfl cr1) ⟨rfl, rfl, trivial⟩ ?_
 refine JO.as rfl rfl ?_
 refine JO.nil ?_
 refine JN.then_n ?_
 show JC _ _ _ _ _
 refine JC.seq ?_
 refine JC.region ?_
 refine JO.mv rfl rfl ?_
 refine JO.s rfl (o_neq rfl) ⟨rfl, rfl, trivial⟩ ?_
 refine JO.nil ?_
 refine JN.then_n ?_
 show JC _ _ _ _ _
 refine JC.cond rfl (fun hb => ?_) (fun hb => ?_)
 ·
  replace h := b_if (n_t hb) h
  refine JC.seq ?_
  refine JC.region ?_
  refine JO.mv rfl rfl ?_
  refine JO.ac rfl ?_
  refine JO.as rfl rfl ?_
  refine JO.nil ?_
  refine JN.then_n ?_
  show JC _ _ _ _ _
  refine JC.ret ?_
  refine JN.then_r ?_
  refine JN.se (SE.ent (t := (.slice (.int .i64))) (x := []) 4 rfl .nil rfl rfl) ?_
  obtain rfl := Option.some.inj h
  exact JN.ret () [_, _] 0 ⟨rfl, rfl, trivial⟩ rfl
 ·
  replace h := b_ifn (n_fn hb) h
  refine JC.skip ?_
  refine JN.then_n ?_
  show JC _ _ _ _ _
  refine JC.seq ?_
  refine JC.region ?_
  refine JO.ac rfl ?_
  refine JO.nil ?_
  refine JN.then_n ?_
  show JC _ _ _ _ _
  refine JC.cutE (Z := Value) (α := (List dquick)) (fun z3 x2 => [(0, .rep (.slice tChange) a0), (1, .rep (.slice (.int .i64)) a1), (7, .eq z3)]) (fun z3 x2 => [.sl z3 98 (.ptr tquick) x2]) (fun e => e = r) h (fun e h => Option.some.inj h) (fun K hR h => ?_) (fun z3 x2 h => ?_)
  ·
   refine JC.seq ?_
   refine JC.region ?_
   refine JO.mv rfl rfl ?_
   refine JO.s rfl (o_len rfl rfl Try.underlying62) ⟨rfl, trivial⟩ ?_
   refine JO.mc rfl ?_
   refine JO.nil ?_
   refine JN.then_n ?_
   show JC _ _ _ _ _
   refine JC.block ?_
   refine JC.se (SE.nil 98 (.ptr tquick)) ?_
   refine JC.loopB (Z := Value) (α := (List dquick) × Int) (fun z5 y4 => [(0, .rep (.slice tChange) a0), (1, .rep (.slice (.int .i64)) a1), (7, .eq z5), (30, .rep (.slice tChange) a0), (31, .eq (.int .i64 (a0.length : Int))), (32, .eq (.int .i64 y4.2))]) (fun z5 y4 => [.sl z5 98 (.ptr tquick) y4.1]) (chg_Through_l1 k a0) k (.slice none 0 0) (([] : (List dquick)), (0 : Int)) (fun _ => rfl) h (SE.fin [0] ⟨rfl, rfl, rfl, rfl, rfl, rfl, trivial⟩ rfl) (fun n z5 y4 h => ?_)
   unfold chg_Through_l1 at h
   refine JC.seq ?_
   refine JC.region ?_
   refine JO.s rfl (o_lss rfl) ⟨rfl, rfl, trivial⟩ ?_
   refine JO.nil ?_
   refine JN.then_n ?_
   show JC _ _ _ _ _
   refine JC.seq ?_
   refine JC.cond rfl (fun hb => ?_) (fun hb => ?_)
   ·
    replace h := b_if (d_t hb) h
    refine JC.skip ?_
    refine JN.then_n ?_
    show JC _ _ _ _ _
    refine JC.seq ?_
    refine JC.block ?_
    refine JC.seq ?_
    refine JC.region ?_
    obtain ⟨x6, ex6, h⟩ := b_bind h
    refine JO.s rfl (o_index (t := tChange) rfl Try.underlying62 sz28 ex6) ⟨rfl, rfl, trivial⟩ ?_
    refine JO.s rfl (o_load_at (t := tChange) rfl sz28 rfl) ⟨rfl, trivial⟩ ?_
    refine JO.s01 rfl rfl rfl (o_alloc rfl za28 al28) trivial fun b7 => ?_
    refine JO.n11 rfl rfl (o_store rfl sz28 rfl rfl rfl) ⟨rfl, rfl, trivial⟩ ?_
    refine JO.nil ?_
    refine JN.then_n ?_
    show JC _ _ _ _ _
    refine JC.seq ?_
    refine JC.region ?_
    refine JO.s11 rfl rfl rfl (o_load_obj rfl sz28 (nfn) rfl) ⟨rfl, trivial⟩ ?_
    obtain ⟨r8, er8, h⟩ := b_bind h
    have cr8 := chg_begin_ok k x6 r8 er8
    rcases hr : r8.1 with _ | q9
    ·
     rw [hr] at h cr8; replace h := co_n h
     refine JO.stepG (Δ := []) (F := _) (fun _ _ _ => wanted_none rfl _) rfl rfl (o_call [.tmp 37] rfl rfl en67 rfl cr8) ⟨rfl, trivial⟩ fun _ => ?_
     refine JO.mv rfl rfl ?_
     refine JO.s rfl (o_extract rfl rfl) ⟨rfl, trivial⟩ ?_
     refine JO.s rfl (o_extract rfl rfl) ⟨rfl, trivial⟩ ?_
     refine JO.as rfl rfl ?_
     refine JO.as rfl rfl ?_
     refine JO.nil ?_
     refine JN.then_n ?_
     show JC _ _ _ _ _
     refine JC.seq ?_
     refine JC.seq ?_
     refine JC.region ?_
     refine JO.mv rfl rfl ?_
     refine JO.s rfl (o_neq rfl) ⟨rfl, rfl, trivial⟩ ?_
     refine JO.nil ?_
     refine JN.then_n ?_
     show JC _ _ _ _ _
     refine JC.cond rfl (fun hb => ?_) (fun hb => ?_)
     ·
      replace h := b_if (n_t hb) h
      refine JC.seq ?_
      refine JC.region ?_
      refine JO.mv rfl rfl ?_
      refine JO.ac rfl ?_
      refine JO.as rfl rfl ?_
      refine JO.nil ?_
      refine JN.then_n ?_
      show JC _ _ _ _ _
      refine JC.ret ?_
      refine JN.then_r ?_
      refine JN.blk_r ?_
      refine JN.then_r ?_
      refine JN.then_r ?_
      refine JN.blk_r ?_
      refine JN.then_r ?_
      refine JN.se (SE.ent (t := (.slice (.int .i64))) (x := []) 4 rfl .nil rfl rfl) ?_
      obtain rfl := hR _ h
      exact JN.ret () [_, _] 0 ⟨rfl, rfl, trivial⟩ rfl
     ·
      replace h := b_ifn (n_fn hb) h
      refine JC.skip ?_
      refine JN.then_n ?_
      show JC _ _ _ _ _
      refine JC.region ?_
      refine JO.mv rfl rfl ?_
      refine JO.mv rfl rfl ?_
      cases h
    ·
     rw [hr] at h cr8; replace h := co_s h
     refine JO.stepG (Δ := []) (F := _) (fun _ _ _ => wanted_none rfl _) rfl rfl (o_call [.tmp 37] rfl rfl en67 rfl cr8) ⟨rfl, trivial⟩ fun z10 => ?_
     refine JO.mv rfl rfl ?_
     refine JO.s rfl (o_extract rfl rfl) ⟨rfl, trivial⟩ ?_
     refine JO.s rfl (o_extract rfl rfl) ⟨rfl, trivial⟩ ?_
     refine JO.as rfl rfl ?_
     refine JO.as rfl rfl ?_
     refine JO.nil ?_
     refine JN.then_n ?_
     show JC _ _ _ _ _
     refine JC.seq ?_
     refine JC.seq ?_
     refine JC.region ?_
     refine JO.mv rfl rfl ?_
     refine JO.s rfl (o_neq rfl) ⟨rfl, rfl, trivial⟩ ?_
     refine JO.nil ?_
     refine JN.then_n ?_
     show JC _ _ _ _ _
     refine JC.cond rfl (fun hb => ?_) (fun hb => ?_)
     ·
      replace h := b_if (n_t hb) h
      refine JC.seq ?_
      refine JC.region ?_
      refine JO.mv rfl rfl ?_
      refine JO.ac rfl ?_
      refine JO.as rfl rfl ?_
      refine JO.nil ?_
      refine JN.then_n ?_
      show JC _ _ _ _ _
      refine JC.ret ?_
      refine JN.then_r ?_
      refine JN.blk_r ?_
      refine JN.then_r ?_
      refine JN.then_r ?_
      refine JN.blk_r ?_
      refine JN.then_r ?_
      refine JN.se (SE.ent (t := (.slice (.int .i64))) (x := []) 4 rfl .nil rfl rfl) ?_
      obtain rfl := hR _ h
      exact JN.ret () [_, _] 0 ⟨rfl, rfl, trivial⟩ rfl
     ·
      replace h := b_ifn (n_fn hb) h
      refine JC.skip ?_
      refine JN.then_n ?_
      show JC _ _ _ _ _
      refine JC.region ?_
      refine JO.mv rfl rfl ?_
      refine JO.mv rfl rfl ?_
      refine JO.se (SE.frzObj (t := tquick) (x := ((q9.1.1, q9.1.2.1, q9.1.2.2.1, q9.1.2.2.2), q9.2.1, q9.2.2, ())) [10, 39, 45] (.agg (.pair (.agg (.pair .rep (.pair .rep (.pair .rep .rep)))) (.pair .rep (.pair .rep (.ign rfl))))) ⟨rfl, rfl, rfl, trivial⟩) ?_
      refine JO.s rfl (o_litB (t := (.ptr tquick)) [(.tmp 45, _)] [((q9.1.1, q9.1.2.1, q9.1.2.2.1, q9.1.2.2.2), q9.2.1, q9.2.2, ())] rfl rfl sl128 (.cons trivial .ptr .nil) rfl rfl) ⟨rfl, trivial⟩ ?_
      obtain ⟨u11, eu11, h⟩ := b_bind h
      refine JO.front 2 rfl ?_
      refine JO.s1x rfl rfl rfl (o_append rfl rfl sl128 (chkP_some eu11)) ⟨rfl, rfl, trivial⟩ fun v12 => ?_
      refine JO.as rfl rfl ?_
      refine JO.nil ?_
      refine JN.blk_n ?_
      refine JN.then_n ?_
      show JC _ _ _ _ _
      refine JC.region ?_
      obtain ⟨x13, ex13, h⟩ := b_bind h
      refine JO.s rfl (o_add rfl ex13) ⟨rfl, rfl, trivial⟩ ?_
      refine JO.mv rfl rfl ?_
      refine JO.nil ?_
      refine JN.then_n ?_
      exact JN.z (v12, (y4.1 ++ [((q9.1.1, q9.1.2.1, q9.1.2.2.1, q9.1.2.2.2), q9.2.1, q9.2.2, ())], x13)) h (SE.fin [0] ⟨rfl, rfl, rfl, rfl, rfl, rfl, trivial⟩ rfl)
   ·
    replace h := b_ifn (d_f hb) h
    refine JC.exit ?_
    refine JN.then_x ?_
    refine JN.then_x ?_
    refine JN.blk_hit ?_
    refine JN.then_n ?_
    exact JN.z (z5, y4.1) h (SE.fin [0] ⟨rfl, rfl, rfl, trivial⟩ rfl)
  ·
   refine JC.cutE (Z := Unit) (α := Unit) (fun z15 x14 => [(0, .rep (.slice tChange) a0), (1, .rep (.slice (.int .i64)) a1), (7, .eq z3)]) (fun z15 x14 => [.sl z3 98 (.ptr tquick) x2]) (fun e => e = r) h (fun e h => Option.some.inj h) (fun K hR h => ?_) (fun z15 x14 h => ?_)
   ·
    refine JC.seq ?_
    refine JC.region ?_
    refine JO.mv rfl rfl ?_
    refine JO.s11 rfl rfl rfl (o_len_own rfl rfl Try.underlying128) ⟨rfl, trivial⟩ ?_
    refine JO.mc rfl ?_
    refine JO.nil ?_
    refine JN.then_n ?_
    show JC _ _ _ _ _
    refine JC.block ?_
    refine JC.loopB (Z := Unit) (α := Int) (fun z17 y16 => [(0, .rep (.slice tChange) a0), (1, .rep (.slice (.int .i64)) a1), (7, .eq z3), (49, .eq z3), (50, .eq (.int .i64 (x2.length : Int))), (51, .eq (.int .i64 y16))]) (fun z17 y16 => [.sl z3 98 (.ptr tquick) x2]) (chg_Through_l2 k x2) k () (0 : Int) (fun _ => rfl) h (SE.fin [0] ⟨rfl, rfl, rfl, rfl, rfl, rfl, trivial⟩ rfl) (fun n z17 y16 h => ?_)
    unfold chg_Through_l2 at h
    refine JC.seq ?_
    refine JC.region ?_
    refine JO.s rfl (o_lss rfl) ⟨rfl, rfl, trivial⟩ ?_
    refine JO.nil ?_
    refine JN.then_n ?_
    show JC _ _ _ _ _
    refine JC.seq ?_
    refine JC.cond rfl (fun hb => ?_) (fun hb => ?_)
    ·
     replace h := b_if (d_t hb) h
     refine JC.skip ?_
     refine JN.then_n ?_
     show JC _ _ _ _ _
     refine JC.seq ?_
     refine JC.block ?_
     refine JC.seq ?_
     refine JC.region ?_
     obtain ⟨x18, ex18, h⟩ := b_bind h
     refine JO.s11 rfl rfl rfl (o_index_own (t := (.ptr tquick)) rfl Try.underlying128 sz98 ex18) ⟨rfl, rfl, trivial⟩ ?_
     refine JO.s11 rfl rfl rfl (o_load_el (i := Int.toNat y16) (off := 0) rfl sz98 (fun _ => rfl) rfl (geti_some ex18).2.2 rfl) ⟨rfl, trivial⟩ ?_
     refine JO.as rfl rfl ?_
     refine JO.nil ?_
     refine JN.then_n ?_
     show JC _ _ _ _ _
     refine JC.seq ?_
     refine JC.drawN ?_
     refine DN.s00 rfl rfl rfl (o_move rfl) ⟨rfl, trivial⟩ ?_
     refine DN.s00 rfl rfl rfl (o_nil_at rfl) ⟨rfl, trivial⟩ ?_
     refine DN.s00 rfl rfl rfl (o_field_at 4 true rfl fo120_0 rfl) ⟨rfl, trivial⟩ ?_
     refine DN.s00 rfl rfl rfl (o_field_at 1 false rfl fo28_1 rfl) ⟨rfl, trivial⟩ ?_
     refine DN.s00 rfl rfl rfl (o_load_at (t := (.slice tDresser)) rfl sz26 rfl) ⟨rfl, trivial⟩ ?_
     refine DN.s00 rfl rfl rfl (o_len rfl rfl Try.underlying26) ⟨rfl, trivial⟩ ?_
     refine DN.s00 rfl rfl rfl (o_move rfl) ⟨rfl, trivial⟩ ?_
     obtain ⟨x19, ex19, h⟩ := b_bind h
     refine DN.s11 0 rfl rfl rfl rfl (o_index_own (t := (.ptr tquick)) rfl Try.underlying128 sz98 ex19) ⟨rfl, rfl, trivial⟩ ?_
     refine DN.s11 0 rfl rfl rfl rfl (o_load_el (i := Int.toNat (0 : Int)) (off := 0) rfl sz98 (fun _ => rfl) rfl (geti_some ex19).2.2 rfl) ⟨rfl, trivial⟩ ?_
     refine DN.s00 rfl rfl rfl (o_nil_at rfl) ⟨rfl, trivial⟩ ?_
     refine DN.s00 rfl rfl rfl (o_field_at 4 true rfl fo120_0 rfl) ⟨rfl, trivial⟩ ?_
     refine DN.s00 rfl rfl rfl (o_field_at 1 false rfl fo28_1 rfl) ⟨rfl, trivial⟩ ?_
     refine DN.s00 rfl rfl rfl (o_load_at (t := (.slice tDresser)) rfl sz26 rfl) ⟨rfl, trivial⟩ ?_
     refine DN.s00 rfl rfl rfl (o_len rfl rfl Try.underlying26) ⟨rfl, trivial⟩ ?_
     refine DN.fin (by kernel_rfl) mixed ?_
     refine JO.s rfl (o_neq rfl) ⟨rfl, rfl, trivial⟩ ?_
     refine JO.nil ?_
     refine JN.then_n ?_
     show JC _ _ _ _ _
     refine JC.cond rfl (fun hb => ?_) (fun hb => ?_)
     ·
      replace h := b_if (n_t hb) h
      refine JC.seq ?_
      refine JC.region ?_
      refine JO.ac rfl ?_
      refine JO.ac rfl ?_
      refine JO.nil ?_
      refine JN.then_n ?_
      show JC _ _ _ _ _
      refine JC.ret ?_
      refine JN.blk_r ?_
      refine JN.then_r ?_
      refine JN.then_r ?_
      refine JN.blk_r ?_
      refine JN.then_r ?_
      refine JN.se (SE.ent (t := (.slice (.int .i64))) (x := []) 4 rfl .nil rfl rfl) ?_
      obtain rfl := hR _ h
      exact JN.ret () [_, _] 0 ⟨rfl, rfl, trivial⟩ rfl
     ·
      replace h := b_ifn (n_fn hb) h
      refine JC.skip ?_
      refine JN.blk_n ?_
      refine JN.then_n ?_
      show JC _ _ _ _ _
      refine JC.region ?_
      obtain ⟨x20, ex20, h⟩ := b_bind h
      refine JO.s rfl (o_add rfl ex20) ⟨rfl, rfl, trivial⟩ ?_
      refine JO.mv rfl rfl ?_
      refine JO.nil ?_
      refine JN.then_n ?_
      exact JN.z ((), x20) h (SE.fin [0] ⟨rfl, rfl, rfl, rfl, rfl, rfl, trivial⟩ rfl)
    ·
     replace h := b_ifn (d_f hb) h
     refine JC.exit ?_
     refine JN.then_x ?_
     refine JN.then_x ?_
     refine JN.blk_hit ?_
     refine JN.then_n ?_
     exact JN.z ((), ()) h (SE.fin [0] ⟨rfl, rfl, rfl, trivial⟩ rfl)
   ·
    refine JC.seq ?_
    refine JC.seq ?_
    refine JC.region ?_
    refine JO.mv rfl rfl ?_
    refine JO.s rfl (o_len rfl rfl Try.underlying22) ⟨rfl, trivial⟩ ?_
    refine JO.mv rfl rfl ?_
    refine JO.s rfl (o_len rfl rfl Try.underlying62) ⟨rfl, trivial⟩ ?_
    obtain ⟨x21, ex21, h⟩ := b_bind h
    refine JO.s rfl (o_sub rfl ex21) ⟨rfl, rfl, trivial⟩ ?_
    refine JO.s rfl (o_neq rfl) ⟨rfl, rfl, trivial⟩ ?_
    refine JO.nil ?_
    refine JN.then_n ?_
    show JC _ _ _ _ _
    refine JC.cond rfl (fun hb => ?_) (fun hb => ?_)
    ·
     replace h := b_if (n_t hb) h
     refine JC.seq ?_
     refine JC.region ?_
     refine JO.ac rfl ?_
     refine JO.ac rfl ?_
     refine JO.nil ?_
     refine JN.then_n ?_
     show JC _ _ _ _ _
     refine JC.ret ?_
     refine JN.then_r ?_
     refine JN.se (SE.ent (t := (.slice (.int .i64))) (x := []) 4 rfl .nil rfl rfl) ?_
     obtain rfl := Option.some.inj h
     exact JN.ret () [_, _] 0 ⟨rfl, rfl, trivial⟩ rfl
    ·
     replace h := b_ifn (n_fn hb) h
     refine JC.skip ?_
     refine JN.then_n ?_
     show JC _ _ _ _ _
     refine JC.cutE (Z := Unit) (α := Unit) (fun z23 x22 => [(1, .rep (.slice (.int .i64)) a1), (7, .eq z3)]) (fun z23 x22 => [.sl z3 98 (.ptr tquick) x2]) (fun e => e = r) h (fun e h => Option.some.inj h) (fun K hR h => ?_) (fun z23 x22 h => ?_)
     ·
      refine JC.seq ?_
      refine JC.region ?_
      refine JO.mv rfl rfl ?_
      refine JO.s rfl (o_len rfl rfl Try.underlying22) ⟨rfl, trivial⟩ ?_
      refine JO.mc rfl ?_
      refine JO.nil ?_
      refine JN.then_n ?_
      show JC _ _ _ _ _
      refine JC.block ?_
      refine JC.loopB (Z := Unit) (α := Int) (fun z25 y24 => [(1, .rep (.slice (.int .i64)) a1), (7, .eq z3), (77, .rep (.slice (.int .i64)) a1), (78, .eq (.int .i64 (a1.length : Int))), (79, .eq (.int .i64 y24))]) (fun z25 y24 => [.sl z3 98 (.ptr tquick) x2]) (chg_Through_l3 k a1) k () (0 : Int) (fun _ => rfl) h (SE.fin [0] ⟨rfl, rfl, rfl, rfl, rfl, trivial⟩ rfl) (fun n z25 y24 h => ?_)
      unfold chg_Through_l3 at h
      refine JC.seq ?_
      refine JC.region ?_
      refine JO.s rfl (o_lss rfl) ⟨rfl, rfl, trivial⟩ ?_
      refine JO.nil ?_
      refine JN.then_n ?_
      show JC _ _ _ _ _
      refine JC.seq ?_
      refine JC.cond rfl (fun hb => ?_) (fun hb => ?_)
      ·
       replace h := b_if (d_t hb) h
       refine JC.skip ?_
       refine JN.then_n ?_
       show JC _ _ _ _ _
       refine JC.seq ?_
       refine JC.block ?_
       refine JC.seq ?_
       refine JC.region ?_
       obtain ⟨x26, ex26, h⟩ := b_bind h
       refine JO.s rfl (o_index (t := (.int .i64)) rfl Try.underlying22 sz3 ex26) ⟨rfl, rfl, trivial⟩ ?_
       refine JO.s rfl (o_load_at (t := (.int .i64)) rfl sz3 rfl) ⟨rfl, trivial⟩ ?_
       refine JO.as rfl rfl ?_
       refine JO.nil ?_
       refine JN.then_n ?_
       show JC _ _ _ _ _
       refine JC.seq ?_
       refine JC.region ?_
       refine JO.mv rfl rfl ?_
       obtain ⟨r27, er27, h⟩ := b_bind h
       have cr27 := chg_outside_ok k x26 (0 : Int) (20 : Int) r27 er27
       refine JO.s rfl (o_call [.tmp 83, .const (.int .i64 (0)), .const (.int .i64 (20))] rfl rfl en71 rfl cr27) ⟨rfl, rfl, rfl, trivial⟩ ?_
       refine JO.nil ?_
       refine JN.then_n ?_
       show JC _ _ _ _ _
       refine JC.cond rfl (fun hb => ?_) (fun hb => ?_)
       ·
        replace h := b_if (v_t hb) h
        refine JC.seq ?_
        refine JC.region ?_
        refine JO.ac rfl ?_
        refine JO.ac rfl ?_
        refine JO.nil ?_
        refine JN.then_n ?_
        show JC _ _ _ _ _
        refine JC.ret ?_
        refine JN.blk_r ?_
        refine JN.then_r ?_
        refine JN.then_r ?_
        refine JN.blk_r ?_
        refine JN.then_r ?_
        refine JN.se (SE.ent (t := (.slice (.int .i64))) (x := []) 4 rfl .nil rfl rfl) ?_
        obtain rfl := hR _ h
        exact JN.ret () [_, _] 0 ⟨rfl, rfl, trivial⟩ rfl
       ·
        replace h := b_ifn (v_f hb) h
        refine JC.skip ?_
        refine JN.blk_n ?_
        refine JN.then_n ?_
        show JC _ _ _ _ _
        refine JC.region ?_
        obtain ⟨x28, ex28, h⟩ := b_bind h
        refine JO.s rfl (o_add rfl ex28) ⟨rfl, rfl, trivial⟩ ?_
        refine JO.mv rfl rfl ?_
        refine JO.nil ?_
        refine JN.then_n ?_
        exact JN.z ((), x28) h (SE.fin [0] ⟨rfl, rfl, rfl, rfl, rfl, trivial⟩ rfl)
      ·
       replace h := b_ifn (d_f hb) h
       refine JC.exit ?_
       refine JN.then_x ?_
       refine JN.then_x ?_
       refine JN.blk_hit ?_
       refine JN.then_n ?_
       exact JN.z ((), ()) h (SE.fin [0] ⟨rfl, rfl, trivial⟩ rfl)
     ·
      refine JC.seq ?_
      refine JC.region ?_
      refine JO.ac rfl ?_
      refine JO.nil ?_
      refine JN.then_n ?_
      show JC _ _ _ _ _
      refine JC.seq ?_
      refine JC.region ?_
      refine JO.ac rfl ?_
      refine JO.nil ?_
      refine JN.then_n ?_
      show JC _ _ _ _ _
      refine JC.cutE (Z := Value) (α := (List Int)) (fun z30 x29 => [(16, .eq z30)]) (fun z30 x29 => [.sl z30 3 (.int .i64) x29]) (fun e => e = r) h (fun e h => Option.some.inj h) (fun K hR h => ?_) (fun z30 x29 h => ?_)
      ·
       refine JC.seq ?_
       refine JC.region ?_
       refine JO.mv rfl rfl ?_
       refine JO.s11 rfl rfl rfl (o_len_own rfl rfl Try.underlying128) ⟨rfl, trivial⟩ ?_
       refine JO.mc rfl ?_
       refine JO.nil ?_
       refine JN.then_n ?_
       show JC _ _ _ _ _
       refine JC.block ?_
       refine JC.se (SE.nil 3 (.int .i64)) ?_
       refine JC.loopB (Z := Value) (α := (List Int) × Int × Int) (fun z32 y31 => [(1, .rep (.slice (.int .i64)) a1), (16, .eq z32), (17, .eq (.int .i64 y31.2.1)), (86, .eq z3), (87, .eq (.int .i64 (x2.length : Int))), (88, .eq (.int .i64 y31.2.2))]) (fun z32 y31 => [.sl z32 3 (.int .i64) y31.1, .sl z3 98 (.ptr tquick) x2]) (chg_Through_l4 k a1 x2) k (.slice none 0 0) (([] : (List Int)), (0 : Int), (0 : Int)) (fun _ => rfl) h (SE.fin [0, 1] ⟨rfl, rfl, rfl, rfl, rfl, rfl, trivial⟩ rfl) (fun n z32 y31 h => ?_)
       unfold chg_Through_l4 at h
       refine JC.seq ?_
       refine JC.region ?_
       refine JO.s rfl (o_lss rfl) ⟨rfl, rfl, trivial⟩ ?_
       refine JO.nil ?_
       refine JN.then_n ?_
       show JC _ _ _ _ _
       refine JC.seq ?_
       refine JC.cond rfl (fun hb => ?_) (fun hb => ?_)
       ·
        replace h := b_if (d_t hb) h
        refine JC.skip ?_
        refine JN.then_n ?_
        show JC _ _ _ _ _
        refine JC.cutE (Z := Value) (α := (List Int) × Int) (fun z34 x33 => [(1, .rep (.slice (.int .i64)) a1), (16, .eq z34), (17, .eq (.int .i64 x33.2)), (86, .eq z3), (87, .eq (.int .i64 (x2.length : Int))), (88, .eq (.int .i64 y31.2.2))]) (fun z34 x33 => [.sl z34 3 (.int .i64) x33.1, .sl z3 98 (.ptr tquick) x2]) (fun e => e = r) h (fun e h => hR e h) (fun K hR h => ?_) (fun z34 x33 h => ?_)
        ·
         refine JC.block ?_
         refine JC.seq ?_
         refine JC.region ?_
         refine JO.mv rfl rfl ?_
         obtain ⟨x35, ex35, h⟩ := b_bind h
         refine JO.front 1 rfl ?_
         refine JO.s11 rfl rfl rfl (o_index_own (t := (.ptr tquick)) rfl Try.underlying128 sz98 ex35) ⟨rfl, rfl, trivial⟩ ?_
         refine JO.s11 rfl rfl rfl (o_load_el (i := Int.toNat y31.2.2) (off := 0) rfl sz98 (fun _ => rfl) rfl (geti_some ex35).2.2 rfl) ⟨rfl, trivial⟩ ?_
         refine JO.as rfl rfl ?_
         refine JO.as rfl rfl ?_
         refine JO.nil ?_
         refine JN.then_n ?_
         show JC _ _ _ _ _
         refine JC.cutB (Z := Unit) (α := Int) (fun z37 x36 => [(1, .rep (.slice (.int .i64)) a1), (16, .eq z32), (17, .eq (.int .i64 x36)), (19, .at tquick x35), (86, .eq z3), (87, .eq (.int .i64 (x2.length : Int))), (88, .eq (.int .i64 y31.2.2))]) (fun z37 x36 => [.sl z32 3 (.int .i64) y31.1, .sl z3 98 (.ptr tquick) x2]) h (fun K h => ?_) (fun z37 x36 h => ?_)
         ·
          refine JC.seq ?_
          refine JC.region ?_
          refine JO.mv rfl rfl ?_
          refine JO.s rfl (o_gtr rfl) ⟨rfl, rfl, trivial⟩ ?_
          refine JO.nil ?_
          refine JN.then_n ?_
          show JC _ _ _ _ _
          refine JC.cond rfl (fun hb => ?_) (fun hb => ?_)
          ·
           replace h := b_if (d_t hb) h
           refine JC.region ?_
           refine JO.mv rfl rfl ?_
           refine JO.mv rfl rfl ?_
           refine JO.mv rfl rfl ?_
           obtain ⟨x38, ex38, h⟩ := b_bind h
           refine JO.s rfl (o_sub rfl ex38) ⟨rfl, rfl, trivial⟩ ?_
           obtain ⟨x39, ex39, h⟩ := b_bind h
           refine JO.s rfl (o_index (t := (.int .i64)) rfl Try.underlying22 sz3 ex39) ⟨rfl, rfl, trivial⟩ ?_
           refine JO.s rfl (o_load_at (t := (.int .i64)) rfl sz3 rfl) ⟨rfl, trivial⟩ ?_
           obtain ⟨x40, ex40, h⟩ := b_bind h
           refine JO.s rfl (o_add rfl ex40) ⟨rfl, rfl, trivial⟩ ?_
           refine JO.as rfl rfl ?_
           refine JO.nil ?_
           refine JN.then_n ?_
           exact JN.z ((), x40) h (SE.fin [1, 0] ⟨rfl, rfl, rfl, rfl, rfl, rfl, rfl, trivial⟩ rfl)
          ·
           replace h := b_ifn (d_f hb) h
           refine JC.skip ?_
           refine JN.then_n ?_
           exact JN.z ((), y31.2.1) h (SE.fin [1, 0] ⟨rfl, rfl, rfl, rfl, rfl, rfl, rfl, trivial⟩ rfl)
         ·
          refine JC.seq ?_
          refine JC.region ?_
          refine JO.mv rfl rfl ?_
          refine JO.s rfl (o_nil_at rfl) ⟨rfl, trivial⟩ ?_
          refine JO.s rfl (o_field_at 4 true rfl fo120_0 rfl) ⟨rfl, trivial⟩ ?_
          refine JO.s rfl (o_field_at 1 false rfl fo28_1 rfl) ⟨rfl, trivial⟩ ?_
          refine JO.s rfl (o_load_at (t := (.slice tDresser)) rfl sz26 rfl) ⟨rfl, trivial⟩ ?_
          obtain ⟨r41, er41, h⟩ := b_bind h
          have cr41 := slc_Clone_Dresser_ok k x35.1.2.1 r41 er41
          refine JO.s01 rfl rfl rfl (o_call [.tmp 106] rfl rfl en72 rfl cr41) ⟨rfl, trivial⟩ fun v42 => ?_
          refine JO.as rfl rfl ?_
          refine JO.nil ?_
          refine JN.then_n ?_
          show JC _ _ _ _ _
          refine JC.cutB (Z := Unit) (α := (List dDresser)) (fun z44 x43 => [(1, .rep (.slice (.int .i64)) a1), (16, .eq z32), (17, .eq (.int .i64 x36)), (19, .at tquick x35), (20, .eq v42), (86, .eq z3), (87, .eq (.int .i64 (x2.length : Int))), (88, .eq (.int .i64 y31.2.2))]) (fun z44 x43 => [.sl z32 3 (.int .i64) y31.1, .sl v42 53 tDresser x43, .sl z3 98 (.ptr tquick) x2]) h (fun K h => ?_) (fun z44 x43 h => ?_)
          ·
           refine JC.seq ?_
           refine JC.region ?_
           refine JO.mv rfl rfl ?_
           refine JO.s11 rfl rfl rfl (o_len_own rfl rfl Try.underlying26) ⟨rfl, trivial⟩ ?_
           refine JO.mc rfl ?_
           refine JO.nil ?_
           refine JN.then_n ?_
           show JC _ _ _ _ _
           refine JC.block ?_
           refine JC.loopB (Z := Unit) (α := (List dDresser) × Int) (fun z46 y45 => [(1, .rep (.slice (.int .i64)) a1), (16, .eq z32), (17, .eq (.int .i64 x36)), (19, .at tquick x35), (20, .eq v42), (86, .eq z3), (87, .eq (.int .i64 (x2.length : Int))), (88, .eq (.int .i64 y31.2.2)), (109, .eq (.int .i64 (r41.length : Int))), (110, .eq (.int .i64 y45.2))]) (fun z46 y45 => [.sl z32 3 (.int .i64) y31.1, .sl v42 53 tDresser y45.1, .sl z3 98 (.ptr tquick) x2]) (chg_Through_l5 k x36 r41) k () (r41, (0 : Int)) (fun _ => rfl) h (SE.fin [1, 0, 2] ⟨rfl, rfl, rfl, rfl, rfl, rfl, rfl, rfl, rfl, rfl, trivial⟩ rfl) (fun n z46 y45 h => ?_)
           unfold chg_Through_l5 at h
           refine JC.seq ?_
           refine JC.region ?_
           refine JO.s rfl (o_lss rfl) ⟨rfl, rfl, trivial⟩ ?_
           refine JO.nil ?_
           refine JN.then_n ?_
           show JC _ _ _ _ _
           refine JC.seq ?_
           refine JC.cond rfl (fun hb => ?_) (fun hb => ?_)
           ·
            replace h := b_if (d_t hb) h
            refine JC.skip ?_
            refine JN.then_n ?_
            show JC _ _ _ _ _
            refine JC.seq ?_
            refine JC.block ?_
            refine JC.seq ?_
            refine JC.region ?_
            refine JO.mv rfl rfl ?_
            refine JO.as rfl rfl ?_
            refine JO.nil ?_
            refine JN.then_n ?_
            show JC _ _ _ _ _
            refine JC.region ?_
            refine JO.mv rfl rfl ?_
            refine JO.mv rfl rfl ?_
            refine JO.mv rfl rfl ?_
            refine JO.mv rfl rfl ?_
            obtain ⟨x47, ex47, h⟩ := b_bind h
            refine JO.front 1 rfl ?_
            refine JO.s11 rfl rfl rfl (o_index_own (t := tDresser) rfl Try.underlying26 sz53 ex47) ⟨rfl, rfl, trivial⟩ ?_
            refine JO.s11 rfl rfl rfl (o_field_el rfl fo53_2 (geti_ne ex47)) ⟨rfl, trivial⟩ ?_
            refine JO.s11 rfl rfl rfl (o_load_el (i := Int.toNat y45.2) (off := 2) rfl sz3 (fun _ => rfl) rfl (geti_some ex47).2.2 rfl) ⟨rfl, trivial⟩ ?_
            refine JO.mv rfl rfl ?_
            obtain ⟨x48, ex48, h⟩ := b_bind h
            refine JO.s rfl (o_sub rfl ex48) ⟨rfl, rfl, trivial⟩ ?_
            refine JO.s rfl (o_max rfl rfl) ⟨rfl, rfl, trivial⟩ ?_
            obtain ⟨x49, ex49, h⟩ := b_bind h
            refine JO.s11 rfl rfl rfl (o_index_own (t := tDresser) rfl Try.underlying26 sz53 ex49) ⟨rfl, rfl, trivial⟩ ?_
            refine JO.s11 rfl rfl rfl (o_field_el rfl fo53_2 (geti_ne ex49)) ⟨rfl, trivial⟩ ?_
            refine JO.n11 rfl rfl (o_store_el (i := Int.toNat y45.2) (off := 2) rfl sz3 rfl (geti_some ex49).2.2 .int rfl (.agg (.right (.right .whole rfl) rfl))) ⟨rfl, rfl, trivial⟩ ?_
            refine JO.nil ?_
            refine JN.blk_n ?_
            refine JN.then_n ?_
            show JC _ _ _ _ _
            refine JC.region ?_
            obtain ⟨x50, ex50, h⟩ := b_bind h
            refine JO.s rfl (o_add rfl ex50) ⟨rfl, rfl, trivial⟩ ?_
            refine JO.mv rfl rfl ?_
            refine JO.nil ?_
            refine JN.then_n ?_
            exact JN.z ((), (List.set y45.1 (Int.toNat y45.2) (x49.1, x49.2.1, imax (0 : Int) x48), x50)) h (SE.fin [1, 0, 2] ⟨rfl, rfl, rfl, rfl, rfl, rfl, rfl, rfl, rfl, rfl, trivial⟩ rfl)
           ·
            replace h := b_ifn (d_f hb) h
            refine JC.exit ?_
            refine JN.then_x ?_
            refine JN.then_x ?_
            refine JN.blk_hit ?_
            refine JN.then_n ?_
            exact JN.z ((), y45.1) h (SE.fin [0, 1, 2] ⟨rfl, rfl, rfl, rfl, rfl, rfl, rfl, rfl, trivial⟩ rfl)
          ·
           refine JC.seq ?_
           refine JC.region ?_
           refine JO.mv rfl rfl ?_
           refine JO.mv rfl rfl ?_
           obtain ⟨r51, er51, h⟩ := b_bind h
           have cr51 := chg_quick_fewestF_ok k x35 x43 r51 er51
           refine JO.front 1 rfl ?_
           refine JO.s11 rfl rfl rfl (OpT.borrow (N := [(.tmp 127, .at tquick x35), (.tmp 128, .eq v42)]) (o_call [.tmp 127, .tmp 128] rfl rfl en73 rfl cr51) (fun _ _ _ hv hn => ⟨hn.1, (lend hn.2.1 hv), trivial⟩) (fun _ => ⟨rfl, flat_nil⟩)) ⟨rfl, rfl, trivial⟩ ?_
           refine JO.mv rfl rfl ?_
           refine JO.s rfl (o_extract rfl rfl) ⟨rfl, trivial⟩ ?_
           refine JO.s rfl (o_extract rfl rfl) ⟨rfl, trivial⟩ ?_
           refine JO.as rfl rfl ?_
           refine JO.as rfl rfl ?_
           refine JO.nil ?_
           refine JN.then_n ?_
           show JC _ _ _ _ _
           refine JC.seq ?_
           refine JC.seq ?_
           refine JC.region ?_
           refine JO.mv rfl rfl ?_
           refine JO.s rfl (o_not rfl) ⟨rfl, trivial⟩ ?_
           refine JO.nil ?_
           refine JN.then_n ?_
           show JC _ _ _ _ _
           refine JC.cond rfl (fun hb => ?_) (fun hb => ?_)
           ·
            replace h := b_if (nv_t hb) h
            refine JC.seq ?_
            refine JC.region ?_
            refine JO.ac rfl ?_
            refine JO.ac rfl ?_
            refine JO.nil ?_
            refine JN.then_n ?_
            show JC _ _ _ _ _
            refine JC.ret ?_
            refine JN.then_r ?_
            refine JN.blk_r ?_
            refine JN.then_r ?_
            refine JN.then_r ?_
            refine JN.blk_r ?_
            refine JN.then_r ?_
            refine JN.se (SE.ent (t := (.slice (.int .i64))) (x := []) 4 rfl .nil rfl rfl) ?_
            obtain rfl := hR _ h
            exact JN.ret () [_, _] 0 ⟨rfl, rfl, trivial⟩ rfl
           ·
            replace h := b_ifn (nv_fn hb) h
            refine JC.skip ?_
            refine JN.then_n ?_
            show JC _ _ _ _ _
            refine JC.seq ?_
            refine JC.region ?_
            refine JO.mv rfl rfl ?_
            refine JO.mv rfl rfl ?_
            obtain ⟨x52, ex52, h⟩ := b_bind h
            refine JO.s rfl (o_add rfl ex52) ⟨rfl, rfl, trivial⟩ ?_
            refine JO.as rfl rfl ?_
            refine JO.nil ?_
            refine JN.then_n ?_
            show JC _ _ _ _ _
            refine JC.region ?_
            refine JO.mv rfl rfl ?_
            refine JO.mv rfl rfl ?_
            refine JO.s rfl (o_litB (t := (.int .i64)) [(.tmp 138, _)] [x52] rfl rfl sl22 (.cons rfl .int .nil) rfl rfl) ⟨rfl, trivial⟩ ?_
            obtain ⟨u53, eu53, h⟩ := b_bind h
            refine JO.front 1 rfl ?_
            refine JO.s1x rfl rfl rfl (o_append rfl rfl sl22 (chkP_some eu53)) ⟨rfl, rfl, trivial⟩ fun v54 => ?_
            refine JO.as rfl rfl ?_
            refine JO.nil ?_
            refine JN.blk_n ?_
            refine JN.then_n ?_
            exact JN.z (v54, (y31.1 ++ [x52], x52)) h (SE.fin [0, 2] ⟨rfl, rfl, rfl, rfl, rfl, rfl, trivial⟩ rfl)
        ·
         refine JC.region ?_
         obtain ⟨x55, ex55, h⟩ := b_bind h
         refine JO.s rfl (o_add rfl ex55) ⟨rfl, rfl, trivial⟩ ?_
         refine JO.mv rfl rfl ?_
         refine JO.nil ?_
         refine JN.then_n ?_
         exact JN.z (z34, (x33.1, x33.2, x55)) h (SE.fin [0, 1] ⟨rfl, rfl, rfl, rfl, rfl, rfl, trivial⟩ rfl)
       ·
        replace h := b_ifn (d_f hb) h
        refine JC.exit ?_
        refine JN.then_x ?_
        refine JN.then_x ?_
        refine JN.blk_hit ?_
        refine JN.then_n ?_
        exact JN.z (z32, y31.1) h (SE.fin [0] ⟨rfl, trivial⟩ rfl)
      ·
       refine JC.seq ?_
       refine JC.region ?_
       refine JO.mv rfl rfl ?_
       refine JO.as rfl rfl ?_
       refine JO.ac rfl ?_
       refine JO.nil ?_
       refine JN.then_n ?_
       show JC _ _ _ _ _
       refine JC.ret ?_
       refine JN.se (SE.frz [4, 16, 142] ⟨rfl, rfl, rfl, trivial⟩) ?_
       obtain rfl := Option.some.inj h
       exact JN.ret () [_, _] 0 ⟨rfl, rfl, trivial⟩ rfl


def chg_Wearing_l1 (k : Nat) (a1 : (List dStep)) (a2 : Int) (q3 : (dChange × (List (Bool × Int)) × (List Int))) (r6 : (List Int) × (List Int)) : Nat → (Int × Int × Int) → Option (Int × Int)
 | 0, _ => none
 | n + 1, y10 =>
  if y10.2.2 < (a1.length : Int) then ((((geti a1 y10.2.2).bind fun x14 =>
  (geti q3.2.1 x14.1).bind fun x16 =>
  if ¬ (x16.1 = true) then ((geti r6.1 y10.2.2).bind fun x17 =>
  if x17 ≤ a2 then ((cond x16.1 (chg_on_thing k x16.2) (chg_off_thing k x16.2)).bind fun r18 =>
  (chg_of k [r18]).bind fun r19 =>
  some (iandn .u8 y10.1 r19, y10.2.1)) else (some (y10.1, y10.2.1))) else ((chkP (0 ≤ x14.1 ∧ x14.1 < 4)).bind fun _ =>
  (geti r6.2 x14.1).bind fun x21 =>
  if x21 ≤ a2 then ((cond x16.1 (chg_on_thing k x16.2) (chg_off_thing k x16.2)).bind fun r22 =>
  (chg_of k [r22]).bind fun r23 =>
  some (y10.1, ior .u8 y10.2.1 r23)) else (some (y10.1, y10.2.1)))) : Option (Int × Int)).bind fun x12 =>
  (ck (y10.2.2 + (1 : Int))).bind fun x24 =>
  chg_Wearing_l1 k a1 a2 q3 r6 n (x12.1, x12.2, x24)) else (some (y10.1, y10.2.1))
def chg_Wearing (k : Nat) (a0 : dChange) (a1 : (List dStep)) (a2 : Int) : Option ((List Int) × Int) :=
 (chg_asked k a0 a1).bind fun r2 =>
 casesO r2.1 (if ¬ (r2.2 = (0 : Int)) then (some ([], r2.2)) else (if a2 < (0 : Int) then (some ([], (1 : Int))) else (none))) (fun q3 => if ¬ (r2.2 = (0 : Int)) then (some ([], r2.2)) else (if a2 < (0 : Int) then (some ([], (1 : Int))) else ((chg_of k q3.1.2.2.1).bind fun r5 =>
 (chg_quick_begins k ((q3.1.1, q3.1.2.1, q3.1.2.2.1, q3.1.2.2.2), q3.2.1, q3.2.2) a1).bind fun r6 =>
 ((chg_Wearing_l1 k a1 a2 q3 r6 k (r5, (0 : Int), (0 : Int))) : Option (Int × Int)).bind fun x8 =>
 (chg_set_list k (ior .u8 x8.1 x8.2)).bind fun r25 =>
 some (r25, (0 : Int)))))

theorem chg_Wearing_ok (k : Nat) (a0 : dChange) (a1 : (List dStep)) (a2 : Int) (r : (List Int) × Int) (h : chg_Wearing k a0 a1 a2 = some r) :
 Ctr Try.prog 39 [.rep tChange a0, .rep (.slice tStep) a1, .eq (.int .i64 a2)] [] (fun _ : Unit => (resA [.rep (.slice (.int .i64)) r.1, .eq (.int .i64 r.2)], [])) := by
 unfold chg_Wearing at h
 replace h := b_top h
 refine Ctr.of 88 Try.func39 rfl Try.ntmps39 rfl fun S w0 => ?_
 refine JC.seq ?_
 refine JC.region ?_
 refine JO.s01 rfl rfl rfl (o_box rfl rfl) ⟨rfl, trivial⟩ fun b1 => ?_
 refine JO.ac rfl ?_
 refine JO.ac rfl ?_
 refine JO.nil ?_
 refine JN.then_n ?_
 show JC _ _ _ _ _
 refine JC.seq ?_
 refine JC.region ?_
 refine JO.s11 rfl rfl rfl (o_load_obj rfl sz28 (nfn) rfl) ⟨rfl, trivial⟩ ?_
 refine JO.mv rfl rfl ?_
 obtain ⟨r2, er2, h⟩ := b_bind h
 have cr2 := chg_asked_ok k a0 a1 r2 er2
 rcases hr : r2.1 with _ | q3
 ·
  rw [hr] at h cr2; replace h := co_n h
  refine JO.stepG (Δ := []) (F := _) (fun _ _ _ => wanted_none rfl _) rfl rfl (o_call [.tmp 18, .tmp 19] rfl rfl en64 rfl cr2) ⟨rfl, rfl, trivial⟩ fun _ => ?_
  refine JO.mv rfl rfl ?_
  refine JO.s rfl (o_extract rfl rfl) ⟨rfl, trivial⟩ ?_
  refine JO.s rfl (o_extract rfl rfl) ⟨rfl, trivial⟩ ?_
  refine JO.as rfl rfl ?_
  refine JO.as rfl rfl ?_
  refine JO.nil ?_
  refine JN.then_n ?_
  show JC _ _ _ _ _
  refine JC.seq ?_
  refine JC.seq ?_
  refine JC.region ?_
  refine JO.mv rfl rfl ?_
  refine JO.s rfl (o_neq rfl) ⟨rfl, rfl, trivial⟩ ?_
  refine JO.nil ?_
  refine JN.then_n ?_
  show JC _ _ _ _ _
  refine JC.cond rfl (fun hb => ?_) (fun hb => ?_)
  ·
   replace h := b_if (n_t hb) h
   refine JC.seq ?_
   refine JC.region ?_
   refine JO.mv rfl rfl ?_
   refine JO.ac rfl ?_
   refine JO.as rfl rfl ?_
   refine JO.nil ?_
   refine JN.then_n ?_
   show JC _ _ _ _ _
   refine JC.ret ?_
   refine JN.then_r ?_
   refine JN.se (SE.ent (t := (.slice (.int .i64))) (x := []) 6 rfl .nil rfl rfl) ?_
   obtain rfl := Option.some.inj h
   exact JN.ret () [_, _] 0 ⟨rfl, rfl, trivial⟩ rfl
  ·
   replace h := b_ifn (n_fn hb) h
   refine JC.skip ?_
   refine JN.then_n ?_
   show JC _ _ _ _ _
   refine JC.seq ?_
   refine JC.seq ?_
   refine JC.region ?_
   refine JO.mv rfl rfl ?_
   refine JO.s rfl (o_lss rfl) ⟨rfl, rfl, trivial⟩ ?_
   refine JO.nil ?_
   refine JN.then_n ?_
   show JC _ _ _ _ _
   refine JC.cond rfl (fun hb => ?_) (fun hb => ?_)
   ·
    replace h := b_if (d_t hb) h
    refine JC.seq ?_
    refine JC.region ?_
    refine JO.ac rfl ?_
    refine JO.ac rfl ?_
    refine JO.nil ?_
    refine JN.then_n ?_
    show JC _ _ _ _ _
    refine JC.ret ?_
    refine JN.then_r ?_
    refine JN.se (SE.ent (t := (.slice (.int .i64))) (x := []) 6 rfl .nil rfl rfl) ?_
    obtain rfl := Option.some.inj h
    exact JN.ret () [_, _] 0 ⟨rfl, rfl, trivial⟩ rfl
   ·
    replace h := b_ifn (d_f hb) h
    refine JC.skip ?_
    refine JN.then_n ?_
    show JC _ _ _ _ _
    refine JC.seq ?_
    refine JC.region ?_
    refine JO.mv rfl rfl ?_
    cases h
 ·
  rw [hr] at h cr2; replace h := co_s h
  refine JO.stepG (Δ := []) (F := _) (fun _ _ _ => wanted_none rfl _) rfl rfl (o_call [.tmp 18, .tmp 19] rfl rfl en64 rfl cr2) ⟨rfl, rfl, trivial⟩ fun z4 => ?_
  refine JO.mv rfl rfl ?_
  refine JO.s rfl (o_extract rfl rfl) ⟨rfl, trivial⟩ ?_
  refine JO.s rfl (o_extract rfl rfl) ⟨rfl, trivial⟩ ?_
  refine JO.as rfl rfl ?_
  refine JO.as rfl rfl ?_
  refine JO.nil ?_
  refine JN.then_n ?_
  show JC _ _ _ _ _
  refine JC.seq ?_
  refine JC.seq ?_
  refine JC.region ?_
  refine JO.mv rfl rfl ?_
  refine JO.s rfl (o_neq rfl) ⟨rfl, rfl, trivial⟩ ?_
  refine JO.nil ?_
  refine JN.then_n ?_
  show JC _ _ _ _ _
  refine JC.cond rfl (fun hb => ?_) (fun hb => ?_)
  ·
   replace h := b_if (n_t hb) h
   refine JC.seq ?_
   refine JC.region ?_
   refine JO.mv rfl rfl ?_
   refine JO.ac rfl ?_
   refine JO.as rfl rfl ?_
   refine JO.nil ?_
   refine JN.then_n ?_
   show JC _ _ _ _ _
   refine JC.ret ?_
   refine JN.then_r ?_
   refine JN.se (SE.ent (t := (.slice (.int .i64))) (x := []) 6 rfl .nil rfl rfl) ?_
   obtain rfl := Option.some.inj h
   exact JN.ret () [_, _] 0 ⟨rfl, rfl, trivial⟩ rfl
  ·
   replace h := b_ifn (n_fn hb) h
   refine JC.skip ?_
   refine JN.then_n ?_
   show JC _ _ _ _ _
   refine JC.seq ?_
   refine JC.seq ?_
   refine JC.region ?_
   refine JO.mv rfl rfl ?_
   refine JO.s rfl (o_lss rfl) ⟨rfl, rfl, trivial⟩ ?_
   refine JO.nil ?_
   refine JN.then_n ?_
   show JC _ _ _ _ _
   refine JC.cond rfl (fun hb => ?_) (fun hb => ?_)
   ·
    replace h := b_if (d_t hb) h
    refine JC.seq ?_
    refine JC.region ?_
    refine JO.ac rfl ?_
    refine JO.ac rfl ?_
    refine JO.nil ?_
    refine JN.then_n ?_
    show JC _ _ _ _ _
    refine JC.ret ?_
    refine JN.then_r ?_
    refine JN.se (SE.ent (t := (.slice (.int .i64))) (x := []) 6 rfl .nil rfl rfl) ?_
    obtain rfl := Option.some.inj h
    exact JN.ret () [_, _] 0 ⟨rfl, rfl, trivial⟩ rfl
   ·
    replace h := b_ifn (d_f hb) h
    refine JC.skip ?_
    refine JN.then_n ?_
    show JC _ _ _ _ _
    refine JC.seq ?_
    refine JC.region ?_
    refine JO.mv rfl rfl ?_
    refine JO.s rfl (o_nil_obj rfl) ⟨rfl, trivial⟩ ?_
    refine JO.s rfl (o_field_obj rfl fo120_0) ⟨rfl, trivial⟩ ?_
    refine JO.s rfl (o_field_obj rfl fo28_2) ⟨rfl, trivial⟩ ?_
    refine JO.s11 rfl rfl rfl (o_load_obj rfl sz22 (fun _ => rfl) rfl) ⟨rfl, trivial⟩ ?_
    obtain ⟨r5, er5, h⟩ := b_bind h
    have cr5 := chg_of_ok k q3.1.2.2.1 r5 er5
    refine JO.s rfl (o_call [.tmp 32] rfl rfl en81 rfl cr5) ⟨rfl, trivial⟩ ?_
    refine JO.as rfl rfl ?_
    refine JO.nil ?_
    refine JN.then_n ?_
    show JC _ _ _ _ _
    refine JC.seq ?_
    refine JC.region ?_
    refine JO.mv rfl rfl ?_
    refine JO.mv rfl rfl ?_
    obtain ⟨r6, er6, h⟩ := b_bind h
    have cr6 := chg_quick_begins_ok k ((q3.1.1, q3.1.2.1, q3.1.2.2.1, q3.1.2.2.2), q3.2.1, q3.2.2) z4.1 (.map (some z4.2)) a1 r6 er6
    refine JO.s11 rfl rfl rfl (o_call [.tmp 35, .tmp 36] rfl rfl en65 rfl cr6) ⟨rfl, rfl, trivial⟩ ?_
    refine JO.mv rfl rfl ?_
    refine JO.s rfl (o_extract rfl rfl) ⟨rfl, trivial⟩ ?_
    refine JO.s rfl (o_extract rfl rfl) ⟨rfl, trivial⟩ ?_
    refine JO.s01 rfl rfl rfl (o_alloc rfl za101 al101) trivial fun b7 => ?_
    refine JO.as rfl rfl ?_
    refine JO.n11 rfl rfl (o_store rfl sz101 rfl rfl rfl) ⟨rfl, rfl, trivial⟩ ?_
    refine JO.nil ?_
    refine JN.then_n ?_
    show JC _ _ _ _ _
    refine JC.seq ?_
    refine JC.region ?_
    refine JO.ac rfl ?_
    refine JO.nil ?_
    refine JN.then_n ?_
    show JC _ _ _ _ _
    refine JC.cutB (Z := Unit) (α := Int × Int) (fun z9 x8 => [(10, .eq (.int .u8 x8.1)), (13, .eq (.int .u8 x8.2))]) (fun z9 x8 => [.raw z4.2 (.map #[] 0)]) h (fun K h => ?_) (fun z9 x8 h => ?_)
    ·
     refine JC.seq ?_
     refine JC.region ?_
     refine JO.mv rfl rfl ?_
     refine JO.s rfl (o_len rfl rfl Try.underlying30) ⟨rfl, trivial⟩ ?_
     refine JO.mc rfl ?_
     refine JO.nil ?_
     refine JN.then_n ?_
     show JC _ _ _ _ _
     refine JC.block ?_
     refine JC.loopB (Z := Unit) (α := Int × Int × Int) (fun z11 y10 => [(2, .eq (.int .i64 a2)), (8, .eq (.pointer (some ⟨z4.1, 0, none⟩))), (10, .eq (.int .u8 y10.1)), (11, .rep (.slice (.int .i64)) r6.1), (12, .eq (.pointer (some ⟨b7, 0, none⟩))), (13, .eq (.int .u8 y10.2.1)), (40, .rep (.slice tStep) a1), (41, .eq (.int .i64 (a1.length : Int))), (42, .eq (.int .i64 y10.2.2))]) (fun z11 y10 => [.obj z4.1 120 (.agg (.pair (.agg (.pair (.rep (.slice tThing) q3.1.1) (.pair (.rep (.slice tDresser) q3.1.2.1) (.pair (.rep (.slice (.int .i64)) q3.1.2.2.1) (.rep (.slice (.int .i64)) q3.1.2.2.2))))) (.pair (.rep (.slice (.tag 131 133)) q3.2.1) (.pair (.rep (.arr 8 (.int .u8)) q3.2.2) (.eq (.map (some z4.2))))))), .obj b7 101 (.rep (.arr 4 (.int .i64)) r6.2), .raw z4.2 (.map #[] 0)]) (chg_Wearing_l1 k a1 a2 q3 r6) k () (r5, (0 : Int), (0 : Int)) (fun _ => rfl) h (SE.fin [1, 0, 2] ⟨rfl, rfl, rfl, rfl, rfl, rfl, rfl, rfl, rfl, trivial⟩ rfl) (fun n z11 y10 h => ?_)
     unfold chg_Wearing_l1 at h
     refine JC.seq ?_
     refine JC.region ?_
     refine JO.s rfl (o_lss rfl) ⟨rfl, rfl, trivial⟩ ?_
     refine JO.nil ?_
     refine JN.then_n ?_
     show JC _ _ _ _ _
     refine JC.seq ?_
     refine JC.cond rfl (fun hb => ?_) (fun hb => ?_)
     ·
      replace h := b_if (d_t hb) h
      refine JC.skip ?_
      refine JN.then_n ?_
      show JC _ _ _ _ _
      refine JC.cutB (Z := Unit) (α := Int × Int) (fun z13 x12 => [(2, .eq (.int .i64 a2)), (8, .eq (.pointer (some ⟨z4.1, 0, none⟩))), (10, .eq (.int .u8 x12.1)), (11, .rep (.slice (.int .i64)) r6.1), (12, .eq (.pointer (some ⟨b7, 0, none⟩))), (13, .eq (.int .u8 x12.2)), (40, .rep (.slice tStep) a1), (41, .eq (.int .i64 (a1.length : Int))), (42, .eq (.int .i64 y10.2.2))]) (fun z13 x12 => [.obj z4.1 120 (.agg (.pair (.agg (.pair (.rep (.slice tThing) q3.1.1) (.pair (.rep (.slice tDresser) q3.1.2.1) (.pair (.rep (.slice (.int .i64)) q3.1.2.2.1) (.rep (.slice (.int .i64)) q3.1.2.2.2))))) (.pair (.rep (.slice (.tag 131 133)) q3.2.1) (.pair (.rep (.arr 8 (.int .u8)) q3.2.2) (.eq (.map (some z4.2))))))), .obj b7 101 (.rep (.arr 4 (.int .i64)) r6.2), .raw z4.2 (.map #[] 0)]) h (fun K h => ?_) (fun z13 x12 h => ?_)
      ·
       refine JC.block ?_
       refine JC.seq ?_
       refine JC.region ?_
       refine JO.mv rfl rfl ?_
       obtain ⟨x14, ex14, h⟩ := b_bind h
       refine JO.s rfl (o_index (t := tStep) rfl Try.underlying30 sz43 ex14) ⟨rfl, rfl, trivial⟩ ?_
       refine JO.s rfl (o_load_at (t := tStep) rfl sz43 rfl) ⟨rfl, trivial⟩ ?_
       refine JO.s01 rfl rfl rfl (o_alloc rfl za43 al43) trivial fun b15 => ?_
       refine JO.as rfl rfl ?_
       refine JO.n11 rfl rfl (o_store rfl sz43 rfl rfl rfl) ⟨rfl, rfl, trivial⟩ ?_
       refine JO.nil ?_
       refine JN.then_n ?_
       show JC _ _ _ _ _
       refine JC.seq ?_
       refine JC.drawN ?_
       refine DN.s00 rfl rfl rfl (o_move rfl) ⟨rfl, trivial⟩ ?_
       refine DN.s00 rfl rfl rfl (o_nil_obj rfl) ⟨rfl, trivial⟩ ?_
       refine DN.s00 rfl rfl rfl (o_field_obj rfl fo120_1) ⟨rfl, trivial⟩ ?_
       refine DN.s11 1 rfl rfl rfl rfl (o_load_obj rfl sz116 (fun _ => rfl) rfl) ⟨rfl, trivial⟩ ?_
       refine DN.s00 rfl rfl rfl (o_field_obj rfl fo43_0) ⟨rfl, trivial⟩ ?_
       refine DN.s11 0 rfl rfl rfl rfl (o_load_obj rfl sz3 (fun _ => rfl) rfl) ⟨rfl, trivial⟩ ?_
       refine DN.fin (by kernel_rfl) mixed ?_
       obtain ⟨x16, ex16, h⟩ := b_bind h
       refine JO.s rfl (o_index (t := (.tag 131 133)) rfl Try.underlying116 sz130 ex16) ⟨rfl, rfl, trivial⟩ ?_
       refine JO.s rfl (o_load_at (t := (.tag 131 133)) rfl sz130 rfl) ⟨rfl, trivial⟩ ?_
       refine JO.as rfl rfl ?_
       refine JO.nil ?_
       refine JN.then_n ?_
       show JC _ _ _ _ _
       refine JC.seq ?_
       refine JC.region ?_
       refine JO.mv rfl rfl ?_
       refine JO.nil ?_
       refine JN.then_n ?_
       show JC _ _ _ _ _
       refine JC.block ?_
       refine JC.seq ?_
       refine JC.region ?_
       refine JO.s rfl (o_as0 rfl ta131 (by decide)) ⟨rfl, trivial⟩ ?_
       refine JO.s rfl (o_extract rfl rfl) ⟨rfl, trivial⟩ ?_
       refine JO.s rfl (o_extract rfl rfl) ⟨rfl, trivial⟩ ?_
       refine JO.nil ?_
       refine JN.then_n ?_
       show JC _ _ _ _ _
       refine JC.cond rfl (fun hb => ?_) (fun hb => ?_)
       ·
        replace h := b_if (nv_t hb) h
        refine JC.seq ?_
        refine JC.region ?_
        refine JO.mv rfl rfl ?_
        refine JO.mv rfl rfl ?_
        obtain ⟨x17, ex17, h⟩ := b_bind h
        refine JO.s rfl (o_index (t := (.int .i64)) rfl Try.underlying22 sz3 ex17) ⟨rfl, rfl, trivial⟩ ?_
        refine JO.s rfl (o_load_at (t := (.int .i64)) rfl sz3 rfl) ⟨rfl, trivial⟩ ?_
        refine JO.mv rfl rfl ?_
        refine JO.s rfl (o_leq rfl) ⟨rfl, rfl, trivial⟩ ?_
        refine JO.nil ?_
        refine JN.then_n ?_
        show JC _ _ _ _ _
        refine JC.cond rfl (fun hb => ?_) (fun hb => ?_)
        ·
         replace h := b_if (d_t hb) h
         refine JC.region ?_
         refine JO.mv rfl rfl ?_
         refine JO.mv rfl rfl ?_
         obtain ⟨r18, er18, h⟩ := b_bind h
         refine JO.s rfl (o_invoke rfl rfl mt131_thing mt133_thing (ctr_cond (fun hb => chg_off_thing_ok k x16.2 r18 (by simpa [hb] using er18)) (fun hb => chg_on_thing_ok k x16.2 r18 (by simpa [hb] using er18)))) ⟨rfl, trivial⟩ ?_
         refine JO.s rfl (o_litB (t := (.int .i64)) [(.tmp 79, _)] [r18] rfl rfl sl22 (.cons rfl .int .nil) rfl rfl) ⟨rfl, trivial⟩ ?_
         obtain ⟨r19, er19, h⟩ := b_bind h
         have cr19 := chg_of_ok k [r18] r19 er19
         refine JO.s rfl (o_call [.tmp 80] rfl rfl en81 rfl cr19) ⟨rfl, trivial⟩ ?_
         refine JO.s rfl (o_andn rfl) ⟨rfl, rfl, trivial⟩ ?_
         refine JO.as rfl rfl ?_
         refine JO.nil ?_
         refine JN.blk_n ?_
         refine JN.blk_n ?_
         refine JN.then_n ?_
         exact JN.z ((), (iandn .u8 y10.1 r19, y10.2.1)) h (SE.fin [1, 2, 3] ⟨rfl, rfl, rfl, rfl, rfl, rfl, rfl, rfl, rfl, trivial⟩ rfl)
        ·
         replace h := b_ifn (d_f hb) h
         refine JC.skip ?_
         refine JN.blk_n ?_
         refine JN.blk_n ?_
         refine JN.then_n ?_
         exact JN.z ((), (y10.1, y10.2.1)) h (SE.fin [1, 2, 3] ⟨rfl, rfl, rfl, rfl, rfl, rfl, rfl, rfl, rfl, trivial⟩ rfl)
       ·
        replace h := b_ifn (nv_fn hb) h
        refine JC.seq ?_
        refine JC.region ?_
        refine JO.s rfl (o_field_obj rfl fo43_0) ⟨rfl, trivial⟩ ?_
        refine JO.s11 rfl rfl rfl (o_load_obj rfl sz3 (fun _ => rfl) rfl) ⟨rfl, trivial⟩ ?_
        obtain ⟨u20, eu20, h⟩ := b_bind h
        refine JO.s rfl (o_index_arr rfl Try.underlying101 sz3 (chkP_some eu20).1 (chkP_some eu20).2) ⟨rfl, rfl, trivial⟩ ?_
        obtain ⟨x21, ex21, h⟩ := b_bind h
        refine JO.front 2 rfl ?_
        refine JO.s11 rfl rfl rfl (o_load_arr (t := (.int .i64)) (off := 0) (i := x14.1) (N := 4) rfl sz3 (fun _ => rfl) rfl rfl rfl rfl ex21) ⟨rfl, trivial⟩ ?_
        refine JO.mv rfl rfl ?_
        refine JO.s rfl (o_leq rfl) ⟨rfl, rfl, trivial⟩ ?_
        refine JO.nil ?_
        refine JN.then_n ?_
        show JC _ _ _ _ _
        refine JC.cond rfl (fun hb => ?_) (fun hb => ?_)
        ·
         replace h := b_if (d_t hb) h
         refine JC.region ?_
         refine JO.mv rfl rfl ?_
         refine JO.mv rfl rfl ?_
         obtain ⟨r22, er22, h⟩ := b_bind h
         refine JO.s rfl (o_invoke rfl rfl mt131_thing mt133_thing (ctr_cond (fun hb => chg_off_thing_ok k x16.2 r22 (by simpa [hb] using er22)) (fun hb => chg_on_thing_ok k x16.2 r22 (by simpa [hb] using er22)))) ⟨rfl, trivial⟩ ?_
         refine JO.s rfl (o_litB (t := (.int .i64)) [(.tmp 64, _)] [r22] rfl rfl sl22 (.cons rfl .int .nil) rfl rfl) ⟨rfl, trivial⟩ ?_
         obtain ⟨r23, er23, h⟩ := b_bind h
         have cr23 := chg_of_ok k [r22] r23 er23
         refine JO.s rfl (o_call [.tmp 65] rfl rfl en81 rfl cr23) ⟨rfl, trivial⟩ ?_
         refine JO.s rfl (o_or rfl) ⟨rfl, rfl, trivial⟩ ?_
         refine JO.as rfl rfl ?_
         refine JO.nil ?_
         refine JN.blk_n ?_
         refine JN.blk_n ?_
         refine JN.then_n ?_
         exact JN.z ((), (y10.1, ior .u8 y10.2.1 r23)) h (SE.fin [2, 0, 3] ⟨rfl, rfl, rfl, rfl, rfl, rfl, rfl, rfl, rfl, trivial⟩ rfl)
        ·
         replace h := b_ifn (d_f hb) h
         refine JC.skip ?_
         refine JN.blk_n ?_
         refine JN.blk_n ?_
         refine JN.then_n ?_
         exact JN.z ((), (y10.1, y10.2.1)) h (SE.fin [2, 0, 3] ⟨rfl, rfl, rfl, rfl, rfl, rfl, rfl, rfl, rfl, trivial⟩ rfl)
      ·
       refine JC.region ?_
       obtain ⟨x24, ex24, h⟩ := b_bind h
       refine JO.s rfl (o_add rfl ex24) ⟨rfl, rfl, trivial⟩ ?_
       refine JO.mv rfl rfl ?_
       refine JO.nil ?_
       refine JN.then_n ?_
       exact JN.z ((), (x12.1, x12.2, x24)) h (SE.fin [0, 1, 2] ⟨rfl, rfl, rfl, rfl, rfl, rfl, rfl, rfl, rfl, trivial⟩ rfl)
     ·
      replace h := b_ifn (d_f hb) h
      refine JC.exit ?_
      refine JN.then_x ?_
      refine JN.then_x ?_
      refine JN.blk_hit ?_
      refine JN.then_n ?_
      exact JN.z ((), (y10.1, y10.2.1)) h (SE.fin [2] ⟨rfl, rfl, trivial⟩ rfl)
    ·
     refine JC.seq ?_
     refine JC.region ?_
     refine JO.mv rfl rfl ?_
     refine JO.mv rfl rfl ?_
     refine JO.s rfl (o_or rfl) ⟨rfl, rfl, trivial⟩ ?_
     obtain ⟨r25, er25, h⟩ := b_bind h
     have cr25 := chg_set_list_ok k (ior .u8 x8.1 x8.2) r25 er25
     refine JO.s rfl (o_call [.tmp 86] rfl rfl en82 rfl cr25) ⟨rfl, trivial⟩ ?_
     refine JO.as rfl rfl ?_
     refine JO.ac rfl ?_
     refine JO.nil ?_
     refine JN.then_n ?_
     show JC _ _ _ _ _
     refine JC.ret ?_
     obtain rfl := Option.some.inj h
     exact JN.ret () [_, _] 0 ⟨rfl, rfl, trivial⟩ rfl


def kit_SameInts_l1 (k : Nat) (a0 : (List Int)) (a1 : (List Int)) : Nat → Int → Option (Except Bool Unit)
 | 0, _ => none
 | n + 1, y3 =>
  if y3 < (a0.length : Int) then ((geti a0 y3).bind fun x5 =>
  (geti a1 y3).bind fun x6 =>
  if ¬ (x5 = x6) then (some (.error false)) else ((ck (y3 + (1 : Int))).bind fun x7 =>
  kit_SameInts_l1 k a0 a1 n x7)) else (some (.ok ()))
def kit_SameInts (k : Nat) (a0 : (List Int)) (a1 : (List Int)) : Option Bool :=
 if ¬ ((a0.length : Int) = (a1.length : Int)) then (some false) else (bE (α := Unit) (kit_SameInts_l1 k a0 a1 k (0 : Int)) (some) fun _ =>
 some true)

theorem kit_SameInts_ok (k : Nat) (a0 : (List Int)) (a1 : (List Int)) (r : Bool) (h : kit_SameInts k a0 a1 = some r) :
 Ctr Try.prog 40 [.rep (.slice (.int .i64)) a0, .rep (.slice (.int .i64)) a1] [] (fun _ : Unit => (resA [.eq (.bool r)], [])) := by
 unfold kit_SameInts at h
 replace h := b_top h
 refine Ctr.of 26 Try.func40 rfl Try.ntmps40 rfl fun S w0 => ?_
 refine JC.seq ?_
 refine JC.region ?_
 refine JO.ac rfl ?_
 refine JO.nil ?_
 refine JN.then_n ?_
 show JC _ _ _ _ _
 refine JC.seq ?_
 refine JC.seq ?_
 refine JC.region ?_
 refine JO.mv rfl rfl ?_
 refine JO.s rfl (o_len rfl rfl Try.underlying22) ⟨rfl, trivial⟩ ?_
 refine JO.mv rfl rfl ?_
 refine JO.s rfl (o_len rfl rfl Try.underlying22) ⟨rfl, trivial⟩ ?_
 refine JO.s rfl (o_neq rfl) ⟨rfl, rfl, trivial⟩ ?_
 refine JO.nil ?_
 refine JN.then_n ?_
 show JC _ _ _ _ _
 refine JC.cond rfl (fun hb => ?_) (fun hb => ?_)
 ·
  replace h := b_if (n_t hb) h
  refine JC.seq ?_
  refine JC.region ?_
  refine JO.ac rfl ?_
  refine JO.nil ?_
  refine JN.then_n ?_
  show JC _ _ _ _ _
  refine JC.ret ?_
  refine JN.then_r ?_
  obtain rfl := Option.some.inj h
  exact JN.ret () [_] 0 ⟨rfl, trivial⟩ rfl
 ·
  replace h := b_ifn (n_fn hb) h
  refine JC.skip ?_
  refine JN.then_n ?_
  show JC _ _ _ _ _
  refine JC.cutE (Z := Unit) (α := Unit) (fun z2 x1 => []) (fun z2 x1 => []) (fun e => e = r) h (fun e h => Option.some.inj h) (fun K hR h => ?_) (fun z2 x1 h => ?_)
  ·
   refine JC.seq ?_
   refine JC.region ?_
   refine JO.ac rfl ?_
   refine JO.nil ?_
   refine JN.then_n ?_
   show JC _ _ _ _ _
   refine JC.block ?_
   refine JC.loopB (Z := Unit) (α := Int) (fun z4 y3 => [(0, .rep (.slice (.int .i64)) a0), (1, .rep (.slice (.int .i64)) a1), (5, .eq (.int .i64 y3))]) (fun z4 y3 => []) (kit_SameInts_l1 k a0 a1) k () (0 : Int) (fun _ => rfl) h (SE.fin [] ⟨rfl, rfl, rfl, trivial⟩ rfl) (fun n z4 y3 h => ?_)
   unfold kit_SameInts_l1 at h
   refine JC.seq ?_
   refine JC.seq ?_
   refine JC.region ?_
   refine JO.mv rfl rfl ?_
   refine JO.mv rfl rfl ?_
   refine JO.s rfl (o_len rfl rfl Try.underlying22) ⟨rfl, trivial⟩ ?_
   refine JO.s rfl (o_lss rfl) ⟨rfl, rfl, trivial⟩ ?_
   refine JO.nil ?_
   refine JN.then_n ?_
   show JC _ _ _ _ _
   refine JC.cond rfl (fun hb => ?_) (fun hb => ?_)
   ·
    replace h := b_if (d_t hb) h
    refine JC.skip ?_
    refine JN.then_n ?_
    show JC _ _ _ _ _
    refine JC.seq ?_
    refine JC.block ?_
    refine JC.seq ?_
    refine JC.drawN ?_
    refine DN.s00 rfl rfl rfl (o_move rfl) ⟨rfl, trivial⟩ ?_
    refine DN.s00 rfl rfl rfl (o_move rfl) ⟨rfl, trivial⟩ ?_
    obtain ⟨x5, ex5, h⟩ := b_bind h
    refine DN.s00 rfl rfl rfl (o_index (t := (.int .i64)) rfl Try.underlying22 sz3 ex5) ⟨rfl, rfl, trivial⟩ ?_
    refine DN.s00 rfl rfl rfl (o_load_at (t := (.int .i64)) rfl sz3 rfl) ⟨rfl, trivial⟩ ?_
    refine DN.s00 rfl rfl rfl (o_move rfl) ⟨rfl, trivial⟩ ?_
    refine DN.s00 rfl rfl rfl (o_move rfl) ⟨rfl, trivial⟩ ?_
    obtain ⟨x6, ex6, h⟩ := b_bind h
    refine DN.s00 rfl rfl rfl (o_index (t := (.int .i64)) rfl Try.underlying22 sz3 ex6) ⟨rfl, rfl, trivial⟩ ?_
    refine DN.s00 rfl rfl rfl (o_load_at (t := (.int .i64)) rfl sz3 rfl) ⟨rfl, trivial⟩ ?_
    refine DN.fin (by kernel_rfl) mixed ?_
    refine JO.s rfl (o_neq rfl) ⟨rfl, rfl, trivial⟩ ?_
    refine JO.nil ?_
    refine JN.then_n ?_
    show JC _ _ _ _ _
    refine JC.cond rfl (fun hb => ?_) (fun hb => ?_)
    ·
     replace h := b_if (n_t hb) h
     refine JC.seq ?_
     refine JC.region ?_
     refine JO.ac rfl ?_
     refine JO.nil ?_
     refine JN.then_n ?_
     show JC _ _ _ _ _
     refine JC.ret ?_
     refine JN.blk_r ?_
     refine JN.then_r ?_
     refine JN.then_r ?_
     refine JN.blk_r ?_
     refine JN.then_r ?_
     obtain rfl := hR _ h
     exact JN.ret () [_] 0 ⟨rfl, trivial⟩ rfl
    ·
     replace h := b_ifn (n_fn hb) h
     refine JC.skip ?_
     refine JN.blk_n ?_
     refine JN.then_n ?_
     show JC _ _ _ _ _
     refine JC.region ?_
     refine JO.mv rfl rfl ?_
     obtain ⟨x7, ex7, h⟩ := b_bind h
     refine JO.s rfl (o_add rfl ex7) ⟨rfl, rfl, trivial⟩ ?_
     refine JO.as rfl rfl ?_
     refine JO.nil ?_
     refine JN.then_n ?_
     exact JN.z ((), x7) h (SE.fin [] ⟨rfl, rfl, rfl, trivial⟩ rfl)
   ·
    replace h := b_ifn (d_f hb) h
    refine JC.exit ?_
    refine JN.then_x ?_
    refine JN.then_x ?_
    refine JN.blk_hit ?_
    refine JN.then_n ?_
    exact JN.z ((), ()) h (SE.fin [] trivial rfl)
  ·
   refine JC.seq ?_
   refine JC.region ?_
   refine JO.ac rfl ?_
   refine JO.nil ?_
   refine JN.then_n ?_
   show JC _ _ _ _ _
   refine JC.ret ?_
   obtain rfl := Option.some.inj h
   exact JN.ret () [_] 0 ⟨rfl, trivial⟩ rfl


def kit_SameSteps_l1 (k : Nat) (a0 : (List dStep)) (a1 : (List dStep)) : Nat → Int → Option (Except Bool Unit)
 | 0, _ => none
 | n + 1, y3 =>
  if y3 < (a0.length : Int) then ((geti a0 y3).bind fun x5 =>
  (geti a1 y3).bind fun x6 =>
  if ¬ (x5 = x6) then (some (.error false)) else ((ck (y3 + (1 : Int))).bind fun x7 =>
  kit_SameSteps_l1 k a0 a1 n x7)) else (some (.ok ()))
def kit_SameSteps (k : Nat) (a0 : (List dStep)) (a1 : (List dStep)) : Option Bool :=
 if ¬ ((a0.length : Int) = (a1.length : Int)) then (some false) else (bE (α := Unit) (kit_SameSteps_l1 k a0 a1 k (0 : Int)) (some) fun _ =>
 some true)

theorem kit_SameSteps_ok (k : Nat) (a0 : (List dStep)) (a1 : (List dStep)) (r : Bool) (h : kit_SameSteps k a0 a1 = some r) :
 Ctr Try.prog 44 [.rep (.slice tStep) a0, .rep (.slice tStep) a1] [] (fun _ : Unit => (resA [.eq (.bool r)], [])) := by
 unfold kit_SameSteps at h
 replace h := b_top h
 refine Ctr.of 26 Try.func44 rfl Try.ntmps44 rfl fun S w0 => ?_
 refine JC.seq ?_
 refine JC.region ?_
 refine JO.ac rfl ?_
 refine JO.nil ?_
 refine JN.then_n ?_
 show JC _ _ _ _ _
 refine JC.seq ?_
 refine JC.seq ?_
 refine JC.region ?_
 refine JO.mv rfl rfl ?_
 refine JO.s rfl (o_len rfl rfl Try.underlying30) ⟨rfl, trivial⟩ ?_
 refine JO.mv rfl rfl ?_
 refine JO.s rfl (o_len rfl rfl Try.underlying30) ⟨rfl, trivial⟩ ?_
 refine JO.s rfl (o_neq rfl) ⟨rfl, rfl, trivial⟩ ?_
 refine JO.nil ?_
 refine JN.then_n ?_
 show JC _ _ _ _ _
 refine JC.cond rfl (fun hb => ?_) (fun hb => ?_)
 ·
  replace h := b_if (n_t hb) h
  refine JC.seq ?_
  refine JC.region ?_
  refine JO.ac rfl ?_
  refine JO.nil ?_
  refine JN.then_n ?_
  show JC _ _ _ _ _
  refine JC.ret ?_
  refine JN.then_r ?_
  obtain rfl := Option.some.inj h
  exact JN.ret () [_] 0 ⟨rfl, trivial⟩ rfl
 ·
  replace h := b_ifn (n_fn hb) h
  refine JC.skip ?_
  refine JN.then_n ?_
  show JC _ _ _ _ _
  refine JC.cutE (Z := Unit) (α := Unit) (fun z2 x1 => []) (fun z2 x1 => []) (fun e => e = r) h (fun e h => Option.some.inj h) (fun K hR h => ?_) (fun z2 x1 h => ?_)
  ·
   refine JC.seq ?_
   refine JC.region ?_
   refine JO.ac rfl ?_
   refine JO.nil ?_
   refine JN.then_n ?_
   show JC _ _ _ _ _
   refine JC.block ?_
   refine JC.loopB (Z := Unit) (α := Int) (fun z4 y3 => [(0, .rep (.slice tStep) a0), (1, .rep (.slice tStep) a1), (5, .eq (.int .i64 y3))]) (fun z4 y3 => []) (kit_SameSteps_l1 k a0 a1) k () (0 : Int) (fun _ => rfl) h (SE.fin [] ⟨rfl, rfl, rfl, trivial⟩ rfl) (fun n z4 y3 h => ?_)
   unfold kit_SameSteps_l1 at h
   refine JC.seq ?_
   refine JC.seq ?_
   refine JC.region ?_
   refine JO.mv rfl rfl ?_
   refine JO.mv rfl rfl ?_
   refine JO.s rfl (o_len rfl rfl Try.underlying30) ⟨rfl, trivial⟩ ?_
   refine JO.s rfl (o_lss rfl) ⟨rfl, rfl, trivial⟩ ?_
   refine JO.nil ?_
   refine JN.then_n ?_
   show JC _ _ _ _ _
   refine JC.cond rfl (fun hb => ?_) (fun hb => ?_)
   ·
    replace h := b_if (d_t hb) h
    refine JC.skip ?_
    refine JN.then_n ?_
    show JC _ _ _ _ _
    refine JC.seq ?_
    refine JC.block ?_
    refine JC.seq ?_
    refine JC.drawN ?_
    refine DN.s00 rfl rfl rfl (o_move rfl) ⟨rfl, trivial⟩ ?_
    refine DN.s00 rfl rfl rfl (o_move rfl) ⟨rfl, trivial⟩ ?_
    obtain ⟨x5, ex5, h⟩ := b_bind h
    refine DN.s00 rfl rfl rfl (o_index (t := tStep) rfl Try.underlying30 sz43 ex5) ⟨rfl, rfl, trivial⟩ ?_
    refine DN.s00 rfl rfl rfl (o_load_at (t := tStep) rfl sz43 rfl) ⟨rfl, trivial⟩ ?_
    refine DN.s00 rfl rfl rfl (o_move rfl) ⟨rfl, trivial⟩ ?_
    refine DN.s00 rfl rfl rfl (o_move rfl) ⟨rfl, trivial⟩ ?_
    obtain ⟨x6, ex6, h⟩ := b_bind h
    refine DN.s00 rfl rfl rfl (o_index (t := tStep) rfl Try.underlying30 sz43 ex6) ⟨rfl, rfl, trivial⟩ ?_
    refine DN.s00 rfl rfl rfl (o_load_at (t := tStep) rfl sz43 rfl) ⟨rfl, trivial⟩ ?_
    refine DN.fin (by kernel_rfl) mixed ?_
    refine JO.s rfl (o_neqs rfl eq43 rfl) ⟨rfl, rfl, trivial⟩ ?_
    refine JO.nil ?_
    refine JN.then_n ?_
    show JC _ _ _ _ _
    refine JC.cond rfl (fun hb => ?_) (fun hb => ?_)
    ·
     replace h := b_if (n_t hb) h
     refine JC.seq ?_
     refine JC.region ?_
     refine JO.ac rfl ?_
     refine JO.nil ?_
     refine JN.then_n ?_
     show JC _ _ _ _ _
     refine JC.ret ?_
     refine JN.blk_r ?_
     refine JN.then_r ?_
     refine JN.then_r ?_
     refine JN.blk_r ?_
     refine JN.then_r ?_
     obtain rfl := hR _ h
     exact JN.ret () [_] 0 ⟨rfl, trivial⟩ rfl
    ·
     replace h := b_ifn (n_fn hb) h
     refine JC.skip ?_
     refine JN.blk_n ?_
     refine JN.then_n ?_
     show JC _ _ _ _ _
     refine JC.region ?_
     refine JO.mv rfl rfl ?_
     obtain ⟨x7, ex7, h⟩ := b_bind h
     refine JO.s rfl (o_add rfl ex7) ⟨rfl, rfl, trivial⟩ ?_
     refine JO.as rfl rfl ?_
     refine JO.nil ?_
     refine JN.then_n ?_
     exact JN.z ((), x7) h (SE.fin [] ⟨rfl, rfl, rfl, trivial⟩ rfl)
   ·
    replace h := b_ifn (d_f hb) h
    refine JC.exit ?_
    refine JN.then_x ?_
    refine JN.then_x ?_
    refine JN.blk_hit ?_
    refine JN.then_n ?_
    exact JN.z ((), ()) h (SE.fin [] trivial rfl)
  ·
   refine JC.seq ?_
   refine JC.region ?_
   refine JO.ac rfl ?_
   refine JO.nil ?_
   refine JN.then_n ?_
   show JC _ _ _ _ _
   refine JC.ret ?_
   obtain rfl := Option.some.inj h
   exact JN.ret () [_] 0 ⟨rfl, trivial⟩ rfl


def law_quick (k : Nat) (a0 : Int) (a1 : Int) (a2 : (List Int)) : Option dChange :=
 some ([([(1 : Int)], (2 : Int), (2 : Int), (0 : Int), (0 : Int)), ([], (1 : Int), (1 : Int), (1 : Int), a0), ([], (1 : Int), (1 : Int), (2 : Int), (2 : Int)), ([], (3 : Int), (3 : Int), (0 : Int), (0 : Int))], [([(0 : Int), (1 : Int), (2 : Int)], (1 : Int), a1), (a2, (0 : Int), (1 : Int))], [(0 : Int), (1 : Int)], [(1 : Int), (2 : Int)])

theorem law_quick_ok (k : Nat) (a0 : Int) (a1 : Int) (a2 : (List Int)) (r : dChange) (h : law_quick k a0 a1 a2 = some r) :
 Ctr Try.prog 58 [.eq (.int .i64 a0), .eq (.int .i64 a1), .rep (.slice (.int .i64)) a2] [] (fun _ : Unit => (resA [.rep tChange r], [])) := by
 unfold law_quick at h
 replace h := b_top h
 refine Ctr.of 23 Try.func58 rfl Try.ntmps58 rfl fun S w0 => ?_
 refine JC.seq ?_
 refine JC.region ?_
 refine JO.s01 rfl rfl rfl (o_alloc rfl za28 al28) trivial fun b1 => ?_
 refine JO.nil ?_
 refine JN.then_n ?_
 show JC _ _ _ _ _
 refine JC.seq ?_
 refine JC.region ?_
 refine JO.s rfl (o_litB (t := (.int .i64)) [(.const (.int .i64 (1)), _)] [(1 : Int)] rfl rfl sl22 (.cons rfl .int .nil) rfl rfl) ⟨rfl, trivial⟩ ?_
 refine JO.s rfl (o_buildT [(0, .tmp 7, _), (1, .const (.int .i64 (2)), _), (2, .const (.int .i64 (2)), _)] rfl pl45 za45 alb45 (stors ⟨rfl, rfl, rfl, trivial⟩) rfl) ⟨rfl, rfl, rfl, trivial⟩ ?_
 refine JO.mv rfl rfl ?_
 refine JO.s rfl (o_buildT [(1, .const (.int .i64 (1)), _), (2, .const (.int .i64 (1)), _), (3, .const (.int .i64 (1)), _), (4, .tmp 9, _)] rfl pl45 za45 alb45 (stors ⟨rfl, rfl, rfl, rfl, trivial⟩) rfl) ⟨rfl, rfl, rfl, rfl, trivial⟩ ?_
 refine JO.s rfl (o_buildT [(1, .const (.int .i64 (1)), _), (2, .const (.int .i64 (1)), _), (3, .const (.int .i64 (2)), _), (4, .const (.int .i64 (2)), _)] rfl pl45 za45 alb45 (stors ⟨rfl, rfl, rfl, rfl, trivial⟩) rfl) ⟨rfl, rfl, rfl, rfl, trivial⟩ ?_
 refine JO.s rfl (o_buildT [(1, .const (.int .i64 (3)), _), (2, .const (.int .i64 (3)), _)] rfl pl45 za45 alb45 (stors ⟨rfl, rfl, trivial⟩) rfl) ⟨rfl, rfl, trivial⟩ ?_
 refine JO.s rfl (o_litB (t := tThing) [(.tmp 8, _), (.tmp 10, _), (.tmp 11, _), (.tmp 12, _)] [([(1 : Int)], (2 : Int), (2 : Int), (0 : Int), (0 : Int)), ([], (1 : Int), (1 : Int), (1 : Int), a0), ([], (1 : Int), (1 : Int), (2 : Int), (2 : Int)), ([], (3 : Int), (3 : Int), (0 : Int), (0 : Int))] rfl rfl sl25 (.cons trivial (.agg (.pair .rep (.pair .int (.pair .int (.pair .int .int))))) (.cons trivial (.agg (.pair .nil (.pair .int (.pair .int (.pair .int .int))))) (.cons trivial (.agg (.pair .nil (.pair .int (.pair .int (.pair .int .int))))) (.cons trivial (.agg (.pair .nil (.pair .int (.pair .int (.pair .int .int))))) .nil)))) rfl rfl) ⟨rfl, rfl, rfl, rfl, trivial⟩ ?_
 refine JO.s rfl (o_litB (t := (.int .i64)) [(.const (.int .i64 (0)), _), (.const (.int .i64 (1)), _), (.const (.int .i64 (2)), _)] [(0 : Int), (1 : Int), (2 : Int)] rfl rfl sl22 (.cons rfl .int (.cons rfl .int (.cons rfl .int .nil))) rfl rfl) ⟨rfl, rfl, rfl, trivial⟩ ?_
 refine JO.mv rfl rfl ?_
 refine JO.s rfl (o_buildT [(0, .tmp 14, _), (1, .const (.int .i64 (1)), _), (2, .tmp 15, _)] rfl pl53 za53 alb53 (stors ⟨rfl, rfl, rfl, trivial⟩) rfl) ⟨rfl, rfl, rfl, trivial⟩ ?_
 refine JO.mv rfl rfl ?_
 refine JO.s rfl (o_buildT [(0, .tmp 17, _), (2, .const (.int .i64 (1)), _)] rfl pl53 za53 alb53 (stors ⟨rfl, rfl, trivial⟩) rfl) ⟨rfl, rfl, trivial⟩ ?_
 refine JO.s rfl (o_litB (t := tDresser) [(.tmp 16, _), (.tmp 18, _)] [([(0 : Int), (1 : Int), (2 : Int)], (1 : Int), a1), (a2, (0 : Int), (1 : Int))] rfl rfl sl26 (.cons trivial (.agg (.pair .rep (.pair .int .int))) (.cons trivial (.agg (.pair .rep (.pair .int .int))) .nil)) rfl rfl) ⟨rfl, rfl, trivial⟩ ?_
 refine JO.s rfl (o_litB (t := (.int .i64)) [(.const (.int .i64 (0)), _), (.const (.int .i64 (1)), _)] [(0 : Int), (1 : Int)] rfl rfl sl22 (.cons rfl .int (.cons rfl .int .nil)) rfl rfl) ⟨rfl, rfl, trivial⟩ ?_
 refine JO.s rfl (o_litB (t := (.int .i64)) [(.const (.int .i64 (1)), _), (.const (.int .i64 (2)), _)] [(1 : Int), (2 : Int)] rfl rfl sl22 (.cons rfl .int (.cons rfl .int .nil)) rfl rfl) ⟨rfl, rfl, trivial⟩ ?_
 refine JO.s rfl (o_buildT [(0, .tmp 13, _), (1, .tmp 19, _), (2, .tmp 20, _), (3, .tmp 21, _)] rfl pl28 za28 alb28 (stors ⟨rfl, rfl, rfl, rfl, trivial⟩) rfl) ⟨rfl, rfl, rfl, rfl, trivial⟩ ?_
 refine JO.n11 rfl rfl (o_store rfl sz28 trivial rfl rfl) ⟨rfl, rfl, trivial⟩ ?_
 refine JO.nil ?_
 refine JN.then_n ?_
 show JC _ _ _ _ _
 refine JC.ret ?_
 refine JN.se (SE.objE (a := .agg (.pair (.rep (.slice tThing) [([(1 : Int)], (2 : Int), (2 : Int), (0 : Int), (0 : Int)), ([], (1 : Int), (1 : Int), (1 : Int), a0), ([], (1 : Int), (1 : Int), (2 : Int), (2 : Int)), ([], (3 : Int), (3 : Int), (0 : Int), (0 : Int))]) (.pair (.rep (.slice tDresser) [([(0 : Int), (1 : Int), (2 : Int)], (1 : Int), a1), (a2, (0 : Int), (1 : Int))]) (.pair (.rep (.slice (.int .i64)) [(0 : Int), (1 : Int)]) (.rep (.slice (.int .i64)) [(1 : Int), (2 : Int)]))))) (a' := .rep tChange ([([(1 : Int)], (2 : Int), (2 : Int), (0 : Int), (0 : Int)), ([], (1 : Int), (1 : Int), (1 : Int), a0), ([], (1 : Int), (1 : Int), (2 : Int), (2 : Int)), ([], (3 : Int), (3 : Int), (0 : Int), (0 : Int))], [([(0 : Int), (1 : Int), (2 : Int)], (1 : Int), a1), (a2, (0 : Int), (1 : Int))], [(0 : Int), (1 : Int)], [(1 : Int), (2 : Int)])) (AE.ent (.agg (.pair .rep (.pair .rep (.pair .rep .rep)))))) ?_
 obtain rfl := Option.some.inj h
 exact JN.ret () [.rep tChange ([([(1 : Int)], (2 : Int), (2 : Int), (0 : Int), (0 : Int)), ([], (1 : Int), (1 : Int), (1 : Int), a0), ([], (1 : Int), (1 : Int), (2 : Int), (2 : Int)), ([], (3 : Int), (3 : Int), (0 : Int), (0 : Int))], [([(0 : Int), (1 : Int), (2 : Int)], (1 : Int), a1), (a2, (0 : Int), (1 : Int))], [(0 : Int), (1 : Int)], [(1 : Int), (2 : Int)])] 0 ⟨⟨_, _, _, _, _, rfl, (.head _), sz28, (nfn), rfl⟩, trivial⟩ rfl


def law_first (k : Nat) : Option (List dStep) :=
 some [((1 : Int), (0 : Int)), ((0 : Int), (0 : Int)), ((2 : Int), (0 : Int)), ((3 : Int), (1 : Int))]

theorem law_first_ok (k : Nat) (r : (List dStep)) (h : law_first k = some r) :
 Ctr Try.prog 59 [] [] (fun _ : Unit => (resA [.rep (.slice tStep) r], [])) := by
 unfold law_first at h
 replace h := b_top h
 refine Ctr.of 6 Try.func59 rfl Try.ntmps59 rfl fun S w0 => ?_
 refine JC.seq ?_
 refine JC.region ?_
 refine JO.ac rfl ?_
 refine JO.nil ?_
 refine JN.then_n ?_
 show JC _ _ _ _ _
 refine JC.seq ?_
 refine JC.region ?_
 refine JO.s rfl (o_buildT [(0, .const (.int .i64 (1)), _), (1, .const (.int .i64 (0)), _)] rfl pl43 za43 alb43 (stors ⟨rfl, rfl, trivial⟩) rfl) ⟨rfl, rfl, trivial⟩ ?_
 refine JO.s rfl (o_buildT [(0, .const (.int .i64 (0)), _), (1, .const (.int .i64 (0)), _)] rfl pl43 za43 alb43 (stors ⟨rfl, rfl, trivial⟩) rfl) ⟨rfl, rfl, trivial⟩ ?_
 refine JO.s rfl (o_buildT [(0, .const (.int .i64 (2)), _), (1, .const (.int .i64 (0)), _)] rfl pl43 za43 alb43 (stors ⟨rfl, rfl, trivial⟩) rfl) ⟨rfl, rfl, trivial⟩ ?_
 refine JO.s rfl (o_buildT [(0, .const (.int .i64 (3)), _), (1, .const (.int .i64 (1)), _)] rfl pl43 za43 alb43 (stors ⟨rfl, rfl, trivial⟩) rfl) ⟨rfl, rfl, trivial⟩ ?_
 refine JO.s rfl (o_litB (t := tStep) [(.tmp 1, _), (.tmp 2, _), (.tmp 3, _), (.tmp 4, _)] [((1 : Int), (0 : Int)), ((0 : Int), (0 : Int)), ((2 : Int), (0 : Int)), ((3 : Int), (1 : Int))] rfl rfl sl30 (.cons trivial (.agg (.pair .int .int)) (.cons trivial (.agg (.pair .int .int)) (.cons trivial (.agg (.pair .int .int)) (.cons trivial (.agg (.pair .int .int)) .nil)))) rfl rfl) ⟨rfl, rfl, rfl, rfl, trivial⟩ ?_
 refine JO.as rfl rfl ?_
 refine JO.nil ?_
 refine JN.then_n ?_
 show JC _ _ _ _ _
 refine JC.ret ?_
 obtain rfl := Option.some.inj h
 exact JN.ret () [_] 0 ⟨rfl, trivial⟩ rfl


def law_dressed (k : Nat) : Option Bool :=
 (law_quick k (0 : Int) (0 : Int) [(0 : Int), (2 : Int)]).bind fun r1 =>
 (chg_Fewest k r1).bind fun r3 =>
 (law_first k).bind fun r4 =>
 (chg_Begins k r1 r4).bind fun r5 =>
 (law_quick k (3 : Int) (0 : Int) [(0 : Int), (2 : Int)]).bind fun r6 =>
 (law_first k).bind fun r7 =>
 (chg_Late k r6 r7).bind fun r8 =>
 (chg_Spare k r1 (1 : Int)).bind fun r9 =>
 (law_first k).bind fun r10 =>
 (chg_Wearing k r1 r10 (4 : Int)).bind fun r11 =>
 (law_quick k (0 : Int) (3 : Int) [(0 : Int), (2 : Int)]).bind fun r12 =>
 (law_quick k (0 : Int) (3 : Int) [(0 : Int), (2 : Int)]).bind fun r13 =>
 (chg_Through k [r12, r13] [(0 : Int)]).bind fun r14 =>
 (law_quick k (0 : Int) (0 : Int) [(0 : Int)]).bind fun r15 =>
 (chg_Learn k r15).bind fun r16 =>
 ((if r3.2.2 = (0 : Int) then (if r5.2 = (0 : Int) then (if r8.2.2 = (0 : Int) then (if r9.2 = (0 : Int) then (if r11.2 = (0 : Int) then (if r14.2 = (0 : Int) then (if r16.2.2.2 = (0 : Int) then (if r3.2.1 = (4 : Int) then (if r8.1 = (2 : Int) then (if r8.2.1 = (3 : Int) then (if r9.1 = (3 : Int) then (if r16.1 = (1 : Int) then (if r16.2.1 = (2 : Int) then (if r16.2.2.1 = (4 : Int) then ((law_first k).bind fun r19 =>
 (kit_SameSteps k r3.1 r19).bind fun r20 =>
 if r20 = true then ((kit_SameInts k r5.1 [(0 : Int), (1 : Int), (3 : Int), (1 : Int)]).bind fun r21 =>
 if r21 = true then ((kit_SameInts k r11.1 [(1 : Int), (2 : Int)]).bind fun r22 =>
 if r22 = true then ((kit_SameInts k r14.1 [(7 : Int), (11 : Int)]).bind fun r23 =>
 some r23) else (some false)) else (some false)) else (some false)) else (some false)) else (some false)) else (some false)) else (some false)) else (some false)) else (some false)) else (some false)) else (some false)) else (some false)) else (some false)) else (some false)) else (some false)) else (some false)) else (some false)) : Option (Bool)).bind fun x17 =>
 some x17

theorem law_dressed_ok (k : Nat) (r : Bool) (h : law_dressed k = some r) :
 Ctr Try.prog 22 [] [] (fun _ : Unit => (resA [.eq (.bool r)], [])) := by
 unfold law_dressed at h
 replace h := b_top h
 refine Ctr.of 145 Try.func22 rfl Try.ntmps22 rfl fun S w0 => ?_
 refine JC.seq ?_
 refine JC.region ?_
 refine JO.ac rfl ?_
 refine JO.nil ?_
 refine JN.then_n ?_
 show JC _ _ _ _ _
 refine JC.seq ?_
 refine JC.region ?_
 refine JO.s rfl (o_litB (t := (.int .i64)) [(.const (.int .i64 (0)), _), (.const (.int .i64 (2)), _)] [(0 : Int), (2 : Int)] rfl rfl sl22 (.cons rfl .int (.cons rfl .int .nil)) rfl rfl) ⟨rfl, rfl, trivial⟩ ?_
 obtain ⟨r1, er1, h⟩ := b_bind h
 have cr1 := law_quick_ok k (0 : Int) (0 : Int) [(0 : Int), (2 : Int)] r1 er1
 refine JO.s rfl (o_call [.const (.int .i64 (0)), .const (.int .i64 (0)), .tmp 20] rfl rfl en58 rfl cr1) ⟨rfl, rfl, rfl, trivial⟩ ?_
 refine JO.s01 rfl rfl rfl (o_alloc rfl za28 al28) trivial fun b2 => ?_
 refine JO.n11 rfl rfl (o_store rfl sz28 rfl rfl rfl) ⟨rfl, rfl, trivial⟩ ?_
 refine JO.nil ?_
 refine JN.then_n ?_
 show JC _ _ _ _ _
 refine JC.seq ?_
 refine JC.region ?_
 refine JO.s11 rfl rfl rfl (o_load_obj rfl sz28 (nfn) rfl) ⟨rfl, trivial⟩ ?_
 obtain ⟨r3, er3, h⟩ := b_bind h
 have cr3 := chg_Fewest_ok k r1 r3 er3
 refine JO.s rfl (o_call [.tmp 23] rfl rfl en25 rfl cr3) ⟨rfl, trivial⟩ ?_
 refine JO.mv rfl rfl ?_
 refine JO.s rfl (o_extract rfl rfl) ⟨rfl, trivial⟩ ?_
 refine JO.s rfl (o_extract rfl rfl) ⟨rfl, trivial⟩ ?_
 refine JO.s rfl (o_extract rfl rfl) ⟨rfl, trivial⟩ ?_
 refine JO.as rfl rfl ?_
 refine JO.as rfl rfl ?_
 refine JO.as rfl rfl ?_
 refine JO.nil ?_
 refine JN.then_n ?_
 show JC _ _ _ _ _
 refine JC.seq ?_
 refine JC.drawN ?_
 refine DN.s11 0 rfl rfl rfl rfl (o_load_obj rfl sz28 (nfn) rfl) ⟨rfl, trivial⟩ ?_
 obtain ⟨r4, er4, h⟩ := b_bind h
 have cr4 := law_first_ok k  r4 er4
 refine DN.s00 rfl rfl rfl (o_call [] rfl rfl en59 rfl cr4) trivial ?_
 obtain ⟨r5, er5, h⟩ := b_bind h
 have cr5 := chg_Begins_ok k r1 r4 r5 er5
 refine DN.s00 rfl rfl rfl (o_call [.tmp 29, .tmp 30] rfl rfl en20 rfl cr5) ⟨rfl, rfl, trivial⟩ ?_
 refine DN.s00 rfl rfl rfl (o_move rfl) ⟨rfl, trivial⟩ ?_
 refine DN.s00 rfl rfl rfl (o_extract rfl rfl) ⟨rfl, trivial⟩ ?_
 refine DN.s00 rfl rfl rfl (o_extract rfl rfl) ⟨rfl, trivial⟩ ?_
 refine DN.s00 rfl rfl rfl (o_assign rfl) ⟨rfl, trivial⟩ ?_
 refine DN.fin (by kernel_rfl) mixed ?_
 refine JO.as rfl rfl ?_
 refine JO.nil ?_
 refine JN.then_n ?_
 show JC _ _ _ _ _
 refine JC.seq ?_
 refine JC.region ?_
 refine JO.s rfl (o_litB (t := (.int .i64)) [(.const (.int .i64 (0)), _), (.const (.int .i64 (2)), _)] [(0 : Int), (2 : Int)] rfl rfl sl22 (.cons rfl .int (.cons rfl .int .nil)) rfl rfl) ⟨rfl, rfl, trivial⟩ ?_
 obtain ⟨r6, er6, h⟩ := b_bind h
 have cr6 := law_quick_ok k (3 : Int) (0 : Int) [(0 : Int), (2 : Int)] r6 er6
 refine JO.s rfl (o_call [.const (.int .i64 (3)), .const (.int .i64 (0)), .tmp 35] rfl rfl en58 rfl cr6) ⟨rfl, rfl, rfl, trivial⟩ ?_
 obtain ⟨r7, er7, h⟩ := b_bind h
 have cr7 := law_first_ok k  r7 er7
 refine JO.s rfl (o_call [] rfl rfl en59 rfl cr7) trivial ?_
 obtain ⟨r8, er8, h⟩ := b_bind h
 have cr8 := chg_Late_ok k r6 r7 r8 er8
 refine JO.s rfl (o_call [.tmp 36, .tmp 37] rfl rfl en21 rfl cr8) ⟨rfl, rfl, trivial⟩ ?_
 refine JO.mv rfl rfl ?_
 refine JO.s rfl (o_extract rfl rfl) ⟨rfl, trivial⟩ ?_
 refine JO.s rfl (o_extract rfl rfl) ⟨rfl, trivial⟩ ?_
 refine JO.s rfl (o_extract rfl rfl) ⟨rfl, trivial⟩ ?_
 refine JO.as rfl rfl ?_
 refine JO.as rfl rfl ?_
 refine JO.as rfl rfl ?_
 refine JO.nil ?_
 refine JN.then_n ?_
 show JC _ _ _ _ _
 refine JC.seq ?_
 refine JC.region ?_
 refine JO.s11 rfl rfl rfl (o_load_obj rfl sz28 (nfn) rfl) ⟨rfl, trivial⟩ ?_
 obtain ⟨r9, er9, h⟩ := b_bind h
 have cr9 := chg_Spare_ok k r1 (1 : Int) r9 er9
 refine JO.s rfl (o_call [.tmp 43, .const (.int .i64 (1))] rfl rfl en26 rfl cr9) ⟨rfl, rfl, trivial⟩ ?_
 refine JO.mv rfl rfl ?_
 refine JO.s rfl (o_extract rfl rfl) ⟨rfl, trivial⟩ ?_
 refine JO.s rfl (o_extract rfl rfl) ⟨rfl, trivial⟩ ?_
 refine JO.as rfl rfl ?_
 refine JO.as rfl rfl ?_
 refine JO.nil ?_
 refine JN.then_n ?_
 show JC _ _ _ _ _
 refine JC.seq ?_
 refine JC.drawN ?_
 refine DN.s11 0 rfl rfl rfl rfl (o_load_obj rfl sz28 (nfn) rfl) ⟨rfl, trivial⟩ ?_
 obtain ⟨r10, er10, h⟩ := b_bind h
 have cr10 := law_first_ok k  r10 er10
 refine DN.s00 rfl rfl rfl (o_call [] rfl rfl en59 rfl cr10) trivial ?_
 obtain ⟨r11, er11, h⟩ := b_bind h
 have cr11 := chg_Wearing_ok k r1 r10 (4 : Int) r11 er11
 refine DN.s00 rfl rfl rfl (o_call [.tmp 48, .tmp 49, .const (.int .i64 (4))] rfl rfl en39 rfl cr11) ⟨rfl, rfl, rfl, trivial⟩ ?_
 refine DN.s00 rfl rfl rfl (o_move rfl) ⟨rfl, trivial⟩ ?_
 refine DN.s00 rfl rfl rfl (o_extract rfl rfl) ⟨rfl, trivial⟩ ?_
 refine DN.s00 rfl rfl rfl (o_extract rfl rfl) ⟨rfl, trivial⟩ ?_
 refine DN.s00 rfl rfl rfl (o_assign rfl) ⟨rfl, trivial⟩ ?_
 refine DN.fin (by kernel_rfl) mixed ?_
 refine JO.as rfl rfl ?_
 refine JO.nil ?_
 refine JN.then_n ?_
 show JC _ _ _ _ _
 refine JC.seq ?_
 refine JC.region ?_
 refine JO.s rfl (o_litB (t := (.int .i64)) [(.const (.int .i64 (0)), _), (.const (.int .i64 (2)), _)] [(0 : Int), (2 : Int)] rfl rfl sl22 (.cons rfl .int (.cons rfl .int .nil)) rfl rfl) ⟨rfl, rfl, trivial⟩ ?_
 obtain ⟨r12, er12, h⟩ := b_bind h
 have cr12 := law_quick_ok k (0 : Int) (3 : Int) [(0 : Int), (2 : Int)] r12 er12
 refine JO.s rfl (o_call [.const (.int .i64 (0)), .const (.int .i64 (3)), .tmp 54] rfl rfl en58 rfl cr12) ⟨rfl, rfl, rfl, trivial⟩ ?_
 refine JO.s rfl (o_litB (t := (.int .i64)) [(.const (.int .i64 (0)), _), (.const (.int .i64 (2)), _)] [(0 : Int), (2 : Int)] rfl rfl sl22 (.cons rfl .int (.cons rfl .int .nil)) rfl rfl) ⟨rfl, rfl, trivial⟩ ?_
 obtain ⟨r13, er13, h⟩ := b_bind h
 have cr13 := law_quick_ok k (0 : Int) (3 : Int) [(0 : Int), (2 : Int)] r13 er13
 refine JO.s rfl (o_call [.const (.int .i64 (0)), .const (.int .i64 (3)), .tmp 56] rfl rfl en58 rfl cr13) ⟨rfl, rfl, rfl, trivial⟩ ?_
 refine JO.s rfl (o_litB (t := tChange) [(.tmp 55, _), (.tmp 57, _)] [r12, r13] rfl rfl sl62 (.cons rfl .rep (.cons rfl .rep .nil)) rfl rfl) ⟨rfl, rfl, trivial⟩ ?_
 refine JO.s rfl (o_litB (t := (.int .i64)) [(.const (.int .i64 (0)), _)] [(0 : Int)] rfl rfl sl22 (.cons rfl .int .nil) rfl rfl) ⟨rfl, trivial⟩ ?_
 obtain ⟨r14, er14, h⟩ := b_bind h
 have cr14 := chg_Through_ok k [r12, r13] [(0 : Int)] r14 er14
 refine JO.s rfl (o_call [.tmp 58, .tmp 59] rfl rfl en33 rfl cr14) ⟨rfl, rfl, trivial⟩ ?_
 refine JO.mv rfl rfl ?_
 refine JO.s rfl (o_extract rfl rfl) ⟨rfl, trivial⟩ ?_
 refine JO.s rfl (o_extract rfl rfl) ⟨rfl, trivial⟩ ?_
 refine JO.as rfl rfl ?_
 refine JO.as rfl rfl ?_
 refine JO.nil ?_
 refine JN.then_n ?_
 show JC _ _ _ _ _
 refine JC.seq ?_
 refine JC.region ?_
 refine JO.s rfl (o_litB (t := (.int .i64)) [(.const (.int .i64 (0)), _)] [(0 : Int)] rfl rfl sl22 (.cons rfl .int .nil) rfl rfl) ⟨rfl, trivial⟩ ?_
 obtain ⟨r15, er15, h⟩ := b_bind h
 have cr15 := law_quick_ok k (0 : Int) (0 : Int) [(0 : Int)] r15 er15
 refine JO.s rfl (o_call [.const (.int .i64 (0)), .const (.int .i64 (0)), .tmp 64] rfl rfl en58 rfl cr15) ⟨rfl, rfl, rfl, trivial⟩ ?_
 obtain ⟨r16, er16, h⟩ := b_bind h
 have cr16 := chg_Learn_ok k r15 r16 er16
 refine JO.s rfl (o_call [.tmp 65] rfl rfl en29 rfl cr16) ⟨rfl, trivial⟩ ?_
 refine JO.mv rfl rfl ?_
 refine JO.s rfl (o_extract rfl rfl) ⟨rfl, trivial⟩ ?_
 refine JO.s rfl (o_extract rfl rfl) ⟨rfl, trivial⟩ ?_
 refine JO.s rfl (o_extract rfl rfl) ⟨rfl, trivial⟩ ?_
 refine JO.s rfl (o_extract rfl rfl) ⟨rfl, trivial⟩ ?_
 refine JO.as rfl rfl ?_
 refine JO.as rfl rfl ?_
 refine JO.as rfl rfl ?_
 refine JO.as rfl rfl ?_
 refine JO.nil ?_
 refine JN.then_n ?_
 show JC _ _ _ _ _
 refine JC.cutB (Z := Unit) (α := Bool) (fun z18 x17 => [(0, .eq (.bool x17))]) (fun z18 x17 => []) h (fun K h => ?_) (fun z18 x17 h => ?_)
 ·
  refine JC.region ?_
  refine JO.mv rfl rfl ?_
  refine JO.s rfl (o_eql rfl) ⟨rfl, rfl, trivial⟩ ?_
  refine JO.mv rfl rfl ?_
  refine JO.bool (s := 73) rfl (fun hb => ?_) (fun hb => ?_)
  ·
   replace h := b_if (d_t hb) h
   refine JO.g00 rfl rfl rfl rfl rfl rfl (o_move rfl) ⟨rfl, trivial⟩ ?_
   refine JO.g00 rfl rfl rfl rfl rfl rfl (o_eql rfl) ⟨rfl, rfl, trivial⟩ ?_
   refine JO.s rfl (o_pick_t rfl) ⟨rfl, rfl, trivial⟩ ?_
   refine JO.mv rfl rfl ?_
   refine JO.bool (s := 77) rfl (fun hb => ?_) (fun hb => ?_)
   ·
    replace h := b_if (d_t hb) h
    refine JO.g00 rfl rfl rfl rfl rfl rfl (o_move rfl) ⟨rfl, trivial⟩ ?_
    refine JO.g00 rfl rfl rfl rfl rfl rfl (o_eql rfl) ⟨rfl, rfl, trivial⟩ ?_
    refine JO.s rfl (o_pick_t rfl) ⟨rfl, rfl, trivial⟩ ?_
    refine JO.mv rfl rfl ?_
    refine JO.bool (s := 81) rfl (fun hb => ?_) (fun hb => ?_)
    ·
     replace h := b_if (d_t hb) h
     refine JO.g00 rfl rfl rfl rfl rfl rfl (o_move rfl) ⟨rfl, trivial⟩ ?_
     refine JO.g00 rfl rfl rfl rfl rfl rfl (o_eql rfl) ⟨rfl, rfl, trivial⟩ ?_
     refine JO.s rfl (o_pick_t rfl) ⟨rfl, rfl, trivial⟩ ?_
     refine JO.mv rfl rfl ?_
     refine JO.bool (s := 85) rfl (fun hb => ?_) (fun hb => ?_)
     ·
      replace h := b_if (d_t hb) h
      refine JO.g00 rfl rfl rfl rfl rfl rfl (o_move rfl) ⟨rfl, trivial⟩ ?_
      refine JO.g00 rfl rfl rfl rfl rfl rfl (o_eql rfl) ⟨rfl, rfl, trivial⟩ ?_
      refine JO.s rfl (o_pick_t rfl) ⟨rfl, rfl, trivial⟩ ?_
      refine JO.mv rfl rfl ?_
      refine JO.bool (s := 89) rfl (fun hb => ?_) (fun hb => ?_)
      ·
       replace h := b_if (d_t hb) h
       refine JO.g00 rfl rfl rfl rfl rfl rfl (o_move rfl) ⟨rfl, trivial⟩ ?_
       refine JO.g00 rfl rfl rfl rfl rfl rfl (o_eql rfl) ⟨rfl, rfl, trivial⟩ ?_
       refine JO.s rfl (o_pick_t rfl) ⟨rfl, rfl, trivial⟩ ?_
       refine JO.mv rfl rfl ?_
       refine JO.bool (s := 93) rfl (fun hb => ?_) (fun hb => ?_)
       ·
        replace h := b_if (d_t hb) h
        refine JO.g00 rfl rfl rfl rfl rfl rfl (o_move rfl) ⟨rfl, trivial⟩ ?_
        refine JO.g00 rfl rfl rfl rfl rfl rfl (o_eql rfl) ⟨rfl, rfl, trivial⟩ ?_
        refine JO.s rfl (o_pick_t rfl) ⟨rfl, rfl, trivial⟩ ?_
        refine JO.mv rfl rfl ?_
        refine JO.bool (s := 97) rfl (fun hb => ?_) (fun hb => ?_)
        ·
         replace h := b_if (d_t hb) h
         refine JO.g00 rfl rfl rfl rfl rfl rfl (o_move rfl) ⟨rfl, trivial⟩ ?_
         refine JO.g00 rfl rfl rfl rfl rfl rfl (o_eql rfl) ⟨rfl, rfl, trivial⟩ ?_
         refine JO.s rfl (o_pick_t rfl) ⟨rfl, rfl, trivial⟩ ?_
         refine JO.mv rfl rfl ?_
         refine JO.bool (s := 101) rfl (fun hb => ?_) (fun hb => ?_)
         ·
          replace h := b_if (d_t hb) h
          refine JO.g00 rfl rfl rfl rfl rfl rfl (o_move rfl) ⟨rfl, trivial⟩ ?_
          refine JO.g00 rfl rfl rfl rfl rfl rfl (o_eql rfl) ⟨rfl, rfl, trivial⟩ ?_
          refine JO.s rfl (o_pick_t rfl) ⟨rfl, rfl, trivial⟩ ?_
          refine JO.mv rfl rfl ?_
          refine JO.bool (s := 105) rfl (fun hb => ?_) (fun hb => ?_)
          ·
           replace h := b_if (d_t hb) h
           refine JO.g00 rfl rfl rfl rfl rfl rfl (o_move rfl) ⟨rfl, trivial⟩ ?_
           refine JO.g00 rfl rfl rfl rfl rfl rfl (o_eql rfl) ⟨rfl, rfl, trivial⟩ ?_
           refine JO.s rfl (o_pick_t rfl) ⟨rfl, rfl, trivial⟩ ?_
           refine JO.mv rfl rfl ?_
           refine JO.bool (s := 109) rfl (fun hb => ?_) (fun hb => ?_)
           ·
            replace h := b_if (d_t hb) h
            refine JO.g00 rfl rfl rfl rfl rfl rfl (o_move rfl) ⟨rfl, trivial⟩ ?_
            refine JO.g00 rfl rfl rfl rfl rfl rfl (o_eql rfl) ⟨rfl, rfl, trivial⟩ ?_
            refine JO.s rfl (o_pick_t rfl) ⟨rfl, rfl, trivial⟩ ?_
            refine JO.mv rfl rfl ?_
            refine JO.bool (s := 113) rfl (fun hb => ?_) (fun hb => ?_)
            ·
             replace h := b_if (d_t hb) h
             refine JO.g00 rfl rfl rfl rfl rfl rfl (o_move rfl) ⟨rfl, trivial⟩ ?_
             refine JO.g00 rfl rfl rfl rfl rfl rfl (o_eql rfl) ⟨rfl, rfl, trivial⟩ ?_
             refine JO.s rfl (o_pick_t rfl) ⟨rfl, rfl, trivial⟩ ?_
             refine JO.mv rfl rfl ?_
             refine JO.bool (s := 117) rfl (fun hb => ?_) (fun hb => ?_)
             ·
              replace h := b_if (d_t hb) h
              refine JO.g00 rfl rfl rfl rfl rfl rfl (o_move rfl) ⟨rfl, trivial⟩ ?_
              refine JO.g00 rfl rfl rfl rfl rfl rfl (o_eql rfl) ⟨rfl, rfl, trivial⟩ ?_
              refine JO.s rfl (o_pick_t rfl) ⟨rfl, rfl, trivial⟩ ?_
              refine JO.mv rfl rfl ?_
              refine JO.bool (s := 121) rfl (fun hb => ?_) (fun hb => ?_)
              ·
               replace h := b_if (d_t hb) h
               refine JO.g00 rfl rfl rfl rfl rfl rfl (o_move rfl) ⟨rfl, trivial⟩ ?_
               refine JO.g00 rfl rfl rfl rfl rfl rfl (o_eql rfl) ⟨rfl, rfl, trivial⟩ ?_
               refine JO.s rfl (o_pick_t rfl) ⟨rfl, rfl, trivial⟩ ?_
               refine JO.mv rfl rfl ?_
               refine JO.bool (s := 125) rfl (fun hb => ?_) (fun hb => ?_)
               ·
                replace h := b_if (d_t hb) h
                refine JO.g00 rfl rfl rfl rfl rfl rfl (o_move rfl) ⟨rfl, trivial⟩ ?_
                obtain ⟨r19, er19, h⟩ := b_bind h
                have cr19 := law_first_ok k  r19 er19
                refine JO.g00 rfl rfl rfl rfl rfl rfl (o_call [] rfl rfl en59 rfl cr19) trivial ?_
                obtain ⟨r20, er20, h⟩ := b_bind h
                have cr20 := kit_SameSteps_ok k r3.1 r19 r20 er20
                refine JO.g00 rfl rfl rfl rfl rfl rfl (o_call [.tmp 126, .tmp 127] rfl rfl en44 rfl cr20) ⟨rfl, rfl, trivial⟩ ?_
                refine JO.s rfl (o_pick_t rfl) ⟨rfl, rfl, trivial⟩ ?_
                refine JO.mv rfl rfl ?_
                refine JO.bool (s := 130) rfl (fun hb => ?_) (fun hb => ?_)
                ·
                 replace h := b_if (v_t hb) h
                 refine JO.g00 rfl rfl rfl rfl rfl rfl (o_move rfl) ⟨rfl, trivial⟩ ?_
                 refine JO.g00 rfl rfl rfl rfl rfl rfl (o_litB (t := (.int .i64)) [(.const (.int .i64 (0)), _), (.const (.int .i64 (1)), _), (.const (.int .i64 (3)), _), (.const (.int .i64 (1)), _)] [(0 : Int), (1 : Int), (3 : Int), (1 : Int)] rfl rfl sl22 (.cons rfl .int (.cons rfl .int (.cons rfl .int (.cons rfl .int .nil)))) rfl rfl) ⟨rfl, rfl, rfl, rfl, trivial⟩ ?_
                 obtain ⟨r21, er21, h⟩ := b_bind h
                 have cr21 := kit_SameInts_ok k r5.1 [(0 : Int), (1 : Int), (3 : Int), (1 : Int)] r21 er21
                 refine JO.g00 rfl rfl rfl rfl rfl rfl (o_call [.tmp 131, .tmp 132] rfl rfl en40 rfl cr21) ⟨rfl, rfl, trivial⟩ ?_
                 refine JO.s rfl (o_pick_t rfl) ⟨rfl, rfl, trivial⟩ ?_
                 refine JO.mv rfl rfl ?_
                 refine JO.bool (s := 135) rfl (fun hb => ?_) (fun hb => ?_)
                 ·
                  replace h := b_if (v_t hb) h
                  refine JO.g00 rfl rfl rfl rfl rfl rfl (o_move rfl) ⟨rfl, trivial⟩ ?_
                  refine JO.g00 rfl rfl rfl rfl rfl rfl (o_litB (t := (.int .i64)) [(.const (.int .i64 (1)), _), (.const (.int .i64 (2)), _)] [(1 : Int), (2 : Int)] rfl rfl sl22 (.cons rfl .int (.cons rfl .int .nil)) rfl rfl) ⟨rfl, rfl, trivial⟩ ?_
                  obtain ⟨r22, er22, h⟩ := b_bind h
                  have cr22 := kit_SameInts_ok k r11.1 [(1 : Int), (2 : Int)] r22 er22
                  refine JO.g00 rfl rfl rfl rfl rfl rfl (o_call [.tmp 136, .tmp 137] rfl rfl en40 rfl cr22) ⟨rfl, rfl, trivial⟩ ?_
                  refine JO.s rfl (o_pick_t rfl) ⟨rfl, rfl, trivial⟩ ?_
                  refine JO.mv rfl rfl ?_
                  refine JO.bool (s := 140) rfl (fun hb => ?_) (fun hb => ?_)
                  ·
                   replace h := b_if (v_t hb) h
                   refine JO.g00 rfl rfl rfl rfl rfl rfl (o_move rfl) ⟨rfl, trivial⟩ ?_
                   refine JO.g00 rfl rfl rfl rfl rfl rfl (o_litB (t := (.int .i64)) [(.const (.int .i64 (7)), _), (.const (.int .i64 (11)), _)] [(7 : Int), (11 : Int)] rfl rfl sl22 (.cons rfl .int (.cons rfl .int .nil)) rfl rfl) ⟨rfl, rfl, trivial⟩ ?_
                   obtain ⟨r23, er23, h⟩ := b_bind h
                   have cr23 := kit_SameInts_ok k r14.1 [(7 : Int), (11 : Int)] r23 er23
                   refine JO.g00 rfl rfl rfl rfl rfl rfl (o_call [.tmp 141, .tmp 142] rfl rfl en40 rfl cr23) ⟨rfl, rfl, trivial⟩ ?_
                   refine JO.s rfl (o_pick_t rfl) ⟨rfl, rfl, trivial⟩ ?_
                   refine JO.as rfl rfl ?_
                   refine JO.nil ?_
                   refine JN.then_n ?_
                   exact JN.z ((), r23) h (SE.fin [] ⟨rfl, trivial⟩ rfl)
                  ·
                   replace h := b_ifn (v_f hb) h
                   refine JO.gno rfl rfl rfl rfl rfl rfl rfl ?_
                   refine JO.gno rfl rfl rfl rfl rfl rfl rfl ?_
                   refine JO.gno rfl rfl rfl rfl rfl rfl rfl ?_
                   refine JO.s rfl (o_pick_f rfl) ⟨rfl, rfl, trivial⟩ ?_
                   refine JO.as rfl rfl ?_
                   refine JO.nil ?_
                   refine JN.then_n ?_
                   exact JN.z ((), false) h (SE.fin [] ⟨rfl, trivial⟩ rfl)
                 ·
                  replace h := b_ifn (v_f hb) h
                  refine JO.gno rfl rfl rfl rfl rfl rfl rfl ?_
                  refine JO.gno rfl rfl rfl rfl rfl rfl rfl ?_
                  refine JO.gno rfl rfl rfl rfl rfl rfl rfl ?_
                  refine JO.s rfl (o_pick_f rfl) ⟨rfl, rfl, trivial⟩ ?_
                  refine JO.mv rfl rfl ?_
                  refine JO.gno rfl rfl rfl rfl rfl rfl rfl ?_
                  refine JO.gno rfl rfl rfl rfl rfl rfl rfl ?_
                  refine JO.gno rfl rfl rfl rfl rfl rfl rfl ?_
                  refine JO.s rfl (o_pick_f rfl) ⟨rfl, rfl, trivial⟩ ?_
                  refine JO.as rfl rfl ?_
                  refine JO.nil ?_
                  refine JN.then_n ?_
                  exact JN.z ((), false) h (SE.fin [] ⟨rfl, trivial⟩ rfl)
                ·
                 replace h := b_ifn (v_f hb) h
                 refine JO.gno rfl rfl rfl rfl rfl rfl rfl ?_
                 refine JO.gno rfl rfl rfl rfl rfl rfl rfl ?_
                 refine JO.gno rfl rfl rfl rfl rfl rfl rfl ?_
                 refine JO.s rfl (o_pick_f rfl) ⟨rfl, rfl, trivial⟩ ?_
                 refine JO.mv rfl rfl ?_
                 refine JO.gno rfl rfl rfl rfl rfl rfl rfl ?_
                 refine JO.gno rfl rfl rfl rfl rfl rfl rfl ?_
                 refine JO.gno rfl rfl rfl rfl rfl rfl rfl ?_
                 refine JO.s rfl (o_pick_f rfl) ⟨rfl, rfl, trivial⟩ ?_
                 refine JO.mv rfl rfl ?_
                 refine JO.gno rfl rfl rfl rfl rfl rfl rfl ?_
                 refine JO.gno rfl rfl rfl rfl rfl rfl rfl ?_
                 refine JO.gno rfl rfl rfl rfl rfl rfl rfl ?_
                 refine JO.s rfl (o_pick_f rfl) ⟨rfl, rfl, trivial⟩ ?_
                 refine JO.as rfl rfl ?_
                 refine JO.nil ?_
                 refine JN.then_n ?_
                 exact JN.z ((), false) h (SE.fin [] ⟨rfl, trivial⟩ rfl)
               ·
                replace h := b_ifn (d_f hb) h
                refine JO.gno rfl rfl rfl rfl rfl rfl rfl ?_
                refine JO.gno rfl rfl rfl rfl rfl rfl rfl ?_
                refine JO.gno rfl rfl rfl rfl rfl rfl rfl ?_
                refine JO.s rfl (o_pick_f rfl) ⟨rfl, rfl, trivial⟩ ?_
                refine JO.mv rfl rfl ?_
                refine JO.gno rfl rfl rfl rfl rfl rfl rfl ?_
                refine JO.gno rfl rfl rfl rfl rfl rfl rfl ?_
                refine JO.gno rfl rfl rfl rfl rfl rfl rfl ?_
                refine JO.s rfl (o_pick_f rfl) ⟨rfl, rfl, trivial⟩ ?_
                refine JO.mv rfl rfl ?_
                refine JO.gno rfl rfl rfl rfl rfl rfl rfl ?_
                refine JO.gno rfl rfl rfl rfl rfl rfl rfl ?_
                refine JO.gno rfl rfl rfl rfl rfl rfl rfl ?_
                refine JO.s rfl (o_pick_f rfl) ⟨rfl, rfl, trivial⟩ ?_
                refine JO.mv rfl rfl ?_
                refine JO.gno rfl rfl rfl rfl rfl rfl rfl ?_
                refine JO.gno rfl rfl rfl rfl rfl rfl rfl ?_
                refine JO.gno rfl rfl rfl rfl rfl rfl rfl ?_
                refine JO.s rfl (o_pick_f rfl) ⟨rfl, rfl, trivial⟩ ?_
                refine JO.as rfl rfl ?_
                refine JO.nil ?_
                refine JN.then_n ?_
                exact JN.z ((), false) h (SE.fin [] ⟨rfl, trivial⟩ rfl)
              ·
               replace h := b_ifn (d_f hb) h
               refine JO.gno rfl rfl rfl rfl rfl rfl rfl ?_
               refine JO.gno rfl rfl rfl rfl rfl rfl rfl ?_
               refine JO.s rfl (o_pick_f rfl) ⟨rfl, rfl, trivial⟩ ?_
               refine JO.mv rfl rfl ?_
               refine JO.gno rfl rfl rfl rfl rfl rfl rfl ?_
               refine JO.gno rfl rfl rfl rfl rfl rfl rfl ?_
               refine JO.gno rfl rfl rfl rfl rfl rfl rfl ?_
               refine JO.s rfl (o_pick_f rfl) ⟨rfl, rfl, trivial⟩ ?_
               refine JO.mv rfl rfl ?_
               refine JO.gno rfl rfl rfl rfl rfl rfl rfl ?_
               refine JO.gno rfl rfl rfl rfl rfl rfl rfl ?_
               refine JO.gno rfl rfl rfl rfl rfl rfl rfl ?_
               refine JO.s rfl (o_pick_f rfl) ⟨rfl, rfl, trivial⟩ ?_
               refine JO.mv rfl rfl ?_
               refine JO.gno rfl rfl rfl rfl rfl rfl rfl ?_
               refine JO.gno rfl rfl rfl rfl rfl rfl rfl ?_
               refine JO.gno rfl rfl rfl rfl rfl rfl rfl ?_
               refine JO.s rfl (o_pick_f rfl) ⟨rfl, rfl, trivial⟩ ?_
               refine JO.mv rfl rfl ?_
               refine JO.gno rfl rfl rfl rfl rfl rfl rfl ?_
               refine JO.gno rfl rfl rfl rfl rfl rfl rfl ?_
               refine JO.gno rfl rfl rfl rfl rfl rfl rfl ?_
               refine JO.s rfl (o_pick_f rfl) ⟨rfl, rfl, trivial⟩ ?_
               refine JO.as rfl rfl ?_
               refine JO.nil ?_
               refine JN.then_n ?_
               exact JN.z ((), false) h (SE.fin [] ⟨rfl, trivial⟩ rfl)
             ·
              replace h := b_ifn (d_f hb) h
              refine JO.gno rfl rfl rfl rfl rfl rfl rfl ?_
              refine JO.gno rfl rfl rfl rfl rfl rfl rfl ?_
              refine JO.s rfl (o_pick_f rfl) ⟨rfl, rfl, trivial⟩ ?_
              refine JO.mv rfl rfl ?_
              refine JO.gno rfl rfl rfl rfl rfl rfl rfl ?_
              refine JO.gno rfl rfl rfl rfl rfl rfl rfl ?_
              refine JO.s rfl (o_pick_f rfl) ⟨rfl, rfl, trivial⟩ ?_
              refine JO.mv rfl rfl ?_
              refine JO.gno rfl rfl rfl rfl rfl rfl rfl ?_
              refine JO.gno rfl rfl rfl rfl rfl rfl rfl ?_
              refine JO.gno rfl rfl rfl rfl rfl rfl rfl ?_
              refine JO.s rfl (o_pick_f rfl) ⟨rfl, rfl, trivial⟩ ?_
              refine JO.mv rfl rfl ?_
              refine JO.gno rfl rfl rfl rfl rfl rfl rfl ?_
              refine JO.gno rfl rfl rfl rfl rfl rfl rfl ?_
              refine JO.gno rfl rfl rfl rfl rfl rfl rfl ?_
              refine JO.s rfl (o_pick_f rfl) ⟨rfl, rfl, trivial⟩ ?_
              refine JO.mv rfl rfl ?_
              refine JO.gno rfl rfl rfl rfl rfl rfl rfl ?_
              refine JO.gno rfl rfl rfl rfl rfl rfl rfl ?_
              refine JO.gno rfl rfl rfl rfl rfl rfl rfl ?_
              refine JO.s rfl (o_pick_f rfl) ⟨rfl, rfl, trivial⟩ ?_
              refine JO.mv rfl rfl ?_
              refine JO.gno rfl rfl rfl rfl rfl rfl rfl ?_
              refine JO.gno rfl rfl rfl rfl rfl rfl rfl ?_
              refine JO.gno rfl rfl rfl rfl rfl rfl rfl ?_
              refine JO.s rfl (o_pick_f rfl) ⟨rfl, rfl, trivial⟩ ?_
              refine JO.as rfl rfl ?_
              refine JO.nil ?_
              refine JN.then_n ?_
              exact JN.z ((), false) h (SE.fin [] ⟨rfl, trivial⟩ rfl)
            ·
             replace h := b_ifn (d_f hb) h
             refine JO.gno rfl rfl rfl rfl rfl rfl rfl ?_
             refine JO.gno rfl rfl rfl rfl rfl rfl rfl ?_
             refine JO.s rfl (o_pick_f rfl) ⟨rfl, rfl, trivial⟩ ?_
             refine JO.mv rfl rfl ?_
             refine JO.gno rfl rfl rfl rfl rfl rfl rfl ?_
             refine JO.gno rfl rfl rfl rfl rfl rfl rfl ?_
             refine JO.s rfl (o_pick_f rfl) ⟨rfl, rfl, trivial⟩ ?_
             refine JO.mv rfl rfl ?_
             refine JO.gno rfl rfl rfl rfl rfl rfl rfl ?_
             refine JO.gno rfl rfl rfl rfl rfl rfl rfl ?_
             refine JO.s rfl (o_pick_f rfl) ⟨rfl, rfl, trivial⟩ ?_
             refine JO.mv rfl rfl ?_
             refine JO.gno rfl rfl rfl rfl rfl rfl rfl ?_
             refine JO.gno rfl rfl rfl rfl rfl rfl rfl ?_
             refine JO.gno rfl rfl rfl rfl rfl rfl rfl ?_
             refine JO.s rfl (o_pick_f rfl) ⟨rfl, rfl, trivial⟩ ?_
             refine JO.mv rfl rfl ?_
             refine JO.gno rfl rfl rfl rfl rfl rfl rfl ?_
             refine JO.gno rfl rfl rfl rfl rfl rfl rfl ?_
             refine JO.gno rfl rfl rfl rfl rfl rfl rfl ?_
             refine JO.s rfl (o_pick_f rfl) ⟨rfl, rfl, trivial⟩ ?_
             refine JO.mv rfl rfl ?_
             refine JO.gno rfl rfl rfl rfl rfl rfl rfl ?_
             refine JO.gno rfl rfl rfl rfl rfl rfl rfl ?_
             refine JO.gno rfl rfl rfl rfl rfl rfl rfl ?_
             refine JO.s rfl (o_pick_f rfl) ⟨rfl, rfl, trivial⟩ ?_
             refine JO.mv rfl rfl ?_
             refine JO.gno rfl rfl rfl rfl rfl rfl rfl ?_
             refine JO.gno rfl rfl rfl rfl rfl rfl rfl ?_
             refine JO.gno rfl rfl rfl rfl rfl rfl rfl ?_
             refine JO.s rfl (o_pick_f rfl) ⟨rfl, rfl, trivial⟩ ?_
             refine JO.as rfl rfl ?_
             refine JO.nil ?_
             refine JN.then_n ?_
             exact JN.z ((), false) h (SE.fin [] ⟨rfl, trivial⟩ rfl)
           ·
            replace h := b_ifn (d_f hb) h
            refine JO.gno rfl rfl rfl rfl rfl rfl rfl ?_
            refine JO.gno rfl rfl rfl rfl rfl rfl rfl ?_
            refine JO.s rfl (o_pick_f rfl) ⟨rfl, rfl, trivial⟩ ?_
            refine JO.mv rfl rfl ?_
            refine JO.gno rfl rfl rfl rfl rfl rfl rfl ?_
            refine JO.gno rfl rfl rfl rfl rfl rfl rfl ?_
            refine JO.s rfl (o_pick_f rfl) ⟨rfl, rfl, trivial⟩ ?_
            refine JO.mv rfl rfl ?_
            refine JO.gno rfl rfl rfl rfl rfl rfl rfl ?_
            refine JO.gno rfl rfl rfl rfl rfl rfl rfl ?_
            refine JO.s rfl (o_pick_f rfl) ⟨rfl, rfl, trivial⟩ ?_
            refine JO.mv rfl rfl ?_
            refine JO.gno rfl rfl rfl rfl rfl rfl rfl ?_
            refine JO.gno rfl rfl rfl rfl rfl rfl rfl ?_
            refine JO.s rfl (o_pick_f rfl) ⟨rfl, rfl, trivial⟩ ?_
            refine JO.mv rfl rfl ?_
            refine JO.gno rfl rfl rfl rfl rfl rfl rfl ?_
            refine JO.gno rfl rfl rfl rfl rfl rfl rfl ?_
            refine JO.gno rfl rfl rfl rfl rfl rfl rfl ?_
            refine JO.s rfl (o_pick_f rfl) ⟨rfl, rfl, trivial⟩ ?_
            refine JO.mv rfl rfl ?_
            refine JO.gno rfl rfl rfl rfl rfl rfl rfl ?_
            refine JO.gno rfl rfl rfl rfl rfl rfl rfl ?_
            refine JO.gno rfl rfl rfl rfl rfl rfl rfl ?_
            refine JO.s rfl (o_pick_f rfl) ⟨rfl, rfl, trivial⟩ ?_
            refine JO.mv rfl rfl ?_
            refine JO.gno rfl rfl rfl rfl rfl rfl rfl ?_
            refine JO.gno rfl rfl rfl rfl rfl rfl rfl ?_
            refine JO.gno rfl rfl rfl rfl rfl rfl rfl ?_
            refine JO.s rfl (o_pick_f rfl) ⟨rfl, rfl, trivial⟩ ?_
            refine JO.mv rfl rfl ?_
            refine JO.gno rfl rfl rfl rfl rfl rfl rfl ?_
            refine JO.gno rfl rfl rfl rfl rfl rfl rfl ?_
            refine JO.gno rfl rfl rfl rfl rfl rfl rfl ?_
            refine JO.s rfl (o_pick_f rfl) ⟨rfl, rfl, trivial⟩ ?_
            refine JO.as rfl rfl ?_
            refine JO.nil ?_
            refine JN.then_n ?_
            exact JN.z ((), false) h (SE.fin [] ⟨rfl, trivial⟩ rfl)
          ·
           replace h := b_ifn (d_f hb) h
           refine JO.gno rfl rfl rfl rfl rfl rfl rfl ?_
           refine JO.gno rfl rfl rfl rfl rfl rfl rfl ?_
           refine JO.s rfl (o_pick_f rfl) ⟨rfl, rfl, trivial⟩ ?_
           refine JO.mv rfl rfl ?_
           refine JO.gno rfl rfl rfl rfl rfl rfl rfl ?_
           refine JO.gno rfl rfl rfl rfl rfl rfl rfl ?_
           refine JO.s rfl (o_pick_f rfl) ⟨rfl, rfl, trivial⟩ ?_
           refine JO.mv rfl rfl ?_
           refine JO.gno rfl rfl rfl rfl rfl rfl rfl ?_
           refine JO.gno rfl rfl rfl rfl rfl rfl rfl ?_
           refine JO.s rfl (o_pick_f rfl) ⟨rfl, rfl, trivial⟩ ?_
           refine JO.mv rfl rfl ?_
           refine JO.gno rfl rfl rfl rfl rfl rfl rfl ?_
           refine JO.gno rfl rfl rfl rfl rfl rfl rfl ?_
           refine JO.s rfl (o_pick_f rfl) ⟨rfl, rfl, trivial⟩ ?_
           refine JO.mv rfl rfl ?_
           refine JO.gno rfl rfl rfl rfl rfl rfl rfl ?_
           refine JO.gno rfl rfl rfl rfl rfl rfl rfl ?_
           refine JO.s rfl (o_pick_f rfl) ⟨rfl, rfl, trivial⟩ ?_
           refine JO.mv rfl rfl ?_
           refine JO.gno rfl rfl rfl rfl rfl rfl rfl ?_
           refine JO.gno rfl rfl rfl rfl rfl rfl rfl ?_
           refine JO.gno rfl rfl rfl rfl rfl rfl rfl ?_
           refine JO.s rfl (o_pick_f rfl) ⟨rfl, rfl, trivial⟩ ?_
           refine JO.mv rfl rfl ?_
           refine JO.gno rfl rfl rfl rfl rfl rfl rfl ?_
           refine JO.gno rfl rfl rfl rfl rfl rfl rfl ?_
           refine JO.gno rfl rfl rfl rfl rfl rfl rfl ?_
           refine JO.s rfl (o_pick_f rfl) ⟨rfl, rfl, trivial⟩ ?_
           refine JO.mv rfl rfl ?_
           refine JO.gno rfl rfl rfl rfl rfl rfl rfl ?_
           refine JO.gno rfl rfl rfl rfl rfl rfl rfl ?_
           refine JO.gno rfl rfl rfl rfl rfl rfl rfl ?_
           refine JO.s rfl (o_pick_f rfl) ⟨rfl, rfl, trivial⟩ ?_
           refine JO.mv rfl rfl ?_
           refine JO.gno rfl rfl rfl rfl rfl rfl rfl ?_
           refine JO.gno rfl rfl rfl rfl rfl rfl rfl ?_
           refine JO.gno rfl rfl rfl rfl rfl rfl rfl ?_
           refine JO.s rfl (o_pick_f rfl) ⟨rfl, rfl, trivial⟩ ?_
           refine JO.as rfl rfl ?_
           refine JO.nil ?_
           refine JN.then_n ?_
           exact JN.z ((), false) h (SE.fin [] ⟨rfl, trivial⟩ rfl)
         ·
          replace h := b_ifn (d_f hb) h
          refine JO.gno rfl rfl rfl rfl rfl rfl rfl ?_
          refine JO.gno rfl rfl rfl rfl rfl rfl rfl ?_
          refine JO.s rfl (o_pick_f rfl) ⟨rfl, rfl, trivial⟩ ?_
          refine JO.mv rfl rfl ?_
          refine JO.gno rfl rfl rfl rfl rfl rfl rfl ?_
          refine JO.gno rfl rfl rfl rfl rfl rfl rfl ?_
          refine JO.s rfl (o_pick_f rfl) ⟨rfl, rfl, trivial⟩ ?_
          refine JO.mv rfl rfl ?_
          refine JO.gno rfl rfl rfl rfl rfl rfl rfl ?_
          refine JO.gno rfl rfl rfl rfl rfl rfl rfl ?_
          refine JO.s rfl (o_pick_f rfl) ⟨rfl, rfl, trivial⟩ ?_
          refine JO.mv rfl rfl ?_
          refine JO.gno rfl rfl rfl rfl rfl rfl rfl ?_
          refine JO.gno rfl rfl rfl rfl rfl rfl rfl ?_
          refine JO.s rfl (o_pick_f rfl) ⟨rfl, rfl, trivial⟩ ?_
          refine JO.mv rfl rfl ?_
          refine JO.gno rfl rfl rfl rfl rfl rfl rfl ?_
          refine JO.gno rfl rfl rfl rfl rfl rfl rfl ?_
          refine JO.s rfl (o_pick_f rfl) ⟨rfl, rfl, trivial⟩ ?_
          refine JO.mv rfl rfl ?_
          refine JO.gno rfl rfl rfl rfl rfl rfl rfl ?_
          refine JO.gno rfl rfl rfl rfl rfl rfl rfl ?_
          refine JO.s rfl (o_pick_f rfl) ⟨rfl, rfl, trivial⟩ ?_
          refine JO.mv rfl rfl ?_
          refine JO.gno rfl rfl rfl rfl rfl rfl rfl ?_
          refine JO.gno rfl rfl rfl rfl rfl rfl rfl ?_
          refine JO.gno rfl rfl rfl rfl rfl rfl rfl ?_
          refine JO.s rfl (o_pick_f rfl) ⟨rfl, rfl, trivial⟩ ?_
          refine JO.mv rfl rfl ?_
          refine JO.gno rfl rfl rfl rfl rfl rfl rfl ?_
          refine JO.gno rfl rfl rfl rfl rfl rfl rfl ?_
          refine JO.gno rfl rfl rfl rfl rfl rfl rfl ?_
          refine JO.s rfl (o_pick_f rfl) ⟨rfl, rfl, trivial⟩ ?_
          refine JO.mv rfl rfl ?_
          refine JO.gno rfl rfl rfl rfl rfl rfl rfl ?_
          refine JO.gno rfl rfl rfl rfl rfl rfl rfl ?_
          refine JO.gno rfl rfl rfl rfl rfl rfl rfl ?_
          refine JO.s rfl (o_pick_f rfl) ⟨rfl, rfl, trivial⟩ ?_
          refine JO.mv rfl rfl ?_
          refine JO.gno rfl rfl rfl rfl rfl rfl rfl ?_
          refine JO.gno rfl rfl rfl rfl rfl rfl rfl ?_
          refine JO.gno rfl rfl rfl rfl rfl rfl rfl ?_
          refine JO.s rfl (o_pick_f rfl) ⟨rfl, rfl, trivial⟩ ?_
          refine JO.as rfl rfl ?_
          refine JO.nil ?_
          refine JN.then_n ?_
          exact JN.z ((), false) h (SE.fin [] ⟨rfl, trivial⟩ rfl)
        ·
         replace h := b_ifn (d_f hb) h
         refine JO.gno rfl rfl rfl rfl rfl rfl rfl ?_
         refine JO.gno rfl rfl rfl rfl rfl rfl rfl ?_
         refine JO.s rfl (o_pick_f rfl) ⟨rfl, rfl, trivial⟩ ?_
         refine JO.mv rfl rfl ?_
         refine JO.gno rfl rfl rfl rfl rfl rfl rfl ?_
         refine JO.gno rfl rfl rfl rfl rfl rfl rfl ?_
         refine JO.s rfl (o_pick_f rfl) ⟨rfl, rfl, trivial⟩ ?_
         refine JO.mv rfl rfl ?_
         refine JO.gno rfl rfl rfl rfl rfl rfl rfl ?_
         refine JO.gno rfl rfl rfl rfl rfl rfl rfl ?_
         refine JO.s rfl (o_pick_f rfl) ⟨rfl, rfl, trivial⟩ ?_
         refine JO.mv rfl rfl ?_
         refine JO.gno rfl rfl rfl rfl rfl rfl rfl ?_
         refine JO.gno rfl rfl rfl rfl rfl rfl rfl ?_
         refine JO.s rfl (o_pick_f rfl) ⟨rfl, rfl, trivial⟩ ?_
         refine JO.mv rfl rfl ?_
         refine JO.gno rfl rfl rfl rfl rfl rfl rfl ?_
         refine JO.gno rfl rfl rfl rfl rfl rfl rfl ?_
         refine JO.s rfl (o_pick_f rfl) ⟨rfl, rfl, trivial⟩ ?_
         refine JO.mv rfl rfl ?_
         refine JO.gno rfl rfl rfl rfl rfl rfl rfl ?_
         refine JO.gno rfl rfl rfl rfl rfl rfl rfl ?_
         refine JO.s rfl (o_pick_f rfl) ⟨rfl, rfl, trivial⟩ ?_
         refine JO.mv rfl rfl ?_
         refine JO.gno rfl rfl rfl rfl rfl rfl rfl ?_
         refine JO.gno rfl rfl rfl rfl rfl rfl rfl ?_
         refine JO.s rfl (o_pick_f rfl) ⟨rfl, rfl, trivial⟩ ?_
         refine JO.mv rfl rfl ?_
         refine JO.gno rfl rfl rfl rfl rfl rfl rfl ?_
         refine JO.gno rfl rfl rfl rfl rfl rfl rfl ?_
         refine JO.gno rfl rfl rfl rfl rfl rfl rfl ?_
         refine JO.s rfl (o_pick_f rfl) ⟨rfl, rfl, trivial⟩ ?_
         refine JO.mv rfl rfl ?_
         refine JO.gno rfl rfl rfl rfl rfl rfl rfl ?_
         refine JO.gno rfl rfl rfl rfl rfl rfl rfl ?_
         refine JO.gno rfl rfl rfl rfl rfl rfl rfl ?_
         refine JO.s rfl (o_pick_f rfl) ⟨rfl, rfl, trivial⟩ ?_
         refine JO.mv rfl rfl ?_
         refine JO.gno rfl rfl rfl rfl rfl rfl rfl ?_
         refine JO.gno rfl rfl rfl rfl rfl rfl rfl ?_
         refine JO.gno rfl rfl rfl rfl rfl rfl rfl ?_
         refine JO.s rfl (o_pick_f rfl) ⟨rfl, rfl, trivial⟩ ?_
         refine JO.mv rfl rfl ?_
         refine JO.gno rfl rfl rfl rfl rfl rfl rfl ?_
         refine JO.gno rfl rfl rfl rfl rfl rfl rfl ?_
         refine JO.gno rfl rfl rfl rfl rfl rfl rfl ?_
         refine JO.s rfl (o_pick_f rfl) ⟨rfl, rfl, trivial⟩ ?_
         refine JO.as rfl rfl ?_
         refine JO.nil ?_
         refine JN.then_n ?_
         exact JN.z ((), false) h (SE.fin [] ⟨rfl, trivial⟩ rfl)
       ·
        replace h := b_ifn (d_f hb) h
        refine JO.gno rfl rfl rfl rfl rfl rfl rfl ?_
        refine JO.gno rfl rfl rfl rfl rfl rfl rfl ?_
        refine JO.s rfl (o_pick_f rfl) ⟨rfl, rfl, trivial⟩ ?_
        refine JO.mv rfl rfl ?_
        refine JO.gno rfl rfl rfl rfl rfl rfl rfl ?_
        refine JO.gno rfl rfl rfl rfl rfl rfl rfl ?_
        refine JO.s rfl (o_pick_f rfl) ⟨rfl, rfl, trivial⟩ ?_
        refine JO.mv rfl rfl ?_
        refine JO.gno rfl rfl rfl rfl rfl rfl rfl ?_
        refine JO.gno rfl rfl rfl rfl rfl rfl rfl ?_
        refine JO.s rfl (o_pick_f rfl) ⟨rfl, rfl, trivial⟩ ?_
        refine JO.mv rfl rfl ?_
        refine JO.gno rfl rfl rfl rfl rfl rfl rfl ?_
        refine JO.gno rfl rfl rfl rfl rfl rfl rfl ?_
        refine JO.s rfl (o_pick_f rfl) ⟨rfl, rfl, trivial⟩ ?_
        refine JO.mv rfl rfl ?_
        refine JO.gno rfl rfl rfl rfl rfl rfl rfl ?_
        refine JO.gno rfl rfl rfl rfl rfl rfl rfl ?_
        refine JO.s rfl (o_pick_f rfl) ⟨rfl, rfl, trivial⟩ ?_
        refine JO.mv rfl rfl ?_
        refine JO.gno rfl rfl rfl rfl rfl rfl rfl ?_
        refine JO.gno rfl rfl rfl rfl rfl rfl rfl ?_
        refine JO.s rfl (o_pick_f rfl) ⟨rfl, rfl, trivial⟩ ?_
        refine JO.mv rfl rfl ?_
        refine JO.gno rfl rfl rfl rfl rfl rfl rfl ?_
        refine JO.gno rfl rfl rfl rfl rfl rfl rfl ?_
        refine JO.s rfl (o_pick_f rfl) ⟨rfl, rfl, trivial⟩ ?_
        refine JO.mv rfl rfl ?_
        refine JO.gno rfl rfl rfl rfl rfl rfl rfl ?_
        refine JO.gno rfl rfl rfl rfl rfl rfl rfl ?_
        refine JO.s rfl (o_pick_f rfl) ⟨rfl, rfl, trivial⟩ ?_
        refine JO.mv rfl rfl ?_
        refine JO.gno rfl rfl rfl rfl rfl rfl rfl ?_
        refine JO.gno rfl rfl rfl rfl rfl rfl rfl ?_
        refine JO.gno rfl rfl rfl rfl rfl rfl rfl ?_
        refine JO.s rfl (o_pick_f rfl) ⟨rfl, rfl, trivial⟩ ?_
        refine JO.mv rfl rfl ?_
        refine JO.gno rfl rfl rfl rfl rfl rfl rfl ?_
        refine JO.gno rfl rfl rfl rfl rfl rfl rfl ?_
        refine JO.gno rfl rfl rfl rfl rfl rfl rfl ?_
        refine JO.s rfl (o_pick_f rfl) ⟨rfl, rfl, trivial⟩ ?_
        refine JO.mv rfl rfl ?_
        refine JO.gno rfl rfl rfl rfl rfl rfl rfl ?_
        refine JO.gno rfl rfl rfl rfl rfl rfl rfl ?_
        refine JO.gno rfl rfl rfl rfl rfl rfl rfl ?_
        refine JO.s rfl (o_pick_f rfl) ⟨rfl, rfl, trivial⟩ ?_
        refine JO.mv rfl rfl ?_
        refine JO.gno rfl rfl rfl rfl rfl rfl rfl ?_
        refine JO.gno rfl rfl rfl rfl rfl rfl rfl ?_
        refine JO.gno rfl rfl rfl rfl rfl rfl rfl ?_
        refine JO.s rfl (o_pick_f rfl) ⟨rfl, rfl, trivial⟩ ?_
        refine JO.as rfl rfl ?_
        refine JO.nil ?_
        refine JN.then_n ?_
        exact JN.z ((), false) h (SE.fin [] ⟨rfl, trivial⟩ rfl)
      ·
       replace h := b_ifn (d_f hb) h
       refine JO.gno rfl rfl rfl rfl rfl rfl rfl ?_
       refine JO.gno rfl rfl rfl rfl rfl rfl rfl ?_
       refine JO.s rfl (o_pick_f rfl) ⟨rfl, rfl, trivial⟩ ?_
       refine JO.mv rfl rfl ?_
       refine JO.gno rfl rfl rfl rfl rfl rfl rfl ?_
       refine JO.gno rfl rfl rfl rfl rfl rfl rfl ?_
       refine JO.s rfl (o_pick_f rfl) ⟨rfl, rfl, trivial⟩ ?_
       refine JO.mv rfl rfl ?_
       refine JO.gno rfl rfl rfl rfl rfl rfl rfl ?_
       refine JO.gno rfl rfl rfl rfl rfl rfl rfl ?_
       refine JO.s rfl (o_pick_f rfl) ⟨rfl, rfl, trivial⟩ ?_
       refine JO.mv rfl rfl ?_
       refine JO.gno rfl rfl rfl rfl rfl rfl rfl ?_
       refine JO.gno rfl rfl rfl rfl rfl rfl rfl ?_
       refine JO.s rfl (o_pick_f rfl) ⟨rfl, rfl, trivial⟩ ?_
       refine JO.mv rfl rfl ?_
       refine JO.gno rfl rfl rfl rfl rfl rfl rfl ?_
       refine JO.gno rfl rfl rfl rfl rfl rfl rfl ?_
       refine JO.s rfl (o_pick_f rfl) ⟨rfl, rfl, trivial⟩ ?_
       refine JO.mv rfl rfl ?_
       refine JO.gno rfl rfl rfl rfl rfl rfl rfl ?_
       refine JO.gno rfl rfl rfl rfl rfl rfl rfl ?_
       refine JO.s rfl (o_pick_f rfl) ⟨rfl, rfl, trivial⟩ ?_
       refine JO.mv rfl rfl ?_
       refine JO.gno rfl rfl rfl rfl rfl rfl rfl ?_
       refine JO.gno rfl rfl rfl rfl rfl rfl rfl ?_
       refine JO.s rfl (o_pick_f rfl) ⟨rfl, rfl, trivial⟩ ?_
       refine JO.mv rfl rfl ?_
       refine JO.gno rfl rfl rfl rfl rfl rfl rfl ?_
       refine JO.gno rfl rfl rfl rfl rfl rfl rfl ?_
       refine JO.s rfl (o_pick_f rfl) ⟨rfl, rfl, trivial⟩ ?_
       refine JO.mv rfl rfl ?_
       refine JO.gno rfl rfl rfl rfl rfl rfl rfl ?_
       refine JO.gno rfl rfl rfl rfl rfl rfl rfl ?_
       refine JO.s rfl (o_pick_f rfl) ⟨rfl, rfl, trivial⟩ ?_
       refine JO.mv rfl rfl ?_
       refine JO.gno rfl rfl rfl rfl rfl rfl rfl ?_
       refine JO.gno rfl rfl rfl rfl rfl rfl rfl ?_
       refine JO.gno rfl rfl rfl rfl rfl rfl rfl ?_
       refine JO.s rfl (o_pick_f rfl) ⟨rfl, rfl, trivial⟩ ?_
       refine JO.mv rfl rfl ?_
       refine JO.gno rfl rfl rfl rfl rfl rfl rfl ?_
       refine JO.gno rfl rfl rfl rfl rfl rfl rfl ?_
       refine JO.gno rfl rfl rfl rfl rfl rfl rfl ?_
       refine JO.s rfl (o_pick_f rfl) ⟨rfl, rfl, trivial⟩ ?_
       refine JO.mv rfl rfl ?_
       refine JO.gno rfl rfl rfl rfl rfl rfl rfl ?_
       refine JO.gno rfl rfl rfl rfl rfl rfl rfl ?_
       refine JO.gno rfl rfl rfl rfl rfl rfl rfl ?_
       refine JO.s rfl (o_pick_f rfl) ⟨rfl, rfl, trivial⟩ ?_
       refine JO.mv rfl rfl ?_
       refine JO.gno rfl rfl rfl rfl rfl rfl rfl ?_
       refine JO.gno rfl rfl rfl rfl rfl rfl rfl ?_
       refine JO.gno rfl rfl rfl rfl rfl rfl rfl ?_
       refine JO.s rfl (o_pick_f rfl) ⟨rfl, rfl, trivial⟩ ?_
       refine JO.as rfl rfl ?_
       refine JO.nil ?_
       refine JN.then_n ?_
       exact JN.z ((), false) h (SE.fin [] ⟨rfl, trivial⟩ rfl)
     ·
      replace h := b_ifn (d_f hb) h
      refine JO.gno rfl rfl rfl rfl rfl rfl rfl ?_
      refine JO.gno rfl rfl rfl rfl rfl rfl rfl ?_
      refine JO.s rfl (o_pick_f rfl) ⟨rfl, rfl, trivial⟩ ?_
      refine JO.mv rfl rfl ?_
      refine JO.gno rfl rfl rfl rfl rfl rfl rfl ?_
      refine JO.gno rfl rfl rfl rfl rfl rfl rfl ?_
      refine JO.s rfl (o_pick_f rfl) ⟨rfl, rfl, trivial⟩ ?_
      refine JO.mv rfl rfl ?_
      refine JO.gno rfl rfl rfl rfl rfl rfl rfl ?_
      refine JO.gno rfl rfl rfl rfl rfl rfl rfl ?_
      refine JO.s rfl (o_pick_f rfl) ⟨rfl, rfl, trivial⟩ ?_
      refine JO.mv rfl rfl ?_
      refine JO.gno rfl rfl rfl rfl rfl rfl rfl ?_
      refine JO.gno rfl rfl rfl rfl rfl rfl rfl ?_
      refine JO.s rfl (o_pick_f rfl) ⟨rfl, rfl, trivial⟩ ?_
      refine JO.mv rfl rfl ?_
      refine JO.gno rfl rfl rfl rfl rfl rfl rfl ?_
      refine JO.gno rfl rfl rfl rfl rfl rfl rfl ?_
      refine JO.s rfl (o_pick_f rfl) ⟨rfl, rfl, trivial⟩ ?_
      refine JO.mv rfl rfl ?_
      refine JO.gno rfl rfl rfl rfl rfl rfl rfl ?_
      refine JO.gno rfl rfl rfl rfl rfl rfl rfl ?_
      refine JO.s rfl (o_pick_f rfl) ⟨rfl, rfl, trivial⟩ ?_
      refine JO.mv rfl rfl ?_
      refine JO.gno rfl rfl rfl rfl rfl rfl rfl ?_
      refine JO.gno rfl rfl rfl rfl rfl rfl rfl ?_
      refine JO.s rfl (o_pick_f rfl) ⟨rfl, rfl, trivial⟩ ?_
      refine JO.mv rfl rfl ?_
      refine JO.gno rfl rfl rfl rfl rfl rfl rfl ?_
      refine JO.gno rfl rfl rfl rfl rfl rfl rfl ?_
      refine JO.s rfl (o_pick_f rfl) ⟨rfl, rfl, trivial⟩ ?_
      refine JO.mv rfl rfl ?_
      refine JO.gno rfl rfl rfl rfl rfl rfl rfl ?_
      refine JO.gno rfl rfl rfl rfl rfl rfl rfl ?_
      refine JO.s rfl (o_pick_f rfl) ⟨rfl, rfl, trivial⟩ ?_
      refine JO.mv rfl rfl ?_
      refine JO.gno rfl rfl rfl rfl rfl rfl rfl ?_
      refine JO.gno rfl rfl rfl rfl rfl rfl rfl ?_
      refine JO.s rfl (o_pick_f rfl) ⟨rfl, rfl, trivial⟩ ?_
      refine JO.mv rfl rfl ?_
      refine JO.gno rfl rfl rfl rfl rfl rfl rfl ?_
      refine JO.gno rfl rfl rfl rfl rfl rfl rfl ?_
      refine JO.gno rfl rfl rfl rfl rfl rfl rfl ?_
      refine JO.s rfl (o_pick_f rfl) ⟨rfl, rfl, trivial⟩ ?_
      refine JO.mv rfl rfl ?_
      refine JO.gno rfl rfl rfl rfl rfl rfl rfl ?_
      refine JO.gno rfl rfl rfl rfl rfl rfl rfl ?_
      refine JO.gno rfl rfl rfl rfl rfl rfl rfl ?_
      refine JO.s rfl (o_pick_f rfl) ⟨rfl, rfl, trivial⟩ ?_
      refine JO.mv rfl rfl ?_
      refine JO.gno rfl rfl rfl rfl rfl rfl rfl ?_
      refine JO.gno rfl rfl rfl rfl rfl rfl rfl ?_
      refine JO.gno rfl rfl rfl rfl rfl rfl rfl ?_
      refine JO.s rfl (o_pick_f rfl) ⟨rfl, rfl, trivial⟩ ?_
      refine JO.mv rfl rfl ?_
      refine JO.gno rfl rfl rfl rfl rfl rfl rfl ?_
      refine JO.gno rfl rfl rfl rfl rfl rfl rfl ?_
      refine JO.gno rfl rfl rfl rfl rfl rfl rfl ?_
      refine JO.s rfl (o_pick_f rfl) ⟨rfl, rfl, trivial⟩ ?_
      refine JO.as rfl rfl ?_
      refine JO.nil ?_
      refine JN.then_n ?_
      exact JN.z ((), false) h (SE.fin [] ⟨rfl, trivial⟩ rfl)
    ·
     replace h := b_ifn (d_f hb) h
     refine JO.gno rfl rfl rfl rfl rfl rfl rfl ?_
     refine JO.gno rfl rfl rfl rfl rfl rfl rfl ?_
     refine JO.s rfl (o_pick_f rfl) ⟨rfl, rfl, trivial⟩ ?_
     refine JO.mv rfl rfl ?_
     refine JO.gno rfl rfl rfl rfl rfl rfl rfl ?_
     refine JO.gno rfl rfl rfl rfl rfl rfl rfl ?_
     refine JO.s rfl (o_pick_f rfl) ⟨rfl, rfl, trivial⟩ ?_
     refine JO.mv rfl rfl ?_
     refine JO.gno rfl rfl rfl rfl rfl rfl rfl ?_
     refine JO.gno rfl rfl rfl rfl rfl rfl rfl ?_
     refine JO.s rfl (o_pick_f rfl) ⟨rfl, rfl, trivial⟩ ?_
     refine JO.mv rfl rfl ?_
     refine JO.gno rfl rfl rfl rfl rfl rfl rfl ?_
     refine JO.gno rfl rfl rfl rfl rfl rfl rfl ?_
     refine JO.s rfl (o_pick_f rfl) ⟨rfl, rfl, trivial⟩ ?_
     refine JO.mv rfl rfl ?_
     refine JO.gno rfl rfl rfl rfl rfl rfl rfl ?_
     refine JO.gno rfl rfl rfl rfl rfl rfl rfl ?_
     refine JO.s rfl (o_pick_f rfl) ⟨rfl, rfl, trivial⟩ ?_
     refine JO.mv rfl rfl ?_
     refine JO.gno rfl rfl rfl rfl rfl rfl rfl ?_
     refine JO.gno rfl rfl rfl rfl rfl rfl rfl ?_
     refine JO.s rfl (o_pick_f rfl) ⟨rfl, rfl, trivial⟩ ?_
     refine JO.mv rfl rfl ?_
     refine JO.gno rfl rfl rfl rfl rfl rfl rfl ?_
     refine JO.gno rfl rfl rfl rfl rfl rfl rfl ?_
     refine JO.s rfl (o_pick_f rfl) ⟨rfl, rfl, trivial⟩ ?_
     refine JO.mv rfl rfl ?_
     refine JO.gno rfl rfl rfl rfl rfl rfl rfl ?_
     refine JO.gno rfl rfl rfl rfl rfl rfl rfl ?_
     refine JO.s rfl (o_pick_f rfl) ⟨rfl, rfl, trivial⟩ ?_
     refine JO.mv rfl rfl ?_
     refine JO.gno rfl rfl rfl rfl rfl rfl rfl ?_
     refine JO.gno rfl rfl rfl rfl rfl rfl rfl ?_
     refine JO.s rfl (o_pick_f rfl) ⟨rfl, rfl, trivial⟩ ?_
     refine JO.mv rfl rfl ?_
     refine JO.gno rfl rfl rfl rfl rfl rfl rfl ?_
     refine JO.gno rfl rfl rfl rfl rfl rfl rfl ?_
     refine JO.s rfl (o_pick_f rfl) ⟨rfl, rfl, trivial⟩ ?_
     refine JO.mv rfl rfl ?_
     refine JO.gno rfl rfl rfl rfl rfl rfl rfl ?_
     refine JO.gno rfl rfl rfl rfl rfl rfl rfl ?_
     refine JO.s rfl (o_pick_f rfl) ⟨rfl, rfl, trivial⟩ ?_
     refine JO.mv rfl rfl ?_
     refine JO.gno rfl rfl rfl rfl rfl rfl rfl ?_
     refine JO.gno rfl rfl rfl rfl rfl rfl rfl ?_
     refine JO.gno rfl rfl rfl rfl rfl rfl rfl ?_
     refine JO.s rfl (o_pick_f rfl) ⟨rfl, rfl, trivial⟩ ?_
     refine JO.mv rfl rfl ?_
     refine JO.gno rfl rfl rfl rfl rfl rfl rfl ?_
     refine JO.gno rfl rfl rfl rfl rfl rfl rfl ?_
     refine JO.gno rfl rfl rfl rfl rfl rfl rfl ?_
     refine JO.s rfl (o_pick_f rfl) ⟨rfl, rfl, trivial⟩ ?_
     refine JO.mv rfl rfl ?_
     refine JO.gno rfl rfl rfl rfl rfl rfl rfl ?_
     refine JO.gno rfl rfl rfl rfl rfl rfl rfl ?_
     refine JO.gno rfl rfl rfl rfl rfl rfl rfl ?_
     refine JO.s rfl (o_pick_f rfl) ⟨rfl, rfl, trivial⟩ ?_
     refine JO.mv rfl rfl ?_
     refine JO.gno rfl rfl rfl rfl rfl rfl rfl ?_
     refine JO.gno rfl rfl rfl rfl rfl rfl rfl ?_
     refine JO.gno rfl rfl rfl rfl rfl rfl rfl ?_
     refine JO.s rfl (o_pick_f rfl) ⟨rfl, rfl, trivial⟩ ?_
     refine JO.as rfl rfl ?_
     refine JO.nil ?_
     refine JN.then_n ?_
     exact JN.z ((), false) h (SE.fin [] ⟨rfl, trivial⟩ rfl)
   ·
    replace h := b_ifn (d_f hb) h
    refine JO.gno rfl rfl rfl rfl rfl rfl rfl ?_
    refine JO.gno rfl rfl rfl rfl rfl rfl rfl ?_
    refine JO.s rfl (o_pick_f rfl) ⟨rfl, rfl, trivial⟩ ?_
    refine JO.mv rfl rfl ?_
    refine JO.gno rfl rfl rfl rfl rfl rfl rfl ?_
    refine JO.gno rfl rfl rfl rfl rfl rfl rfl ?_
    refine JO.s rfl (o_pick_f rfl) ⟨rfl, rfl, trivial⟩ ?_
    refine JO.mv rfl rfl ?_
    refine JO.gno rfl rfl rfl rfl rfl rfl rfl ?_
    refine JO.gno rfl rfl rfl rfl rfl rfl rfl ?_
    refine JO.s rfl (o_pick_f rfl) ⟨rfl, rfl, trivial⟩ ?_
    refine JO.mv rfl rfl ?_
    refine JO.gno rfl rfl rfl rfl rfl rfl rfl ?_
    refine JO.gno rfl rfl rfl rfl rfl rfl rfl ?_
    refine JO.s rfl (o_pick_f rfl) ⟨rfl, rfl, trivial⟩ ?_
    refine JO.mv rfl rfl ?_
    refine JO.gno rfl rfl rfl rfl rfl rfl rfl ?_
    refine JO.gno rfl rfl rfl rfl rfl rfl rfl ?_
    refine JO.s rfl (o_pick_f rfl) ⟨rfl, rfl, trivial⟩ ?_
    refine JO.mv rfl rfl ?_
    refine JO.gno rfl rfl rfl rfl rfl rfl rfl ?_
    refine JO.gno rfl rfl rfl rfl rfl rfl rfl ?_
    refine JO.s rfl (o_pick_f rfl) ⟨rfl, rfl, trivial⟩ ?_
    refine JO.mv rfl rfl ?_
    refine JO.gno rfl rfl rfl rfl rfl rfl rfl ?_
    refine JO.gno rfl rfl rfl rfl rfl rfl rfl ?_
    refine JO.s rfl (o_pick_f rfl) ⟨rfl, rfl, trivial⟩ ?_
    refine JO.mv rfl rfl ?_
    refine JO.gno rfl rfl rfl rfl rfl rfl rfl ?_
    refine JO.gno rfl rfl rfl rfl rfl rfl rfl ?_
    refine JO.s rfl (o_pick_f rfl) ⟨rfl, rfl, trivial⟩ ?_
    refine JO.mv rfl rfl ?_
    refine JO.gno rfl rfl rfl rfl rfl rfl rfl ?_
    refine JO.gno rfl rfl rfl rfl rfl rfl rfl ?_
    refine JO.s rfl (o_pick_f rfl) ⟨rfl, rfl, trivial⟩ ?_
    refine JO.mv rfl rfl ?_
    refine JO.gno rfl rfl rfl rfl rfl rfl rfl ?_
    refine JO.gno rfl rfl rfl rfl rfl rfl rfl ?_
    refine JO.s rfl (o_pick_f rfl) ⟨rfl, rfl, trivial⟩ ?_
    refine JO.mv rfl rfl ?_
    refine JO.gno rfl rfl rfl rfl rfl rfl rfl ?_
    refine JO.gno rfl rfl rfl rfl rfl rfl rfl ?_
    refine JO.s rfl (o_pick_f rfl) ⟨rfl, rfl, trivial⟩ ?_
    refine JO.mv rfl rfl ?_
    refine JO.gno rfl rfl rfl rfl rfl rfl rfl ?_
    refine JO.gno rfl rfl rfl rfl rfl rfl rfl ?_
    refine JO.s rfl (o_pick_f rfl) ⟨rfl, rfl, trivial⟩ ?_
    refine JO.mv rfl rfl ?_
    refine JO.gno rfl rfl rfl rfl rfl rfl rfl ?_
    refine JO.gno rfl rfl rfl rfl rfl rfl rfl ?_
    refine JO.gno rfl rfl rfl rfl rfl rfl rfl ?_
    refine JO.s rfl (o_pick_f rfl) ⟨rfl, rfl, trivial⟩ ?_
    refine JO.mv rfl rfl ?_
    refine JO.gno rfl rfl rfl rfl rfl rfl rfl ?_
    refine JO.gno rfl rfl rfl rfl rfl rfl rfl ?_
    refine JO.gno rfl rfl rfl rfl rfl rfl rfl ?_
    refine JO.s rfl (o_pick_f rfl) ⟨rfl, rfl, trivial⟩ ?_
    refine JO.mv rfl rfl ?_
    refine JO.gno rfl rfl rfl rfl rfl rfl rfl ?_
    refine JO.gno rfl rfl rfl rfl rfl rfl rfl ?_
    refine JO.gno rfl rfl rfl rfl rfl rfl rfl ?_
    refine JO.s rfl (o_pick_f rfl) ⟨rfl, rfl, trivial⟩ ?_
    refine JO.mv rfl rfl ?_
    refine JO.gno rfl rfl rfl rfl rfl rfl rfl ?_
    refine JO.gno rfl rfl rfl rfl rfl rfl rfl ?_
    refine JO.gno rfl rfl rfl rfl rfl rfl rfl ?_
    refine JO.s rfl (o_pick_f rfl) ⟨rfl, rfl, trivial⟩ ?_
    refine JO.as rfl rfl ?_
    refine JO.nil ?_
    refine JN.then_n ?_
    exact JN.z ((), false) h (SE.fin [] ⟨rfl, trivial⟩ rfl)
  ·
   replace h := b_ifn (d_f hb) h
   refine JO.gno rfl rfl rfl rfl rfl rfl rfl ?_
   refine JO.gno rfl rfl rfl rfl rfl rfl rfl ?_
   refine JO.s rfl (o_pick_f rfl) ⟨rfl, rfl, trivial⟩ ?_
   refine JO.mv rfl rfl ?_
   refine JO.gno rfl rfl rfl rfl rfl rfl rfl ?_
   refine JO.gno rfl rfl rfl rfl rfl rfl rfl ?_
   refine JO.s rfl (o_pick_f rfl) ⟨rfl, rfl, trivial⟩ ?_
   refine JO.mv rfl rfl ?_
   refine JO.gno rfl rfl rfl rfl rfl rfl rfl ?_
   refine JO.gno rfl rfl rfl rfl rfl rfl rfl ?_
   refine JO.s rfl (o_pick_f rfl) ⟨rfl, rfl, trivial⟩ ?_
   refine JO.mv rfl rfl ?_
   refine JO.gno rfl rfl rfl rfl rfl rfl rfl ?_
   refine JO.gno rfl rfl rfl rfl rfl rfl rfl ?_
   refine JO.s rfl (o_pick_f rfl) ⟨rfl, rfl, trivial⟩ ?_
   refine JO.mv rfl rfl ?_
   refine JO.gno rfl rfl rfl rfl rfl rfl rfl ?_
   refine JO.gno rfl rfl rfl rfl rfl rfl rfl ?_
   refine JO.s rfl (o_pick_f rfl) ⟨rfl, rfl, trivial⟩ ?_
   refine JO.mv rfl rfl ?_
   refine JO.gno rfl rfl rfl rfl rfl rfl rfl ?_
   refine JO.gno rfl rfl rfl rfl rfl rfl rfl ?_
   refine JO.s rfl (o_pick_f rfl) ⟨rfl, rfl, trivial⟩ ?_
   refine JO.mv rfl rfl ?_
   refine JO.gno rfl rfl rfl rfl rfl rfl rfl ?_
   refine JO.gno rfl rfl rfl rfl rfl rfl rfl ?_
   refine JO.s rfl (o_pick_f rfl) ⟨rfl, rfl, trivial⟩ ?_
   refine JO.mv rfl rfl ?_
   refine JO.gno rfl rfl rfl rfl rfl rfl rfl ?_
   refine JO.gno rfl rfl rfl rfl rfl rfl rfl ?_
   refine JO.s rfl (o_pick_f rfl) ⟨rfl, rfl, trivial⟩ ?_
   refine JO.mv rfl rfl ?_
   refine JO.gno rfl rfl rfl rfl rfl rfl rfl ?_
   refine JO.gno rfl rfl rfl rfl rfl rfl rfl ?_
   refine JO.s rfl (o_pick_f rfl) ⟨rfl, rfl, trivial⟩ ?_
   refine JO.mv rfl rfl ?_
   refine JO.gno rfl rfl rfl rfl rfl rfl rfl ?_
   refine JO.gno rfl rfl rfl rfl rfl rfl rfl ?_
   refine JO.s rfl (o_pick_f rfl) ⟨rfl, rfl, trivial⟩ ?_
   refine JO.mv rfl rfl ?_
   refine JO.gno rfl rfl rfl rfl rfl rfl rfl ?_
   refine JO.gno rfl rfl rfl rfl rfl rfl rfl ?_
   refine JO.s rfl (o_pick_f rfl) ⟨rfl, rfl, trivial⟩ ?_
   refine JO.mv rfl rfl ?_
   refine JO.gno rfl rfl rfl rfl rfl rfl rfl ?_
   refine JO.gno rfl rfl rfl rfl rfl rfl rfl ?_
   refine JO.s rfl (o_pick_f rfl) ⟨rfl, rfl, trivial⟩ ?_
   refine JO.mv rfl rfl ?_
   refine JO.gno rfl rfl rfl rfl rfl rfl rfl ?_
   refine JO.gno rfl rfl rfl rfl rfl rfl rfl ?_
   refine JO.s rfl (o_pick_f rfl) ⟨rfl, rfl, trivial⟩ ?_
   refine JO.mv rfl rfl ?_
   refine JO.gno rfl rfl rfl rfl rfl rfl rfl ?_
   refine JO.gno rfl rfl rfl rfl rfl rfl rfl ?_
   refine JO.gno rfl rfl rfl rfl rfl rfl rfl ?_
   refine JO.s rfl (o_pick_f rfl) ⟨rfl, rfl, trivial⟩ ?_
   refine JO.mv rfl rfl ?_
   refine JO.gno rfl rfl rfl rfl rfl rfl rfl ?_
   refine JO.gno rfl rfl rfl rfl rfl rfl rfl ?_
   refine JO.gno rfl rfl rfl rfl rfl rfl rfl ?_
   refine JO.s rfl (o_pick_f rfl) ⟨rfl, rfl, trivial⟩ ?_
   refine JO.mv rfl rfl ?_
   refine JO.gno rfl rfl rfl rfl rfl rfl rfl ?_
   refine JO.gno rfl rfl rfl rfl rfl rfl rfl ?_
   refine JO.gno rfl rfl rfl rfl rfl rfl rfl ?_
   refine JO.s rfl (o_pick_f rfl) ⟨rfl, rfl, trivial⟩ ?_
   refine JO.mv rfl rfl ?_
   refine JO.gno rfl rfl rfl rfl rfl rfl rfl ?_
   refine JO.gno rfl rfl rfl rfl rfl rfl rfl ?_
   refine JO.gno rfl rfl rfl rfl rfl rfl rfl ?_
   refine JO.s rfl (o_pick_f rfl) ⟨rfl, rfl, trivial⟩ ?_
   refine JO.as rfl rfl ?_
   refine JO.nil ?_
   refine JN.then_n ?_
   exact JN.z ((), false) h (SE.fin [] ⟨rfl, trivial⟩ rfl)
 ·
  refine JC.ret ?_
  obtain rfl := Option.some.inj h
  exact JN.ret () [_] 0 ⟨rfl, trivial⟩ rfl


def kit_CopyInts (k : Nat) (a0 : (List Int)) : Option (List Int) :=
 (chkP (okLen (List.length ([] : (List Int)) + List.length a0))).bind fun _ =>
 some (([] : (List Int)) ++ a0)

theorem kit_CopyInts_ok (k : Nat) (a0 : (List Int)) (r : (List Int)) (h : kit_CopyInts k a0 = some r) :
 Ctr Try.prog 37 [.rep (.slice (.int .i64)) a0] [] (fun z : Value => (resA [.eq z], [.sl z 3 (.int .i64) r])) := by
 unfold kit_CopyInts at h
 replace h := b_top h
 refine Ctr.of 6 Try.func37 rfl Try.ntmps37 rfl fun S w0 => ?_
 refine JC.seq ?_
 refine JC.region ?_
 refine JO.ac rfl ?_
 refine JO.nil ?_
 refine JN.then_n ?_
 show JC _ _ _ _ _
 refine JC.seq ?_
 refine JC.region ?_
 refine JO.s01 rfl rfl rfl (o_litB_own (t := (.int .i64)) [] ([] : (List Int)) rfl rfl sl22 .nil rfl rfl) trivial fun v1 => ?_
 refine JO.mv rfl rfl ?_
 obtain ⟨u2, eu2, h⟩ := b_bind h
 refine JO.s1x rfl rfl rfl (o_append rfl rfl sl22 (chkP_some eu2)) ⟨rfl, rfl, trivial⟩ fun v3 => ?_
 refine JO.as rfl rfl ?_
 refine JO.nil ?_
 refine JN.then_n ?_
 show JC _ _ _ _ _
 refine JC.ret ?_
 obtain rfl := Option.some.inj h
 exact JN.ret v3 [.eq v3] 1 ⟨rfl, trivial⟩ rfl


def kit_CopyChange_l1 (k : Nat) (a0 : dChange) : Nat → ((List dThing) × Int) → Option (List dThing)
 | 0, _ => none
 | n + 1, y8 =>
  if y8.2 < (a0.1.length : Int) then ((geti a0.1 y8.2).bind fun x10 =>
  (kit_CopyInts k x10.1).bind fun r12 =>
  (chkP (okLen (List.length y8.1 + List.length [(r12, x10.2)]))).bind fun _ =>
  (ck (y8.2 + (1 : Int))).bind fun x18 =>
  kit_CopyChange_l1 k a0 n (y8.1 ++ [(r12, x10.2)], x18)) else (some y8.1)

def kit_CopyChange_l2 (k : Nat) (a0 : dChange) : Nat → ((List dDresser) × Int) → Option (List dDresser)
 | 0, _ => none
 | n + 1, y21 =>
  if y21.2 < (a0.2.1.length : Int) then ((geti a0.2.1 y21.2).bind fun x23 =>
  (kit_CopyInts k x23.1).bind fun r25 =>
  (chkP (okLen (List.length y21.1 + List.length [(r25, x23.2)]))).bind fun _ =>
  (ck (y21.2 + (1 : Int))).bind fun x31 =>
  kit_CopyChange_l2 k a0 n (y21.1 ++ [(r25, x23.2)], x31)) else (some y21.1)
def kit_CopyChange (k : Nat) (a0 : dChange) : Option dChange :=
 (kit_CopyInts k a0.2.2.1).bind fun r3 =>
 (kit_CopyInts k a0.2.2.2).bind fun r4 =>
 ((kit_CopyChange_l1 k a0 k (([] : (List dThing)), (0 : Int))) : Option ((List dThing))).bind fun x6 =>
 ((kit_CopyChange_l2 k a0 k (([] : (List dDresser)), (0 : Int))) : Option ((List dDresser))).bind fun x19 =>
 some (x6, x19, r3, r4)

theorem kit_CopyChange_ok (k : Nat) (a0 : dChange) (r : dChange) (h : kit_CopyChange k a0 = some r) :
 Ctr Try.prog 27 [.rep tChange a0] [] (fun z : Value × Value => (resA [.agg (.pair (.eq z.1) (.pair (.eq z.2) (.pair (.rep (.slice (.int .i64)) r.2.2.1) (.rep (.slice (.int .i64)) r.2.2.2))))], [.sl z.1 45 tThing r.1, .sl z.2 53 tDresser r.2.1])) := by
 unfold kit_CopyChange at h
 replace h := b_top h
 refine Ctr.of 60 Try.func27 rfl Try.ntmps27 rfl fun S w0 => ?_
 refine JC.seq ?_
 refine JC.region ?_
 refine JO.s01 rfl rfl rfl (o_box rfl rfl) ⟨rfl, trivial⟩ fun b1 => ?_
 refine JO.s01 rfl rfl rfl (o_alloc rfl za28 al28) trivial fun b2 => ?_
 refine JO.nil ?_
 refine JN.then_n ?_
 show JC _ _ _ _ _
 refine JC.seq ?_
 refine JC.drawW ?_
 refine DW.t00 rfl rfl rfl (o_field_obj rfl fo28_2) ⟨rfl, trivial⟩ ?_
 refine DW.t11 1 rfl rfl rfl rfl (o_load_obj rfl sz22 (fun _ => rfl) rfl) ⟨rfl, trivial⟩ ?_
 obtain ⟨r3, er3, h⟩ := b_bind h
 have cr3 := kit_CopyInts_ok k a0.2.2.1 r3 er3
 refine DW.t00 rfl rfl rfl (OpT.frz (o_call [.tmp 9] rfl rfl en37 rfl cr3)) ⟨rfl, trivial⟩ ?_
 refine DW.t00 rfl rfl rfl (o_field_obj rfl fo28_3) ⟨rfl, trivial⟩ ?_
 refine DW.t11 1 rfl rfl rfl rfl (o_load_obj rfl sz22 (fun _ => rfl) rfl) ⟨rfl, trivial⟩ ?_
 obtain ⟨r4, er4, h⟩ := b_bind h
 have cr4 := kit_CopyInts_ok k a0.2.2.2 r4 er4
 refine DW.t00 rfl rfl rfl (OpT.frz (o_call [.tmp 12] rfl rfl en37 rfl cr4)) ⟨rfl, trivial⟩ ?_
 refine DW.t00 rfl rfl rfl (o_buildT [(2, .tmp 10, _), (3, .tmp 13, _)] rfl pl28 za28 alb28 (stors ⟨rfl, rfl, trivial⟩) rfl) ⟨rfl, rfl, trivial⟩ ?_
 refine DW.tNew (ptrD 28 (.agg (.pair (.eq (.slice none 0 0)) (.pair (.eq (.slice none 0 0)) (.pair (.eq (.slice none 0 0)) (.eq (.slice none 0 0))))))) (fun _ => rfl) rfl rfl rfl (o_alloc rfl za28 al28) trivial ?_
 refine DW.fin 8 [true, true, true, true, true, true, true, true] [] [] [] rfl (by kernel_rfl) (by kernel_rfl) (by kernel_rfl) mixed (fun vs hv hB => ?_)
 obtain ⟨w0, vs1, rfl, hv1⟩ := len_cons hv
 obtain ⟨w1, vs2, rfl, hv2⟩ := len_cons hv1
 obtain ⟨w2, vs3, rfl, hv3⟩ := len_cons hv2
 obtain ⟨w3, vs4, rfl, hv4⟩ := len_cons hv3
 obtain ⟨w4, vs5, rfl, hv5⟩ := len_cons hv4
 obtain ⟨w5, vs6, rfl, hv6⟩ := len_cons hv5
 obtain ⟨w6, vs7, rfl, hv7⟩ := len_cons hv6
 obtain ⟨w7, vs8, rfl, hv8⟩ := len_cons hv7
 obtain rfl := len_nil hv8
 obtain ⟨b5, rfl⟩ := ptr_of hB.2.2.2.2.2.2.2.1
 refine ⟨[0, 1, 2], [.obj b2 28 (.agg (.pair (.eq (.slice none 0 0)) (.pair (.eq (.slice none 0 0)) (.pair (.eq (.slice none 0 0)) (.eq (.slice none 0 0)))))), .obj b1 28 (.rep tChange a0), .obj b5 28 (.agg (.pair (.eq (.slice none 0 0)) (.pair (.eq (.slice none 0 0)) (.pair (.eq (.slice none 0 0)) (.eq (.slice none 0 0))))))], by kernel_rfl, by decide, ?_⟩
 refine JT.front 2 rfl ?_
 refine JT.n11 rfl rfl (o_store rfl sz28 trivial rfl rfl) ⟨rfl, rfl, trivial⟩ (by kernel_rfl) ?_
 refine JT.nil ?_
 refine JN.se (SE.fin (Γ' := [(1, .eq (.pointer (some ⟨b1, 0, none⟩))), (2, .eq (.pointer (some ⟨b2, 0, none⟩))), (3, .eq (.pointer (some ⟨b5, 0, none⟩)))]) (Δ' := [.obj b5 28 (.agg (.pair (.eq (.slice none 0 0)) (.pair (.eq (.slice none 0 0)) (.pair (.rep (.slice (.int .i64)) r3) (.rep (.slice (.int .i64)) r4))))), .obj b2 28 (.agg (.pair (.eq (.slice none 0 0)) (.pair (.eq (.slice none 0 0)) (.pair (.eq (.slice none 0 0)) (.eq (.slice none 0 0)))))), .obj b1 28 (.rep tChange a0)]) [0, 1, 2] ⟨rfl, rfl, rfl, trivial⟩ rfl) ?_
 refine JN.then_n ?_
 show JC _ _ _ _ _
 refine JC.cutB (Z := Value) (α := (List dThing)) (fun z7 x6 => [(1, .eq (.pointer (some ⟨b1, 0, none⟩))), (2, .eq (.pointer (some ⟨b2, 0, none⟩))), (3, .eq (.pointer (some ⟨b5, 0, none⟩)))]) (fun z7 x6 => [.obj b1 28 (.rep tChange a0), .obj b2 28 (.agg (.pair (.eq (.slice none 0 0)) (.pair (.eq (.slice none 0 0)) (.pair (.eq (.slice none 0 0)) (.eq (.slice none 0 0)))))), .obj b5 28 (.agg (.pair (.eq z7) (.pair (.eq (.slice none 0 0)) (.pair (.rep (.slice (.int .i64)) r3) (.rep (.slice (.int .i64)) r4))))), .sl z7 45 tThing x6]) h (fun K h => ?_) (fun z7 x6 h => ?_)
 ·
  refine JC.seq ?_
  refine JC.region ?_
  refine JO.ac rfl ?_
  refine JO.nil ?_
  refine JN.then_n ?_
  show JC _ _ _ _ _
  refine JC.block ?_
  refine JC.se (SE.nil 45 tThing) ?_
  refine JC.loopB (Z := Value) (α := (List dThing) × Int) (fun z9 y8 => [(1, .eq (.pointer (some ⟨b1, 0, none⟩))), (2, .eq (.pointer (some ⟨b2, 0, none⟩))), (3, .eq (.pointer (some ⟨b5, 0, none⟩))), (4, .eq (.int .i64 y8.2))]) (fun z9 y8 => [.obj b1 28 (.rep tChange a0), .obj b2 28 (.agg (.pair (.eq (.slice none 0 0)) (.pair (.eq (.slice none 0 0)) (.pair (.eq (.slice none 0 0)) (.eq (.slice none 0 0)))))), .obj b5 28 (.agg (.pair (.eq z9) (.pair (.eq (.slice none 0 0)) (.pair (.rep (.slice (.int .i64)) r3) (.rep (.slice (.int .i64)) r4))))), .sl z9 45 tThing y8.1]) (kit_CopyChange_l1 k a0) k (.slice none 0 0) (([] : (List dThing)), (0 : Int)) (fun _ => rfl) h (SE.fin [3, 2, 1, 0] ⟨rfl, rfl, rfl, rfl, trivial⟩ rfl) (fun n z9 y8 h => ?_)
  unfold kit_CopyChange_l1 at h
  refine JC.seq ?_
  refine JC.seq ?_
  refine JC.region ?_
  refine JO.mv rfl rfl ?_
  refine JO.s rfl (o_field_obj rfl fo28_0) ⟨rfl, trivial⟩ ?_
  refine JO.s11 rfl rfl rfl (o_load_obj rfl sz25 (fun _ => rfl) rfl) ⟨rfl, trivial⟩ ?_
  refine JO.s rfl (o_len rfl rfl Try.underlying25) ⟨rfl, trivial⟩ ?_
  refine JO.s rfl (o_lss rfl) ⟨rfl, rfl, trivial⟩ ?_
  refine JO.nil ?_
  refine JN.then_n ?_
  show JC _ _ _ _ _
  refine JC.cond rfl (fun hb => ?_) (fun hb => ?_)
  ·
   replace h := b_if (d_t hb) h
   refine JC.skip ?_
   refine JN.then_n ?_
   show JC _ _ _ _ _
   refine JC.seq ?_
   refine JC.block ?_
   refine JC.seq ?_
   refine JC.region ?_
   refine JO.s rfl (o_field_obj rfl fo28_0) ⟨rfl, trivial⟩ ?_
   refine JO.s11 rfl rfl rfl (o_load_obj rfl sz25 (fun _ => rfl) rfl) ⟨rfl, trivial⟩ ?_
   refine JO.mv rfl rfl ?_
   obtain ⟨x10, ex10, h⟩ := b_bind h
   refine JO.s rfl (o_index (t := tThing) rfl Try.underlying25 sz45 ex10) ⟨rfl, rfl, trivial⟩ ?_
   refine JO.s rfl (o_load_at (t := tThing) rfl sz45 rfl) ⟨rfl, trivial⟩ ?_
   refine JO.s01 rfl rfl rfl (o_alloc rfl za45 al45) trivial fun b11 => ?_
   refine JO.n11 rfl rfl (o_store rfl sz45 rfl rfl rfl) ⟨rfl, rfl, trivial⟩ ?_
   refine JO.nil ?_
   refine JN.then_n ?_
   show JC _ _ _ _ _
   refine JC.seq ?_
   refine JC.region ?_
   refine JO.s rfl (o_field_obj rfl fo45_0) ⟨rfl, trivial⟩ ?_
   refine JO.s11 rfl rfl rfl (o_load_obj rfl sz22 (fun _ => rfl) rfl) ⟨rfl, trivial⟩ ?_
   obtain ⟨r12, er12, h⟩ := b_bind h
   have cr12 := kit_CopyInts_ok k x10.1 r12 er12
   refine JO.s01 rfl rfl rfl (o_call [.tmp 28] rfl rfl en37 rfl cr12) ⟨rfl, trivial⟩ fun v13 => ?_
   refine JO.s rfl (o_field_obj rfl fo45_0) ⟨rfl, trivial⟩ ?_
   refine JO.one fun o14 => ?_
   refine JO.front 1 rfl ?_
   refine JO.n11 rfl rfl (o_store rfl sz22 o14 rfl rfl) ⟨rfl, rfl, trivial⟩ ?_
   refine JO.nil ?_
   refine JN.then_n ?_
   show JC _ _ _ _ _
   refine JC.region ?_
   refine JO.s rfl (o_field_obj rfl fo28_0) ⟨rfl, trivial⟩ ?_
   refine JO.front 4 rfl ?_
   refine JO.s11 rfl rfl rfl (o_load_obj rfl sz25 (fun _ => rfl) rfl) ⟨rfl, trivial⟩ ?_
   refine JO.front 1 rfl ?_
   refine JO.front 2 rfl ?_
   refine JO.se (SE.frzBoth (off := 0) [29] ⟨rfl, trivial⟩ rfl rfl) ?_
   refine JO.s11 rfl rfl rfl (o_load_obj rfl sz45 (nfn) rfl) ⟨rfl, trivial⟩ ?_
   refine JO.s rfl (o_litB (t := tThing) [(.tmp 33, _)] [(r12, x10.2)] rfl rfl sl25 (.cons trivial (.agg (.pair .rep .rep)) .nil) rfl rfl) ⟨rfl, trivial⟩ ?_
   obtain ⟨u15, eu15, h⟩ := b_bind h
   refine JO.front 4 rfl ?_
   refine JO.s1x rfl rfl rfl (o_append rfl rfl sl25 (chkP_some eu15)) ⟨rfl, rfl, trivial⟩ fun v16 => ?_
   refine JO.s rfl (o_field_obj rfl fo28_0) ⟨rfl, trivial⟩ ?_
   refine JO.one fun o17 => ?_
   refine JO.front 2 rfl ?_
   refine JO.n11 rfl rfl (o_store rfl sz25 o17 rfl rfl) ⟨rfl, rfl, trivial⟩ ?_
   refine JO.nil ?_
   refine JN.blk_n ?_
   refine JN.then_n ?_
   show JC _ _ _ _ _
   refine JC.region ?_
   refine JO.mv rfl rfl ?_
   obtain ⟨x18, ex18, h⟩ := b_bind h
   refine JO.s rfl (o_add rfl ex18) ⟨rfl, rfl, trivial⟩ ?_
   refine JO.as rfl rfl ?_
   refine JO.nil ?_
   refine JN.then_n ?_
   exact JN.z (v16, (y8.1 ++ [(r12, x10.2)], x18)) h (SE.fin [3, 4, 0, 1] ⟨rfl, rfl, rfl, rfl, trivial⟩ rfl)
  ·
   replace h := b_ifn (d_f hb) h
   refine JC.exit ?_
   refine JN.then_x ?_
   refine JN.then_x ?_
   refine JN.blk_hit ?_
   refine JN.then_n ?_
   exact JN.z (z9, y8.1) h (SE.fin [0, 1, 2, 3] ⟨rfl, rfl, rfl, trivial⟩ rfl)
 ·
  refine JC.cutB (Z := Value) (α := (List dDresser)) (fun z20 x19 => [(2, .eq (.pointer (some ⟨b2, 0, none⟩))), (3, .eq (.pointer (some ⟨b5, 0, none⟩)))]) (fun z20 x19 => [.obj b2 28 (.agg (.pair (.eq (.slice none 0 0)) (.pair (.eq (.slice none 0 0)) (.pair (.eq (.slice none 0 0)) (.eq (.slice none 0 0)))))), .obj b5 28 (.agg (.pair (.eq z7) (.pair (.eq z20) (.pair (.rep (.slice (.int .i64)) r3) (.rep (.slice (.int .i64)) r4))))), .sl z7 45 tThing x6, .sl z20 53 tDresser x19]) h (fun K h => ?_) (fun z20 x19 h => ?_)
  ·
   refine JC.seq ?_
   refine JC.region ?_
   refine JO.ac rfl ?_
   refine JO.nil ?_
   refine JN.then_n ?_
   show JC _ _ _ _ _
   refine JC.block ?_
   refine JC.se (SE.nil 53 tDresser) ?_
   refine JC.loopB (Z := Value) (α := (List dDresser) × Int) (fun z22 y21 => [(1, .eq (.pointer (some ⟨b1, 0, none⟩))), (2, .eq (.pointer (some ⟨b2, 0, none⟩))), (3, .eq (.pointer (some ⟨b5, 0, none⟩))), (6, .eq (.int .i64 y21.2))]) (fun z22 y21 => [.obj b1 28 (.rep tChange a0), .obj b2 28 (.agg (.pair (.eq (.slice none 0 0)) (.pair (.eq (.slice none 0 0)) (.pair (.eq (.slice none 0 0)) (.eq (.slice none 0 0)))))), .obj b5 28 (.agg (.pair (.eq z7) (.pair (.eq z22) (.pair (.rep (.slice (.int .i64)) r3) (.rep (.slice (.int .i64)) r4))))), .sl z7 45 tThing x6, .sl z22 53 tDresser y21.1]) (kit_CopyChange_l2 k a0) k (.slice none 0 0) (([] : (List dDresser)), (0 : Int)) (fun _ => rfl) h (SE.fin [1, 2, 3, 4, 0] ⟨rfl, rfl, rfl, rfl, trivial⟩ rfl) (fun n z22 y21 h => ?_)
   unfold kit_CopyChange_l2 at h
   refine JC.seq ?_
   refine JC.seq ?_
   refine JC.region ?_
   refine JO.mv rfl rfl ?_
   refine JO.s rfl (o_field_obj rfl fo28_1) ⟨rfl, trivial⟩ ?_
   refine JO.s11 rfl rfl rfl (o_load_obj rfl sz26 (fun _ => rfl) rfl) ⟨rfl, trivial⟩ ?_
   refine JO.s rfl (o_len rfl rfl Try.underlying26) ⟨rfl, trivial⟩ ?_
   refine JO.s rfl (o_lss rfl) ⟨rfl, rfl, trivial⟩ ?_
   refine JO.nil ?_
   refine JN.then_n ?_
   show JC _ _ _ _ _
   refine JC.cond rfl (fun hb => ?_) (fun hb => ?_)
   ·
    replace h := b_if (d_t hb) h
    refine JC.skip ?_
    refine JN.then_n ?_
    show JC _ _ _ _ _
    refine JC.seq ?_
    refine JC.block ?_
    refine JC.seq ?_
    refine JC.region ?_
    refine JO.s rfl (o_field_obj rfl fo28_1) ⟨rfl, trivial⟩ ?_
    refine JO.s11 rfl rfl rfl (o_load_obj rfl sz26 (fun _ => rfl) rfl) ⟨rfl, trivial⟩ ?_
    refine JO.mv rfl rfl ?_
    obtain ⟨x23, ex23, h⟩ := b_bind h
    refine JO.s rfl (o_index (t := tDresser) rfl Try.underlying26 sz53 ex23) ⟨rfl, rfl, trivial⟩ ?_
    refine JO.s rfl (o_load_at (t := tDresser) rfl sz53 rfl) ⟨rfl, trivial⟩ ?_
    refine JO.s01 rfl rfl rfl (o_alloc rfl za53 al53) trivial fun b24 => ?_
    refine JO.n11 rfl rfl (o_store rfl sz53 rfl rfl rfl) ⟨rfl, rfl, trivial⟩ ?_
    refine JO.nil ?_
    refine JN.then_n ?_
    show JC _ _ _ _ _
    refine JC.seq ?_
    refine JC.region ?_
    refine JO.s rfl (o_field_obj rfl fo53_0) ⟨rfl, trivial⟩ ?_
    refine JO.s11 rfl rfl rfl (o_load_obj rfl sz22 (fun _ => rfl) rfl) ⟨rfl, trivial⟩ ?_
    obtain ⟨r25, er25, h⟩ := b_bind h
    have cr25 := kit_CopyInts_ok k x23.1 r25 er25
    refine JO.s01 rfl rfl rfl (o_call [.tmp 50] rfl rfl en37 rfl cr25) ⟨rfl, trivial⟩ fun v26 => ?_
    refine JO.s rfl (o_field_obj rfl fo53_0) ⟨rfl, trivial⟩ ?_
    refine JO.one fun o27 => ?_
    refine JO.front 1 rfl ?_
    refine JO.n11 rfl rfl (o_store rfl sz22 o27 rfl rfl) ⟨rfl, rfl, trivial⟩ ?_
    refine JO.nil ?_
    refine JN.then_n ?_
    show JC _ _ _ _ _
    refine JC.region ?_
    refine JO.s rfl (o_field_obj rfl fo28_1) ⟨rfl, trivial⟩ ?_
    refine JO.front 4 rfl ?_
    refine JO.s11 rfl rfl rfl (o_load_obj rfl sz26 (fun _ => rfl) rfl) ⟨rfl, trivial⟩ ?_
    refine JO.front 1 rfl ?_
    refine JO.front 2 rfl ?_
    refine JO.se (SE.frzBoth (off := 0) [51] ⟨rfl, trivial⟩ rfl rfl) ?_
    refine JO.s11 rfl rfl rfl (o_load_obj rfl sz53 (nfn) rfl) ⟨rfl, trivial⟩ ?_
    refine JO.s rfl (o_litB (t := tDresser) [(.tmp 55, _)] [(r25, x23.2)] rfl rfl sl26 (.cons trivial (.agg (.pair .rep .rep)) .nil) rfl rfl) ⟨rfl, trivial⟩ ?_
    obtain ⟨u28, eu28, h⟩ := b_bind h
    refine JO.front 5 rfl ?_
    refine JO.s1x rfl rfl rfl (o_append rfl rfl sl26 (chkP_some eu28)) ⟨rfl, rfl, trivial⟩ fun v29 => ?_
    refine JO.s rfl (o_field_obj rfl fo28_1) ⟨rfl, trivial⟩ ?_
    refine JO.one fun o30 => ?_
    refine JO.front 2 rfl ?_
    refine JO.n11 rfl rfl (o_store rfl sz26 o30 rfl rfl) ⟨rfl, rfl, trivial⟩ ?_
    refine JO.nil ?_
    refine JN.blk_n ?_
    refine JN.then_n ?_
    show JC _ _ _ _ _
    refine JC.region ?_
    refine JO.mv rfl rfl ?_
    obtain ⟨x31, ex31, h⟩ := b_bind h
    refine JO.s rfl (o_add rfl ex31) ⟨rfl, rfl, trivial⟩ ?_
    refine JO.as rfl rfl ?_
    refine JO.nil ?_
    refine JN.then_n ?_
    exact JN.z (v29, (y21.1 ++ [(r25, x23.2)], x31)) h (SE.fin [3, 4, 0, 5, 1] ⟨rfl, rfl, rfl, rfl, trivial⟩ rfl)
   ·
    replace h := b_ifn (d_f hb) h
    refine JC.exit ?_
    refine JN.then_x ?_
    refine JN.then_x ?_
    refine JN.blk_hit ?_
    refine JN.then_n ?_
    exact JN.z (z22, y21.1) h (SE.fin [1, 2, 3, 4] ⟨rfl, rfl, trivial⟩ rfl)
  ·
   refine JC.seq ?_
   refine JC.region ?_
   refine JO.front 1 rfl ?_
   refine JO.s11 rfl rfl rfl (o_load_obj rfl sz28 (nfn) rfl) ⟨rfl, trivial⟩ ?_
   refine JO.front 1 rfl ?_
   refine JO.n11 rfl rfl (o_store rfl sz28 trivial rfl rfl) ⟨rfl, rfl, trivial⟩ ?_
   refine JO.nil ?_
   refine JN.then_n ?_
   show JC _ _ _ _ _
   refine JC.ret ?_
   refine JN.se (SE.fin (Γ' := [(2, _)]) [2, 3, 0, 1] ⟨rfl, trivial⟩ rfl) ?_
   obtain rfl := Option.some.inj h
   exact JN.ret (z7, z20) [.agg (.pair (.eq z7) (.pair (.eq z20) (.pair (.rep (.slice (.int .i64)) r3) (.rep (.slice (.int .i64)) r4))))] 2 ⟨⟨_, _, _, _, _, rfl, (.tail _ (.tail _ (.head _))), sz28, (nfn), rfl⟩, trivial⟩ rfl


def law_instead (k : Nat) (a0 : dChange) (a1 : Int) (a2 : dDresser) : Option dChange :=
 (kit_CopyChange k a0).bind fun r4 =>
 (geti r4.2.1 a1).bind fun x7 =>
 some (r4.1, List.set r4.2.1 (Int.toNat a1) a2, r4.2.2.1, r4.2.2.2)

theorem law_instead_ok (k : Nat) (a0 : dChange) (a1 : Int) (a2 : dDresser) (r : dChange) (h : law_instead k a0 a1 a2 = some r) :
 Ctr Try.prog 28 [.rep tChange a0, .eq (.int .i64 a1), .rep tDresser a2] [] (fun _ : Unit => (resA [.rep tChange r], [])) := by
 unfold law_instead at h
 replace h := b_top h
 refine Ctr.of 16 Try.func28 rfl Try.ntmps28 rfl fun S w0 => ?_
 refine JC.seq ?_
 refine JC.region ?_
 refine JO.s01 rfl rfl rfl (o_box rfl rfl) ⟨rfl, trivial⟩ fun b1 => ?_
 refine JO.s01 rfl rfl rfl (o_box rfl rfl) ⟨rfl, trivial⟩ fun b2 => ?_
 refine JO.s01 rfl rfl rfl (o_alloc rfl za28 al28) trivial fun b3 => ?_
 refine JO.nil ?_
 refine JN.then_n ?_
 show JC _ _ _ _ _
 refine JC.seq ?_
 refine JC.region ?_
 refine JO.front 2 rfl ?_
 refine JO.s11 rfl rfl rfl (o_load_obj rfl sz28 (nfn) rfl) ⟨rfl, trivial⟩ ?_
 obtain ⟨r4, er4, h⟩ := b_bind h
 have cr4 := kit_CopyChange_ok k a0 r4 er4
 refine JO.stepG (Δ := []) (F := _) (fun _ _ _ => wanted_none rfl _) rfl rfl (o_call [.tmp 8] rfl rfl en27 rfl cr4) ⟨rfl, trivial⟩ fun z5 => ?_
 refine JO.s01 rfl rfl rfl (o_alloc rfl za28 al28) trivial fun b6 => ?_
 refine JO.n11 rfl rfl (o_store rfl sz28 trivial rfl rfl) ⟨rfl, rfl, trivial⟩ ?_
 refine JO.nil ?_
 refine JN.then_n ?_
 show JC _ _ _ _ _
 refine JC.seq ?_
 refine JC.region ?_
 refine JO.s rfl (o_field_obj rfl fo28_1) ⟨rfl, trivial⟩ ?_
 refine JO.s11 rfl rfl rfl (o_load_obj rfl sz26 (fun _ => rfl) rfl) ⟨rfl, trivial⟩ ?_
 refine JO.mv rfl rfl ?_
 refine JO.front 5 rfl ?_
 refine JO.s11 rfl rfl rfl (o_load_obj rfl sz53 (nfn) rfl) ⟨rfl, trivial⟩ ?_
 obtain ⟨x7, ex7, h⟩ := b_bind h
 refine JO.front 3 rfl ?_
 refine JO.s11 rfl rfl rfl (o_index_own (t := tDresser) rfl Try.underlying26 sz53 ex7) ⟨rfl, rfl, trivial⟩ ?_
 refine JO.n11 rfl rfl (o_store_elW (i := Int.toNat a1) rfl sz53 rfl (geti_lt ex7) rfl .rep rfl) ⟨rfl, rfl, trivial⟩ ?_
 refine JO.nil ?_
 refine JN.then_n ?_
 show JC _ _ _ _ _
 refine JC.seq ?_
 refine JC.region ?_
 refine JO.front 2 rfl ?_
 refine JO.front 3 rfl ?_
 refine JO.se (SE.frzBoth (off := 0) [] trivial rfl rfl) ?_
 refine JO.front 1 rfl ?_
 refine JO.se (SE.frzBoth (off := 1) [11] ⟨rfl, trivial⟩ rfl rfl) ?_
 refine JO.s11 rfl rfl rfl (o_load_obj rfl sz28 (nfn) rfl) ⟨rfl, trivial⟩ ?_
 refine JO.front 3 rfl ?_
 refine JO.n11 rfl rfl (o_store rfl sz28 trivial rfl rfl) ⟨rfl, rfl, trivial⟩ ?_
 refine JO.nil ?_
 refine JN.then_n ?_
 show JC _ _ _ _ _
 refine JC.ret ?_
 refine JN.se (SE.objE (a := .agg (.pair (.rep (.slice tThing) r4.1) (.pair (.rep (.slice tDresser) (List.set r4.2.1 (Int.toNat a1) a2)) (.pair (.rep (.slice (.int .i64)) r4.2.2.1) (.rep (.slice (.int .i64)) r4.2.2.2))))) (a' := .rep tChange (r4.1, List.set r4.2.1 (Int.toNat a1) a2, r4.2.2.1, r4.2.2.2)) (AE.ent (.agg (.pair .rep (.pair .rep (.pair .rep .rep)))))) ?_
 obtain rfl := Option.some.inj h
 exact JN.ret () [.rep tChange (r4.1, List.set r4.2.1 (Int.toNat a1) a2, r4.2.2.1, r4.2.2.2)] 0 ⟨⟨_, _, _, _, _, rfl, (.head _), sz28, (nfn), rfl⟩, trivial⟩ rfl


def law_able_l1 (k : Nat) (a1 : (List Int)) (a2 : Int) (a3 : Int) : Nat → ((List Int) × Int) → Option (List Int)
 | 0, _ => none
 | n + 1, y5 =>
  if y5.2 < a3 then (((((if y5.2 = a2 then (some true) else ((kit_At k a1 y5.2).bind fun r11 =>
  some (decide ((0 : Int) ≤ r11)))) : Option (Bool)).bind fun x9 =>
  if x9 = true then ((chkP (okLen (List.length y5.1 + List.length [y5.2]))).bind fun _ =>
  some (y5.1 ++ [y5.2])) else (some y5.1)) : Option ((List Int))).bind fun x7 =>
  (ck (y5.2 + (1 : Int))).bind fun x15 =>
  law_able_l1 k a1 a2 a3 n (x7, x15)) else (some y5.1)
def law_able (k : Nat) (a0 : dDresser) (a1 : (List Int)) (a2 : Int) (a3 : Int) : Option dDresser :=
 ((law_able_l1 k a1 a2 a3 k (([] : (List Int)), (0 : Int))) : Option ((List Int))).bind fun x3 =>
 some (x3, a0.2)

theorem law_able_ok (k : Nat) (a0 : dDresser) (a1 : (List Int)) (a2 : Int) (a3 : Int) (r : dDresser) (h : law_able k a0 a1 a2 a3 = some r) :
 Ctr Try.prog 31 [.rep tDresser a0, .rep (.slice (.int .i64)) a1, .eq (.int .i64 a2), .eq (.int .i64 a3)] [] (fun _ : Unit => (resA [.rep tDresser r], [])) := by
 unfold law_able at h
 replace h := b_top h
 refine Ctr.of 32 Try.func31 rfl Try.ntmps31 rfl fun S w0 => ?_
 refine JC.seq ?_
 refine JC.region ?_
 refine JO.s01 rfl rfl rfl (o_box rfl rfl) ⟨rfl, trivial⟩ fun b1 => ?_
 refine JO.s01 rfl rfl rfl (o_alloc rfl za53 al53) trivial fun b2 => ?_
 refine JO.nil ?_
 refine JN.then_n ?_
 show JC _ _ _ _ _
 refine JC.seq ?_
 refine JC.region ?_
 refine JO.s rfl (o_field_obj rfl fo53_0) ⟨rfl, trivial⟩ ?_
 refine JO.front 1 rfl ?_
 refine JO.n11 rfl rfl (o_store rfl sz22 rfl rfl rfl) ⟨rfl, rfl, trivial⟩ ?_
 refine JO.nil ?_
 refine JN.then_n ?_
 show JC _ _ _ _ _
 refine JC.cutB (Z := Value) (α := (List Int)) (fun z4 x3 => [(4, .eq (.pointer (some ⟨b1, 0, none⟩))), (8, .eq (.pointer (some ⟨b2, 0, none⟩)))]) (fun z4 x3 => [.obj b1 53 (.agg (.pair (.eq z4) (.rep (.pair (.int .i64) (.int .i64)) a0.2))), .sl z4 3 (.int .i64) x3, .obj b2 53 (.agg (.pair (.eq (.slice none 0 0)) (.pair (.eq (.int .i64 (0 : Int))) (.eq (.int .i64 (0 : Int))))))]) h (fun K h => ?_) (fun z4 x3 h => ?_)
 ·
  refine JC.seq ?_
  refine JC.region ?_
  refine JO.ac rfl ?_
  refine JO.nil ?_
  refine JN.then_n ?_
  show JC _ _ _ _ _
  refine JC.block ?_
  refine JC.se (SE.nil 3 (.int .i64)) ?_
  refine JC.loopB (Z := Value) (α := (List Int) × Int) (fun z6 y5 => [(1, .rep (.slice (.int .i64)) a1), (2, .eq (.int .i64 a2)), (3, .eq (.int .i64 a3)), (4, .eq (.pointer (some ⟨b1, 0, none⟩))), (8, .eq (.pointer (some ⟨b2, 0, none⟩))), (9, .eq (.int .i64 y5.2))]) (fun z6 y5 => [.obj b1 53 (.agg (.pair (.eq z6) (.rep (.pair (.int .i64) (.int .i64)) a0.2))), .sl z6 3 (.int .i64) y5.1, .obj b2 53 (.agg (.pair (.eq (.slice none 0 0)) (.pair (.eq (.int .i64 (0 : Int))) (.eq (.int .i64 (0 : Int))))))]) (law_able_l1 k a1 a2 a3) k (.slice none 0 0) (([] : (List Int)), (0 : Int)) (fun _ => rfl) h (SE.fin [1, 0, 2] ⟨rfl, rfl, rfl, rfl, rfl, rfl, trivial⟩ rfl) (fun n z6 y5 h => ?_)
  unfold law_able_l1 at h
  refine JC.seq ?_
  refine JC.seq ?_
  refine JC.region ?_
  refine JO.mv rfl rfl ?_
  refine JO.mv rfl rfl ?_
  refine JO.s rfl (o_lss rfl) ⟨rfl, rfl, trivial⟩ ?_
  refine JO.nil ?_
  refine JN.then_n ?_
  show JC _ _ _ _ _
  refine JC.cond rfl (fun hb => ?_) (fun hb => ?_)
  ·
   replace h := b_if (d_t hb) h
   refine JC.skip ?_
   refine JN.then_n ?_
   show JC _ _ _ _ _
   refine JC.cutB (Z := Value) (α := (List Int)) (fun z8 x7 => [(1, .rep (.slice (.int .i64)) a1), (2, .eq (.int .i64 a2)), (3, .eq (.int .i64 a3)), (4, .eq (.pointer (some ⟨b1, 0, none⟩))), (8, .eq (.pointer (some ⟨b2, 0, none⟩))), (9, .eq (.int .i64 y5.2))]) (fun z8 x7 => [.obj b1 53 (.agg (.pair (.eq z8) (.rep (.pair (.int .i64) (.int .i64)) a0.2))), .sl z8 3 (.int .i64) x7, .obj b2 53 (.agg (.pair (.eq (.slice none 0 0)) (.pair (.eq (.int .i64 (0 : Int))) (.eq (.int .i64 (0 : Int))))))]) h (fun K h => ?_) (fun z8 x7 h => ?_)
   ·
    refine JC.block ?_
    refine JC.cutB (Z := Unit) (α := Bool) (fun z10 x9 => [(1, .rep (.slice (.int .i64)) a1), (2, .eq (.int .i64 a2)), (3, .eq (.int .i64 a3)), (4, .eq (.pointer (some ⟨b1, 0, none⟩))), (8, .eq (.pointer (some ⟨b2, 0, none⟩))), (9, .eq (.int .i64 y5.2)), (24, .eq (.bool x9))]) (fun z10 x9 => [.obj b1 53 (.agg (.pair (.eq z6) (.rep (.pair (.int .i64) (.int .i64)) a0.2))), .sl z6 3 (.int .i64) y5.1, .obj b2 53 (.agg (.pair (.eq (.slice none 0 0)) (.pair (.eq (.int .i64 (0 : Int))) (.eq (.int .i64 (0 : Int))))))]) h (fun K h => ?_) (fun z10 x9 h => ?_)
    ·
     refine JC.region ?_
     refine JO.mv rfl rfl ?_
     refine JO.mv rfl rfl ?_
     refine JO.s rfl (o_eql rfl) ⟨rfl, rfl, trivial⟩ ?_
     refine JO.mv rfl rfl ?_
     refine JO.bool (s := 19) rfl (fun hb => ?_) (fun hb => ?_)
     ·
      replace h := b_if (d_t hb) h
      refine JO.gno rfl rfl rfl rfl rfl rfl rfl ?_
      refine JO.gno rfl rfl rfl rfl rfl rfl rfl ?_
      refine JO.gno rfl rfl rfl rfl rfl rfl rfl ?_
      refine JO.gno rfl rfl rfl rfl rfl rfl rfl ?_
      refine JO.s rfl (o_pick_t rfl) ⟨rfl, rfl, trivial⟩ ?_
      refine JO.nil ?_
      refine JN.then_n ?_
      exact JN.z ((), true) h (SE.fin [0, 1, 2] ⟨rfl, rfl, rfl, rfl, rfl, rfl, rfl, trivial⟩ rfl)
     ·
      replace h := b_ifn (d_f hb) h
      refine JO.g00 rfl rfl rfl rfl rfl rfl (o_move rfl) ⟨rfl, trivial⟩ ?_
      refine JO.g00 rfl rfl rfl rfl rfl rfl (o_move rfl) ⟨rfl, trivial⟩ ?_
      obtain ⟨r11, er11, h⟩ := b_bind h
      have cr11 := kit_At_ok k a1 y5.2 r11 er11
      refine JO.g00 rfl rfl rfl rfl rfl rfl (o_call [.tmp 20, .tmp 21] rfl rfl en30 rfl cr11) ⟨rfl, rfl, trivial⟩ ?_
      refine JO.g00 rfl rfl rfl rfl rfl rfl (o_geq rfl) ⟨rfl, rfl, trivial⟩ ?_
      refine JO.s rfl (o_pick_f rfl) ⟨rfl, rfl, trivial⟩ ?_
      refine JO.nil ?_
      refine JN.then_n ?_
      exact JN.z ((), decide ((0 : Int) ≤ r11)) h (SE.fin [0, 1, 2] ⟨rfl, rfl, rfl, rfl, rfl, rfl, rfl, trivial⟩ rfl)
    ·
     refine JC.cond rfl (fun hb => ?_) (fun hb => ?_)
     ·
      replace h := b_if (v_t hb) h
      refine JC.region ?_
      refine JO.s rfl (o_field_obj rfl fo53_0) ⟨rfl, trivial⟩ ?_
      refine JO.s11 rfl rfl rfl (o_load_obj rfl sz22 (fun _ => rfl) rfl) ⟨rfl, trivial⟩ ?_
      refine JO.mv rfl rfl ?_
      refine JO.s rfl (o_litB (t := (.int .i64)) [(.tmp 27, _)] [y5.2] rfl rfl sl22 (.cons rfl .int .nil) rfl rfl) ⟨rfl, trivial⟩ ?_
      obtain ⟨u12, eu12, h⟩ := b_bind h
      refine JO.front 1 rfl ?_
      refine JO.s1x rfl rfl rfl (o_append rfl rfl sl22 (chkP_some eu12)) ⟨rfl, rfl, trivial⟩ fun v13 => ?_
      refine JO.s rfl (o_field_obj rfl fo53_0) ⟨rfl, trivial⟩ ?_
      refine JO.one fun o14 => ?_
      refine JO.front 1 rfl ?_
      refine JO.n11 rfl rfl (o_store rfl sz22 o14 rfl rfl) ⟨rfl, rfl, trivial⟩ ?_
      refine JO.nil ?_
      refine JN.blk_n ?_
      refine JN.then_n ?_
      exact JN.z (v13, y5.1 ++ [y5.2]) h (SE.fin [0, 1, 2] ⟨rfl, rfl, rfl, rfl, rfl, rfl, trivial⟩ rfl)
     ·
      replace h := b_ifn (v_f hb) h
      refine JC.skip ?_
      refine JN.blk_n ?_
      refine JN.then_n ?_
      exact JN.z (z6, y5.1) h (SE.fin [0, 1, 2] ⟨rfl, rfl, rfl, rfl, rfl, rfl, trivial⟩ rfl)
   ·
    refine JC.region ?_
    refine JO.mv rfl rfl ?_
    obtain ⟨x15, ex15, h⟩ := b_bind h
    refine JO.s rfl (o_add rfl ex15) ⟨rfl, rfl, trivial⟩ ?_
    refine JO.as rfl rfl ?_
    refine JO.nil ?_
    refine JN.then_n ?_
    exact JN.z (z8, (x7, x15)) h (SE.fin [0, 1, 2] ⟨rfl, rfl, rfl, rfl, rfl, rfl, trivial⟩ rfl)
  ·
   replace h := b_ifn (d_f hb) h
   refine JC.exit ?_
   refine JN.then_x ?_
   refine JN.then_x ?_
   refine JN.blk_hit ?_
   refine JN.then_n ?_
   exact JN.z (z6, y5.1) h (SE.fin [0, 1, 2] ⟨rfl, rfl, trivial⟩ rfl)
 ·
  refine JC.seq ?_
  refine JC.region ?_
  refine JO.front 1 rfl ?_
  refine JO.se (SE.frzBoth (off := 0) [] trivial rfl rfl) ?_
  refine JO.s11 rfl rfl rfl (o_load_obj rfl sz53 (nfn) rfl) ⟨rfl, trivial⟩ ?_
  refine JO.front 1 rfl ?_
  refine JO.n11 rfl rfl (o_store rfl sz53 trivial rfl rfl) ⟨rfl, rfl, trivial⟩ ?_
  refine JO.nil ?_
  refine JN.then_n ?_
  show JC _ _ _ _ _
  refine JC.ret ?_
  refine JN.se (SE.objE (a := .agg (.pair (.rep (.slice (.int .i64)) x3) (.rep (.pair (.int .i64) (.int .i64)) a0.2))) (a' := .rep tDresser (x3, a0.2)) (AE.ent (.agg (.pair .rep .rep)))) ?_
  obtain rfl := Option.some.inj h
  exact JN.ret () [.rep tDresser (x3, a0.2)] 0 ⟨⟨_, _, _, _, _, rfl, (.head _), sz53, (nfn), rfl⟩, trivial⟩ rfl


def law_ChangeLearn_l2 (k : Nat) (r3 : dChange × dLots) (r6 : (List dStep) × Int × Int) (y9 : Int × Int × Int × Int) : Nat → (Int × Int × Int × Int) → Option (Int × Int × Int)
 | 0, _ => none
 | n + 1, y13 =>
  if y13.2.2.2 < (r3.1.1.length : Int) then ((((geti r3.1.2.1 y9.2.2.2).bind fun x17 =>
  (kit_At k x17.1 y13.2.2.2).bind fun r18 =>
  if (0 : Int) ≤ r18 then (some (y13.1, y13.2.1, y13.2.2.1)) else ((geti r3.1.2.1 y9.2.2.2).bind fun x19 =>
  (geti r3.1.2.1 y9.2.2.2).bind fun x20 =>
  (law_able k x19 x20.1 y13.2.2.2 (r3.1.1.length : Int)).bind fun r21 =>
  (law_instead k r3.1 y9.2.2.2 r21).bind fun r22 =>
  (chg_Fewest k r22).bind fun r23 =>
  ((if r23.2.2 = (0 : Int) then (if ¬ (r6.2.2 = (0 : Int)) then (if y13.2.1 < (0 : Int) then (some true) else (some (decide (r23.2.1 < y13.1)))) else (some (decide (r23.2.1 < y13.1)))) else (some false)) : Option (Bool)).bind fun x24 =>
  if x24 = true then (some (r23.2.1, y9.2.2.2, y13.2.2.2)) else (some (y13.1, y13.2.1, y13.2.2.1)))) : Option (Int × Int × Int)).bind fun x15 =>
  (ck (y13.2.2.2 + (1 : Int))).bind fun x26 =>
  law_ChangeLearn_l2 k r3 r6 y9 n (x15.1, x15.2.1, x15.2.2, x26)) else (some (y13.1, y13.2.1, y13.2.2.1))

def law_ChangeLearn_l1 (k : Nat) (r3 : dChange × dLots) (r6 : (List dStep) × Int × Int) : Nat → (Int × Int × Int × Int) → Option (Int × Int × Int)
 | 0, _ => none
 | n + 1, y9 =>
  if y9.2.2.2 < (r3.1.2.1.length : Int) then (((law_ChangeLearn_l2 k r3 r6 y9 k (y9.1, y9.2.1, y9.2.2.1, (0 : Int))) : Option (Int × Int × Int)).bind fun x11 =>
  (ck (y9.2.2.2 + (1 : Int))).bind fun x27 =>
  law_ChangeLearn_l1 k r3 r6 n (x11.1, x11.2.1, x11.2.2, x27)) else (some (y9.1, y9.2.1, y9.2.2.1))
def law_ChangeLearn (k : Nat) (a0 : (List Int)) : Option Bool :=
 (kit_NewLots k a0).bind fun r1 =>
 (kit_ChangeOf k (r1.1, r1.2.1, r1.2.2)).bind fun r3 =>
 (chg_Learn k r3.1).bind fun r5 =>
 (chg_Fewest k r3.1).bind fun r6 =>
 ((law_ChangeLearn_l1 k r3 r6 k (r6.2.1, (-1 : Int), (-1 : Int), (0 : Int))) : Option (Int × Int × Int)).bind fun x7 =>
 if x7.2.1 < (0 : Int) then (((if r5.2.2.2 = (11 : Int) then (if r5.1 = (0 : Int) then (if r5.2.1 = (0 : Int) then (if r5.2.2.1 = (0 : Int) then ((law_dressed k).bind fun r30 =>
 some r30) else (some false)) else (some false)) else (some false)) else (some false)) : Option (Bool)).bind fun x28 =>
 some x28) else (((if r5.2.2.2 = (0 : Int) then (if r5.1 = x7.2.1 then (if r5.2.1 = x7.2.2 then (if r5.2.2.1 = x7.1 then ((law_dressed k).bind fun r33 =>
 some r33) else (some false)) else (some false)) else (some false)) else (some false)) : Option (Bool)).bind fun x31 =>
 some x31)

theorem law_ChangeLearn_ok (k : Nat) (a0 : (List Int)) (r : Bool) (h : law_ChangeLearn k a0 = some r) :
 Ctr Try.prog 5 [.rep (.slice (.int .i64)) a0] [] (fun _ : Unit => (resA [.eq (.bool r)], [])) := by
 unfold law_ChangeLearn at h
 replace h := b_top h
 refine Ctr.of 138 Try.func5 rfl Try.ntmps5 rfl fun S w0 => ?_
 refine JC.seq ?_
 refine JC.region ?_
 refine JO.ac rfl ?_
 refine JO.nil ?_
 refine JN.then_n ?_
 show JC _ _ _ _ _
 refine JC.seq ?_
 refine JC.region ?_
 refine JO.mv rfl rfl ?_
 obtain ⟨r1, er1, h⟩ := b_bind h
 have cr1 := kit_NewLots_ok k a0 r1 er1
 refine JO.s01 rfl rfl rfl (o_call [.tmp 18] rfl rfl en17 rfl cr1) ⟨rfl, trivial⟩ fun b2 => ?_
 obtain ⟨r3, er3, h⟩ := b_bind h
 have cr3 := kit_ChangeOf_ok k (r1.1, r1.2.1, r1.2.2) b2 r3 er3
 refine JO.s11 rfl rfl rfl (o_call [.tmp 19] rfl rfl en18 rfl cr3) ⟨rfl, trivial⟩ ?_
 refine JO.s01 rfl rfl rfl (o_alloc rfl za28 al28) trivial fun b4 => ?_
 refine JO.n11 rfl rfl (o_store rfl sz28 rfl rfl rfl) ⟨rfl, rfl, trivial⟩ ?_
 refine JO.nil ?_
 refine JN.then_n ?_
 show JC _ _ _ _ _
 refine JC.seq ?_
 refine JC.region ?_
 refine JO.s11 rfl rfl rfl (o_load_obj rfl sz28 (nfn) rfl) ⟨rfl, trivial⟩ ?_
 obtain ⟨r5, er5, h⟩ := b_bind h
 have cr5 := chg_Learn_ok k r3.1 r5 er5
 refine JO.s rfl (o_call [.tmp 22] rfl rfl en29 rfl cr5) ⟨rfl, trivial⟩ ?_
 refine JO.mv rfl rfl ?_
 refine JO.s rfl (o_extract rfl rfl) ⟨rfl, trivial⟩ ?_
 refine JO.s rfl (o_extract rfl rfl) ⟨rfl, trivial⟩ ?_
 refine JO.s rfl (o_extract rfl rfl) ⟨rfl, trivial⟩ ?_
 refine JO.s rfl (o_extract rfl rfl) ⟨rfl, trivial⟩ ?_
 refine JO.as rfl rfl ?_
 refine JO.as rfl rfl ?_
 refine JO.as rfl rfl ?_
 refine JO.as rfl rfl ?_
 refine JO.nil ?_
 refine JN.then_n ?_
 show JC _ _ _ _ _
 refine JC.seq ?_
 refine JC.region ?_
 refine JO.s11 rfl rfl rfl (o_load_obj rfl sz28 (nfn) rfl) ⟨rfl, trivial⟩ ?_
 obtain ⟨r6, er6, h⟩ := b_bind h
 have cr6 := chg_Fewest_ok k r3.1 r6 er6
 refine JO.s rfl (o_call [.tmp 29] rfl rfl en25 rfl cr6) ⟨rfl, trivial⟩ ?_
 refine JO.mv rfl rfl ?_
 refine JO.s rfl (o_extract rfl rfl) ⟨rfl, trivial⟩ ?_
 refine JO.s rfl (o_extract rfl rfl) ⟨rfl, trivial⟩ ?_
 refine JO.s rfl (o_extract rfl rfl) ⟨rfl, trivial⟩ ?_
 refine JO.as rfl rfl ?_
 refine JO.as rfl rfl ?_
 refine JO.as rfl rfl ?_
 refine JO.nil ?_
 refine JN.then_n ?_
 show JC _ _ _ _ _
 refine JC.seq ?_
 refine JC.region ?_
 refine JO.ac rfl ?_
 refine JO.ac rfl ?_
 refine JO.nil ?_
 refine JN.then_n ?_
 show JC _ _ _ _ _
 refine JC.cutB (Z := Unit) (α := Int × Int × Int) (fun z8 x7 => [(4, .eq (.int .i64 r5.1)), (5, .eq (.int .i64 r5.2.1)), (6, .eq (.int .i64 r5.2.2.1)), (7, .eq (.int .i64 r5.2.2.2)), (9, .eq (.int .i64 x7.1)), (11, .eq (.int .i64 x7.2.1)), (12, .eq (.int .i64 x7.2.2))]) (fun z8 x7 => []) h (fun K h => ?_) (fun z8 x7 h => ?_)
 ·
  refine JC.seq ?_
  refine JC.region ?_
  refine JO.ac rfl ?_
  refine JO.nil ?_
  refine JN.then_n ?_
  show JC _ _ _ _ _
  refine JC.block ?_
  refine JC.loopB (Z := Unit) (α := Int × Int × Int × Int) (fun z10 y9 => [(3, .eq (.pointer (some ⟨b4, 0, none⟩))), (4, .eq (.int .i64 r5.1)), (5, .eq (.int .i64 r5.2.1)), (6, .eq (.int .i64 r5.2.2.1)), (7, .eq (.int .i64 r5.2.2.2)), (9, .eq (.int .i64 y9.1)), (10, .eq (.int .i64 r6.2.2)), (11, .eq (.int .i64 y9.2.1)), (12, .eq (.int .i64 y9.2.2.1)), (13, .eq (.int .i64 y9.2.2.2))]) (fun z10 y9 => [.obj b4 28 (.rep tChange r3.1)]) (law_ChangeLearn_l1 k r3 r6) k () (r6.2.1, (-1 : Int), (-1 : Int), (0 : Int)) (fun _ => rfl) h (SE.fin [0] ⟨rfl, rfl, rfl, rfl, rfl, rfl, rfl, rfl, rfl, rfl, trivial⟩ rfl) (fun n z10 y9 h => ?_)
  unfold law_ChangeLearn_l1 at h
  refine JC.seq ?_
  refine JC.seq ?_
  refine JC.region ?_
  refine JO.mv rfl rfl ?_
  refine JO.s rfl (o_field_obj rfl fo28_1) ⟨rfl, trivial⟩ ?_
  refine JO.s11 rfl rfl rfl (o_load_obj rfl sz26 (fun _ => rfl) rfl) ⟨rfl, trivial⟩ ?_
  refine JO.s rfl (o_len rfl rfl Try.underlying26) ⟨rfl, trivial⟩ ?_
  refine JO.s rfl (o_lss rfl) ⟨rfl, rfl, trivial⟩ ?_
  refine JO.nil ?_
  refine JN.then_n ?_
  show JC _ _ _ _ _
  refine JC.cond rfl (fun hb => ?_) (fun hb => ?_)
  ·
   replace h := b_if (d_t hb) h
   refine JC.skip ?_
   refine JN.then_n ?_
   show JC _ _ _ _ _
   refine JC.cutB (Z := Unit) (α := Int × Int × Int) (fun z12 x11 => [(3, .eq (.pointer (some ⟨b4, 0, none⟩))), (4, .eq (.int .i64 r5.1)), (5, .eq (.int .i64 r5.2.1)), (6, .eq (.int .i64 r5.2.2.1)), (7, .eq (.int .i64 r5.2.2.2)), (9, .eq (.int .i64 x11.1)), (10, .eq (.int .i64 r6.2.2)), (11, .eq (.int .i64 x11.2.1)), (12, .eq (.int .i64 x11.2.2)), (13, .eq (.int .i64 y9.2.2.2))]) (fun z12 x11 => [.obj b4 28 (.rep tChange r3.1)]) h (fun K h => ?_) (fun z12 x11 h => ?_)
   ·
    refine JC.block ?_
    refine JC.seq ?_
    refine JC.region ?_
    refine JO.ac rfl ?_
    refine JO.nil ?_
    refine JN.then_n ?_
    show JC _ _ _ _ _
    refine JC.block ?_
    refine JC.loopB (Z := Unit) (α := Int × Int × Int × Int) (fun z14 y13 => [(3, .eq (.pointer (some ⟨b4, 0, none⟩))), (4, .eq (.int .i64 r5.1)), (5, .eq (.int .i64 r5.2.1)), (6, .eq (.int .i64 r5.2.2.1)), (7, .eq (.int .i64 r5.2.2.2)), (9, .eq (.int .i64 y13.1)), (10, .eq (.int .i64 r6.2.2)), (11, .eq (.int .i64 y13.2.1)), (12, .eq (.int .i64 y13.2.2.1)), (13, .eq (.int .i64 y9.2.2.2)), (14, .eq (.int .i64 y13.2.2.2))]) (fun z14 y13 => [.obj b4 28 (.rep tChange r3.1)]) (law_ChangeLearn_l2 k r3 r6 y9) k () (y9.1, y9.2.1, y9.2.2.1, (0 : Int)) (fun _ => rfl) h (SE.fin [0] ⟨rfl, rfl, rfl, rfl, rfl, rfl, rfl, rfl, rfl, rfl, rfl, trivial⟩ rfl) (fun n z14 y13 h => ?_)
    unfold law_ChangeLearn_l2 at h
    refine JC.seq ?_
    refine JC.seq ?_
    refine JC.region ?_
    refine JO.mv rfl rfl ?_
    refine JO.s rfl (o_field_obj rfl fo28_0) ⟨rfl, trivial⟩ ?_
    refine JO.s11 rfl rfl rfl (o_load_obj rfl sz25 (fun _ => rfl) rfl) ⟨rfl, trivial⟩ ?_
    refine JO.s rfl (o_len rfl rfl Try.underlying25) ⟨rfl, trivial⟩ ?_
    refine JO.s rfl (o_lss rfl) ⟨rfl, rfl, trivial⟩ ?_
    refine JO.nil ?_
    refine JN.then_n ?_
    show JC _ _ _ _ _
    refine JC.cond rfl (fun hb => ?_) (fun hb => ?_)
    ·
     replace h := b_if (d_t hb) h
     refine JC.skip ?_
     refine JN.then_n ?_
     show JC _ _ _ _ _
     refine JC.cutB (Z := Unit) (α := Int × Int × Int) (fun z16 x15 => [(3, .eq (.pointer (some ⟨b4, 0, none⟩))), (4, .eq (.int .i64 r5.1)), (5, .eq (.int .i64 r5.2.1)), (6, .eq (.int .i64 r5.2.2.1)), (7, .eq (.int .i64 r5.2.2.2)), (9, .eq (.int .i64 x15.1)), (10, .eq (.int .i64 r6.2.2)), (11, .eq (.int .i64 x15.2.1)), (12, .eq (.int .i64 x15.2.2)), (13, .eq (.int .i64 y9.2.2.2)), (14, .eq (.int .i64 y13.2.2.2))]) (fun z16 x15 => [.obj b4 28 (.rep tChange r3.1)]) h (fun K h => ?_) (fun z16 x15 h => ?_)
     ·
      refine JC.block ?_
      refine JC.seq ?_
      refine JC.seq ?_
      refine JC.region ?_
      refine JO.s rfl (o_field_obj rfl fo28_1) ⟨rfl, trivial⟩ ?_
      refine JO.s11 rfl rfl rfl (o_load_obj rfl sz26 (fun _ => rfl) rfl) ⟨rfl, trivial⟩ ?_
      refine JO.mv rfl rfl ?_
      obtain ⟨x17, ex17, h⟩ := b_bind h
      refine JO.s rfl (o_index (t := tDresser) rfl Try.underlying26 sz53 ex17) ⟨rfl, rfl, trivial⟩ ?_
      refine JO.s rfl (o_field_at 1 false rfl fo53_0 rfl) ⟨rfl, trivial⟩ ?_
      refine JO.s rfl (o_load_at (t := (.slice (.int .i64))) rfl sz22 rfl) ⟨rfl, trivial⟩ ?_
      refine JO.mv rfl rfl ?_
      obtain ⟨r18, er18, h⟩ := b_bind h
      have cr18 := kit_At_ok k x17.1 y13.2.2.2 r18 er18
      refine JO.s rfl (o_call [.tmp 53, .tmp 54] rfl rfl en30 rfl cr18) ⟨rfl, rfl, trivial⟩ ?_
      refine JO.s rfl (o_geq rfl) ⟨rfl, rfl, trivial⟩ ?_
      refine JO.nil ?_
      refine JN.then_n ?_
      show JC _ _ _ _ _
      refine JC.cond rfl (fun hb => ?_) (fun hb => ?_)
      ·
       replace h := b_if (d_t hb) h
       refine JC.exit ?_
       refine JN.then_x ?_
       refine JN.blk_hit ?_
       refine JN.then_n ?_
       exact JN.z ((), (y13.1, y13.2.1, y13.2.2.1)) h (SE.fin [0] ⟨rfl, rfl, rfl, rfl, rfl, rfl, rfl, rfl, rfl, rfl, rfl, trivial⟩ rfl)
      ·
       replace h := b_ifn (d_f hb) h
       refine JC.skip ?_
       refine JN.then_n ?_
       show JC _ _ _ _ _
       refine JC.seq ?_
       refine JC.drawN ?_
       refine DN.s11 0 rfl rfl rfl rfl (o_load_obj rfl sz28 (nfn) rfl) ⟨rfl, trivial⟩ ?_
       refine DN.s00 rfl rfl rfl (o_move rfl) ⟨rfl, trivial⟩ ?_
       refine DN.s00 rfl rfl rfl (o_field_obj rfl fo28_1) ⟨rfl, trivial⟩ ?_
       refine DN.s11 0 rfl rfl rfl rfl (o_load_obj rfl sz26 (fun _ => rfl) rfl) ⟨rfl, trivial⟩ ?_
       refine DN.s00 rfl rfl rfl (o_move rfl) ⟨rfl, trivial⟩ ?_
       obtain ⟨x19, ex19, h⟩ := b_bind h
       refine DN.s00 rfl rfl rfl (o_index (t := tDresser) rfl Try.underlying26 sz53 ex19) ⟨rfl, rfl, trivial⟩ ?_
       refine DN.s00 rfl rfl rfl (o_load_at (t := tDresser) rfl sz53 rfl) ⟨rfl, trivial⟩ ?_
       refine DN.s00 rfl rfl rfl (o_field_obj rfl fo28_1) ⟨rfl, trivial⟩ ?_
       refine DN.s11 0 rfl rfl rfl rfl (o_load_obj rfl sz26 (fun _ => rfl) rfl) ⟨rfl, trivial⟩ ?_
       refine DN.s00 rfl rfl rfl (o_move rfl) ⟨rfl, trivial⟩ ?_
       obtain ⟨x20, ex20, h⟩ := b_bind h
       refine DN.s00 rfl rfl rfl (o_index (t := tDresser) rfl Try.underlying26 sz53 ex20) ⟨rfl, rfl, trivial⟩ ?_
       refine DN.s00 rfl rfl rfl (o_field_at 1 false rfl fo53_0 rfl) ⟨rfl, trivial⟩ ?_
       refine DN.s00 rfl rfl rfl (o_load_at (t := (.slice (.int .i64))) rfl sz22 rfl) ⟨rfl, trivial⟩ ?_
       refine DN.s00 rfl rfl rfl (o_move rfl) ⟨rfl, trivial⟩ ?_
       refine DN.s00 rfl rfl rfl (o_field_obj rfl fo28_0) ⟨rfl, trivial⟩ ?_
       refine DN.s11 0 rfl rfl rfl rfl (o_load_obj rfl sz25 (fun _ => rfl) rfl) ⟨rfl, trivial⟩ ?_
       refine DN.s00 rfl rfl rfl (o_len rfl rfl Try.underlying25) ⟨rfl, trivial⟩ ?_
       obtain ⟨r21, er21, h⟩ := b_bind h
       have cr21 := law_able_ok k x19 x20.1 y13.2.2.2 (r3.1.1.length : Int) r21 er21
       refine DN.s00 rfl rfl rfl (o_call [.tmp 64, .tmp 70, .tmp 71, .tmp 74] rfl rfl en31 rfl cr21) ⟨rfl, rfl, rfl, rfl, trivial⟩ ?_
       obtain ⟨r22, er22, h⟩ := b_bind h
       have cr22 := law_instead_ok k r3.1 y9.2.2.2 r21 r22 er22
       refine DN.s00 rfl rfl rfl (o_call [.tmp 58, .tmp 59, .tmp 75] rfl rfl en28 rfl cr22) ⟨rfl, rfl, rfl, trivial⟩ ?_
       obtain ⟨r23, er23, h⟩ := b_bind h
       have cr23 := chg_Fewest_ok k r22 r23 er23
       refine DN.s00 rfl rfl rfl (o_call [.tmp 76] rfl rfl en25 rfl cr23) ⟨rfl, trivial⟩ ?_
       refine DN.s00 rfl rfl rfl (o_move rfl) ⟨rfl, trivial⟩ ?_
       refine DN.s00 rfl rfl rfl (o_extract rfl rfl) ⟨rfl, trivial⟩ ?_
       refine DN.s00 rfl rfl rfl (o_extract rfl rfl) ⟨rfl, trivial⟩ ?_
       refine DN.s00 rfl rfl rfl (o_extract rfl rfl) ⟨rfl, trivial⟩ ?_
       refine DN.s00 rfl rfl rfl (o_assign rfl) ⟨rfl, trivial⟩ ?_
       refine DN.s00 rfl rfl rfl (o_assign rfl) ⟨rfl, trivial⟩ ?_
       refine DN.fin (by kernel_rfl) mixed ?_
       refine JO.as rfl rfl ?_
       refine JO.nil ?_
       refine JN.then_n ?_
       show JC _ _ _ _ _
       refine JC.cutB (Z := Unit) (α := Bool) (fun z25 x24 => [(3, .eq (.pointer (some ⟨b4, 0, none⟩))), (4, .eq (.int .i64 r5.1)), (5, .eq (.int .i64 r5.2.1)), (6, .eq (.int .i64 r5.2.2.1)), (7, .eq (.int .i64 r5.2.2.2)), (9, .eq (.int .i64 y13.1)), (10, .eq (.int .i64 r6.2.2)), (11, .eq (.int .i64 y13.2.1)), (12, .eq (.int .i64 y13.2.2.1)), (13, .eq (.int .i64 y9.2.2.2)), (14, .eq (.int .i64 y13.2.2.2)), (16, .eq (.int .i64 r23.2.1)), (95, .eq (.bool x24))]) (fun z25 x24 => [.obj b4 28 (.rep tChange r3.1)]) h (fun K h => ?_) (fun z25 x24 h => ?_)
       ·
        refine JC.region ?_
        refine JO.mv rfl rfl ?_
        refine JO.s rfl (o_eql rfl) ⟨rfl, rfl, trivial⟩ ?_
        refine JO.mv rfl rfl ?_
        refine JO.bool (s := 83) rfl (fun hb => ?_) (fun hb => ?_)
        ·
         replace h := b_if (d_t hb) h
         refine JO.g00 rfl rfl rfl rfl rfl rfl (o_move rfl) ⟨rfl, trivial⟩ ?_
         refine JO.g00 rfl rfl rfl rfl rfl rfl (o_neq rfl) ⟨rfl, rfl, trivial⟩ ?_
         refine JO.g00 rfl rfl rfl rfl rfl rfl (o_move rfl) ⟨rfl, trivial⟩ ?_
         refine JO.bool (s := 86) rfl (fun hb => ?_) (fun hb => ?_)
         ·
          replace h := b_if (n_t hb) h
          refine JO.g00 rfl rfl rfl rfl rfl rfl (o_move rfl) ⟨rfl, trivial⟩ ?_
          refine JO.g00 rfl rfl rfl rfl rfl rfl (o_lss rfl) ⟨rfl, rfl, trivial⟩ ?_
          refine JO.g00 rfl rfl rfl rfl rfl rfl (o_pick_t rfl) ⟨rfl, rfl, trivial⟩ ?_
          refine JO.g00 rfl rfl rfl rfl rfl rfl (o_move rfl) ⟨rfl, trivial⟩ ?_
          refine JO.bool (s := 90) rfl (fun hb => ?_) (fun hb => ?_)
          ·
           replace h := b_if (d_t hb) h
           refine JO.gno rfl rfl rfl rfl rfl rfl rfl ?_
           refine JO.gno rfl rfl rfl rfl rfl rfl rfl ?_
           refine JO.gno rfl rfl rfl rfl rfl rfl rfl ?_
           refine JO.g00 rfl rfl rfl rfl rfl rfl (o_pick_t rfl) ⟨rfl, rfl, trivial⟩ ?_
           refine JO.s rfl (o_pick_t rfl) ⟨rfl, rfl, trivial⟩ ?_
           refine JO.nil ?_
           refine JN.then_n ?_
           exact JN.z ((), true) h (SE.fin [0] ⟨rfl, rfl, rfl, rfl, rfl, rfl, rfl, rfl, rfl, rfl, rfl, rfl, rfl, trivial⟩ rfl)
          ·
           replace h := b_ifn (d_f hb) h
           refine JO.g00 rfl rfl rfl rfl rfl rfl (o_move rfl) ⟨rfl, trivial⟩ ?_
           refine JO.g00 rfl rfl rfl rfl rfl rfl (o_move rfl) ⟨rfl, trivial⟩ ?_
           refine JO.g00 rfl rfl rfl rfl rfl rfl (o_lss rfl) ⟨rfl, rfl, trivial⟩ ?_
           refine JO.g00 rfl rfl rfl rfl rfl rfl (o_pick_f rfl) ⟨rfl, rfl, trivial⟩ ?_
           refine JO.s rfl (o_pick_t rfl) ⟨rfl, rfl, trivial⟩ ?_
           refine JO.nil ?_
           refine JN.then_n ?_
           exact JN.z ((), decide (r23.2.1 < y13.1)) h (SE.fin [0] ⟨rfl, rfl, rfl, rfl, rfl, rfl, rfl, rfl, rfl, rfl, rfl, rfl, rfl, trivial⟩ rfl)
         ·
          replace h := b_ifn (n_fn hb) h
          refine JO.gno rfl rfl rfl rfl rfl rfl rfl ?_
          refine JO.gno rfl rfl rfl rfl rfl rfl rfl ?_
          refine JO.g00 rfl rfl rfl rfl rfl rfl (o_pick_f rfl) ⟨rfl, rfl, trivial⟩ ?_
          refine JO.g00 rfl rfl rfl rfl rfl rfl (o_move rfl) ⟨rfl, trivial⟩ ?_
          refine JO.g00 rfl rfl rfl rfl rfl rfl (o_move rfl) ⟨rfl, trivial⟩ ?_
          refine JO.g00 rfl rfl rfl rfl rfl rfl (o_move rfl) ⟨rfl, trivial⟩ ?_
          refine JO.g00 rfl rfl rfl rfl rfl rfl (o_lss rfl) ⟨rfl, rfl, trivial⟩ ?_
          refine JO.g00 rfl rfl rfl rfl rfl rfl (o_pick_f rfl) ⟨rfl, rfl, trivial⟩ ?_
          refine JO.s rfl (o_pick_t rfl) ⟨rfl, rfl, trivial⟩ ?_
          refine JO.nil ?_
          refine JN.then_n ?_
          exact JN.z ((), decide (r23.2.1 < y13.1)) h (SE.fin [0] ⟨rfl, rfl, rfl, rfl, rfl, rfl, rfl, rfl, rfl, rfl, rfl, rfl, rfl, trivial⟩ rfl)
        ·
         replace h := b_ifn (d_f hb) h
         refine JO.gno rfl rfl rfl rfl rfl rfl rfl ?_
         refine JO.gno rfl rfl rfl rfl rfl rfl rfl ?_
         refine JO.gno rfl rfl rfl rfl rfl rfl rfl ?_
         refine JO.gnou rfl rfl rfl rfl rfl rfl ?_
         refine JO.gnou rfl rfl rfl rfl rfl rfl ?_
         refine JO.gno rfl rfl rfl rfl rfl rfl rfl ?_
         refine JO.gno rfl rfl rfl rfl rfl rfl rfl ?_
         refine JO.gnou rfl rfl rfl rfl rfl rfl ?_
         refine JO.gnou rfl rfl rfl rfl rfl rfl ?_
         refine JO.gnou rfl rfl rfl rfl rfl rfl ?_
         refine JO.gno rfl rfl rfl rfl rfl rfl rfl ?_
         refine JO.s rfl (o_pick_f rfl) ⟨rfl, rfl, trivial⟩ ?_
         refine JO.nil ?_
         refine JN.then_n ?_
         exact JN.z ((), false) h (SE.fin [0] ⟨rfl, rfl, rfl, rfl, rfl, rfl, rfl, rfl, rfl, rfl, rfl, rfl, rfl, trivial⟩ rfl)
       ·
        refine JC.cond rfl (fun hb => ?_) (fun hb => ?_)
        ·
         replace h := b_if (v_t hb) h
         refine JC.region ?_
         refine JO.mv rfl rfl ?_
         refine JO.mv rfl rfl ?_
         refine JO.mv rfl rfl ?_
         refine JO.as rfl rfl ?_
         refine JO.as rfl rfl ?_
         refine JO.as rfl rfl ?_
         refine JO.nil ?_
         refine JN.blk_n ?_
         refine JN.then_n ?_
         exact JN.z ((), (r23.2.1, y9.2.2.2, y13.2.2.2)) h (SE.fin [0] ⟨rfl, rfl, rfl, rfl, rfl, rfl, rfl, rfl, rfl, rfl, rfl, trivial⟩ rfl)
        ·
         replace h := b_ifn (v_f hb) h
         refine JC.skip ?_
         refine JN.blk_n ?_
         refine JN.then_n ?_
         exact JN.z ((), (y13.1, y13.2.1, y13.2.2.1)) h (SE.fin [0] ⟨rfl, rfl, rfl, rfl, rfl, rfl, rfl, rfl, rfl, rfl, rfl, trivial⟩ rfl)
     ·
      refine JC.region ?_
      refine JO.mv rfl rfl ?_
      obtain ⟨x26, ex26, h⟩ := b_bind h
      refine JO.s rfl (o_add rfl ex26) ⟨rfl, rfl, trivial⟩ ?_
      refine JO.as rfl rfl ?_
      refine JO.nil ?_
      refine JN.then_n ?_
      exact JN.z ((), (x15.1, x15.2.1, x15.2.2, x26)) h (SE.fin [0] ⟨rfl, rfl, rfl, rfl, rfl, rfl, rfl, rfl, rfl, rfl, rfl, trivial⟩ rfl)
    ·
     replace h := b_ifn (d_f hb) h
     refine JC.exit ?_
     refine JN.then_x ?_
     refine JN.then_x ?_
     refine JN.blk_hit ?_
     refine JN.blk_n ?_
     refine JN.then_n ?_
     exact JN.z ((), (y13.1, y13.2.1, y13.2.2.1)) h (SE.fin [0] ⟨rfl, rfl, rfl, rfl, rfl, rfl, rfl, rfl, rfl, rfl, trivial⟩ rfl)
   ·
    refine JC.region ?_
    refine JO.mv rfl rfl ?_
    obtain ⟨x27, ex27, h⟩ := b_bind h
    refine JO.s rfl (o_add rfl ex27) ⟨rfl, rfl, trivial⟩ ?_
    refine JO.as rfl rfl ?_
    refine JO.nil ?_
    refine JN.then_n ?_
    exact JN.z ((), (x11.1, x11.2.1, x11.2.2, x27)) h (SE.fin [0] ⟨rfl, rfl, rfl, rfl, rfl, rfl, rfl, rfl, rfl, rfl, trivial⟩ rfl)
  ·
   replace h := b_ifn (d_f hb) h
   refine JC.exit ?_
   refine JN.then_x ?_
   refine JN.then_x ?_
   refine JN.blk_hit ?_
   refine JN.then_n ?_
   exact JN.z ((), (y9.1, y9.2.1, y9.2.2.1)) h (SE.fin [] ⟨rfl, rfl, rfl, rfl, rfl, rfl, rfl, trivial⟩ rfl)
 ·
  refine JC.seq ?_
  refine JC.seq ?_
  refine JC.region ?_
  refine JO.mv rfl rfl ?_
  refine JO.s rfl (o_lss rfl) ⟨rfl, rfl, trivial⟩ ?_
  refine JO.nil ?_
  refine JN.then_n ?_
  show JC _ _ _ _ _
  refine JC.cond rfl (fun hb => ?_) (fun hb => ?_)
  ·
   replace h := b_if (d_t hb) h
   refine JC.cutB (Z := Unit) (α := Bool) (fun z29 x28 => [(2, .eq (.bool x28))]) (fun z29 x28 => []) h (fun K h => ?_) (fun z29 x28 h => ?_)
   ·
    refine JC.region ?_
    refine JO.mv rfl rfl ?_
    refine JO.s rfl (o_eql rfl) ⟨rfl, rfl, trivial⟩ ?_
    refine JO.mv rfl rfl ?_
    refine JO.bool (s := 103) rfl (fun hb => ?_) (fun hb => ?_)
    ·
     replace h := b_if (d_t hb) h
     refine JO.g00 rfl rfl rfl rfl rfl rfl (o_move rfl) ⟨rfl, trivial⟩ ?_
     refine JO.g00 rfl rfl rfl rfl rfl rfl (o_eql rfl) ⟨rfl, rfl, trivial⟩ ?_
     refine JO.s rfl (o_pick_t rfl) ⟨rfl, rfl, trivial⟩ ?_
     refine JO.mv rfl rfl ?_
     refine JO.bool (s := 107) rfl (fun hb => ?_) (fun hb => ?_)
     ·
      replace h := b_if (d_t hb) h
      refine JO.g00 rfl rfl rfl rfl rfl rfl (o_move rfl) ⟨rfl, trivial⟩ ?_
      refine JO.g00 rfl rfl rfl rfl rfl rfl (o_eql rfl) ⟨rfl, rfl, trivial⟩ ?_
      refine JO.s rfl (o_pick_t rfl) ⟨rfl, rfl, trivial⟩ ?_
      refine JO.mv rfl rfl ?_
      refine JO.bool (s := 111) rfl (fun hb => ?_) (fun hb => ?_)
      ·
       replace h := b_if (d_t hb) h
       refine JO.g00 rfl rfl rfl rfl rfl rfl (o_move rfl) ⟨rfl, trivial⟩ ?_
       refine JO.g00 rfl rfl rfl rfl rfl rfl (o_eql rfl) ⟨rfl, rfl, trivial⟩ ?_
       refine JO.s rfl (o_pick_t rfl) ⟨rfl, rfl, trivial⟩ ?_
       refine JO.mv rfl rfl ?_
       refine JO.bool (s := 115) rfl (fun hb => ?_) (fun hb => ?_)
       ·
        replace h := b_if (d_t hb) h
        obtain ⟨r30, er30, h⟩ := b_bind h
        have cr30 := law_dressed_ok k  r30 er30
        refine JO.g00 rfl rfl rfl rfl rfl rfl (o_call [] rfl rfl en22 rfl cr30) trivial ?_
        refine JO.s rfl (o_pick_t rfl) ⟨rfl, rfl, trivial⟩ ?_
        refine JO.as rfl rfl ?_
        refine JO.nil ?_
        refine JN.then_n ?_
        exact JN.z ((), r30) h (SE.fin [] ⟨rfl, trivial⟩ rfl)
       ·
        replace h := b_ifn (d_f hb) h
        refine JO.gno rfl rfl rfl rfl rfl rfl rfl ?_
        refine JO.s rfl (o_pick_f rfl) ⟨rfl, rfl, trivial⟩ ?_
        refine JO.as rfl rfl ?_
        refine JO.nil ?_
        refine JN.then_n ?_
        exact JN.z ((), false) h (SE.fin [] ⟨rfl, trivial⟩ rfl)
      ·
       replace h := b_ifn (d_f hb) h
       refine JO.gno rfl rfl rfl rfl rfl rfl rfl ?_
       refine JO.gno rfl rfl rfl rfl rfl rfl rfl ?_
       refine JO.s rfl (o_pick_f rfl) ⟨rfl, rfl, trivial⟩ ?_
       refine JO.mv rfl rfl ?_
       refine JO.gno rfl rfl rfl rfl rfl rfl rfl ?_
       refine JO.s rfl (o_pick_f rfl) ⟨rfl, rfl, trivial⟩ ?_
       refine JO.as rfl rfl ?_
       refine JO.nil ?_
       refine JN.then_n ?_
       exact JN.z ((), false) h (SE.fin [] ⟨rfl, trivial⟩ rfl)
     ·
      replace h := b_ifn (d_f hb) h
      refine JO.gno rfl rfl rfl rfl rfl rfl rfl ?_
      refine JO.gno rfl rfl rfl rfl rfl rfl rfl ?_
      refine JO.s rfl (o_pick_f rfl) ⟨rfl, rfl, trivial⟩ ?_
      refine JO.mv rfl rfl ?_
      refine JO.gno rfl rfl rfl rfl rfl rfl rfl ?_
      refine JO.gno rfl rfl rfl rfl rfl rfl rfl ?_
      refine JO.s rfl (o_pick_f rfl) ⟨rfl, rfl, trivial⟩ ?_
      refine JO.mv rfl rfl ?_
      refine JO.gno rfl rfl rfl rfl rfl rfl rfl ?_
      refine JO.s rfl (o_pick_f rfl) ⟨rfl, rfl, trivial⟩ ?_
      refine JO.as rfl rfl ?_
      refine JO.nil ?_
      refine JN.then_n ?_
      exact JN.z ((), false) h (SE.fin [] ⟨rfl, trivial⟩ rfl)
    ·
     replace h := b_ifn (d_f hb) h
     refine JO.gno rfl rfl rfl rfl rfl rfl rfl ?_
     refine JO.gno rfl rfl rfl rfl rfl rfl rfl ?_
     refine JO.s rfl (o_pick_f rfl) ⟨rfl, rfl, trivial⟩ ?_
     refine JO.mv rfl rfl ?_
     refine JO.gno rfl rfl rfl rfl rfl rfl rfl ?_
     refine JO.gno rfl rfl rfl rfl rfl rfl rfl ?_
     refine JO.s rfl (o_pick_f rfl) ⟨rfl, rfl, trivial⟩ ?_
     refine JO.mv rfl rfl ?_
     refine JO.gno rfl rfl rfl rfl rfl rfl rfl ?_
     refine JO.gno rfl rfl rfl rfl rfl rfl rfl ?_
     refine JO.s rfl (o_pick_f rfl) ⟨rfl, rfl, trivial⟩ ?_
     refine JO.mv rfl rfl ?_
     refine JO.gno rfl rfl rfl rfl rfl rfl rfl ?_
     refine JO.s rfl (o_pick_f rfl) ⟨rfl, rfl, trivial⟩ ?_
     refine JO.as rfl rfl ?_
     refine JO.nil ?_
     refine JN.then_n ?_
     exact JN.z ((), false) h (SE.fin [] ⟨rfl, trivial⟩ rfl)
   ·
    refine JC.ret ?_
    refine JN.then_r ?_
    obtain rfl := Option.some.inj h
    exact JN.ret () [_] 0 ⟨rfl, trivial⟩ rfl
  ·
   replace h := b_ifn (d_f hb) h
   refine JC.skip ?_
   refine JN.then_n ?_
   show JC _ _ _ _ _
   refine JC.cutB (Z := Unit) (α := Bool) (fun z32 x31 => [(2, .eq (.bool x31))]) (fun z32 x31 => []) h (fun K h => ?_) (fun z32 x31 h => ?_)
   ·
    refine JC.region ?_
    refine JO.mv rfl rfl ?_
    refine JO.s rfl (o_eql rfl) ⟨rfl, rfl, trivial⟩ ?_
    refine JO.mv rfl rfl ?_
    refine JO.bool (s := 120) rfl (fun hb => ?_) (fun hb => ?_)
    ·
     replace h := b_if (d_t hb) h
     refine JO.g00 rfl rfl rfl rfl rfl rfl (o_move rfl) ⟨rfl, trivial⟩ ?_
     refine JO.g00 rfl rfl rfl rfl rfl rfl (o_move rfl) ⟨rfl, trivial⟩ ?_
     refine JO.g00 rfl rfl rfl rfl rfl rfl (o_eql rfl) ⟨rfl, rfl, trivial⟩ ?_
     refine JO.s rfl (o_pick_t rfl) ⟨rfl, rfl, trivial⟩ ?_
     refine JO.mv rfl rfl ?_
     refine JO.bool (s := 125) rfl (fun hb => ?_) (fun hb => ?_)
     ·
      replace h := b_if (d_t hb) h
      refine JO.g00 rfl rfl rfl rfl rfl rfl (o_move rfl) ⟨rfl, trivial⟩ ?_
      refine JO.g00 rfl rfl rfl rfl rfl rfl (o_move rfl) ⟨rfl, trivial⟩ ?_
      refine JO.g00 rfl rfl rfl rfl rfl rfl (o_eql rfl) ⟨rfl, rfl, trivial⟩ ?_
      refine JO.s rfl (o_pick_t rfl) ⟨rfl, rfl, trivial⟩ ?_
      refine JO.mv rfl rfl ?_
      refine JO.bool (s := 130) rfl (fun hb => ?_) (fun hb => ?_)
      ·
       replace h := b_if (d_t hb) h
       refine JO.g00 rfl rfl rfl rfl rfl rfl (o_move rfl) ⟨rfl, trivial⟩ ?_
       refine JO.g00 rfl rfl rfl rfl rfl rfl (o_move rfl) ⟨rfl, trivial⟩ ?_
       refine JO.g00 rfl rfl rfl rfl rfl rfl (o_eql rfl) ⟨rfl, rfl, trivial⟩ ?_
       refine JO.s rfl (o_pick_t rfl) ⟨rfl, rfl, trivial⟩ ?_
       refine JO.mv rfl rfl ?_
       refine JO.bool (s := 135) rfl (fun hb => ?_) (fun hb => ?_)
       ·
        replace h := b_if (d_t hb) h
        obtain ⟨r33, er33, h⟩ := b_bind h
        have cr33 := law_dressed_ok k  r33 er33
        refine JO.g00 rfl rfl rfl rfl rfl rfl (o_call [] rfl rfl en22 rfl cr33) trivial ?_
        refine JO.s rfl (o_pick_t rfl) ⟨rfl, rfl, trivial⟩ ?_
        refine JO.as rfl rfl ?_
        refine JO.nil ?_
        refine JN.then_n ?_
        exact JN.z ((), r33) h (SE.fin [] ⟨rfl, trivial⟩ rfl)
       ·
        replace h := b_ifn (d_f hb) h
        refine JO.gno rfl rfl rfl rfl rfl rfl rfl ?_
        refine JO.s rfl (o_pick_f rfl) ⟨rfl, rfl, trivial⟩ ?_
        refine JO.as rfl rfl ?_
        refine JO.nil ?_
        refine JN.then_n ?_
        exact JN.z ((), false) h (SE.fin [] ⟨rfl, trivial⟩ rfl)
      ·
       replace h := b_ifn (d_f hb) h
       refine JO.gno rfl rfl rfl rfl rfl rfl rfl ?_
       refine JO.gno rfl rfl rfl rfl rfl rfl rfl ?_
       refine JO.gno rfl rfl rfl rfl rfl rfl rfl ?_
       refine JO.s rfl (o_pick_f rfl) ⟨rfl, rfl, trivial⟩ ?_
       refine JO.mv rfl rfl ?_
       refine JO.gno rfl rfl rfl rfl rfl rfl rfl ?_
       refine JO.s rfl (o_pick_f rfl) ⟨rfl, rfl, trivial⟩ ?_
       refine JO.as rfl rfl ?_
       refine JO.nil ?_
       refine JN.then_n ?_
       exact JN.z ((), false) h (SE.fin [] ⟨rfl, trivial⟩ rfl)
     ·
      replace h := b_ifn (d_f hb) h
      refine JO.gno rfl rfl rfl rfl rfl rfl rfl ?_
      refine JO.gno rfl rfl rfl rfl rfl rfl rfl ?_
      refine JO.gno rfl rfl rfl rfl rfl rfl rfl ?_
      refine JO.s rfl (o_pick_f rfl) ⟨rfl, rfl, trivial⟩ ?_
      refine JO.mv rfl rfl ?_
      refine JO.gno rfl rfl rfl rfl rfl rfl rfl ?_
      refine JO.gno rfl rfl rfl rfl rfl rfl rfl ?_
      refine JO.gno rfl rfl rfl rfl rfl rfl rfl ?_
      refine JO.s rfl (o_pick_f rfl) ⟨rfl, rfl, trivial⟩ ?_
      refine JO.mv rfl rfl ?_
      refine JO.gno rfl rfl rfl rfl rfl rfl rfl ?_
      refine JO.s rfl (o_pick_f rfl) ⟨rfl, rfl, trivial⟩ ?_
      refine JO.as rfl rfl ?_
      refine JO.nil ?_
      refine JN.then_n ?_
      exact JN.z ((), false) h (SE.fin [] ⟨rfl, trivial⟩ rfl)
    ·
     replace h := b_ifn (d_f hb) h
     refine JO.gno rfl rfl rfl rfl rfl rfl rfl ?_
     refine JO.gno rfl rfl rfl rfl rfl rfl rfl ?_
     refine JO.gno rfl rfl rfl rfl rfl rfl rfl ?_
     refine JO.s rfl (o_pick_f rfl) ⟨rfl, rfl, trivial⟩ ?_
     refine JO.mv rfl rfl ?_
     refine JO.gno rfl rfl rfl rfl rfl rfl rfl ?_
     refine JO.gno rfl rfl rfl rfl rfl rfl rfl ?_
     refine JO.gno rfl rfl rfl rfl rfl rfl rfl ?_
     refine JO.s rfl (o_pick_f rfl) ⟨rfl, rfl, trivial⟩ ?_
     refine JO.mv rfl rfl ?_
     refine JO.gno rfl rfl rfl rfl rfl rfl rfl ?_
     refine JO.gno rfl rfl rfl rfl rfl rfl rfl ?_
     refine JO.gno rfl rfl rfl rfl rfl rfl rfl ?_
     refine JO.s rfl (o_pick_f rfl) ⟨rfl, rfl, trivial⟩ ?_
     refine JO.mv rfl rfl ?_
     refine JO.gno rfl rfl rfl rfl rfl rfl rfl ?_
     refine JO.s rfl (o_pick_f rfl) ⟨rfl, rfl, trivial⟩ ?_
     refine JO.as rfl rfl ?_
     refine JO.nil ?_
     refine JN.then_n ?_
     exact JN.z ((), false) h (SE.fin [] ⟨rfl, trivial⟩ rfl)
   ·
    refine JC.ret ?_
    obtain rfl := Option.some.inj h
    exact JN.ret () [_] 0 ⟨rfl, trivial⟩ rfl


end Go.Proofs.Ytfhdclhbdmhnmaa
