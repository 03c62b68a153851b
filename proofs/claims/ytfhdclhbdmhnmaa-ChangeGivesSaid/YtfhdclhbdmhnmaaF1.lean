/- The program's functions, part 2: what each computes, and that the code computes it. Printed by a program of this proof's own. -/
import Derived.Test.YtfhdclhbdmhnmaaP1
set_option linter.unusedVariables false
set_option maxRecDepth 4000
namespace Go.Proofs.Ytfhdclhbdmhnmaa
open K Go Go.Proofs
def chg_least (k : Nat) (a0 : (dChange × (List (Bool × Int)) × (List Int))) : Option ((List dStep) × Int × Bool) :=
 (chg_quick_plans_1 k (stopY (fun (y5 : Bool × Int × (List dStep)) (p7 : (List dStep)) =>
  (chg_quick_length k ((a0.1.1, a0.1.2.1, a0.1.2.2.1, a0.1.2.2.2), a0.2.1, a0.2.2) p7).bind fun r9 =>
  ((if ¬ (y5.1 = true) then (some true) else (some (decide (r9 < y5.2.1)))) : Option (Bool)).bind fun x10 =>
  if x10 = true then (some ((true, r9, p7), true)) else (some ((y5.1, y5.2.1, y5.2.2), true)))) ((a0.1.1, a0.1.2.1, a0.1.2.2.1, a0.1.2.2.2), a0.2.1, a0.2.2) ((false, (0 : Int), []), false)).bind fun r8 =>
 if r8.2 = true then (none) else (some (r8.1.2.2, r8.1.2.1, r8.1.1))

theorem chg_least_ok (k : Nat) (a0 : (dChange × (List (Bool × Int)) × (List Int))) (b_a0 z_a0 : Nat) (c_a0 : Nat) (r : (List dStep) × Int × Bool) (h : chg_least k a0 = some r) :
 Ctr Try.prog 68 [.eq (.func (.func 104) #[] #[(Pv c_a0)]), .eq (.func (.func 70) #[(Pv b_a0)] #[])] [.obj b_a0 120 (Qq a0 (.eq (.map (some z_a0)))), .inv z_a0 (Known k a0), .obj c_a0 98 (Pt b_a0)] (fun _ : Unit => (resA [Rs tStep r.1, I r.2.1, .eq (.bool r.2.2)], [.obj b_a0 120 (Qq a0 (.eq (.map (some z_a0)))), .inv z_a0 (Known k a0), .obj c_a0 98 (Pt b_a0)])) := by
 unfold chg_least at h;replace h := b_top h;refine Ctr.ofM 29 Try.func68 rfl Try.ntmps68 rfl fun S w0 => ?_;refine sr (bx fun b1 => ?_);refine cq ?_;refine cq ?_;refine cq (nt (sr ?_));refine JO.s01 rfl rfl rfl (o_alloc rfl za30 al30) trivial fun b2 => ?_;refine nt (sr (JO.s01 rfl rfl rfl (o_alloc rfl za3 al3) trivial fun b3 => ?_));refine JO.s01 rfl rfl rfl (o_alloc rfl za4 al4) trivial fun b4 => ?_;refine fr 1 ?_;refine JO.n11 rfl rfl (o_store rfl sz3 rfl rfl rfl) ⟨rfl, rfl, trivial⟩ ?_;refine fr 1 ?_;refine JO.n11 rfl rfl (o_store rfl sz4 rfl rfl rfl) ⟨rfl, rfl, trivial⟩ ?_;refine nt (JC.seq (sr (mq (nt (JC.block ?_)))));refine JC.front 2 rfl ?_;refine JC.se (SE.objE (a := .eq (.slice none 0 0)) (a' := Rs tStep []) (AE.ent .nil)) ?_;refine JC.front 5 rfl ?_;refine JC.front 4 rfl ?_;refine JC.front 2 rfl ?_;refine JC.front 4 rfl ?_;refine JC.front 4 rfl ?_;refine JC.front 5 rfl ?_;refine JC.front 6 rfl ?_;obtain ⟨r8, er8, h⟩ := b_bind h;refine JC.rangeFunc (Δ := [.obj c_a0 98 (Pt b_a0), .obj b_a0 120 (Qq a0 (.eq (.map (some z_a0)))), .obj b4 4 (.eq (.bool false)), .obj b3 3 (I (0 : Int)), .obj b2 30 (Rs tStep []), .obj b1 114 (.eq (.func (.func 70) #[(Pv b_a0)] #[])), .inv z_a0 (Known k a0)]) (F := []) (X := Unit) (J := fun _ => jOf r8.2) (E := fun _ => [.obj c_a0 98 (Pt b_a0), .obj b_a0 120 (Qq a0 (.eq (.map (some z_a0)))), .obj b4 4 (.eq (.bool r8.1.1)), .obj b3 3 (I r8.1.2.1), .obj b2 30 (Rs tStep r8.1.2.2), .obj b1 114 (.eq (.func (.func 70) #[(Pv b_a0)] #[])), .inv z_a0 (Known k a0)]) (r0 := fun _ => .tup .any) rfl rfl en104 (fun rec hp ha hb hs hpe hN hv l => ?_) (fun dl _ => stop_cases (fun hj => ?_) (fun hj => ?_))
 ·rcases rec with ⟨st0, pe0, fn0, tm0, ps0, as0, bd0, df0⟩;dsimp only at hp ha hb hs hpe hN hv;subst hp hs hpe;have vN : Vals tm0 [(3, Pt b1), (7, Pt b2), (8, Pt b3), (9, Pt b4)] := ⟨congrArg A.eq (hv 3 _ rfl).symm, congrArg A.eq (hv 7 _ rfl).symm, congrArg A.eq (hv 8 _ rfl).symm, congrArg A.eq (hv 9 _ rfl).symm, trivial⟩;refine Ctr.pick [1, 2, 0, 3, 4, 5, 6, 7] [2, 0, 1, 3, 4, 5, 6, 7] (chg_quick_plans_1_ok (fun (_ : Unit) (q : (Bool × Int × (List dStep)) × Bool) => [.raw l (.loop (recEnd ⟨.ready, none, fn0, tm0, #[13], as0, bd0, df0⟩ (jOf q.2))), .obj b4 4 (.eq (.bool q.1.1)), .obj b3 3 (I q.1.2.1), .obj b2 30 (Rs tStep q.1.2.2), .obj b1 114 (.eq (.func (.func 70) #[(Pv b_a0)] #[])), .inv z_a0 (Known k a0)]) l (stopY (fun (y5 : Bool × Int × (List dStep)) (p7 : (List dStep)) =>
  (chg_quick_length k ((a0.1.1, a0.1.2.1, a0.1.2.2.1, a0.1.2.2.2), a0.2.1, a0.2.2) p7).bind fun r9 =>
  ((if ¬ (y5.1 = true) then (some true) else (some (decide (r9 < y5.2.1)))) : Option (Bool)).bind fun x10 =>
  if x10 = true then (some ((true, r9, p7), true)) else (some ((y5.1, y5.2.1, y5.2.2), true)))) k ((a0.1.1, a0.1.2.1, a0.1.2.2.1, a0.1.2.2.2), a0.2.1, a0.2.2) b_a0 (.map (some z_a0)) c_a0 (fun z q p r' h => ?_) () ((false, (0 : Int), []), false) r8 er8) rfl (fun _ => rfl) (fun _ => rfl)
  obtain ⟨r2, hq, h2, rfl⟩ := stopY_some h;obtain ⟨y5, b5⟩ := q;obtain rfl : b5 = false := hq;replace h := b_top h2;obtain ⟨p7, hpv⟩ : ∃ x, x = p := ⟨_, rfl⟩;subst hpv;refine YT.pick (R' := (fun _ : Unit => (.eq (.bool r2.2), [.raw l (.loop (recEnd ⟨.ready, none, fn0, tm0, #[13], as0, bd0, df0⟩ (jOf (!r2.2)))), .obj b_a0 120 (Qq a0 (.eq (.map (some z_a0)))), .obj b4 4 (.eq (.bool r2.1.1)), .obj b3 3 (I r2.1.2.1), .obj b2 30 (Rs tStep r2.1.2.2), .obj b1 114 (.eq (.func (.func 70) #[(Pv b_a0)] #[])), .inv z_a0 (Known k a0)]))) [1, 0, 2, 3, 4, 5, 6] [1, 0, 2, 3, 4, 5, 6] (YT.of' ha hb (N := 29) (Γ := [(3, Pt b1), (7, Pt b2), (8, Pt b3), (9, Pt b4)]) rfl hN (by decide) vN (fun S w => ?_)) rfl (fun _ => rfl) (fun _ => rfl);refine JC.region (aq (nl ?_));refine JN.begin rfl rfl ?_;refine JC.block (sr (fr 5 ?_));refine lo sz114 ?_;refine mq ?_;obtain ⟨r9, er9, h⟩ := b_bind h;refine fr 6 ?_;refine fr 3 ?_;refine JO.stepG (Δ := [_, _]) (F := _) (fun _ _ _ => wanted_none rfl _) rfl rfl (o_callv (fs := [(Pv b_a0)]) (cs := []) (ags := [Rs tStep p7]) [.tmp 15] rfl rfl en70 rfl (chg_quick_length_ok k ((a0.1.1, a0.1.2.1, a0.1.2.2.1, a0.1.2.2.2), a0.2.1, a0.2.2) b_a0 z_a0 p7 r9 er9)) ⟨rfl, rfl, trivial⟩ fun _ => ?_;refine aq (nt ?_);refine JC.cutB (Z := Unit) (α := Bool) (fun z11 x10 => [(7, Pt b2), (8, Pt b3), (9, Pt b4), (10, Rs tStep p7), (11, I r9), (23, .eq (.bool x10))]) (fun z11 x10 => [.obj b2 30 (Rs tStep y5.2.2), .obj b3 3 (I y5.2.1), .obj b4 4 (.eq (.bool y5.1)), .obj b_a0 120 (Qq a0 (.eq (.map (some z_a0)))), .inv z_a0 (Known k a0), .obj b1 114 (.eq (.func (.func 70) #[(Pv b_a0)] #[])), .raw l (.loop (⟨.busy, none, fn0, tm0, #[13], as0, bd0, df0⟩ : Loop))]) h (fun K h => ?_) (fun z11 x10 h => ?_)
  ·refine JC.region (fr 4 ?_);refine lo sz4 ?_;refine ja (o_not rfl) ?_;refine mq ?_;refine JO.bool (s := 19) rfl (fun hb => ?_) (fun hb => ?_)
   ·replace h := b_if (nv_t hb) h;iterate 3 refine gn ?_
    refine pt (nl ?_);exact jz ((), true) h [6, 5, 0, 1, 2, 3, 4]
   ·replace h := b_ifn (nv_fn hb) h;refine gm ?_;refine fr 5 ?_;refine JO.g11 rfl rfl rfl rfl rfl rfl (o_load_obj rfl sz3 nfs rfl) ⟨rfl, trivial⟩ ?_;refine gb (o_lss rfl) ?_;refine pf (nl ?_);exact jz ((), decide (r9 < y5.2.1)) h [6, 0, 1, 2, 3, 4, 5]
  ·refine cv h (fun h => ?_) (fun h => ?_)
   ·refine JC.region ?_;iterate 2 refine mq ?_
    refine JO.n11 rfl rfl (o_store rfl sz30 rfl rfl rfl) ⟨rfl, rfl, trivial⟩ ?_;refine fr 1 ?_;refine JO.n11 rfl rfl (o_store rfl sz3 rfl rfl rfl) ⟨rfl, rfl, trivial⟩ ?_;refine fr 2 ?_;refine JO.n11 rfl rfl (o_store rfl sz4 rfl rfl rfl) ⟨rfl, rfl, trivial⟩ ?_;refine JO.nil (JN.blk_n (JN.front 4 rfl ?_));refine JN.front 5 rfl ?_;refine JN.front 4 rfl ?_;refine JN.front 4 rfl ?_;refine JN.front 4 rfl ?_;refine JN.front 5 rfl ?_;refine JN.front 6 rfl ?_;cases h;exact JN.roundN () 6 rfl
   ·refine JC.skip (JN.blk_n (JN.front 4 rfl ?_));refine JN.front 5 rfl ?_;refine JN.front 2 rfl ?_;refine JN.front 3 rfl ?_;refine JN.front 4 rfl ?_;refine JN.front 5 rfl ?_;refine JN.front 6 rfl ?_;cases h;exact JN.roundN () 6 rfl
 ·replace h := b_ifn (v_f hj) h;refine JN.blk_n (tn (JC.seq (JC.drawN ?_)));refine ea 5 (o_load_obj rfl sz30 nfs rfl) ?_;refine ea 4 (o_load_obj rfl sz3 nfs rfl) ?_;refine ea 3 (o_load_obj rfl sz4 nfs rfl) ?_;refine da (o_assign rfl) ?_;refine da (o_assign rfl) ?_;refine df mixed ?_;refine aq (nt (JC.ret ?_));refine JN.retM ?_;refine JN.se (SE.fin (Γ' := [(4, _), (5, _), (6, _)]) [1, 6, 0, 2, 3, 4, 5] ⟨rfl, rfl, rfl, trivial⟩ rfl) ?_;cases h;exact JN.ret () [_, _, _] 3 ⟨rfl, rfl, rfl, trivial⟩ rfl
 ·replace h := b_if (v_t hj) h;cases h


def chg_Fewest (k : Nat) (a0 : dChange) : Option ((List dStep) × Int × Int) :=
 (chg_begin k a0).bind fun r2 =>
 casesO r2.1 (if ¬ (r2.2 = (0 : Int)) then (some ([], (0 : Int), r2.2)) else (none)) (fun q3 => if ¬ (r2.2 = (0 : Int)) then (some ([], (0 : Int), r2.2)) else ((chg_least k ((q3.1.1, q3.1.2.1, q3.1.2.2.1, q3.1.2.2.2), q3.2.1, q3.2.2)).bind fun r6 =>
 if ¬ (r6.2.2 = true) then (some ([], (0 : Int), (11 : Int))) else (some (r6.1, r6.2.1, (0 : Int)))))

theorem chg_Fewest_ok (k : Nat) (a0 : dChange) (r : (List dStep) × Int × Int) (h : chg_Fewest k a0 = some r) :
 Ctr Try.prog 25 [.rep tChange a0] [] (fun _ : Unit => (resA [Rs tStep r.1, I r.2.1, I r.2.2], [])) := by
 unfold chg_Fewest at h;replace h := b_top h;refine Ctr.of 31 Try.func25 rfl Try.ntmps25 rfl fun S w0 => ?_;refine sr (bx fun b1 => ?_);refine cq ?_;refine cq ?_;refine cq (nt (sr ?_));refine lo sz28 ?_;obtain ⟨r2, er2, h⟩ := b_bind h;have cr2 := chg_begin_ok k a0 r2 er2;rcases hr : r2.1 with _ | q3
 ·rw [hr] at h cr2; replace h := co_n h;refine JO.stepG (Δ := []) (F := _) (fun _ _ _ => wanted_none rfl _) rfl rfl (o_call [.tmp 11] rfl rfl en67 rfl cr2) ⟨rfl, trivial⟩ fun _ => ?_;refine mq ?_;refine xr ?_;refine xr ?_;refine aq ?_;refine aq (nt (JC.seq (sr ?_)));refine mq ?_;refine jb (o_neq rfl) ?_;refine nt (cn h (fun h => ?_) (fun h => ?_))
  ·refine sr (mq ?_);refine cq ?_;refine cq ?_;refine aq (nt (rx ?_));refine JN.se (SE.ent (t := (.slice tStep)) (x := []) 2 rfl .nil rfl rfl) ?_;cases h;exact JN.ret () [_, _, _] 0 ⟨rfl, rfl, rfl, trivial⟩ rfl
  ·refine sk (sr (mq ?_));cases h
 ·rw [hr] at h cr2; replace h := co_s h;refine JO.stepG (Δ := []) (F := _) (fun _ _ _ => wanted_none rfl _) rfl rfl (o_call [.tmp 11] rfl rfl en67 rfl cr2) ⟨rfl, trivial⟩ fun z4 => ?_;refine mq ?_;refine xr ?_;refine xr ?_;refine aq ?_;refine aq (nt (JC.seq (sr ?_)));refine mq ?_;refine jb (o_neq rfl) ?_;refine nt (cn h (fun h => ?_) (fun h => ?_))
  ·refine sr (mq ?_);refine cq ?_;refine cq ?_;refine aq (nt (rx ?_));refine JN.se (SE.ent (t := (.slice tStep)) (x := []) 2 rfl .nil rfl rfl) ?_;cases h;exact JN.ret () [_, _, _] 0 ⟨rfl, rfl, rfl, trivial⟩ rfl
  ·refine sk (sr (mq ?_));refine JO.s01 rfl rfl rfl (o_call [.tmp 19] rfl rfl en69 rfl (chg_quick_plans_ok z4.1)) ⟨rfl, trivial⟩ fun b5 => ?_;refine mq ?_;refine ja (o_mkfn [.tmp 21] [] [(.pointer (some ⟨z4.1, 0, none⟩))] [] rfl rfl rfl) ?_;refine fr 2 ?_;refine JO.se (SE.rawInv (Known k ((q3.1.1, q3.1.2.1, q3.1.2.2.1, q3.1.2.2.2), q3.2.1, q3.2.2)) known_nil) ?_;obtain ⟨r6, er6, h⟩ := b_bind h;refine fr 1 ?_;refine fr 1 ?_;refine fr 2 ?_;refine JO.stepG (Δ := [_, _, _]) (F := _) (fun _ _ _ => wanted_none rfl _) rfl rfl (o_call [.tmp 20, .tmp 22] rfl rfl en68 rfl (chg_least_ok k ((q3.1.1, q3.1.2.1, q3.1.2.2.1, q3.1.2.2.2), q3.2.1, q3.2.2) z4.1 z4.2 b5 r6 er6)) ⟨rfl, rfl, trivial⟩ fun _ => ?_;refine mq ?_;refine xr ?_;refine xr ?_;refine xr ?_;refine aq ?_;refine aq ?_;refine aq (nt (JC.seq (sr ?_)));refine mq ?_;refine ja (o_not rfl) ?_;refine nt (cw h (fun h => ?_) (fun h => ?_))
   ·refine sr (cq ?_);refine cq ?_;refine cq (nt (rx ?_));refine JN.se (SE.ent (t := (.slice tStep)) (x := []) 2 rfl .nil rfl rfl) ?_;cases h;exact JN.ret () [_, _, _] 0 ⟨rfl, rfl, rfl, trivial⟩ rfl
   ·refine sk (sr ?_);iterate 2 refine mq ?_
    refine aq ?_;refine aq ?_;refine cq (nt (JC.ret ?_));cases h;exact JN.ret () [_, _, _] 0 ⟨rfl, rfl, rfl, trivial⟩ rfl


def slc_Clone_Dresser (k : Nat) (a0 : List dDresser) : Option (List dDresser) :=
 (chkP (okLen (List.length a0))).bind fun _ => some a0

theorem slc_Clone_Dresser_ok (k : Nat) (a0 : List dDresser) (r : List dDresser) (h : slc_Clone_Dresser k a0 = some r) :
 Ctr Try.prog 72 [Rs tDresser a0] [] (fun z : Value => (resA [.eq z], [.sl z 53 tDresser r])) := by
 unfold slc_Clone_Dresser at h;replace h := b_top h;refine Ctr.of 8 Try.func72 rfl Try.ntmps72 rfl fun S w0 => ?_;obtain ⟨u1, eu1, h⟩ := b_bind h;cases h;refine sr (cq (nt (JC.seq (sr ?_))));refine mq ?_;refine JO.stepG (Δ := []) (F := _) (fun _ _ _ => wanted_none rfl _) rfl rfl (o_eqnil rfl U26) ⟨rfl, rfl, trivial⟩ fun b => ?_;refine nt (JC.cond rfl (fun hb => ?_) (fun hb => ?_))
 ·refine sr (cq (nt (rx ?_)));obtain rfl := b.2 hb;refine JN.se (SE.nil 53 tDresser) ?_;exact JN.ret (.slice none 0 0) [.eq (.slice none 0 0)] 1 ⟨rfl, trivial⟩ rfl
 ·refine sk (sr (JO.s01 rfl rfl rfl (o_litB_own (t := tDresser) [] [] rfl rfl sl26 .nil rfl rfl) trivial fun v1 => ?_));refine mq ?_;refine JO.s1x rfl rfl rfl (o_append rfl rfl sl26 (by simpa using chkP_some eu1)) ⟨rfl, rfl, trivial⟩ fun v2 => ?_;refine aq (nt (JC.ret ?_));exact JN.ret v2 [.eq v2] 1 ⟨rfl, trivial⟩ rfl


def chg_quick_fewest (k : Nat) (a0 : (dChange × (List (Bool × Int)) × (List Int))) (a1 : (List dDresser)) : Option (Int × Bool) :=
 (chg_begin k (a0.1.1, a1, a0.1.2.2.1, a0.1.2.2.2)).bind fun r2 =>
 casesO r2.1 (if ¬ (r2.2 = (0 : Int)) then (some ((0 : Int), false)) else (none)) (fun q3 => if ¬ (r2.2 = (0 : Int)) then (some ((0 : Int), false)) else ((chg_least k ((q3.1.1, q3.1.2.1, q3.1.2.2.1, q3.1.2.2.2), q3.2.1, q3.2.2)).bind fun r6 =>
 some (r6.2.1, r6.2.2)))

theorem chg_quick_fewest_ok (k : Nat) (a0 : (dChange × (List (Bool × Int)) × (List Int))) (b_a0 : Nat) (m_a0 : Value) (a1 : (List dDresser)) (r : Int × Bool) (h : chg_quick_fewest k a0 a1 = some r) :
 Ctr Try.prog 73 [Pt b_a0, Rs tDresser a1] [.obj b_a0 120 (Qq a0 (.eq m_a0))] (fun _ : Unit => (resA [I r.1, .eq (.bool r.2)], [.obj b_a0 120 (Qq a0 (.eq m_a0))])) := by
 unfold chg_quick_fewest at h;replace h := b_top h;refine Ctr.of 36 Try.func73 rfl Try.ntmps73 rfl fun S w0 => ?_;refine sr (cq ?_);refine cq (nt (sr ?_));refine mq ?_;refine ja (o_nil_obj rfl) ?_;refine fl fo120_0 ?_;refine lo sz28 ?_;refine JO.s01 rfl rfl rfl (o_alloc rfl za28 al28) trivial fun b1 => ?_;refine JO.n11 rfl rfl (o_store rfl sz28 trivial rfl rfl) ⟨rfl, rfl, trivial⟩ ?_;refine nt (sr (mq ?_));refine fl fo28_1 ?_;refine JO.n11 rfl rfl (o_store rfl sz26 rfl rfl rfl) ⟨rfl, rfl, trivial⟩ ?_;refine nt (sr (lo sz28 ?_));obtain ⟨r2, er2, h⟩ := b_bind h;have cr2 := chg_begin_ok k (a0.1.1, a1, a0.1.2.2.1, a0.1.2.2.2) r2 er2;rcases hr : r2.1 with _ | q3
 ·rw [hr] at h cr2; replace h := co_n h;refine JO.stepG (Δ := []) (F := _) (fun _ _ _ => wanted_none rfl _) rfl rfl (OpT.need (N := [(.tmp 19, .agg (.pair (Rs tThing a0.1.1) (.pair (Rs tDresser a1) (.pair (Ri a0.1.2.2.1) (Ri a0.1.2.2.2)))))]) (o_call [.tmp 19] rfl rfl en67 rfl cr2) fun _ _ _ hn => ⟨(ent_holds (t := tChange) (x := (a0.1.1, a1, a0.1.2.2.1, a0.1.2.2.2)) (.agg (.pair .rep (.pair .rep (.pair .rep .rep)))) trivial rfl hn.1), trivial⟩) ⟨rfl, trivial⟩ fun _ => ?_;refine mq ?_;refine xr ?_;refine xr ?_;refine aq ?_;refine aq (nt (JC.seq (sr ?_)));refine mq ?_;refine jb (o_neq rfl) ?_;refine nt (cn h (fun h => ?_) (fun h => ?_))
  ·refine sr (cq ?_);refine cq (nt (rx ?_));refine JN.se (SE.fin (Γ' := [(4, _), (5, _)]) [1, 0] ⟨rfl, rfl, trivial⟩ rfl) ?_;cases h;exact JN.ret () [_, _] 1 ⟨rfl, rfl, trivial⟩ rfl
  ·refine sk (sr (mq ?_));cases h
 ·rw [hr] at h cr2; replace h := co_s h;refine JO.stepG (Δ := []) (F := _) (fun _ _ _ => wanted_none rfl _) rfl rfl (OpT.need (N := [(.tmp 19, .agg (.pair (Rs tThing a0.1.1) (.pair (Rs tDresser a1) (.pair (Ri a0.1.2.2.1) (Ri a0.1.2.2.2)))))]) (o_call [.tmp 19] rfl rfl en67 rfl cr2) fun _ _ _ hn => ⟨(ent_holds (t := tChange) (x := (a0.1.1, a1, a0.1.2.2.1, a0.1.2.2.2)) (.agg (.pair .rep (.pair .rep (.pair .rep .rep)))) trivial rfl hn.1), trivial⟩) ⟨rfl, trivial⟩ fun z4 => ?_;refine mq ?_;refine xr ?_;refine xr ?_;refine aq ?_;refine aq (nt (JC.seq (sr ?_)));refine mq ?_;refine jb (o_neq rfl) ?_;refine nt (cn h (fun h => ?_) (fun h => ?_))
  ·refine sr (cq ?_);refine cq (nt (rx ?_));refine JN.se (SE.fin (Γ' := [(4, _), (5, _)]) [3, 0, 1, 2] ⟨rfl, rfl, trivial⟩ rfl) ?_;cases h;exact JN.ret () [_, _] 1 ⟨rfl, rfl, trivial⟩ rfl
  ·refine sk (sr (mq ?_));refine JO.s01 rfl rfl rfl (o_call [.tmp 26] rfl rfl en69 rfl (chg_quick_plans_ok z4.1)) ⟨rfl, trivial⟩ fun b5 => ?_;refine mq ?_;refine ja (o_mkfn [.tmp 28] [] [(.pointer (some ⟨z4.1, 0, none⟩))] [] rfl rfl rfl) ?_;refine fr 2 ?_;refine JO.se (SE.rawInv (Known k ((q3.1.1, q3.1.2.1, q3.1.2.2.1, q3.1.2.2.2), q3.2.1, q3.2.2)) known_nil) ?_;obtain ⟨r6, er6, h⟩ := b_bind h;refine fr 1 ?_;refine fr 1 ?_;refine fr 2 ?_;refine JO.stepG (Δ := [_, _, _]) (F := _) (fun _ _ _ => wanted_none rfl _) rfl rfl (o_call [.tmp 27, .tmp 29] rfl rfl en68 rfl (chg_least_ok k ((q3.1.1, q3.1.2.1, q3.1.2.2.1, q3.1.2.2.2), q3.2.1, q3.2.2) z4.1 z4.2 b5 r6 er6)) ⟨rfl, rfl, trivial⟩ fun _ => ?_;refine mq ?_;refine xr ?_;refine xr ?_;refine xr ?_;refine aq ?_;refine aq ?_;refine aq (nt (sr ?_));iterate 2 refine mq ?_
   refine aq ?_;refine aq (nt (JC.ret ?_));refine JN.se (SE.fin (Γ' := [(4, _), (5, _)]) [4, 0, 1, 2, 3] ⟨rfl, rfl, trivial⟩ rfl) ?_;cases h;exact JN.ret () [_, _] 1 ⟨rfl, rfl, trivial⟩ rfl


def chg_quick_fewestF (k : Nat) (a0 : dquick) (a1 : (List dDresser)) : Option (Int × Bool) :=
 (chg_begin k (a0.1.1, a1, a0.1.2.2)).bind fun r2 =>
 casesO r2.1 (if ¬ (r2.2 = (0 : Int)) then (some ((0 : Int), false)) else (none)) (fun q3 => if ¬ (r2.2 = (0 : Int)) then (some ((0 : Int), false)) else ((chg_least k ((q3.1.1, q3.1.2.1, q3.1.2.2.1, q3.1.2.2.2), q3.2.1, q3.2.2)).bind fun r6 =>
 some (r6.2.1, r6.2.2)))

theorem chg_quick_fewestF_ok (k : Nat) (a0 : dquick) (a1 : (List dDresser)) (r : Int × Bool) (h : chg_quick_fewestF k a0 a1 = some r) :
 Ctr Try.prog 73 [.at tquick a0, Rs tDresser a1] [] (fun _ : Unit => (resA [I r.1, .eq (.bool r.2)], [])) := by
 unfold chg_quick_fewestF at h;replace h := b_top h;refine Ctr.of 36 Try.func73 rfl Try.ntmps73 rfl fun S w0 => ?_;refine sr (cq ?_);refine cq (nt (sr ?_));refine mq ?_;refine ja (o_nil_at rfl) ?_;refine ja (o_field_at 4 true rfl fo120_0 rfl) ?_;refine ja (o_load_at (t := tChange) rfl sz28 rfl) ?_;refine JO.s01 rfl rfl rfl (o_alloc rfl za28 al28) trivial fun b1 => ?_;refine JO.n11 rfl rfl (o_store rfl sz28 rfl rfl rfl) ⟨rfl, rfl, trivial⟩ ?_;refine nt (sr (mq ?_));refine fl fo28_1 ?_;refine JO.n11 rfl rfl (o_store rfl sz26 rfl rfl rfl) ⟨rfl, rfl, trivial⟩ ?_;refine nt (sr (lo sz28 ?_));obtain ⟨r2, er2, h⟩ := b_bind h;have cr2 := chg_begin_ok k (a0.1.1, a1, a0.1.2.2) r2 er2;rcases hr : r2.1 with _ | q3
 ·rw [hr] at h cr2; replace h := co_n h;refine JO.stepG (Δ := []) (F := _) (fun _ _ _ => wanted_none rfl _) rfl rfl (OpT.need (N := [(.tmp 19, .agg (.pair (Rs tThing a0.1.1) (.pair (Rs tDresser a1) (.rep (.pair (.slice (.int .i64)) (.slice (.int .i64))) a0.1.2.2))))]) (o_call [.tmp 19] rfl rfl en67 rfl cr2) fun _ _ _ hn => ⟨(ent_holds (t := tChange) (x := (a0.1.1, a1, a0.1.2.2)) (.agg (.pair .rep (.pair .rep .rep))) trivial rfl hn.1), trivial⟩) ⟨rfl, trivial⟩ fun _ => ?_;refine mq ?_;refine xr ?_;refine xr ?_;refine aq ?_;refine aq (nt (JC.seq (sr ?_)));refine mq ?_;refine jb (o_neq rfl) ?_;refine nt (cn h (fun h => ?_) (fun h => ?_))
  ·refine sr (cq ?_);refine cq (nt (rx ?_));cases h;exact rb
  ·refine sk (sr (mq ?_));cases h
 ·rw [hr] at h cr2; replace h := co_s h;refine JO.stepG (Δ := []) (F := _) (fun _ _ _ => wanted_none rfl _) rfl rfl (OpT.need (N := [(.tmp 19, .agg (.pair (Rs tThing a0.1.1) (.pair (Rs tDresser a1) (.rep (.pair (.slice (.int .i64)) (.slice (.int .i64))) a0.1.2.2))))]) (o_call [.tmp 19] rfl rfl en67 rfl cr2) fun _ _ _ hn => ⟨(ent_holds (t := tChange) (x := (a0.1.1, a1, a0.1.2.2)) (.agg (.pair .rep (.pair .rep .rep))) trivial rfl hn.1), trivial⟩) ⟨rfl, trivial⟩ fun z4 => ?_;refine mq ?_;refine xr ?_;refine xr ?_;refine aq ?_;refine aq (nt (JC.seq (sr ?_)));refine mq ?_;refine jb (o_neq rfl) ?_;refine nt (cn h (fun h => ?_) (fun h => ?_))
  ·refine sr (cq ?_);refine cq (nt (rx ?_));cases h;exact rb
  ·refine sk (sr (mq ?_));refine JO.s01 rfl rfl rfl (o_call [.tmp 26] rfl rfl en69 rfl (chg_quick_plans_ok z4.1)) ⟨rfl, trivial⟩ fun b5 => ?_;refine mq ?_;refine ja (o_mkfn [.tmp 28] [] [(.pointer (some ⟨z4.1, 0, none⟩))] [] rfl rfl rfl) ?_;refine fr 2 ?_;refine JO.se (SE.rawInv (Known k ((q3.1.1, q3.1.2.1, q3.1.2.2.1, q3.1.2.2.2), q3.2.1, q3.2.2)) known_nil) ?_;obtain ⟨r6, er6, h⟩ := b_bind h;refine fr 1 ?_;refine fr 1 ?_;refine fr 2 ?_;refine JO.stepG (Δ := [_, _, _]) (F := _) (fun _ _ _ => wanted_none rfl _) rfl rfl (o_call [.tmp 27, .tmp 29] rfl rfl en68 rfl (chg_least_ok k ((q3.1.1, q3.1.2.1, q3.1.2.2.1, q3.1.2.2.2), q3.2.1, q3.2.2) z4.1 z4.2 b5 r6 er6)) ⟨rfl, rfl, trivial⟩ fun _ => ?_;refine mq ?_;refine xr ?_;refine xr ?_;refine xr ?_;refine aq ?_;refine aq ?_;refine aq (nt (sr ?_));iterate 2 refine mq ?_
   refine aq ?_;refine aq (nt (JC.ret ?_));cases h;exact rb


def chg_Spare_j1 (k : Nat) (a1 : Int) (q3 : (dChange × (List (Bool × Int)) × (List Int))) (r8 : (List dStep) × Int × Bool) : Nat → (Int × (List dDresser)) → Option (Int × Int)
 | 0, _ => none
 | n + 1, y11 =>
  (geti y11.2 a1).bind fun x13 =>
  (chg_quick_fewestF k ((q3.1.1, q3.1.2.1, q3.1.2.2.1, q3.1.2.2.2), q3.2.1, q3.2.2, ()) (List.set y11.2 (Int.toNat a1) (x13.1, x13.2.1, y11.1))).bind fun r14 =>
  if r8.2.1 < r14.1 then ((ck (y11.1 - (1 : Int))).bind fun x15 =>
  chg_Spare_j1 k a1 q3 r8 n (x15, List.set y11.2 (Int.toNat a1) (x13.1, x13.2.1, y11.1))) else (some (y11.1, (0 : Int)))
def chg_Spare (k : Nat) (a0 : dChange) (a1 : Int) : Option (Int × Int) :=
 (chg_begin k a0).bind fun r2 =>
 casesO r2.1 (if ¬ (r2.2 = (0 : Int)) then (some ((0 : Int), r2.2)) else (none)) (fun q3 => if ¬ (r2.2 = (0 : Int)) then (some ((0 : Int), r2.2)) else ((ck ((q3.1.2.1.length : Int) - (1 : Int))).bind fun x5 =>
 (chg_outside k a1 (0 : Int) x5).bind fun r6 =>
 if r6 = true then (some ((0 : Int), (3 : Int))) else ((chg_least k ((q3.1.1, q3.1.2.1, q3.1.2.2.1, q3.1.2.2.2), q3.2.1, q3.2.2)).bind fun r8 =>
 if ¬ (r8.2.2 = true) then (some ((0 : Int), (11 : Int))) else ((slc_Clone_Dresser k q3.1.2.1).bind fun r9 =>
 chg_Spare_j1 k a1 q3 r8 k ((9 : Int), r9)))))

theorem chg_Spare_ok (k : Nat) (a0 : dChange) (a1 : Int) (r : Int × Int) (h : chg_Spare k a0 a1 = some r) :
 Ctr Try.prog 26 [.rep tChange a0, I a1] [] (fun _ : Unit => (resA [I r.1, I r.2], [])) := by
 unfold chg_Spare at h;replace h := b_top h;refine Ctr.of 66 Try.func26 rfl Try.ntmps26 rfl fun S w0 => ?_;refine sr (bx fun b1 => ?_);refine cq ?_;refine cq (nt ?_);refine JC.scopeS rfl (fl_miss (by kernel_rfl) (fl_miss (by kernel_rfl) (fl_miss (by kernel_rfl) (fl_miss (by kernel_rfl) (fl_miss (by kernel_rfl) (fl_miss (by kernel_rfl) (fl_miss (by kernel_rfl) (fl_hit fl_lab)))))))) ?_;refine sr (lo sz28 ?_);obtain ⟨r2, er2, h⟩ := b_bind h;have cr2 := chg_begin_ok k a0 r2 er2;rcases hr : r2.1 with _ | q3
 ·rw [hr] at h cr2; replace h := co_n h;refine JO.stepG (Δ := []) (F := _) (fun _ _ _ => wanted_none rfl _) rfl rfl (o_call [.tmp 16] rfl rfl en67 rfl cr2) ⟨rfl, trivial⟩ fun _ => ?_;refine mq ?_;refine xr ?_;refine xr ?_;refine aq ?_;refine aq (nt (JC.seq (sr ?_)));refine mq ?_;refine jb (o_neq rfl) ?_;refine nt (cn h (fun h => ?_) (fun h => ?_))
  ·refine sr (mq ?_);refine cq ?_;refine aq (nt (rx ?_));refine JN.jmp_r ?_;cases h;exact rb
  ·refine sk (JC.seq (sr ?_));iterate 2 refine mq ?_
   cases h
 ·rw [hr] at h cr2; replace h := co_s h;refine JO.stepG (Δ := []) (F := _) (fun _ _ _ => wanted_none rfl _) rfl rfl (o_call [.tmp 16] rfl rfl en67 rfl cr2) ⟨rfl, trivial⟩ fun z4 => ?_;refine mq ?_;refine xr ?_;refine xr ?_;refine aq ?_;refine aq (nt (JC.seq (sr ?_)));refine mq ?_;refine jb (o_neq rfl) ?_;refine nt (cn h (fun h => ?_) (fun h => ?_))
  ·refine sr (mq ?_);refine cq ?_;refine aq (nt (rx ?_));refine JN.jmp_r ?_;cases h;exact rb
  ·refine sk (JC.seq (sr ?_));iterate 2 refine mq ?_
   refine ja (o_nil_obj rfl) ?_;refine fl fo120_0 ?_;refine fl fo28_1 ?_;refine lo sz26 ?_;refine ol U26 ?_;obtain ⟨x5, ex5, h⟩ := b_bind h;refine jb (o_sub rfl ex5) ?_;obtain ⟨r6, er6, h⟩ := b_bind h;refine jc (o_call [.tmp 23, .const (.int .i64 (0)), .tmp 30] rfl rfl en71 rfl (chg_outside_ok k a1 (0 : Int) x5 r6 er6)) ?_;refine nt (cv h (fun h => ?_) (fun h => ?_))
   ·refine sr (cq ?_);refine cq (nt (rx ?_));refine JN.jmp_r ?_;cases h;exact rb
   ·refine sk (sr (mq ?_));refine JO.s01 rfl rfl rfl (o_call [.tmp 33] rfl rfl en69 rfl (chg_quick_plans_ok z4.1)) ⟨rfl, trivial⟩ fun b7 => ?_;refine mq ?_;refine ja (o_mkfn [.tmp 35] [] [(.pointer (some ⟨z4.1, 0, none⟩))] [] rfl rfl rfl) ?_;refine fr 2 ?_;refine JO.se (SE.rawInv (Known k ((q3.1.1, q3.1.2.1, q3.1.2.2.1, q3.1.2.2.2), q3.2.1, q3.2.2)) known_nil) ?_;obtain ⟨r8, er8, h⟩ := b_bind h;refine fr 1 ?_;refine fr 1 ?_;refine fr 2 ?_;refine JO.stepG (Δ := [_, _, _]) (F := _) (fun _ _ _ => wanted_none rfl _) rfl rfl (o_call [.tmp 34, .tmp 36] rfl rfl en68 rfl (chg_least_ok k ((q3.1.1, q3.1.2.1, q3.1.2.2.1, q3.1.2.2.2), q3.2.1, q3.2.2) z4.1 z4.2 b7 r8 er8)) ⟨rfl, rfl, trivial⟩ fun _ => ?_;refine mq ?_;refine xr ?_;refine xr ?_;refine xr ?_;refine aq ?_;refine aq ?_;refine aq (nt (JC.seq (sr ?_)));refine mq ?_;refine ja (o_not rfl) ?_;refine nt (cw h (fun h => ?_) (fun h => ?_))
    ·refine sr (cq ?_);refine cq (nt (rx ?_));refine JN.jmp_r ?_;cases h;exact rb
    ·refine sk (sr (cq (nt (sr ?_))));refine mq ?_;refine ja (o_nil_obj rfl) ?_;refine fl fo120_0 ?_;refine fl fo28_1 ?_;refine lo sz26 ?_;obtain ⟨r9, er9, h⟩ := b_bind h;refine JO.s01 rfl rfl rfl (o_call [.tmp 47] rfl rfl en72 rfl (slc_Clone_Dresser_ok k q3.1.2.1 r9 er9)) ⟨rfl, trivial⟩ fun v10 => ?_;refine aq (nt (JC.seq ?_));refine JC.label ?_;refine tn (JC.front 1 rfl ?_);refine JC.se (SE.frzObj (t := tquick) (x := ((q3.1.1, q3.1.2.1, q3.1.2.2.1, q3.1.2.2.2), q3.2.1, q3.2.2, ())) [6, 18, 24, 25, 26, 33, 35, 43, 44, 45] (.agg (.pair (.agg (.pair .rep (.pair .rep (.pair .rep .rep)))) (.pair .rep (.pair .rep (.ign rfl))))) ⟨rfl, rfl, rfl, rfl, rfl, rfl, rfl, rfl, rfl, rfl, trivial⟩) ?_;refine JC.atLabel (Z := Unit) (α := Int × (List dDresser)) rfl (fun z12 y11 => [(1, I a1), (6, .at tquick ((q3.1.1, q3.1.2.1, q3.1.2.2.1, q3.1.2.2.2), q3.2.1, q3.2.2, ())), (9, I r8.2.1), (11, I y11.1), (12, .eq v10)]) (fun z12 y11 => [.sl v10 53 tDresser y11.2, .inv z4.2 (Known k ((q3.1.1, q3.1.2.1, q3.1.2.2.1, q3.1.2.2.2), q3.2.1, q3.2.2))]) (chg_Spare_j1 k a1 q3 r8) k () ((9 : Int), r9) (fun _ => rfl) h (SE.fin [0, 1] ⟨rfl, rfl, rfl, rfl, rfl, trivial⟩ rfl) (fun n z12 y11 h => ?_);unfold chg_Spare_j1 at h;refine sr ?_;iterate 3 refine mq ?_
     obtain ⟨x13, ex13, h⟩ := b_bind h;refine kb (o_index_own (t := tDresser) rfl U26 sz53 ex13) ?_;refine ka (o_field_el rfl fo53_2 (geti_ne ex13)) ?_;refine JO.n11 rfl rfl (o_store_el (i := Int.toNat a1) (off := 2) rfl sz3 rfl (geti_some ex13).2.2 .int rfl (.agg (.right (.right .whole rfl) rfl))) ⟨rfl, rfl, trivial⟩ ?_;refine nt (JC.seq (sr ?_));iterate 2 refine mq ?_
     obtain ⟨r14, er14, h⟩ := b_bind h;refine kb (OpT.borrow (N := [(.tmp 55, .at tquick ((q3.1.1, q3.1.2.1, q3.1.2.2.1, q3.1.2.2.2), q3.2.1, q3.2.2, ())), (.tmp 56, .eq v10)]) (o_call [.tmp 55, .tmp 56] rfl rfl en73 rfl (chg_quick_fewestF_ok k ((q3.1.1, q3.1.2.1, q3.1.2.2.1, q3.1.2.2.2), q3.2.1, q3.2.2, ()) (List.set y11.2 (Int.toNat a1) (x13.1, x13.2.1, y11.1)) r14 er14)) (fun _ _ _ hv hn => ⟨hn.1, (lend hn.2.1 hv), trivial⟩) (fun _ => ⟨rfl, flat_nil⟩)) ?_;refine mq ?_;refine xr ?_;refine xr ?_;refine aq ?_;refine aq (nt (sr ?_));iterate 2 refine mq ?_
     refine jb (o_gtr rfl) ?_;refine nt (ci h (fun h => ?_) (fun h => ?_))
     ·refine sr (mq ?_);obtain ⟨x15, ex15, h⟩ := b_bind h;refine jb (o_sub rfl ex15) ?_;refine aq (nt ?_);refine JC.goto ?_;refine JN.then_g ?_;exact JN.jmpz ((), (x15, List.set y11.2 (Int.toNat a1) (x13.1, x13.2.1, y11.1))) h (SE.fin [0, 1] ⟨rfl, rfl, rfl, rfl, rfl, trivial⟩ rfl)
     ·refine sk (sr (mq ?_));refine aq ?_;refine cq (nt (JC.ret ?_));refine JN.jmp_r ?_;cases h;exact rb


def slc_Clone_int (k : Nat) (a0 : List Int) : Option (List Int) :=
 (chkP (okLen (List.length a0))).bind fun _ => some a0

theorem slc_Clone_int_ok (k : Nat) (a0 : List Int) (r : List Int) (h : slc_Clone_int k a0 = some r) :
 Ctr Try.prog 75 [Ri a0] [] (fun z : Value => (resA [.eq z], [.sl z 3 (.int .i64) r])) := by
 unfold slc_Clone_int at h;replace h := b_top h;refine Ctr.of 8 Try.func75 rfl Try.ntmps75 rfl fun S w0 => ?_;obtain ⟨u1, eu1, h⟩ := b_bind h;cases h;refine sr (cq (nt (JC.seq (sr ?_))));refine mq ?_;refine JO.stepG (Δ := []) (F := _) (fun _ _ _ => wanted_none rfl _) rfl rfl (o_eqnil rfl U22) ⟨rfl, rfl, trivial⟩ fun b => ?_;refine nt (JC.cond rfl (fun hb => ?_) (fun hb => ?_))
 ·refine sr (cq (nt (rx ?_)));obtain rfl := b.2 hb;refine JN.se (SE.nil 3 (.int .i64)) ?_;exact JN.ret (.slice none 0 0) [.eq (.slice none 0 0)] 1 ⟨rfl, trivial⟩ rfl
 ·refine sk (sr (JO.s01 rfl rfl rfl (o_litB_own (t := (.int .i64)) [] [] rfl rfl sl22 .nil rfl rfl) trivial fun v1 => ?_));refine mq ?_;refine JO.s1x rfl rfl rfl (o_append rfl rfl sl22 (by simpa using chkP_some eu1)) ⟨rfl, rfl, trivial⟩ fun v2 => ?_;refine aq (nt (JC.ret ?_));exact JN.ret v2 [.eq v2] 1 ⟨rfl, trivial⟩ rfl


def cmp_isNaN (k : Nat) (a0 : Int) : Option Bool :=
 some (!decide (a0 = a0))

theorem cmp_isNaN_ok (k : Nat) (a0 : Int) (r : Bool) (h : cmp_isNaN k a0 = some r) :
 Ctr Try.prog 136 [I a0] [] (fun _ : Unit => (resA [.eq (.bool r)], [])) := by
 unfold cmp_isNaN at h;replace h := b_top h;refine Ctr.of 6 Try.func136 rfl Try.ntmps136 rfl fun S w0 => ?_;refine sr (cq (nt (sr ?_)));iterate 2 refine mq ?_
 refine jb (o_neq rfl) ?_;refine aq (nt (JC.ret ?_));cases h;exact ra


def cmp_Less (k : Nat) (a0 : Int) (a1 : Int) : Option Bool :=
 (((cmp_isNaN k a0).bind fun r3 =>
 if r3 = true then ((cmp_isNaN k a1).bind fun r4 =>
 if ¬ (r4 = true) then (some true) else (some (decide (a0 < a1)))) else (some (decide (a0 < a1)))) : Option (Bool)).bind fun x1 =>
 some x1

theorem cmp_Less_ok (k : Nat) (a0 : Int) (a1 : Int) (r : Bool) (h : cmp_Less k a0 a1 = some r) :
 Ctr Try.prog 126 [I a0, I a1] [] (fun _ : Unit => (resA [.eq (.bool r)], [])) := by
 unfold cmp_Less at h;replace h := b_top h;refine Ctr.of 17 Try.func126 rfl Try.ntmps126 rfl fun S w0 => ?_;refine sr (cq (nt ?_));refine JC.cutB (Z := Unit) (α := Bool) (fun z2 x1 => [(4, .eq (.bool x1))]) (fun z2 x1 => []) h (fun K h => ?_) (fun z2 x1 h => ?_)
 ·refine JC.region (mq ?_);obtain ⟨r3, er3, h⟩ := b_bind h;refine ja (o_call [.tmp 5] rfl rfl en136 rfl (cmp_isNaN_ok k a0 r3 er3)) ?_;refine mq ?_;refine JO.bool (s := 7) rfl (fun hb => ?_) (fun hb => ?_)
  ·replace h := b_if (v_t hb) h;refine gm ?_;obtain ⟨r4, er4, h⟩ := b_bind h;refine ga (o_call [.tmp 8] rfl rfl en136 rfl (cmp_isNaN_ok k a1 r4 er4)) ?_;refine ga (o_not rfl) ?_;refine pt ?_;refine mq ?_;refine JO.bool (s := 12) rfl (fun hb => ?_) (fun hb => ?_)
   ·replace h := b_if (nv_t hb) h;iterate 3 refine gn ?_
    refine pt ?_;refine aq (nl ?_);exact jz ((), true) h []
   ·replace h := b_ifn (nv_fn hb) h;refine gm ?_;refine gm ?_;refine gb (o_lss rfl) ?_;refine pf ?_;refine aq (nl ?_);exact jz ((), decide (a0 < a1)) h []
  ·replace h := b_ifn (v_f hb) h;iterate 3 refine gn ?_
   refine pf ?_;refine mq ?_;refine gm ?_;refine gm ?_;refine gb (o_lss rfl) ?_;refine pf ?_;refine aq (nl ?_);exact jz ((), decide (a0 < a1)) h []
 ·refine JC.ret ?_;cases h;exact ra


def slc_insertionSortOrdered_l2 (k : Nat) (a1 : Int) : Nat → ((List Int) × Int) → Option (List Int)
 | 0, _ => none
 | n + 1, y6 =>
  ((if a1 < y6.2 then ((geti y6.1 y6.2).bind fun x10 =>
  (ck (y6.2 - (1 : Int))).bind fun x11 =>
  (geti y6.1 x11).bind fun x12 =>
  (cmp_Less k x10 x12).bind fun r13 =>
  some r13) else (some false)) : Option (Bool)).bind fun x8 =>
  if x8 = true then ((ck (y6.2 - (1 : Int))).bind fun x14 =>
  (ck (y6.2 - (1 : Int))).bind fun x15 =>
  (geti y6.1 x15).bind fun x16 =>
  (geti y6.1 y6.2).bind fun x17 =>
  (geti y6.1 y6.2).bind fun x18 =>
  (geti (List.set y6.1 (Int.toNat y6.2) x16) x14).bind fun x19 =>
  (ck (y6.2 - (1 : Int))).bind fun x20 =>
  slc_insertionSortOrdered_l2 k a1 n (List.set (List.set y6.1 (Int.toNat y6.2) x16) (Int.toNat x14) x17, x20)) else (some y6.1)

def slc_insertionSortOrdered_l1 (k : Nat) (a1 : Int) (a2 : Int) : Nat → ((List Int) × Int) → Option (List Int)
 | 0, _ => none
 | n + 1, y2 =>
  if y2.2 < a2 then (((slc_insertionSortOrdered_l2 k a1 k (y2.1, y2.2)) : Option ((List Int))).bind fun x4 =>
  (ck (y2.2 + (1 : Int))).bind fun x21 =>
  slc_insertionSortOrdered_l1 k a1 a2 n (x4, x21)) else (some y2.1)
def slc_insertionSortOrdered (k : Nat) (a0 : (List Int)) (a1 : Int) (a2 : Int) : Option (List Int) :=
 (ck (a1 + (1 : Int))).bind fun x1 =>
 slc_insertionSortOrdered_l1 k a1 a2 k (a0, x1)

theorem slc_insertionSortOrdered_ok (k : Nat) (a0 : (List Int)) (v_a0 : Value) (a1 : Int) (a2 : Int) (r : (List Int)) (h : slc_insertionSortOrdered k a0 a1 a2 = some r) :
 Ctr Try.prog 120 [.eq v_a0, I a1, I a2] [.sl v_a0 3 (.int .i64) a0] (fun _ : Unit => (resA [], [.sl v_a0 3 (.int .i64) r])) := by
 unfold slc_insertionSortOrdered at h;replace h := b_top h;refine Ctr.of 49 Try.func120 rfl Try.ntmps120 rfl fun S w0 => ?_;refine sr (mq ?_);obtain ⟨x1, ex1, h⟩ := b_bind h;refine jb (o_add rfl ex1) ?_;refine aq (nt (JC.block ?_));refine JC.loopB (Z := Unit) (α := (List Int) × Int) (fun z3 y2 => [(0, .eq v_a0), (1, I a1), (2, I a2), (6, I y2.2)]) (fun z3 y2 => [.sl v_a0 3 (.int .i64) y2.1]) (slc_insertionSortOrdered_l1 k a1 a2) k () (a0, x1) (fun _ => rfl) h (SE.fin [0] ⟨rfl, rfl, rfl, rfl, trivial⟩ rfl) (fun n z3 y2 h => ?_);unfold slc_insertionSortOrdered_l1 at h;refine JC.seq (sr ?_);iterate 2 refine mq ?_
 refine jb (o_lss rfl) ?_;refine nt (ci h (fun h => ?_) (fun h => ?_))
 ·refine sk (JC.cutB (Z := Unit) (α := (List Int)) (fun z5 x4 => [(0, .eq v_a0), (1, I a1), (2, I a2), (6, I y2.2)]) (fun z5 x4 => [.sl v_a0 3 (.int .i64) x4]) h (fun K h => ?_) (fun z5 x4 h => ?_))
  ·refine JC.block (sr (mq ?_));refine aq (nt (JC.block ?_));refine JC.loopB (Z := Unit) (α := (List Int) × Int) (fun z7 y6 => [(0, .eq v_a0), (1, I a1), (2, I a2), (6, I y2.2), (7, I y6.2)]) (fun z7 y6 => [.sl v_a0 3 (.int .i64) y6.1]) (slc_insertionSortOrdered_l2 k a1) k () (y2.1, y2.2) (fun _ => rfl) h (SE.fin [0] ⟨rfl, rfl, rfl, rfl, rfl, trivial⟩ rfl) (fun n z7 y6 h => ?_);unfold slc_insertionSortOrdered_l2 at h;refine JC.seq (JC.cutB (Z := Unit) (α := Bool) (fun z9 x8 => [(0, .eq v_a0), (1, I a1), (2, I a2), (6, I y2.2), (7, I y6.2), (30, .eq (.bool x8))]) (fun z9 x8 => [.sl v_a0 3 (.int .i64) y6.1]) h (fun K h => ?_) (fun z9 x8 h => ?_))
   ·refine JC.drawN ?_;refine dm ?_;refine dm ?_;refine db (o_gtr rfl) ?_;refine DN.fork rfl rfl rfl (o_move rfl) ⟨rfl, trivial⟩ (fun hb => ?_) (fun hb => ?_)
    ·replace h := b_if (d_t hb) h;refine DN.sg00 rfl rfl rfl rfl rfl (o_move rfl) ⟨rfl, rfl, trivial⟩ ?_;refine DN.sg00 rfl rfl rfl rfl rfl (o_move rfl) ⟨rfl, rfl, trivial⟩ ?_;obtain ⟨x10, ex10, h⟩ := b_bind h;refine DN.sg11 0 rfl rfl rfl rfl rfl rfl (o_index_own (t := (.int .i64)) rfl U22 sz3 ex10) ⟨rfl, rfl, rfl, trivial⟩ ?_;refine DN.sg11 0 rfl rfl rfl rfl rfl rfl (o_load_el (i := Int.toNat y6.2) (off := 0) rfl sz3 (fun _ => rfl) rfl (geti_some ex10).2.2 rfl) ⟨rfl, rfl, trivial⟩ ?_;refine DN.sg00 rfl rfl rfl rfl rfl (o_move rfl) ⟨rfl, rfl, trivial⟩ ?_;refine DN.sg00 rfl rfl rfl rfl rfl (o_move rfl) ⟨rfl, rfl, trivial⟩ ?_;obtain ⟨x11, ex11, h⟩ := b_bind h;refine DN.sg00 rfl rfl rfl rfl rfl (o_sub rfl ex11) ⟨rfl, rfl, rfl, trivial⟩ ?_;obtain ⟨x12, ex12, h⟩ := b_bind h;refine DN.sg11 0 rfl rfl rfl rfl rfl rfl (o_index_own (t := (.int .i64)) rfl U22 sz3 ex12) ⟨rfl, rfl, rfl, trivial⟩ ?_;refine DN.sg11 0 rfl rfl rfl rfl rfl rfl (o_load_el (i := Int.toNat x11) (off := 0) rfl sz3 (fun _ => rfl) rfl (geti_some ex12).2.2 rfl) ⟨rfl, rfl, trivial⟩ ?_;refine df mixed ?_;obtain ⟨r13, er13, h⟩ := b_bind h;refine gb (o_call [.tmp 23, .tmp 28] rfl rfl en126 rfl (cmp_Less_ok k x10 x12 r13 er13)) ?_;refine pt (nl ?_);exact jz ((), r13) h [0]
    ·replace h := b_ifn (d_f hb) h;iterate 9 refine dg ?_
     refine df mixed ?_;refine gn ?_;refine pf (nl ?_);exact jz ((), false) h [0]
   ·refine cv h (fun h => ?_) (fun h => ?_)
    ·refine sk (JC.seq (JC.block (JC.drawW ?_)));refine DW.t00 rfl rfl rfl (o_move rfl) ⟨rfl, trivial⟩ ?_;refine DW.t00 rfl rfl rfl (o_move rfl) ⟨rfl, trivial⟩ ?_;refine DW.t00 rfl rfl rfl (o_move rfl) ⟨rfl, trivial⟩ ?_;refine DW.t00 rfl rfl rfl (o_move rfl) ⟨rfl, trivial⟩ ?_;obtain ⟨x14, ex14, h⟩ := b_bind h;refine DW.t00 rfl rfl rfl (o_sub rfl ex14) ⟨rfl, rfl, trivial⟩ ?_;refine DW.t00 rfl rfl rfl (o_move rfl) ⟨rfl, trivial⟩ ?_;refine DW.t00 rfl rfl rfl (o_move rfl) ⟨rfl, trivial⟩ ?_;obtain ⟨x15, ex15, h⟩ := b_bind h;refine DW.t00 rfl rfl rfl (o_sub rfl ex15) ⟨rfl, rfl, trivial⟩ ?_;obtain ⟨x16, ex16, h⟩ := b_bind h;refine DW.t11 0 rfl rfl rfl rfl (o_index_own (t := (.int .i64)) rfl U22 sz3 ex16) ⟨rfl, rfl, trivial⟩ ?_;refine DW.t11 0 rfl rfl rfl rfl (o_load_el (i := Int.toNat x15) (off := 0) rfl sz3 (fun _ => rfl) rfl (geti_some ex16).2.2 rfl) ⟨rfl, trivial⟩ ?_;refine DW.t00 rfl rfl rfl (o_move rfl) ⟨rfl, trivial⟩ ?_;refine DW.t00 rfl rfl rfl (o_move rfl) ⟨rfl, trivial⟩ ?_;obtain ⟨x17, ex17, h⟩ := b_bind h;refine DW.t11 0 rfl rfl rfl rfl (o_index_own (t := (.int .i64)) rfl U22 sz3 ex17) ⟨rfl, rfl, trivial⟩ ?_;refine DW.t11 0 rfl rfl rfl rfl (o_load_el (i := Int.toNat y6.2) (off := 0) rfl sz3 (fun _ => rfl) rfl (geti_some ex17).2.2 rfl) ⟨rfl, trivial⟩ ?_;obtain ⟨x18, ex18, h⟩ := b_bind h;refine DW.t11 0 rfl rfl rfl rfl (o_index_own (t := (.int .i64)) rfl U22 sz3 ex18) ⟨rfl, rfl, trivial⟩ ?_;refine DW.fin 15 [true, true, false, false, false, true, true, true, true, true, true, true, true, true, true] [48] [] [] rfl (by kernel_rfl) (by kernel_rfl) (by kernel_rfl) mixed (fun vs hv hB => ?_);obtain ⟨w0, vs1, rfl, hv1⟩ := len_cons hv;obtain ⟨w1, vs2, rfl, hv2⟩ := len_cons hv1;obtain ⟨w2, vs3, rfl, hv3⟩ := len_cons hv2;obtain ⟨w3, vs4, rfl, hv4⟩ := len_cons hv3;obtain ⟨w4, vs5, rfl, hv5⟩ := len_cons hv4;obtain ⟨w5, vs6, rfl, hv6⟩ := len_cons hv5;obtain ⟨w6, vs7, rfl, hv7⟩ := len_cons hv6;obtain ⟨w7, vs8, rfl, hv8⟩ := len_cons hv7;obtain ⟨w8, vs9, rfl, hv9⟩ := len_cons hv8;obtain ⟨w9, vs10, rfl, hv10⟩ := len_cons hv9;obtain ⟨w10, vs11, rfl, hv11⟩ := len_cons hv10;obtain ⟨w11, vs12, rfl, hv12⟩ := len_cons hv11;obtain ⟨w12, vs13, rfl, hv13⟩ := len_cons hv12;obtain ⟨w13, vs14, rfl, hv14⟩ := len_cons hv13;obtain ⟨w14, vs15, rfl, hv15⟩ := len_cons hv14;obtain rfl := len_nil hv15;refine ⟨[0], [.sl v_a0 3 (.int .i64) y6.1], by kernel_rfl, by decide, ?_⟩;refine JT.n11 rfl rfl (o_store_elW (i := Int.toNat y6.2) rfl sz3 rfl (geti_lt ex18) rfl .int rfl) ⟨rfl, rfl, trivial⟩ (by kernel_rfl) ?_;obtain ⟨x19, ex19, h⟩ := b_bind h;refine JT.y11 rfl rfl rfl rfl (o_index_own (t := (.int .i64)) rfl U22 sz3 ex19) ⟨rfl, rfl, trivial⟩ (by kernel_rfl) ?_;refine JT.n11 rfl rfl (o_store_elW (i := Int.toNat x14) rfl sz3 rfl (geti_lt ex19) rfl .int rfl) ⟨rfl, rfl, trivial⟩ (by kernel_rfl) ?_;refine JT.nil ?_;refine JN.se (SE.fin (Γ' := [(0, .eq v_a0), (1, I a1), (2, I a2), (6, I y2.2), (7, I y6.2)]) (Δ' := [.sl v_a0 3 (.int .i64) (List.set (List.set y6.1 (Int.toNat y6.2) x16) (Int.toNat x14) x17)]) [0] ⟨rfl, rfl, rfl, rfl, rfl, trivial⟩ rfl) ?_;refine JN.blk_n (tn (JC.region (mq ?_)));obtain ⟨x20, ex20, h⟩ := b_bind h;refine jb (o_sub rfl ex20) ?_;refine aq (nl ?_);exact jz ((), (List.set (List.set y6.1 (Int.toNat y6.2) x16) (Int.toNat x14) x17, x20)) h [0]
    ·refine JC.exit (JN.then_x (JN.then_x (JN.blk_hit (bn ?_))));exact jz ((), y6.1) h [0]
  ·refine JC.region (mq ?_);obtain ⟨x21, ex21, h⟩ := b_bind h;refine jb (o_add rfl ex21) ?_;refine aq (nl ?_);exact jz ((), (x4, x21)) h [0]
 ·refine JC.exit (JN.then_x (JN.then_x (JN.blk_hit (JN.end_n ?_))));cases h;exact JN.ret () [] 1 trivial rfl


def math_bits_Len64 (k : Nat) (a0 : Int) : Option Int :=
 ((if (4294967296 : Int) ≤ a0 then (some (ishr .u64 a0 (32 : Int), (32 : Int))) else (some (a0, (0 : Int)))) : Option (Int × Int)).bind fun x1 =>
 ((if (65536 : Int) ≤ x1.1 then ((ck (x1.2 + (16 : Int))).bind fun x5 =>
 some (ishr .u64 x1.1 (16 : Int), x5)) else (some (x1.1, x1.2))) : Option (Int × Int)).bind fun x3 =>
 ((if (256 : Int) ≤ x3.1 then ((ck (x3.2 + (8 : Int))).bind fun x8 =>
 some (ishr .u64 x3.1 (8 : Int), x8)) else (some (x3.1, x3.2))) : Option (Int × Int)).bind fun x6 =>
 (idxStr len8tab (IntKind.u8.wrap x6.1)).bind fun x9 =>
 (ck (x9.toNat : Int)).bind fun x10 =>
 (ck (x6.2 + x10)).bind fun x11 =>
 some x11

theorem math_bits_Len64_ok (k : Nat) (a0 : Int) (r : Int) (h : math_bits_Len64 k a0 = some r) :
 Ctr Try.prog 130 [.eq (.int .u64 a0)] [] (fun _ : Unit => (resA [I r], [])) := by
 unfold math_bits_Len64 at h;replace h := b_top h;refine Ctr.of 25 Try.func130 rfl Try.ntmps130 rfl fun S w0 => ?_;refine sr (cq (nt ?_));refine JC.cutB (Z := Unit) (α := Int × Int) (fun z2 x1 => [(0, .eq (.int .u64 x1.1)), (2, I x1.2)]) (fun z2 x1 => []) h (fun K h => ?_) (fun z2 x1 h => ?_)
 ·refine sr (mq ?_);refine jb (o_geq rfl) ?_;refine nt (ci h (fun h => ?_) (fun h => ?_))
  ·refine sr (mq ?_);refine JO.s rfl (o_shr rfl (by decide)) ⟨rfl, rfl, trivial⟩ ?_;refine aq (nt (JC.region ?_));refine cq (nl ?_);exact jz ((), (ishr .u64 a0 (32 : Int), (32 : Int))) h []
  ·refine JC.skip (JN.then_n ?_);exact jz ((), (a0, (0 : Int))) h []
 ·refine JC.cutB (Z := Unit) (α := Int × Int) (fun z4 x3 => [(0, .eq (.int .u64 x3.1)), (2, I x3.2)]) (fun z4 x3 => []) h (fun K h => ?_) (fun z4 x3 h => ?_)
  ·refine sr (mq ?_);refine jb (o_geq rfl) ?_;refine nt (ci h (fun h => ?_) (fun h => ?_))
   ·refine sr (mq ?_);refine JO.s rfl (o_shr rfl (by decide)) ⟨rfl, rfl, trivial⟩ ?_;refine aq (nt (JC.region ?_));refine mq ?_;obtain ⟨x5, ex5, h⟩ := b_bind h;refine jb (o_add rfl ex5) ?_;refine aq (nl ?_);exact jz ((), (ishr .u64 x1.1 (16 : Int), x5)) h []
   ·refine JC.skip (JN.then_n ?_);exact jz ((), (x1.1, x1.2)) h []
  ·refine JC.cutB (Z := Unit) (α := Int × Int) (fun z7 x6 => [(0, .eq (.int .u64 x6.1)), (2, I x6.2)]) (fun z7 x6 => []) h (fun K h => ?_) (fun z7 x6 h => ?_)
   ·refine sr (mq ?_);refine jb (o_geq rfl) ?_;refine nt (ci h (fun h => ?_) (fun h => ?_))
    ·refine sr (mq ?_);refine JO.s rfl (o_shr rfl (by decide)) ⟨rfl, rfl, trivial⟩ ?_;refine aq (nt (JC.region ?_));refine mq ?_;obtain ⟨x8, ex8, h⟩ := b_bind h;refine jb (o_add rfl ex8) ?_;refine aq (nl ?_);exact jz ((), (ishr .u64 x3.1 (8 : Int), x8)) h []
    ·refine JC.skip (JN.then_n ?_);exact jz ((), (x3.1, x3.2)) h []
   ·refine sr ?_;iterate 2 refine mq ?_
    refine ja (o_conv rfl U91 U5) ?_;obtain ⟨x9, ex9, h⟩ := b_bind h;refine ja (o_index_str rfl U9 ex9) ?_;obtain ⟨x10, ex10, h⟩ := b_bind h;refine ja (o_conv64 rfl U5 U3 ex10) ?_;obtain ⟨x11, ex11, h⟩ := b_bind h;refine jb (o_add rfl ex11) ?_;refine aq (nt (JC.ret ?_));cases h;exact ra


def bit_Len (k : Nat) (a0 : Int) : Option Int :=
 (math_bits_Len64 k a0).bind fun r1 =>
 some r1

theorem bit_Len_ok (k : Nat) (a0 : Int) (r : Int) (h : bit_Len k a0 = some r) :
 Ctr Try.prog 112 [.eq (.int .u64 a0)] [] (fun _ : Unit => (resA [I r], [])) := by
 unfold bit_Len at h;replace h := b_top h;refine Ctr.of 8 Try.func112 rfl Try.ntmps112 rfl fun S w0 => ?_;refine sr (cq (nt (JC.seq ?_)));refine JC.condc (fun hb => (by cases hb)) (fun hb => ?_);refine sk (sr (mq ?_));obtain ⟨r1, er1, h⟩ := b_bind h;refine ja (o_call [.tmp 6] rfl rfl en130 rfl (math_bits_Len64_ok k a0 r1 er1)) ?_;refine aq (nt (JC.ret ?_));cases h;exact ra


def slc_pdqsortOrdered_l1 (k : Nat) (a0 : (List Int)) (a1 : Int) (a2 : Int) (a3 : Int) : Nat → Unit → Option (List Int)
 | 0, _ => none
 | n + 1, y1 =>
  (ck (a2 - a1)).bind fun x3 =>
  if x3 ≤ (12 : Int) then ((slc_insertionSortOrdered k a0 a1 a2).bind fun r4 =>
  some r4) else (if a3 = (0 : Int) then (none) else (none))
def slc_pdqsortOrdered (k : Nat) (a0 : (List Int)) (a1 : Int) (a2 : Int) (a3 : Int) : Option (List Int) :=
 slc_pdqsortOrdered_l1 k a0 a1 a2 a3 k ()

theorem slc_pdqsortOrdered_ok (k : Nat) (a0 : (List Int)) (v_a0 : Value) (a1 : Int) (a2 : Int) (a3 : Int) (r : (List Int)) (h : slc_pdqsortOrdered k a0 a1 a2 a3 = some r) :
 Ctr Try.prog 111 [.eq v_a0, I a1, I a2, I a3] [.sl v_a0 3 (.int .i64) a0] (fun _ : Unit => (resA [], [.sl v_a0 3 (.int .i64) r])) := by
 unfold slc_pdqsortOrdered at h;replace h := b_top h;refine Ctr.of 134 Try.func111 rfl Try.ntmps111 rfl fun S w0 => ?_;refine sr (cq (nt (sr ?_)));refine cq (nt (JC.block ?_));refine JC.loopB (Z := Unit) (α := Unit) (fun z2 y1 => [(0, .eq v_a0), (1, I a1), (2, I a2), (3, I a3), (8, .eq (.bool true)), (9, .eq (.bool true))]) (fun z2 y1 => [.sl v_a0 3 (.int .i64) a0]) (slc_pdqsortOrdered_l1 k a0 a1 a2 a3) k () () (fun _ => rfl) h (SE.fin [0] ⟨rfl, rfl, rfl, rfl, rfl, rfl, trivial⟩ rfl) (fun n z2 y1 h => ?_);unfold slc_pdqsortOrdered_l1 at h;refine JC.block (sr ?_);iterate 2 refine mq ?_
 obtain ⟨x3, ex3, h⟩ := b_bind h;refine jb (o_sub rfl ex3) ?_;refine aq (nt (JC.seq (sr ?_)));refine mq ?_;refine jb (o_leq rfl) ?_;refine nt (ci h (fun h => ?_) (fun h => ?_))
 ·refine sr ?_;iterate 3 refine mq ?_
  obtain ⟨r4, er4, h⟩ := b_bind h;refine kc (o_call [.tmp 24, .tmp 25, .tmp 26] rfl rfl en120 rfl (slc_insertionSortOrdered_ok k a0 v_a0 a1 a2 r4 er4)) ?_;refine nt (rx (JN.blk_r (JN.then_r (JN.blk_r ?_))));cases h;exact JN.ret () [] 1 trivial rfl
 ·refine sk (JC.seq (sr (mq ?_)));refine jb (o_eql rfl) ?_;refine nt (ci h (fun h => ?_) (fun h => ?_))
  ·refine sr ?_;iterate 3 refine mq ?_
   cases h
  ·refine sk (JC.seq (sr (mq ?_)));refine ja (o_not rfl) ?_;refine nt (JC.cond rfl (fun hb => (by cases hb)) (fun hb => ?_));refine sk (sr ?_);iterate 3 refine mq ?_
   cases h


def slc_Sort_int (k : Nat) (a0 : (List Int)) : Option (List Int) :=
 (bit_Len k (IntKind.u64.wrap (a0.length : Int))).bind fun r1 =>
 (slc_pdqsortOrdered k a0 (0 : Int) (a0.length : Int) r1).bind fun r2 =>
 some r2

theorem slc_Sort_int_ok (k : Nat) (a0 : (List Int)) (v_a0 : Value) (r : (List Int)) (h : slc_Sort_int k a0 = some r) :
 Ctr Try.prog 76 [.eq v_a0] [.sl v_a0 3 (.int .i64) a0] (fun _ : Unit => (resA [], [.sl v_a0 3 (.int .i64) r])) := by
 unfold slc_Sort_int at h;replace h := b_top h;refine Ctr.of 11 Try.func76 rfl Try.ntmps76 rfl fun S w0 => ?_;refine sr (mq ?_);refine ka (o_len_own rfl rfl U22) ?_;refine aq (nt (JC.region ?_));iterate 3 refine mq ?_
 refine ja (o_conv rfl U3 U163) ?_;obtain ⟨r1, er1, h⟩ := b_bind h;refine ja (o_call [.tmp 8] rfl rfl en112 rfl (bit_Len_ok k (IntKind.u64.wrap (a0.length : Int)) r1 er1)) ?_;obtain ⟨r2, er2, h⟩ := b_bind h;refine JO.s11 rfl rfl rfl (o_call [.tmp 5, .const (.int .i64 (0)), .tmp 6, .tmp 9] rfl rfl en111 rfl (slc_pdqsortOrdered_ok k a0 v_a0 (0 : Int) (a0.length : Int) r1 r2 er2)) ⟨rfl, rfl, rfl, rfl, trivial⟩ ?_;refine JO.nil (JN.end_n ?_);cases h;exact JN.ret () [] 1 trivial rfl


def chg_Learn_l2 (k : Nat) (q3 : (dChange × (List (Bool × Int)) × (List Int))) (y9 : Int × Bool × Int × Int × Int) : Nat → (Int × Bool × Int × Int × Int) → Option (Int × Bool × Int × Int)
 | 0, _ => none
 | n + 1, y13 =>
  if y13.2.2.2.2 < (q3.1.1.length : Int) then ((((geti q3.1.2.1 y9.2.2.2.2).bind fun x17 =>
  (slc_Contains_int k x17.1 y13.2.2.2.2).bind fun r18 =>
  if r18 = true then (some (y13.1, y13.2.1, y13.2.2.1, y13.2.2.2.1)) else ((slc_Clone_Dresser k q3.1.2.1).bind fun r19 =>
  (geti r19 y9.2.2.2.2).bind fun x21 =>
  (slc_Clone_int k x21.1).bind fun r22 =>
  (chkP (okLen (List.length r22 + List.length [y13.2.2.2.2]))).bind fun _ =>
  (geti r19 y9.2.2.2.2).bind fun x26 =>
  (slc_Sort_int k (r22 ++ [y13.2.2.2.2])).bind fun r28 =>
  (chg_quick_fewest k ((q3.1.1, q3.1.2.1, q3.1.2.2.1, q3.1.2.2.2), q3.2.1, q3.2.2) (List.set r19 (Int.toNat y9.2.2.2.2) (r28, x26.2.1, x26.2.2))).bind fun r29 =>
  ((if r29.2 = true then (if ¬ (y13.2.1 = true) then (some true) else (some (decide (r29.1 < y13.1)))) else (some false)) : Option (Bool)).bind fun x30 =>
  if x30 = true then (some (r29.1, true, y9.2.2.2.2, y13.2.2.2.2)) else (some (y13.1, y13.2.1, y13.2.2.1, y13.2.2.2.1)))) : Option (Int × Bool × Int × Int)).bind fun x15 =>
  (ck (y13.2.2.2.2 + (1 : Int))).bind fun x32 =>
  chg_Learn_l2 k q3 y9 n (x15.1, x15.2.1, x15.2.2.1, x15.2.2.2, x32)) else (some (y13.1, y13.2.1, y13.2.2.1, y13.2.2.2.1))

def chg_Learn_l1 (k : Nat) (q3 : (dChange × (List (Bool × Int)) × (List Int))) : Nat → (Int × Bool × Int × Int × Int) → Option (Int × Int × Int)
 | 0, _ => none
 | n + 1, y9 =>
  if y9.2.2.2.2 < (q3.1.2.1.length : Int) then (((chg_Learn_l2 k q3 y9 k (y9.1, y9.2.1, y9.2.2.1, y9.2.2.2.1, (0 : Int))) : Option (Int × Bool × Int × Int)).bind fun x11 =>
  (ck (y9.2.2.2.2 + (1 : Int))).bind fun x33 =>
  chg_Learn_l1 k q3 n (x11.1, x11.2.1, x11.2.2.1, x11.2.2.2, x33)) else (some (y9.1, y9.2.2.1, y9.2.2.2.1))
def chg_Learn (k : Nat) (a0 : dChange) : Option (Int × Int × Int × Int) :=
 (chg_begin k a0).bind fun r2 =>
 casesO r2.1 (if ¬ (r2.2 = (0 : Int)) then (some ((0 : Int), (0 : Int), (0 : Int), r2.2)) else (none)) (fun q3 => if ¬ (r2.2 = (0 : Int)) then (some ((0 : Int), (0 : Int), (0 : Int), r2.2)) else ((chg_least k ((q3.1.1, q3.1.2.1, q3.1.2.2.1, q3.1.2.2.2), q3.2.1, q3.2.2)).bind fun r6 =>
 ((chg_Learn_l1 k q3 k (r6.2.1, r6.2.2, (-1 : Int), (-1 : Int), (0 : Int))) : Option (Int × Int × Int)).bind fun x7 =>
 if x7.2.1 < (0 : Int) then (some ((0 : Int), (0 : Int), (0 : Int), (11 : Int))) else (some (x7.2.1, x7.2.2, x7.1, (0 : Int)))))

theorem chg_Learn_ok (k : Nat) (a0 : dChange) (r : Int × Int × Int × Int) (h : chg_Learn k a0 = some r) :
 Ctr Try.prog 29 [.rep tChange a0] [] (fun _ : Unit => (resA [I r.1, I r.2.1, I r.2.2.1, I r.2.2.2], [])) := by
 unfold chg_Learn at h;replace h := b_top h;refine Ctr.of 115 Try.func29 rfl Try.ntmps29 rfl fun S w0 => ?_;refine sr (bx fun b1 => ?_);refine cq ?_;refine cq ?_;refine cq ?_;refine cq (nt (sr ?_));refine lo sz28 ?_;obtain ⟨r2, er2, h⟩ := b_bind h;have cr2 := chg_begin_ok k a0 r2 er2;rcases hr : r2.1 with _ | q3
 ·rw [hr] at h cr2; replace h := co_n h;refine JO.stepG (Δ := []) (F := _) (fun _ _ _ => wanted_none rfl _) rfl rfl (o_call [.tmp 19] rfl rfl en67 rfl cr2) ⟨rfl, trivial⟩ fun _ => ?_;refine mq ?_;refine xr ?_;refine xr ?_;refine aq ?_;refine aq (nt (JC.seq (sr ?_)));refine mq ?_;refine jb (o_neq rfl) ?_;refine nt (cn h (fun h => ?_) (fun h => ?_))
  ·refine sr (mq ?_);refine cq ?_;refine cq ?_;refine cq ?_;refine aq (nt (rx ?_));cases h;exact JN.ret () [_, _, _, _] 0 ⟨rfl, rfl, rfl, rfl, trivial⟩ rfl
  ·refine sk (sr (mq ?_));cases h
 ·rw [hr] at h cr2; replace h := co_s h;refine JO.stepG (Δ := []) (F := _) (fun _ _ _ => wanted_none rfl _) rfl rfl (o_call [.tmp 19] rfl rfl en67 rfl cr2) ⟨rfl, trivial⟩ fun z4 => ?_;refine mq ?_;refine xr ?_;refine xr ?_;refine aq ?_;refine aq (nt (JC.seq (sr ?_)));refine mq ?_;refine jb (o_neq rfl) ?_;refine nt (cn h (fun h => ?_) (fun h => ?_))
  ·refine sr (mq ?_);refine cq ?_;refine cq ?_;refine cq ?_;refine aq (nt (rx ?_));cases h;exact JN.ret () [_, _, _, _] 0 ⟨rfl, rfl, rfl, rfl, trivial⟩ rfl
  ·refine sk (sr (mq ?_));refine JO.s01 rfl rfl rfl (o_call [.tmp 27] rfl rfl en69 rfl (chg_quick_plans_ok z4.1)) ⟨rfl, trivial⟩ fun b5 => ?_;refine mq ?_;refine ja (o_mkfn [.tmp 29] [] [(.pointer (some ⟨z4.1, 0, none⟩))] [] rfl rfl rfl) ?_;refine fr 2 ?_;refine JO.se (SE.rawInv (Known k ((q3.1.1, q3.1.2.1, q3.1.2.2.1, q3.1.2.2.2), q3.2.1, q3.2.2)) known_nil) ?_;obtain ⟨r6, er6, h⟩ := b_bind h;refine fr 1 ?_;refine fr 1 ?_;refine fr 2 ?_;refine JO.stepG (Δ := [_, _, _]) (F := _) (fun _ _ _ => wanted_none rfl _) rfl rfl (o_call [.tmp 28, .tmp 30] rfl rfl en68 rfl (chg_least_ok k ((q3.1.1, q3.1.2.1, q3.1.2.2.1, q3.1.2.2.2), q3.2.1, q3.2.2) z4.1 z4.2 b5 r6 er6)) ⟨rfl, rfl, trivial⟩ fun _ => ?_;refine mq ?_;refine xr ?_;refine xr ?_;refine xr ?_;refine aq ?_;refine aq ?_;refine aq (nt (sr ?_));refine cq ?_;refine cq (nt ?_);refine JC.cutB (Z := Unit) (α := Int × Int × Int) (fun z8 x7 => [(9, I x7.1), (11, I x7.2.1), (12, I x7.2.2)]) (fun z8 x7 => [.inv z4.2 (Known k ((q3.1.1, q3.1.2.1, q3.1.2.2.1, q3.1.2.2.2), q3.2.1, q3.2.2))]) h (fun K h => ?_) (fun z8 x7 h => ?_)
   ·refine sr (mq ?_);refine ja (o_nil_obj rfl) ?_;refine fl fo120_0 ?_;refine fl fo28_1 ?_;refine lo sz26 ?_;refine ol U26 ?_;refine JO.mc rfl ?_;refine nt (JC.block (JC.loopB (Z := Unit) (α := Int × Bool × Int × Int × Int) (fun z10 y9 => [(6, .eq (.pointer (some ⟨z4.1, 0, none⟩))), (9, I y9.1), (10, .eq (.bool y9.2.1)), (11, I y9.2.2.1), (12, I y9.2.2.2.1), (40, I (q3.1.2.1.length : Int)), (41, I y9.2.2.2.2)]) (fun z10 y9 => [.obj z4.1 120 (Qq q3 (.eq (.map (some z4.2)))), .inv z4.2 (Known k ((q3.1.1, q3.1.2.1, q3.1.2.2.1, q3.1.2.2.2), q3.2.1, q3.2.2))]) (chg_Learn_l1 k q3) k () (r6.2.1, r6.2.2, (-1 : Int), (-1 : Int), (0 : Int)) (fun _ => rfl) h (SE.fin [0, 1] ⟨rfl, rfl, rfl, rfl, rfl, rfl, rfl, trivial⟩ rfl) (fun n z10 y9 h => ?_)));unfold chg_Learn_l1 at h;refine sr (jb (o_lss rfl) ?_);refine nt (JC.seq (ci h (fun h => ?_) (fun h => ?_)))
    ·refine sk (JC.cutB (Z := Unit) (α := Int × Bool × Int × Int) (fun z12 x11 => [(6, .eq (.pointer (some ⟨z4.1, 0, none⟩))), (9, I x11.1), (10, .eq (.bool x11.2.1)), (11, I x11.2.2.1), (12, I x11.2.2.2), (40, I (q3.1.2.1.length : Int)), (41, I y9.2.2.2.2)]) (fun z12 x11 => [.obj z4.1 120 (Qq q3 (.eq (.map (some z4.2)))), .inv z4.2 (Known k ((q3.1.1, q3.1.2.1, q3.1.2.2.1, q3.1.2.2.2), q3.2.1, q3.2.2))]) h (fun K h => ?_) (fun z12 x11 h => ?_))
     ·refine JC.block (sr (mq ?_));refine aq (nt ?_);refine JC.scopeS rfl (fl_hit fl_lab) ?_;refine JC.seq (JC.label ?_);refine tn (sr (mq ?_));refine ja (o_nil_obj rfl) ?_;refine fl fo120_0 ?_;refine fl fo28_0 ?_;refine lo sz25 ?_;refine ol U25 ?_;refine JO.mc rfl ?_;refine nt (JC.block (JC.loopB (Z := Unit) (α := Int × Bool × Int × Int × Int) (fun z14 y13 => [(6, .eq (.pointer (some ⟨z4.1, 0, none⟩))), (9, I y13.1), (10, .eq (.bool y13.2.1)), (11, I y13.2.2.1), (12, I y13.2.2.2.1), (13, I y9.2.2.2.2), (40, I (q3.1.2.1.length : Int)), (41, I y9.2.2.2.2), (49, I (q3.1.1.length : Int)), (50, I y13.2.2.2.2)]) (fun z14 y13 => [.obj z4.1 120 (Qq q3 (.eq (.map (some z4.2)))), .inv z4.2 (Known k ((q3.1.1, q3.1.2.1, q3.1.2.2.1, q3.1.2.2.2), q3.2.1, q3.2.2))]) (chg_Learn_l2 k q3 y9) k () (y9.1, y9.2.1, y9.2.2.1, y9.2.2.2.1, (0 : Int)) (fun _ => rfl) h (SE.fin [0, 1] ⟨rfl, rfl, rfl, rfl, rfl, rfl, rfl, rfl, rfl, rfl, trivial⟩ rfl) (fun n z14 y13 h => ?_)));unfold chg_Learn_l2 at h;refine sr (jb (o_lss rfl) ?_);refine nt (JC.seq (ci h (fun h => ?_) (fun h => ?_)))
      ·refine sk (JC.cutB (Z := Unit) (α := Int × Bool × Int × Int) (fun z16 x15 => [(6, .eq (.pointer (some ⟨z4.1, 0, none⟩))), (9, I x15.1), (10, .eq (.bool x15.2.1)), (11, I x15.2.2.1), (12, I x15.2.2.2), (13, I y9.2.2.2.2), (40, I (q3.1.2.1.length : Int)), (41, I y9.2.2.2.2), (49, I (q3.1.1.length : Int)), (50, I y13.2.2.2.2)]) (fun z16 x15 => [.obj z4.1 120 (Qq q3 (.eq (.map (some z4.2)))), .inv z4.2 (Known k ((q3.1.1, q3.1.2.1, q3.1.2.2.1, q3.1.2.2.2), q3.2.1, q3.2.2))]) h (fun K h => ?_) (fun z16 x15 h => ?_))
       ·refine JC.block (sr (mq ?_));refine aq (nt (JC.seq (sr ?_)));refine mq ?_;refine ja (o_nil_obj rfl) ?_;refine fl fo120_0 ?_;refine fl fo28_1 ?_;refine lo sz26 ?_;refine mq ?_;obtain ⟨x17, ex17, h⟩ := b_bind h;refine jb (o_index (t := tDresser) rfl U26 sz53 ex17) ?_;refine ja (o_field_at 1 false rfl fo53_0 rfl) ?_;refine ja (o_load_at (t := (.slice (.int .i64))) rfl sz22 rfl) ?_;refine mq ?_;obtain ⟨r18, er18, h⟩ := b_bind h;refine jb (o_call [.tmp 61, .tmp 62] rfl rfl en74 rfl (slc_Contains_int_ok k x17.1 y13.2.2.2.2 r18 er18)) ?_;refine nt (cv h (fun h => ?_) (fun h => ?_))
        ·refine JC.exit (JN.then_x (JN.blk_hit (JN.then_n ?_)));exact jz ((), (y13.1, y13.2.1, y13.2.2.1, y13.2.2.2.1)) h [0, 1]
        ·refine sk (sr (mq ?_));refine ja (o_nil_obj rfl) ?_;refine fl fo120_0 ?_;refine fl fo28_1 ?_;refine lo sz26 ?_;obtain ⟨r19, er19, h⟩ := b_bind h;refine JO.s01 rfl rfl rfl (o_call [.tmp 68] rfl rfl en72 rfl (slc_Clone_Dresser_ok k q3.1.2.1 r19 er19)) ⟨rfl, trivial⟩ fun v20 => ?_;refine aq (nt (sr ?_));iterate 4 refine mq ?_
         obtain ⟨x21, ex21, h⟩ := b_bind h;refine kb (o_index_own (t := tDresser) rfl U26 sz53 ex21) ?_;refine ka (o_field_el rfl fo53_0 (geti_ne ex21)) ?_;refine ka (o_load_el (i := Int.toNat y9.2.2.2.2) (off := 0) rfl sz22 (fun _ => rfl) rfl (geti_some ex21).2.2 rfl) ?_;obtain ⟨r22, er22, h⟩ := b_bind h;refine JO.s01 rfl rfl rfl (o_call [.tmp 76] rfl rfl en75 rfl (slc_Clone_int_ok k x21.1 r22 er22)) ⟨rfl, trivial⟩ fun v23 => ?_;refine mq ?_;refine ja (o_litB (t := (.int .i64)) [(.tmp 78, _)] [y13.2.2.2.2] rfl rfl sl22 (.cons rfl .int .nil) rfl rfl) ?_;obtain ⟨u24, eu24, h⟩ := b_bind h;refine JO.s1x rfl rfl rfl (o_append rfl rfl sl22 (chkP_some eu24)) ⟨rfl, rfl, trivial⟩ fun v25 => ?_;refine fr 1 ?_;refine JO.se SE.toAlt ?_;obtain ⟨x26, ex26, h⟩ := b_bind h;have ax26 := geti_map (f := altF) ex26;refine kb (o_index_own (t := (.agg (.pair (.alt (.slice (.int .i64))) (.pair (.int .i64) (.int .i64))))) rfl U26 sz53 ax26) ?_;refine ka (o_field_el rfl fo53_0 (geti_ne ax26)) ?_;refine fr 1 ?_;refine JO.one fun o27 => ?_;refine fr 1 ?_;refine JO.n11 rfl rfl (o_store_el (d' := ((Sum.inr v25), x26.2.1, x26.2.2)) (i := Int.toNat y9.2.2.2.2) (off := 0) rfl sz22 rfl (geti_some ax26).2.2 (.altR o27) o27 (.agg (.left .whole))) ⟨rfl, rfl, trivial⟩ ?_;refine nt (sr ?_);iterate 2 refine mq ?_
         have bx26 := geti_set ((Sum.inr v25), x26.2.1, x26.2.2) ax26;refine kb (o_index_own (t := (.agg (.pair (.alt (.slice (.int .i64))) (.pair (.int .i64) (.int .i64))))) rfl U26 sz53 bx26) ?_;refine ka (o_field_el rfl fo53_0 (geti_ne bx26)) ?_;refine ka (o_load_el (i := Int.toNat y9.2.2.2.2) (off := 0) rfl sz22 (fun _ => rfl) rfl (geti_some bx26).2.2 rfl) ?_;refine JO.se (SE.altR 87 rfl rfl) ?_;obtain ⟨r28, er28, h⟩ := b_bind h;refine fr 1 ?_;refine ka (o_call [.tmp 87] rfl rfl en76 rfl (slc_Sort_int_ok k (r22 ++ [y13.2.2.2.2]) v25 r28 er28)) ?_;refine fr 1 ?_;refine fr 1 ?_;refine JO.se SE.ofAlt ?_;refine nt (sr ?_);iterate 2 refine mq ?_
         refine JO.se (SE.frz [15, 69, 70, 72, 83, 91] ⟨rfl, rfl, rfl, rfl, rfl, rfl, trivial⟩) ?_;obtain ⟨r29, er29, h⟩ := b_bind h;refine kb (o_call [.tmp 90, .tmp 91] rfl rfl en73 rfl (chg_quick_fewest_ok k ((q3.1.1, q3.1.2.1, q3.1.2.2.1, q3.1.2.2.2), q3.2.1, q3.2.2) z4.1 (.map (some z4.2)) (List.set r19 (Int.toNat y9.2.2.2.2) (r28, x26.2.1, x26.2.2)) r29 er29)) ?_;refine mq ?_;refine xr ?_;refine xr ?_;refine aq ?_;refine aq (nt ?_);refine JC.cutB (Z := Unit) (α := Bool) (fun z31 x30 => [(6, .eq (.pointer (some ⟨z4.1, 0, none⟩))), (9, I y13.1), (10, .eq (.bool y13.2.1)), (11, I y13.2.2.1), (12, I y13.2.2.2.1), (13, I y9.2.2.2.2), (14, I y13.2.2.2.2), (16, I r29.1), (40, I (q3.1.2.1.length : Int)), (41, I y9.2.2.2.2), (49, I (q3.1.1.length : Int)), (50, I y13.2.2.2.2), (104, .eq (.bool x30))]) (fun z31 x30 => [.obj z4.1 120 (Qq q3 (.eq (.map (some z4.2)))), .inv z4.2 (Known k ((q3.1.1, q3.1.2.1, q3.1.2.2.1, q3.1.2.2.2), q3.2.1, q3.2.2))]) h (fun K h => ?_) (fun z31 x30 h => ?_)
         ·refine JC.region ?_;iterate 2 refine mq ?_
          refine JO.bool (s := 96) rfl (fun hb => ?_) (fun hb => ?_)
          ·replace h := b_if (v_t hb) h;refine gm ?_;refine ga (o_not rfl) ?_;refine gm ?_;refine JO.bool (s := 99) rfl (fun hb => ?_) (fun hb => ?_)
           ·replace h := b_if (nv_t hb) h;iterate 3 refine gn ?_
            refine gb (o_pick_t rfl) ?_;refine pt (nl ?_);exact jz ((), true) h [0, 1]
           ·replace h := b_ifn (nv_fn hb) h;refine gm ?_;refine gm ?_;refine gb (o_lss rfl) ?_;refine gb (o_pick_f rfl) ?_;refine pt (nl ?_);exact jz ((), decide (r29.1 < y13.1)) h [0, 1]
          ·replace h := b_ifn (v_f hb) h;iterate 3 refine gn ?_
           refine gu ?_;refine gu ?_;refine gu ?_;refine gn ?_;refine pf (nl ?_);exact jz ((), false) h [0, 1]
         ·refine cv h (fun h => ?_) (fun h => ?_)
          ·refine JC.region ?_;iterate 3 refine mq ?_
           refine aq ?_;refine aq ?_;refine aq ?_;refine cq (JO.nil (bn ?_));exact jz ((), (r29.1, true, y9.2.2.2.2, y13.2.2.2.2)) h [0, 1]
          ·refine JC.skip (bn ?_);exact jz ((), (y13.1, y13.2.1, y13.2.2.1, y13.2.2.2.1)) h [0, 1]
       ·refine JC.region ?_;obtain ⟨x32, ex32, h⟩ := b_bind h;refine jb (o_add rfl ex32) ?_;refine mq (nl ?_);exact jz ((), (x15.1, x15.2.1, x15.2.2.1, x15.2.2.2, x32)) h [0, 1]
      ·refine JC.exit (JN.then_x (JN.then_x (JN.blk_hit (JN.jmp_n ?_))));refine bn ?_;exact jz ((), (y13.1, y13.2.1, y13.2.2.1, y13.2.2.2.1)) h [0, 1]
     ·refine JC.region ?_;obtain ⟨x33, ex33, h⟩ := b_bind h;refine jb (o_add rfl ex33) ?_;refine mq (nl ?_);exact jz ((), (x11.1, x11.2.1, x11.2.2.1, x11.2.2.2, x33)) h [0, 1]
    ·refine xa ?_;exact jz ((), (y9.1, y9.2.2.1, y9.2.2.2.1)) h [1]
   ·refine JC.seq (sr (mq ?_));refine jb (o_lss rfl) ?_;refine nt (ci h (fun h => ?_) (fun h => ?_))
    ·refine sr (cq ?_);refine cq ?_;refine cq ?_;refine cq (nt (rx ?_));cases h;exact JN.ret () [_, _, _, _] 0 ⟨rfl, rfl, rfl, rfl, trivial⟩ rfl
    ·refine sk (sr ?_);iterate 3 refine mq ?_
     refine aq ?_;refine aq ?_;refine aq ?_;refine cq (nt (JC.ret ?_));cases h;exact JN.ret () [_, _, _, _] 0 ⟨rfl, rfl, rfl, rfl, trivial⟩ rfl


def chg_Through_l1 (k : Nat) (a0 : (List dChange)) : Nat → ((List dquick) × Int) → Option (Except ((List Int) × Int) (List dquick))
 | 0, _ => none
 | n + 1, y4 =>
  if y4.2 < (a0.length : Int) then ((geti a0 y4.2).bind fun x6 =>
  (chg_begin k x6).bind fun r8 =>
  casesO r8.1 (if ¬ (r8.2 = (0 : Int)) then (some (.error ([], r8.2))) else (none)) (fun q9 => if ¬ (r8.2 = (0 : Int)) then (some (.error ([], r8.2))) else ((chkP (okLen (List.length y4.1 + List.length [((q9.1.1, q9.1.2.1, q9.1.2.2.1, q9.1.2.2.2), q9.2.1, q9.2.2, ())]))).bind fun _ =>
  (ck (y4.2 + (1 : Int))).bind fun x13 =>
  chg_Through_l1 k a0 n (y4.1 ++ [((q9.1.1, q9.1.2.1, q9.1.2.2.1, q9.1.2.2.2), q9.2.1, q9.2.2, ())], x13)))) else (some (.ok y4.1))

def chg_Through_l2 (k : Nat) (x2 : (List dquick)) : Nat → Int → Option (Except ((List Int) × Int) Unit)
 | 0, _ => none
 | n + 1, y16 =>
  if y16 < (x2.length : Int) then ((geti x2 y16).bind fun x18 =>
  (geti x2 (0 : Int)).bind fun x19 =>
  if ¬ ((x18.1.2.1.length : Int) = (x19.1.2.1.length : Int)) then (some (.error ([], (9 : Int)))) else ((ck (y16 + (1 : Int))).bind fun x20 =>
  chg_Through_l2 k x2 n x20)) else (some (.ok ()))

def chg_Through_l3 (k : Nat) (a1 : (List Int)) : Nat → Int → Option (Except ((List Int) × Int) Unit)
 | 0, _ => none
 | n + 1, y24 =>
  if y24 < (a1.length : Int) then ((geti a1 y24).bind fun x26 =>
  (chg_outside k x26 (0 : Int) (20 : Int)).bind fun r27 =>
  if r27 = true then (some (.error ([], (1 : Int)))) else ((ck (y24 + (1 : Int))).bind fun x28 =>
  chg_Through_l3 k a1 n x28)) else (some (.ok ()))

def chg_Through_l5 (k : Nat) (x36 : Int) (r41 : (List dDresser)) : Nat → ((List dDresser) × Int) → Option (List dDresser)
 | 0, _ => none
 | n + 1, y45 =>
  if y45.2 < (r41.length : Int) then ((geti y45.1 y45.2).bind fun x47 =>
  (ck (x47.2.2 - x36)).bind fun x48 =>
  (geti y45.1 y45.2).bind fun x49 =>
  (ck (y45.2 + (1 : Int))).bind fun x50 =>
  chg_Through_l5 k x36 r41 n (List.set y45.1 (Int.toNat y45.2) (x49.1, x49.2.1, imax (0 : Int) x48), x50)) else (some y45.1)

def chg_Through_l4 (k : Nat) (a1 : (List Int)) (x2 : (List dquick)) : Nat → ((List Int) × Int × Int) → Option (Except ((List Int) × Int) (List Int))
 | 0, _ => none
 | n + 1, y31 =>
  if y31.2.2 < (x2.length : Int) then (bE (α := (List Int) × Int) ((geti x2 y31.2.2).bind fun x35 =>
  ((if (0 : Int) < y31.2.2 then ((ck (y31.2.2 - (1 : Int))).bind fun x38 =>
  (geti a1 x38).bind fun x39 =>
  (ck (y31.2.1 + x39)).bind fun x40 =>
  some x40) else (some y31.2.1)) : Option (Int)).bind fun x36 =>
  (slc_Clone_Dresser k x35.1.2.1).bind fun r41 =>
  ((chg_Through_l5 k x36 r41 k (r41, (0 : Int))) : Option ((List dDresser))).bind fun x43 =>
  (chg_quick_fewestF k x35 x43).bind fun r51 =>
  if ¬ (r51.2 = true) then (some (.error ([], (11 : Int)))) else ((ck (x36 + r51.1)).bind fun x52 =>
  (chkP (okLen (List.length y31.1 + List.length [x52]))).bind fun _ =>
  some (.ok (y31.1 ++ [x52], x52)))) (fun e => some (.error e)) fun x33 =>
  (ck (y31.2.2 + (1 : Int))).bind fun x55 =>
  chg_Through_l4 k a1 x2 n (x33.1, x33.2, x55)) else (some (.ok y31.1))
def chg_Through (k : Nat) (a0 : (List dChange)) (a1 : (List Int)) : Option ((List Int) × Int) :=
 (chg_sized k (a0.length : Int) (3 : Int)).bind fun r1 =>
 if ¬ (r1 = (0 : Int)) then (some ([], r1)) else (bE (α := (List dquick)) (chg_Through_l1 k a0 k (([] : (List dquick)), (0 : Int))) (some) fun x2 =>
 bE (α := Unit) (chg_Through_l2 k x2 k (0 : Int)) (some) fun _ =>
 (ck ((a0.length : Int) - (1 : Int))).bind fun x21 =>
 if ¬ ((a1.length : Int) = x21) then (some ([], (9 : Int))) else (bE (α := Unit) (chg_Through_l3 k a1 k (0 : Int)) (some) fun _ =>
 bE (α := (List Int)) (chg_Through_l4 k a1 x2 k (([] : (List Int)), (0 : Int), (0 : Int))) (some) fun x29 =>
 some (x29, (0 : Int))))

theorem chg_Through_ok (k : Nat) (a0 : (List dChange)) (a1 : (List Int)) (r : (List Int) × Int) (h : chg_Through k a0 a1 = some r) :
 Ctr Try.prog 33 [Rs tChange a0, Ri a1] [] (fun _ : Unit => (resA [Ri r.1, I r.2], [])) := by
 unfold chg_Through at h;replace h := b_top h;refine Ctr.of 143 Try.func33 rfl Try.ntmps33 rfl fun S w0 => ?_;refine sr (cq ?_);refine cq (nt (JC.seq (sr ?_)));refine mq ?_;refine ol U62 ?_;obtain ⟨r1, er1, h⟩ := b_bind h;refine jb (o_call [.tmp 25, .const (.int .i64 (3))] rfl rfl en78 rfl (chg_sized_ok k (a0.length : Int) (3 : Int) r1 er1)) ?_;refine aq (nt (sr ?_));refine mq ?_;refine jb (o_neq rfl) ?_;refine nt (cn h (fun h => ?_) (fun h => ?_))
 ·refine sr (mq ?_);refine cq ?_;refine aq (nt (rx ?_));refine JN.se (SE.ent (t := (.slice (.int .i64))) (x := []) 4 rfl .nil rfl rfl) ?_;cases h;exact rb
 ·refine sk (sr (cq (nt ?_)));refine JC.cutE (Z := Value) (α := (List dquick)) (fun z3 x2 => [(0, Rs tChange a0), (1, Ri a1), (7, .eq z3)]) (fun z3 x2 => [.sl z3 98 (.ptr tquick) x2]) (fun e => e = r) h (fun e h => Option.some.inj h) (fun K hR h => ?_) (fun z3 x2 h => ?_)
  ·refine sr (mq ?_);refine ol U62 ?_;refine JO.mc rfl ?_;refine nt (JC.block (JC.se (SE.nil 98 (.ptr tquick)) ?_));refine JC.loopB (Z := Value) (α := (List dquick) × Int) (fun z5 y4 => [(0, Rs tChange a0), (1, Ri a1), (7, .eq z5), (30, Rs tChange a0), (31, I (a0.length : Int)), (32, I y4.2)]) (fun z5 y4 => [.sl z5 98 (.ptr tquick) y4.1]) (chg_Through_l1 k a0) k (.slice none 0 0) (([] : (List dquick)), (0 : Int)) (fun _ => rfl) h (SE.fin [0] ⟨rfl, rfl, rfl, rfl, rfl, rfl, trivial⟩ rfl) (fun n z5 y4 h => ?_);unfold chg_Through_l1 at h;refine sr (jb (o_lss rfl) ?_);refine nt (JC.seq (ci h (fun h => ?_) (fun h => ?_)))
   ·refine sk (JC.seq (JC.block (sr ?_)));obtain ⟨x6, ex6, h⟩ := b_bind h;refine jb (o_index (t := tChange) rfl U62 sz28 ex6) ?_;refine ja (o_load_at (t := tChange) rfl sz28 rfl) ?_;refine JO.s01 rfl rfl rfl (o_alloc rfl za28 al28) trivial fun b7 => ?_;refine JO.n11 rfl rfl (o_store rfl sz28 rfl rfl rfl) ⟨rfl, rfl, trivial⟩ ?_;refine nt (sr (lo sz28 ?_));obtain ⟨r8, er8, h⟩ := b_bind h;have cr8 := chg_begin_ok k x6 r8 er8;rcases hr : r8.1 with _ | q9
    ·rw [hr] at h cr8; replace h := co_n h;refine JO.stepG (Δ := []) (F := _) (fun _ _ _ => wanted_none rfl _) rfl rfl (o_call [.tmp 37] rfl rfl en67 rfl cr8) ⟨rfl, trivial⟩ fun _ => ?_;refine mq ?_;refine xr ?_;refine xr ?_;refine aq ?_;refine aq (nt (JC.seq (sr ?_)));refine mq ?_;refine jb (o_neq rfl) ?_;refine nt (cn h (fun h => ?_) (fun h => ?_))
     ·refine sr (mq ?_);refine cq ?_;refine aq (nt (rx (br (JN.blk_r (JN.then_r ?_)))));refine JN.se (SE.ent (t := (.slice (.int .i64))) (x := []) 4 rfl .nil rfl rfl) ?_;obtain rfl := hR _ h;exact rb
     ·refine sk (JC.region ?_);iterate 2 refine mq ?_
      cases h
    ·rw [hr] at h cr8; replace h := co_s h;refine JO.stepG (Δ := []) (F := _) (fun _ _ _ => wanted_none rfl _) rfl rfl (o_call [.tmp 37] rfl rfl en67 rfl cr8) ⟨rfl, trivial⟩ fun z10 => ?_;refine mq ?_;refine xr ?_;refine xr ?_;refine aq ?_;refine aq (nt (JC.seq (sr ?_)));refine mq ?_;refine jb (o_neq rfl) ?_;refine nt (cn h (fun h => ?_) (fun h => ?_))
     ·refine sr (mq ?_);refine cq ?_;refine aq (nt (rx (br (JN.blk_r (JN.then_r ?_)))));refine JN.se (SE.ent (t := (.slice (.int .i64))) (x := []) 4 rfl .nil rfl rfl) ?_;obtain rfl := hR _ h;exact rb
     ·refine sk (JC.region ?_);iterate 2 refine mq ?_
      refine JO.se (SE.frzObj (t := tquick) (x := ((q9.1.1, q9.1.2.1, q9.1.2.2.1, q9.1.2.2.2), q9.2.1, q9.2.2, ())) [10, 39, 45] (.agg (.pair (.agg (.pair .rep (.pair .rep (.pair .rep .rep)))) (.pair .rep (.pair .rep (.ign rfl))))) ⟨rfl, rfl, rfl, trivial⟩) ?_;refine ja (o_litB (t := (.ptr tquick)) [(.tmp 45, _)] [((q9.1.1, q9.1.2.1, q9.1.2.2.1, q9.1.2.2.2), q9.2.1, q9.2.2, ())] rfl rfl sl128 (.cons trivial .ptr .nil) rfl rfl) ?_;obtain ⟨u11, eu11, h⟩ := b_bind h;refine fr 2 ?_;refine JO.s1x rfl rfl rfl (o_append rfl rfl sl128 (chkP_some eu11)) ⟨rfl, rfl, trivial⟩ fun v12 => ?_;refine aq (JO.nil (JN.blk_n (tn (JC.region ?_))));obtain ⟨x13, ex13, h⟩ := b_bind h;refine jb (o_add rfl ex13) ?_;refine mq (nl ?_);exact jz (v12, (y4.1 ++ [((q9.1.1, q9.1.2.1, q9.1.2.2.1, q9.1.2.2.2), q9.2.1, q9.2.2, ())], x13)) h [0]
   ·refine xa ?_;exact jz (z5, y4.1) h [0]
  ·refine JC.cutE (Z := Unit) (α := Unit) (fun z15 x14 => [(0, Rs tChange a0), (1, Ri a1), (7, .eq z3)]) (fun z15 x14 => [.sl z3 98 (.ptr tquick) x2]) (fun e => e = r) h (fun e h => Option.some.inj h) (fun K hR h => ?_) (fun z15 x14 h => ?_)
   ·refine sr (mq ?_);refine ka (o_len_own rfl rfl U128) ?_;refine JO.mc rfl ?_;refine nt (JC.block (JC.loopB (Z := Unit) (α := Int) (fun z17 y16 => [(0, Rs tChange a0), (1, Ri a1), (7, .eq z3), (49, .eq z3), (50, I (x2.length : Int)), (51, I y16)]) (fun z17 y16 => [.sl z3 98 (.ptr tquick) x2]) (chg_Through_l2 k x2) k () (0 : Int) (fun _ => rfl) h (SE.fin [0] ⟨rfl, rfl, rfl, rfl, rfl, rfl, trivial⟩ rfl) (fun n z17 y16 h => ?_)));unfold chg_Through_l2 at h;refine sr (jb (o_lss rfl) ?_);refine nt (JC.seq (ci h (fun h => ?_) (fun h => ?_)))
    ·refine sk (JC.seq (JC.block (sr ?_)));obtain ⟨x18, ex18, h⟩ := b_bind h;refine kb (o_index_own (t := (.ptr tquick)) rfl U128 sz98 ex18) ?_;refine ka (o_load_el (i := Int.toNat y16) (off := 0) rfl sz98 (fun _ => rfl) rfl (geti_some ex18).2.2 rfl) ?_;refine aq (nt (JC.seq ?_));refine JC.drawN ?_;refine dm ?_;refine da (o_nil_at rfl) ?_;refine da (o_field_at 4 true rfl fo120_0 rfl) ?_;refine da (o_field_at 1 false rfl fo28_1 rfl) ?_;refine da (o_load_at (t := (.slice tDresser)) rfl sz26 rfl) ?_;refine da (o_len rfl rfl U26) ?_;refine dm ?_;obtain ⟨x19, ex19, h⟩ := b_bind h;refine eb 0 (o_index_own (t := (.ptr tquick)) rfl U128 sz98 ex19) ?_;refine ea 0 (o_load_el (i := Int.toNat (0 : Int)) (off := 0) rfl sz98 (fun _ => rfl) rfl (geti_some ex19).2.2 rfl) ?_;refine da (o_nil_at rfl) ?_;refine da (o_field_at 4 true rfl fo120_0 rfl) ?_;refine da (o_field_at 1 false rfl fo28_1 rfl) ?_;refine da (o_load_at (t := (.slice tDresser)) rfl sz26 rfl) ?_;refine da (o_len rfl rfl U26) ?_;refine df mixed ?_;refine jb (o_neq rfl) ?_;refine nt (cn h (fun h => ?_) (fun h => ?_))
     ·refine sr (cq ?_);refine cq (nt (JC.ret (br (JN.blk_r (JN.then_r ?_)))));refine JN.se (SE.ent (t := (.slice (.int .i64))) (x := []) 4 rfl .nil rfl rfl) ?_;obtain rfl := hR _ h;exact rb
     ·refine JC.skip (JN.blk_n (tn (JC.region ?_)));obtain ⟨x20, ex20, h⟩ := b_bind h;refine jb (o_add rfl ex20) ?_;refine mq (nl ?_);exact jz ((), x20) h [0]
    ·refine xa ?_;exact jz ((), ()) h [0]
   ·refine JC.seq (sr (mq ?_));refine ol U22 ?_;refine mq ?_;refine ol U62 ?_;obtain ⟨x21, ex21, h⟩ := b_bind h;refine jb (o_sub rfl ex21) ?_;refine jb (o_neq rfl) ?_;refine nt (cn h (fun h => ?_) (fun h => ?_))
    ·refine sr (cq ?_);refine cq (nt (rx ?_));refine JN.se (SE.ent (t := (.slice (.int .i64))) (x := []) 4 rfl .nil rfl rfl) ?_;cases h;exact rb
    ·refine sk (JC.cutE (Z := Unit) (α := Unit) (fun z23 x22 => [(1, Ri a1), (7, .eq z3)]) (fun z23 x22 => [.sl z3 98 (.ptr tquick) x2]) (fun e => e = r) h (fun e h => Option.some.inj h) (fun K hR h => ?_) (fun z23 x22 h => ?_))
     ·refine sr (mq ?_);refine ol U22 ?_;refine JO.mc rfl ?_;refine nt (JC.block (JC.loopB (Z := Unit) (α := Int) (fun z25 y24 => [(1, Ri a1), (7, .eq z3), (77, Ri a1), (78, I (a1.length : Int)), (79, I y24)]) (fun z25 y24 => [.sl z3 98 (.ptr tquick) x2]) (chg_Through_l3 k a1) k () (0 : Int) (fun _ => rfl) h (SE.fin [0] ⟨rfl, rfl, rfl, rfl, rfl, trivial⟩ rfl) (fun n z25 y24 h => ?_)));unfold chg_Through_l3 at h;refine sr (jb (o_lss rfl) ?_);refine nt (JC.seq (ci h (fun h => ?_) (fun h => ?_)))
      ·refine sk (JC.seq (JC.block (sr ?_)));obtain ⟨x26, ex26, h⟩ := b_bind h;refine jb (o_index (t := (.int .i64)) rfl U22 sz3 ex26) ?_;refine ja (o_load_at (t := (.int .i64)) rfl sz3 rfl) ?_;refine aq (nt (sr ?_));refine mq ?_;obtain ⟨r27, er27, h⟩ := b_bind h;refine jc (o_call [.tmp 83, .const (.int .i64 (0)), .const (.int .i64 (20))] rfl rfl en71 rfl (chg_outside_ok k x26 (0 : Int) (20 : Int) r27 er27)) ?_;refine nt (cv h (fun h => ?_) (fun h => ?_))
       ·refine sr (cq ?_);refine cq (nt (JC.ret (br (JN.blk_r (JN.then_r ?_)))));refine JN.se (SE.ent (t := (.slice (.int .i64))) (x := []) 4 rfl .nil rfl rfl) ?_;obtain rfl := hR _ h;exact rb
       ·refine JC.skip (JN.blk_n (tn (JC.region ?_)));obtain ⟨x28, ex28, h⟩ := b_bind h;refine jb (o_add rfl ex28) ?_;refine mq (nl ?_);exact jz ((), x28) h [0]
      ·refine xa ?_;exact jz ((), ()) h [0]
     ·refine sr (cq (nt (sr ?_)));refine cq (nt ?_);refine JC.cutE (Z := Value) (α := (List Int)) (fun z30 x29 => [(16, .eq z30)]) (fun z30 x29 => [.sl z30 3 (.int .i64) x29]) (fun e => e = r) h (fun e h => Option.some.inj h) (fun K hR h => ?_) (fun z30 x29 h => ?_)
      ·refine sr (mq ?_);refine ka (o_len_own rfl rfl U128) ?_;refine JO.mc rfl ?_;refine nt (JC.block (JC.se (SE.nil 3 (.int .i64)) ?_));refine JC.loopB (Z := Value) (α := (List Int) × Int × Int) (fun z32 y31 => [(1, Ri a1), (16, .eq z32), (17, I y31.2.1), (86, .eq z3), (87, I (x2.length : Int)), (88, I y31.2.2)]) (fun z32 y31 => [.sl z32 3 (.int .i64) y31.1, .sl z3 98 (.ptr tquick) x2]) (chg_Through_l4 k a1 x2) k (.slice none 0 0) (([] : (List Int)), (0 : Int), (0 : Int)) (fun _ => rfl) h (SE.fin [0, 1] ⟨rfl, rfl, rfl, rfl, rfl, rfl, trivial⟩ rfl) (fun n z32 y31 h => ?_);unfold chg_Through_l4 at h;refine sr (jb (o_lss rfl) ?_);refine nt (JC.seq (ci h (fun h => ?_) (fun h => ?_)))
       ·refine sk (JC.cutE (Z := Value) (α := (List Int) × Int) (fun z34 x33 => [(1, Ri a1), (16, .eq z34), (17, I x33.2), (86, .eq z3), (87, I (x2.length : Int)), (88, I y31.2.2)]) (fun z34 x33 => [.sl z34 3 (.int .i64) x33.1, .sl z3 98 (.ptr tquick) x2]) (fun e => e = r) h (fun e h => hR e h) (fun K hR h => ?_) (fun z34 x33 h => ?_))
        ·refine JC.block (sr (mq ?_));obtain ⟨x35, ex35, h⟩ := b_bind h;refine fr 1 ?_;refine kb (o_index_own (t := (.ptr tquick)) rfl U128 sz98 ex35) ?_;refine ka (o_load_el (i := Int.toNat y31.2.2) (off := 0) rfl sz98 (fun _ => rfl) rfl (geti_some ex35).2.2 rfl) ?_;refine aq ?_;refine aq (nt ?_);refine JC.cutB (Z := Unit) (α := Int) (fun z37 x36 => [(1, Ri a1), (16, .eq z32), (17, I x36), (19, .at tquick x35), (86, .eq z3), (87, I (x2.length : Int)), (88, I y31.2.2)]) (fun z37 x36 => [.sl z32 3 (.int .i64) y31.1, .sl z3 98 (.ptr tquick) x2]) h (fun K h => ?_) (fun z37 x36 h => ?_)
         ·refine sr (mq ?_);refine jb (o_gtr rfl) ?_;refine nt (ci h (fun h => ?_) (fun h => ?_))
          ·refine JC.region ?_;iterate 3 refine mq ?_
           obtain ⟨x38, ex38, h⟩ := b_bind h;refine jb (o_sub rfl ex38) ?_;obtain ⟨x39, ex39, h⟩ := b_bind h;refine jb (o_index (t := (.int .i64)) rfl U22 sz3 ex39) ?_;refine ja (o_load_at (t := (.int .i64)) rfl sz3 rfl) ?_;obtain ⟨x40, ex40, h⟩ := b_bind h;refine jb (o_add rfl ex40) ?_;refine aq (nl ?_);exact jz ((), x40) h [1, 0]
          ·refine JC.skip (JN.then_n ?_);exact jz ((), y31.2.1) h [1, 0]
         ·refine sr (mq ?_);refine ja (o_nil_at rfl) ?_;refine ja (o_field_at 4 true rfl fo120_0 rfl) ?_;refine ja (o_field_at 1 false rfl fo28_1 rfl) ?_;refine ja (o_load_at (t := (.slice tDresser)) rfl sz26 rfl) ?_;obtain ⟨r41, er41, h⟩ := b_bind h;refine JO.s01 rfl rfl rfl (o_call [.tmp 106] rfl rfl en72 rfl (slc_Clone_Dresser_ok k x35.1.2.1 r41 er41)) ⟨rfl, trivial⟩ fun v42 => ?_;refine aq (nt ?_);refine JC.cutB (Z := Unit) (α := (List dDresser)) (fun z44 x43 => [(1, Ri a1), (16, .eq z32), (17, I x36), (19, .at tquick x35), (20, .eq v42), (86, .eq z3), (87, I (x2.length : Int)), (88, I y31.2.2)]) (fun z44 x43 => [.sl z32 3 (.int .i64) y31.1, .sl v42 53 tDresser x43, .sl z3 98 (.ptr tquick) x2]) h (fun K h => ?_) (fun z44 x43 h => ?_)
          ·refine sr (mq ?_);refine ka (o_len_own rfl rfl U26) ?_;refine JO.mc rfl ?_;refine nt (JC.block (JC.loopB (Z := Unit) (α := (List dDresser) × Int) (fun z46 y45 => [(1, Ri a1), (16, .eq z32), (17, I x36), (19, .at tquick x35), (20, .eq v42), (86, .eq z3), (87, I (x2.length : Int)), (88, I y31.2.2), (109, I (r41.length : Int)), (110, I y45.2)]) (fun z46 y45 => [.sl z32 3 (.int .i64) y31.1, .sl v42 53 tDresser y45.1, .sl z3 98 (.ptr tquick) x2]) (chg_Through_l5 k x36 r41) k () (r41, (0 : Int)) (fun _ => rfl) h (SE.fin [1, 0, 2] ⟨rfl, rfl, rfl, rfl, rfl, rfl, rfl, rfl, rfl, rfl, trivial⟩ rfl) (fun n z46 y45 h => ?_)));unfold chg_Through_l5 at h;refine sr (jb (o_lss rfl) ?_);refine nt (JC.seq (ci h (fun h => ?_) (fun h => ?_)))
           ·refine sk (JC.seq (JC.block (sr (mq ?_))));refine aq (nt (JC.region ?_));iterate 4 refine mq ?_
            obtain ⟨x47, ex47, h⟩ := b_bind h;refine fr 1 ?_;refine kb (o_index_own (t := tDresser) rfl U26 sz53 ex47) ?_;refine ka (o_field_el rfl fo53_2 (geti_ne ex47)) ?_;refine ka (o_load_el (i := Int.toNat y45.2) (off := 2) rfl sz3 (fun _ => rfl) rfl (geti_some ex47).2.2 rfl) ?_;refine mq ?_;obtain ⟨x48, ex48, h⟩ := b_bind h;refine jb (o_sub rfl ex48) ?_;refine jb (o_max rfl rfl) ?_;obtain ⟨x49, ex49, h⟩ := b_bind h;refine kb (o_index_own (t := tDresser) rfl U26 sz53 ex49) ?_;refine ka (o_field_el rfl fo53_2 (geti_ne ex49)) ?_;refine JO.n11 rfl rfl (o_store_el (i := Int.toNat y45.2) (off := 2) rfl sz3 rfl (geti_some ex49).2.2 .int rfl (.agg (.right (.right .whole rfl) rfl))) ⟨rfl, rfl, trivial⟩ ?_;refine JO.nil (JN.blk_n (tn (JC.region ?_)));obtain ⟨x50, ex50, h⟩ := b_bind h;refine jb (o_add rfl ex50) ?_;refine mq (nl ?_);exact jz ((), (List.set y45.1 (Int.toNat y45.2) (x49.1, x49.2.1, imax (0 : Int) x48), x50)) h [1, 0, 2]
           ·refine xa ?_;exact jz ((), y45.1) h [0, 1, 2]
          ·refine sr ?_;iterate 2 refine mq ?_
           obtain ⟨r51, er51, h⟩ := b_bind h;refine fr 1 ?_;refine kb (OpT.borrow (N := [(.tmp 127, .at tquick x35), (.tmp 128, .eq v42)]) (o_call [.tmp 127, .tmp 128] rfl rfl en73 rfl (chg_quick_fewestF_ok k x35 x43 r51 er51)) (fun _ _ _ hv hn => ⟨hn.1, (lend hn.2.1 hv), trivial⟩) (fun _ => ⟨rfl, flat_nil⟩)) ?_;refine mq ?_;refine xr ?_;refine xr ?_;refine aq ?_;refine aq (nt (JC.seq (sr ?_)));refine mq ?_;refine ja (o_not rfl) ?_;refine nt (cw h (fun h => ?_) (fun h => ?_))
           ·refine sr (cq ?_);refine cq (nt (rx (br (JN.blk_r (JN.then_r ?_)))));refine JN.se (SE.ent (t := (.slice (.int .i64))) (x := []) 4 rfl .nil rfl rfl) ?_;obtain rfl := hR _ h;exact rb
           ·refine sk (sr ?_);iterate 2 refine mq ?_
            obtain ⟨x52, ex52, h⟩ := b_bind h;refine jb (o_add rfl ex52) ?_;refine aq (nt (JC.region ?_));iterate 2 refine mq ?_
            refine ja (o_litB (t := (.int .i64)) [(.tmp 138, _)] [x52] rfl rfl sl22 (.cons rfl .int .nil) rfl rfl) ?_;obtain ⟨u53, eu53, h⟩ := b_bind h;refine fr 1 ?_;refine JO.s1x rfl rfl rfl (o_append rfl rfl sl22 (chkP_some eu53)) ⟨rfl, rfl, trivial⟩ fun v54 => ?_;refine aq (JO.nil (bn ?_));exact jz (v54, (y31.1 ++ [x52], x52)) h [0, 2]
        ·refine JC.region ?_;obtain ⟨x55, ex55, h⟩ := b_bind h;refine jb (o_add rfl ex55) ?_;refine mq (nl ?_);exact jz (z34, (x33.1, x33.2, x55)) h [0, 1]
       ·refine xa ?_;exact jz (z32, y31.1) h [0]
      ·refine sr (mq ?_);refine aq ?_;refine cq (nt (JC.ret ?_));refine JN.se (SE.frz [4, 16, 142] ⟨rfl, rfl, rfl, trivial⟩) ?_;cases h;exact rb


def chg_Wearing_l1 (k : Nat) (a1 : (List dStep)) (a2 : Int) (q3 : (dChange × (List (Bool × Int)) × (List Int))) (r6 : (List Int) × (List Int)) : Nat → (Int × Int × Int) → Option (Int × Int)
 | 0, _ => none
 | n + 1, y10 =>
  if y10.2.2 < (a1.length : Int) then ((((geti a1 y10.2.2).bind fun x14 =>
  (geti q3.2.1 x14.1).bind fun x16 =>
  if ¬ (x16.1 = true) then ((geti r6.1 y10.2.2).bind fun x17 =>
  if x17 ≤ a2 then ((cond x16.1 (chg_on_thing k x16.2) (chg_off_thing k x16.2)).bind fun r18 =>
  (chg_of k [r18]).bind fun r19 =>
  some (iandn .u8 y10.1 r19, y10.2.1)) else (some (y10.1, y10.2.1))) else ((chkP (0 ≤ x14.1 ∧ x14.1 < 4)).bind fun _ =>
  (geti r6.2 x14.1).bind fun x21 =>
  if x21 ≤ a2 then ((cond x16.1 (chg_on_thing k x16.2) (chg_off_thing k x16.2)).bind fun r22 =>
  (chg_of k [r22]).bind fun r23 =>
  some (y10.1, ior .u8 y10.2.1 r23)) else (some (y10.1, y10.2.1)))) : Option (Int × Int)).bind fun x12 =>
  (ck (y10.2.2 + (1 : Int))).bind fun x24 =>
  chg_Wearing_l1 k a1 a2 q3 r6 n (x12.1, x12.2, x24)) else (some (y10.1, y10.2.1))
def chg_Wearing (k : Nat) (a0 : dChange) (a1 : (List dStep)) (a2 : Int) : Option ((List Int) × Int) :=
 (chg_asked k a0 a1).bind fun r2 =>
 casesO r2.1 (if ¬ (r2.2 = (0 : Int)) then (some ([], r2.2)) else (if a2 < (0 : Int) then (some ([], (1 : Int))) else (none))) (fun q3 => if ¬ (r2.2 = (0 : Int)) then (some ([], r2.2)) else (if a2 < (0 : Int) then (some ([], (1 : Int))) else ((chg_of k q3.1.2.2.1).bind fun r5 =>
 (chg_quick_begins k ((q3.1.1, q3.1.2.1, q3.1.2.2.1, q3.1.2.2.2), q3.2.1, q3.2.2) a1).bind fun r6 =>
 ((chg_Wearing_l1 k a1 a2 q3 r6 k (r5, (0 : Int), (0 : Int))) : Option (Int × Int)).bind fun x8 =>
 (chg_set_list k (ior .u8 x8.1 x8.2)).bind fun r25 =>
 some (r25, (0 : Int)))))

theorem chg_Wearing_ok (k : Nat) (a0 : dChange) (a1 : (List dStep)) (a2 : Int) (r : (List Int) × Int) (h : chg_Wearing k a0 a1 a2 = some r) :
 Ctr Try.prog 39 [.rep tChange a0, Rs tStep a1, I a2] [] (fun _ : Unit => (resA [Ri r.1, I r.2], [])) := by
 unfold chg_Wearing at h;replace h := b_top h;refine Ctr.of 88 Try.func39 rfl Try.ntmps39 rfl fun S w0 => ?_;refine sr (bx fun b1 => ?_);refine cq ?_;refine cq (nt (sr ?_));refine lo sz28 ?_;refine mq ?_;obtain ⟨r2, er2, h⟩ := b_bind h;have cr2 := chg_asked_ok k a0 a1 r2 er2;rcases hr : r2.1 with _ | q3
 ·rw [hr] at h cr2; replace h := co_n h;refine JO.stepG (Δ := []) (F := _) (fun _ _ _ => wanted_none rfl _) rfl rfl (o_call [.tmp 18, .tmp 19] rfl rfl en64 rfl cr2) ⟨rfl, rfl, trivial⟩ fun _ => ?_;refine mq ?_;refine xr ?_;refine xr ?_;refine aq ?_;refine aq (nt (JC.seq (sr ?_)));refine mq ?_;refine jb (o_neq rfl) ?_;refine nt (cn h (fun h => ?_) (fun h => ?_))
  ·refine sr (mq ?_);refine cq ?_;refine aq (nt (rx ?_));refine JN.se (SE.ent (t := (.slice (.int .i64))) (x := []) 6 rfl .nil rfl rfl) ?_;cases h;exact rb
  ·refine sk (JC.seq (sr (mq ?_)));refine jb (o_lss rfl) ?_;refine nt (ci h (fun h => ?_) (fun h => ?_))
   ·refine sr (cq ?_);refine cq (nt (rx ?_));refine JN.se (SE.ent (t := (.slice (.int .i64))) (x := []) 6 rfl .nil rfl rfl) ?_;cases h;exact rb
   ·refine sk (sr (mq ?_));cases h
 ·rw [hr] at h cr2; replace h := co_s h;refine JO.stepG (Δ := []) (F := _) (fun _ _ _ => wanted_none rfl _) rfl rfl (o_call [.tmp 18, .tmp 19] rfl rfl en64 rfl cr2) ⟨rfl, rfl, trivial⟩ fun z4 => ?_;refine mq ?_;refine xr ?_;refine xr ?_;refine aq ?_;refine aq (nt (JC.seq (sr ?_)));refine mq ?_;refine jb (o_neq rfl) ?_;refine nt (cn h (fun h => ?_) (fun h => ?_))
  ·refine sr (mq ?_);refine cq ?_;refine aq (nt (rx ?_));refine JN.se (SE.ent (t := (.slice (.int .i64))) (x := []) 6 rfl .nil rfl rfl) ?_;cases h;exact rb
  ·refine sk (JC.seq (sr (mq ?_)));refine jb (o_lss rfl) ?_;refine nt (ci h (fun h => ?_) (fun h => ?_))
   ·refine sr (cq ?_);refine cq (nt (rx ?_));refine JN.se (SE.ent (t := (.slice (.int .i64))) (x := []) 6 rfl .nil rfl rfl) ?_;cases h;exact rb
   ·refine sk (sr (mq ?_));refine ja (o_nil_obj rfl) ?_;refine fl fo120_0 ?_;refine fl fo28_2 ?_;refine lo sz22 ?_;obtain ⟨r5, er5, h⟩ := b_bind h;refine ja (o_call [.tmp 32] rfl rfl en81 rfl (chg_of_ok k q3.1.2.2.1 r5 er5)) ?_;refine aq (nt (sr ?_));iterate 2 refine mq ?_
    obtain ⟨r6, er6, h⟩ := b_bind h;refine kb (o_call [.tmp 35, .tmp 36] rfl rfl en65 rfl (chg_quick_begins_ok k ((q3.1.1, q3.1.2.1, q3.1.2.2.1, q3.1.2.2.2), q3.2.1, q3.2.2) z4.1 (.map (some z4.2)) a1 r6 er6)) ?_;refine mq ?_;refine xr ?_;refine xr ?_;refine JO.s01 rfl rfl rfl (o_alloc rfl za101 al101) trivial fun b7 => ?_;refine aq ?_;refine JO.n11 rfl rfl (o_store rfl sz101 rfl rfl rfl) ⟨rfl, rfl, trivial⟩ ?_;refine nt (sr (cq (nt ?_)));refine JC.cutB (Z := Unit) (α := Int × Int) (fun z9 x8 => [(10, .eq (.int .u8 x8.1)), (13, .eq (.int .u8 x8.2))]) (fun z9 x8 => [.raw z4.2 (.map #[] 0)]) h (fun K h => ?_) (fun z9 x8 h => ?_)
    ·refine sr (mq ?_);refine ol U30 ?_;refine JO.mc rfl ?_;refine nt (JC.block (JC.loopB (Z := Unit) (α := Int × Int × Int) (fun z11 y10 => [(2, I a2), (8, .eq (.pointer (some ⟨z4.1, 0, none⟩))), (10, .eq (.int .u8 y10.1)), (11, Ri r6.1), (12, Pt b7), (13, .eq (.int .u8 y10.2.1)), (40, Rs tStep a1), (41, I (a1.length : Int)), (42, I y10.2.2)]) (fun z11 y10 => [.obj z4.1 120 (Qq q3 (.eq (.map (some z4.2)))), .obj b7 101 (.rep (.arr 4 (.int .i64)) r6.2), .raw z4.2 (.map #[] 0)]) (chg_Wearing_l1 k a1 a2 q3 r6) k () (r5, (0 : Int), (0 : Int)) (fun _ => rfl) h (SE.fin [1, 0, 2] ⟨rfl, rfl, rfl, rfl, rfl, rfl, rfl, rfl, rfl, trivial⟩ rfl) (fun n z11 y10 h => ?_)));unfold chg_Wearing_l1 at h;refine sr (jb (o_lss rfl) ?_);refine nt (JC.seq (ci h (fun h => ?_) (fun h => ?_)))
     ·refine sk (JC.cutB (Z := Unit) (α := Int × Int) (fun z13 x12 => [(2, I a2), (8, .eq (.pointer (some ⟨z4.1, 0, none⟩))), (10, .eq (.int .u8 x12.1)), (11, Ri r6.1), (12, Pt b7), (13, .eq (.int .u8 x12.2)), (40, Rs tStep a1), (41, I (a1.length : Int)), (42, I y10.2.2)]) (fun z13 x12 => [.obj z4.1 120 (Qq q3 (.eq (.map (some z4.2)))), .obj b7 101 (.rep (.arr 4 (.int .i64)) r6.2), .raw z4.2 (.map #[] 0)]) h (fun K h => ?_) (fun z13 x12 h => ?_))
      ·refine JC.block (sr (mq ?_));obtain ⟨x14, ex14, h⟩ := b_bind h;refine jb (o_index (t := tStep) rfl U30 sz43 ex14) ?_;refine ja (o_load_at (t := tStep) rfl sz43 rfl) ?_;refine JO.s01 rfl rfl rfl (o_alloc rfl za43 al43) trivial fun b15 => ?_;refine aq ?_;refine JO.n11 rfl rfl (o_store rfl sz43 rfl rfl rfl) ⟨rfl, rfl, trivial⟩ ?_;refine nt (JC.seq (JC.drawN ?_));refine dm ?_;refine da (o_nil_obj rfl) ?_;refine da (o_field_obj rfl fo120_1) ?_;refine ea 1 (o_load_obj rfl sz116 nfs rfl) ?_;refine da (o_field_obj rfl fo43_0) ?_;refine ea 0 (o_load_obj rfl sz3 nfs rfl) ?_;refine df mixed ?_;obtain ⟨x16, ex16, h⟩ := b_bind h;refine jb (o_index (t := (.tag 131 133)) rfl U116 sz130 ex16) ?_;refine ja (o_load_at (t := (.tag 131 133)) rfl sz130 rfl) ?_;refine aq (nt (sr ?_));refine mq (nt (JC.block (sr ?_)));refine JO.s rfl (o_as0 rfl ta131 (by decide)) ⟨rfl, trivial⟩ ?_;refine xr ?_;refine xr ?_;refine nt (cw h (fun h => ?_) (fun h => ?_))
       ·refine sr ?_;iterate 2 refine mq ?_
        obtain ⟨x17, ex17, h⟩ := b_bind h;refine jb (o_index (t := (.int .i64)) rfl U22 sz3 ex17) ?_;refine ja (o_load_at (t := (.int .i64)) rfl sz3 rfl) ?_;refine mq ?_;refine jb (o_leq rfl) ?_;refine nt (ci h (fun h => ?_) (fun h => ?_))
        ·refine JC.region ?_;iterate 2 refine mq ?_
         obtain ⟨r18, er18, h⟩ := b_bind h;refine JO.s rfl (o_invoke rfl rfl mt131_thing mt133_thing (ctr_cond (fun hb => chg_off_thing_ok k x16.2 r18 (by simpa [hb] using er18)) (fun hb => chg_on_thing_ok k x16.2 r18 (by simpa [hb] using er18)))) ⟨rfl, trivial⟩ ?_;refine ja (o_litB (t := (.int .i64)) [(.tmp 79, _)] [r18] rfl rfl sl22 (.cons rfl .int .nil) rfl rfl) ?_;obtain ⟨r19, er19, h⟩ := b_bind h;refine ja (o_call [.tmp 80] rfl rfl en81 rfl (chg_of_ok k [r18] r19 er19)) ?_;refine jb (o_andn rfl) ?_;refine aq (JO.nil (JN.blk_n (bn ?_)));exact jz ((), (iandn .u8 y10.1 r19, y10.2.1)) h [1, 2, 3]
        ·refine JC.skip (JN.blk_n (bn ?_));exact jz ((), (y10.1, y10.2.1)) h [1, 2, 3]
       ·refine sr (fl fo43_0 ?_);refine lo sz3 ?_;obtain ⟨u20, eu20, h⟩ := b_bind h;refine jb (o_index_arr rfl U101 sz3 (chkP_some eu20).1 (chkP_some eu20).2) ?_;obtain ⟨x21, ex21, h⟩ := b_bind h;refine fr 2 ?_;refine ka (o_load_arr (t := (.int .i64)) (off := 0) (i := x14.1) (N := 4) rfl sz3 (fun _ => rfl) rfl rfl rfl rfl ex21) ?_;refine mq ?_;refine jb (o_leq rfl) ?_;refine nt (ci h (fun h => ?_) (fun h => ?_))
        ·refine JC.region ?_;iterate 2 refine mq ?_
         obtain ⟨r22, er22, h⟩ := b_bind h;refine JO.s rfl (o_invoke rfl rfl mt131_thing mt133_thing (ctr_cond (fun hb => chg_off_thing_ok k x16.2 r22 (by simpa [hb] using er22)) (fun hb => chg_on_thing_ok k x16.2 r22 (by simpa [hb] using er22)))) ⟨rfl, trivial⟩ ?_;refine ja (o_litB (t := (.int .i64)) [(.tmp 64, _)] [r22] rfl rfl sl22 (.cons rfl .int .nil) rfl rfl) ?_;obtain ⟨r23, er23, h⟩ := b_bind h;refine ja (o_call [.tmp 65] rfl rfl en81 rfl (chg_of_ok k [r22] r23 er23)) ?_;refine jb (o_or rfl) ?_;refine aq (JO.nil (JN.blk_n (bn ?_)));exact jz ((), (y10.1, ior .u8 y10.2.1 r23)) h [2, 0, 3]
        ·refine JC.skip (JN.blk_n (bn ?_));exact jz ((), (y10.1, y10.2.1)) h [2, 0, 3]
      ·refine JC.region ?_;obtain ⟨x24, ex24, h⟩ := b_bind h;refine jb (o_add rfl ex24) ?_;refine mq (nl ?_);exact jz ((), (x12.1, x12.2, x24)) h [0, 1, 2]
     ·refine xa ?_;exact jz ((), (y10.1, y10.2.1)) h [2]
    ·refine sr ?_;iterate 2 refine mq ?_
     refine jb (o_or rfl) ?_;obtain ⟨r25, er25, h⟩ := b_bind h;refine ja (o_call [.tmp 86] rfl rfl en82 rfl (chg_set_list_ok k (ior .u8 x8.1 x8.2) r25 er25)) ?_;refine aq ?_;refine cq (nt (JC.ret ?_));cases h;exact rb


def kit_SameInts_l1 (k : Nat) (a0 : (List Int)) (a1 : (List Int)) : Nat → Int → Option (Except Bool Unit)
 | 0, _ => none
 | n + 1, y3 =>
  if y3 < (a0.length : Int) then ((geti a0 y3).bind fun x5 =>
  (geti a1 y3).bind fun x6 =>
  if ¬ (x5 = x6) then (some (.error false)) else ((ck (y3 + (1 : Int))).bind fun x7 =>
  kit_SameInts_l1 k a0 a1 n x7)) else (some (.ok ()))
def kit_SameInts (k : Nat) (a0 : (List Int)) (a1 : (List Int)) : Option Bool :=
 if ¬ ((a0.length : Int) = (a1.length : Int)) then (some false) else (bE (α := Unit) (kit_SameInts_l1 k a0 a1 k (0 : Int)) (some) fun _ =>
 some true)

theorem kit_SameInts_ok (k : Nat) (a0 : (List Int)) (a1 : (List Int)) (r : Bool) (h : kit_SameInts k a0 a1 = some r) :
 Ctr Try.prog 40 [Ri a0, Ri a1] [] (fun _ : Unit => (resA [.eq (.bool r)], [])) := by
 unfold kit_SameInts at h;replace h := b_top h;refine Ctr.of 26 Try.func40 rfl Try.ntmps40 rfl fun S w0 => ?_;refine sr (cq (nt (JC.seq (sr ?_))));refine mq ?_;refine ol U22 ?_;refine mq ?_;refine ol U22 ?_;refine jb (o_neq rfl) ?_;refine nt (cn h (fun h => ?_) (fun h => ?_))
 ·refine sr (cq (nt (rx ?_)));cases h;exact ra
 ·refine sk (JC.cutE (Z := Unit) (α := Unit) (fun z2 x1 => []) (fun z2 x1 => []) (fun e => e = r) h (fun e h => Option.some.inj h) (fun K hR h => ?_) (fun z2 x1 h => ?_))
  ·refine sr (cq (nt (JC.block ?_)));refine JC.loopB (Z := Unit) (α := Int) (fun z4 y3 => [(0, Ri a0), (1, Ri a1), (5, I y3)]) (fun z4 y3 => []) (kit_SameInts_l1 k a0 a1) k () (0 : Int) (fun _ => rfl) h (SE.fin [] ⟨rfl, rfl, rfl, trivial⟩ rfl) (fun n z4 y3 h => ?_);unfold kit_SameInts_l1 at h;refine JC.seq (sr ?_);iterate 2 refine mq ?_
   refine ol U22 ?_;refine jb (o_lss rfl) ?_;refine nt (ci h (fun h => ?_) (fun h => ?_))
   ·refine sk (JC.seq (JC.block (JC.seq (JC.drawN ?_))));refine dm ?_;refine dm ?_;obtain ⟨x5, ex5, h⟩ := b_bind h;refine db (o_index (t := (.int .i64)) rfl U22 sz3 ex5) ?_;refine da (o_load_at (t := (.int .i64)) rfl sz3 rfl) ?_;refine dm ?_;refine dm ?_;obtain ⟨x6, ex6, h⟩ := b_bind h;refine db (o_index (t := (.int .i64)) rfl U22 sz3 ex6) ?_;refine da (o_load_at (t := (.int .i64)) rfl sz3 rfl) ?_;refine df mixed ?_;refine jb (o_neq rfl) ?_;refine nt (cn h (fun h => ?_) (fun h => ?_))
    ·refine sr (cq (nt (JC.ret (br (JN.blk_r (JN.then_r ?_))))));obtain rfl := hR _ h;exact ra
    ·refine JC.skip (JN.blk_n (tn (JC.region (mq ?_))));obtain ⟨x7, ex7, h⟩ := b_bind h;refine jb (o_add rfl ex7) ?_;refine aq (nl ?_);exact jz ((), x7) h []
   ·refine xa ?_;exact jz ((), ()) h []
  ·refine sr (cq (nt (JC.ret ?_)));cases h;exact ra


def kit_SameSteps_l1 (k : Nat) (a0 : (List dStep)) (a1 : (List dStep)) : Nat → Int → Option (Except Bool Unit)
 | 0, _ => none
 | n + 1, y3 =>
  if y3 < (a0.length : Int) then ((geti a0 y3).bind fun x5 =>
  (geti a1 y3).bind fun x6 =>
  if ¬ (x5 = x6) then (some (.error false)) else ((ck (y3 + (1 : Int))).bind fun x7 =>
  kit_SameSteps_l1 k a0 a1 n x7)) else (some (.ok ()))
def kit_SameSteps (k : Nat) (a0 : (List dStep)) (a1 : (List dStep)) : Option Bool :=
 if ¬ ((a0.length : Int) = (a1.length : Int)) then (some false) else (bE (α := Unit) (kit_SameSteps_l1 k a0 a1 k (0 : Int)) (some) fun _ =>
 some true)

theorem kit_SameSteps_ok (k : Nat) (a0 : (List dStep)) (a1 : (List dStep)) (r : Bool) (h : kit_SameSteps k a0 a1 = some r) :
 Ctr Try.prog 44 [Rs tStep a0, Rs tStep a1] [] (fun _ : Unit => (resA [.eq (.bool r)], [])) := by
 unfold kit_SameSteps at h;replace h := b_top h;refine Ctr.of 26 Try.func44 rfl Try.ntmps44 rfl fun S w0 => ?_;refine sr (cq (nt (JC.seq (sr ?_))));refine mq ?_;refine ol U30 ?_;refine mq ?_;refine ol U30 ?_;refine jb (o_neq rfl) ?_;refine nt (cn h (fun h => ?_) (fun h => ?_))
 ·refine sr (cq (nt (rx ?_)));cases h;exact ra
 ·refine sk (JC.cutE (Z := Unit) (α := Unit) (fun z2 x1 => []) (fun z2 x1 => []) (fun e => e = r) h (fun e h => Option.some.inj h) (fun K hR h => ?_) (fun z2 x1 h => ?_))
  ·refine sr (cq (nt (JC.block ?_)));refine JC.loopB (Z := Unit) (α := Int) (fun z4 y3 => [(0, Rs tStep a0), (1, Rs tStep a1), (5, I y3)]) (fun z4 y3 => []) (kit_SameSteps_l1 k a0 a1) k () (0 : Int) (fun _ => rfl) h (SE.fin [] ⟨rfl, rfl, rfl, trivial⟩ rfl) (fun n z4 y3 h => ?_);unfold kit_SameSteps_l1 at h;refine JC.seq (sr ?_);iterate 2 refine mq ?_
   refine ol U30 ?_;refine jb (o_lss rfl) ?_;refine nt (ci h (fun h => ?_) (fun h => ?_))
   ·refine sk (JC.seq (JC.block (JC.seq (JC.drawN ?_))));refine dm ?_;refine dm ?_;obtain ⟨x5, ex5, h⟩ := b_bind h;refine db (o_index (t := tStep) rfl U30 sz43 ex5) ?_;refine da (o_load_at (t := tStep) rfl sz43 rfl) ?_;refine dm ?_;refine dm ?_;obtain ⟨x6, ex6, h⟩ := b_bind h;refine db (o_index (t := tStep) rfl U30 sz43 ex6) ?_;refine da (o_load_at (t := tStep) rfl sz43 rfl) ?_;refine df mixed ?_;refine jb (o_neqs rfl eq43 rfl) ?_;refine nt (cn h (fun h => ?_) (fun h => ?_))
    ·refine sr (cq (nt (JC.ret (br (JN.blk_r (JN.then_r ?_))))));obtain rfl := hR _ h;exact ra
    ·refine JC.skip (JN.blk_n (tn (JC.region (mq ?_))));obtain ⟨x7, ex7, h⟩ := b_bind h;refine jb (o_add rfl ex7) ?_;refine aq (nl ?_);exact jz ((), x7) h []
   ·refine xa ?_;exact jz ((), ()) h []
  ·refine sr (cq (nt (JC.ret ?_)));cases h;exact ra


def law_quick (k : Nat) (a0 : Int) (a1 : Int) (a2 : (List Int)) : Option dChange :=
 some ([([(1 : Int)], (2 : Int), (2 : Int), (0 : Int), (0 : Int)), ([], (1 : Int), (1 : Int), (1 : Int), a0), ([], (1 : Int), (1 : Int), (2 : Int), (2 : Int)), ([], (3 : Int), (3 : Int), (0 : Int), (0 : Int))], [([(0 : Int), (1 : Int), (2 : Int)], (1 : Int), a1), (a2, (0 : Int), (1 : Int))], [(0 : Int), (1 : Int)], [(1 : Int), (2 : Int)])

theorem law_quick_ok (k : Nat) (a0 : Int) (a1 : Int) (a2 : (List Int)) (r : dChange) (h : law_quick k a0 a1 a2 = some r) :
 Ctr Try.prog 58 [I a0, I a1, Ri a2] [] (fun _ : Unit => (resA [.rep tChange r], [])) := by
 unfold law_quick at h;replace h := b_top h;refine Ctr.of 23 Try.func58 rfl Try.ntmps58 rfl fun S w0 => ?_;refine sr (JO.s01 rfl rfl rfl (o_alloc rfl za28 al28) trivial fun b1 => ?_);refine nt (sr (ja (o_litB (t := (.int .i64)) [(.const (.int .i64 (1)), _)] [(1 : Int)] rfl rfl sl22 (.cons rfl .int .nil) rfl rfl) ?_));refine jc (o_buildT [(0, .tmp 7, _), (1, .const (.int .i64 (2)), _), (2, .const (.int .i64 (2)), _)] rfl pl45 za45 alb45 (stors ⟨rfl, rfl, rfl, trivial⟩) rfl) ?_;refine mq ?_;refine JO.s rfl (o_buildT [(1, .const (.int .i64 (1)), _), (2, .const (.int .i64 (1)), _), (3, .const (.int .i64 (1)), _), (4, .tmp 9, _)] rfl pl45 za45 alb45 (stors ⟨rfl, rfl, rfl, rfl, trivial⟩) rfl) ⟨rfl, rfl, rfl, rfl, trivial⟩ ?_;refine JO.s rfl (o_buildT [(1, .const (.int .i64 (1)), _), (2, .const (.int .i64 (1)), _), (3, .const (.int .i64 (2)), _), (4, .const (.int .i64 (2)), _)] rfl pl45 za45 alb45 (stors ⟨rfl, rfl, rfl, rfl, trivial⟩) rfl) ⟨rfl, rfl, rfl, rfl, trivial⟩ ?_;refine jb (o_buildT [(1, .const (.int .i64 (3)), _), (2, .const (.int .i64 (3)), _)] rfl pl45 za45 alb45 (stors ⟨rfl, rfl, trivial⟩) rfl) ?_;refine JO.s rfl (o_litB (t := tThing) [(.tmp 8, _), (.tmp 10, _), (.tmp 11, _), (.tmp 12, _)] [([(1 : Int)], (2 : Int), (2 : Int), (0 : Int), (0 : Int)), ([], (1 : Int), (1 : Int), (1 : Int), a0), ([], (1 : Int), (1 : Int), (2 : Int), (2 : Int)), ([], (3 : Int), (3 : Int), (0 : Int), (0 : Int))] rfl rfl sl25 (.cons trivial (.agg (.pair .rep (.pair .int (.pair .int (.pair .int .int))))) (.cons trivial (.agg (.pair .nil (.pair .int (.pair .int (.pair .int .int))))) (.cons trivial (.agg (.pair .nil (.pair .int (.pair .int (.pair .int .int))))) (.cons trivial (.agg (.pair .nil (.pair .int (.pair .int (.pair .int .int))))) .nil)))) rfl rfl) ⟨rfl, rfl, rfl, rfl, trivial⟩ ?_;refine jc (o_litB (t := (.int .i64)) [(.const (.int .i64 (0)), _), (.const (.int .i64 (1)), _), (.const (.int .i64 (2)), _)] [(0 : Int), (1 : Int), (2 : Int)] rfl rfl sl22 (.cons rfl .int (.cons rfl .int (.cons rfl .int .nil))) rfl rfl) ?_;refine mq ?_;refine jc (o_buildT [(0, .tmp 14, _), (1, .const (.int .i64 (1)), _), (2, .tmp 15, _)] rfl pl53 za53 alb53 (stors ⟨rfl, rfl, rfl, trivial⟩) rfl) ?_;refine mq ?_;refine jb (o_buildT [(0, .tmp 17, _), (2, .const (.int .i64 (1)), _)] rfl pl53 za53 alb53 (stors ⟨rfl, rfl, trivial⟩) rfl) ?_;refine jb (o_litB (t := tDresser) [(.tmp 16, _), (.tmp 18, _)] [([(0 : Int), (1 : Int), (2 : Int)], (1 : Int), a1), (a2, (0 : Int), (1 : Int))] rfl rfl sl26 (.cons trivial (.agg (.pair .rep (.pair .int .int))) (.cons trivial (.agg (.pair .rep (.pair .int .int))) .nil)) rfl rfl) ?_;refine jb (o_litB (t := (.int .i64)) [(.const (.int .i64 (0)), _), (.const (.int .i64 (1)), _)] [(0 : Int), (1 : Int)] rfl rfl sl22 (.cons rfl .int (.cons rfl .int .nil)) rfl rfl) ?_;refine jb (o_litB (t := (.int .i64)) [(.const (.int .i64 (1)), _), (.const (.int .i64 (2)), _)] [(1 : Int), (2 : Int)] rfl rfl sl22 (.cons rfl .int (.cons rfl .int .nil)) rfl rfl) ?_;refine JO.s rfl (o_buildT [(0, .tmp 13, _), (1, .tmp 19, _), (2, .tmp 20, _), (3, .tmp 21, _)] rfl pl28 za28 alb28 (stors ⟨rfl, rfl, rfl, rfl, trivial⟩) rfl) ⟨rfl, rfl, rfl, rfl, trivial⟩ ?_;refine JO.n11 rfl rfl (o_store rfl sz28 trivial rfl rfl) ⟨rfl, rfl, trivial⟩ ?_;refine nt (JC.ret (JN.se (SE.objE (a := .agg (.pair (Rs tThing [([(1 : Int)], (2 : Int), (2 : Int), (0 : Int), (0 : Int)), ([], (1 : Int), (1 : Int), (1 : Int), a0), ([], (1 : Int), (1 : Int), (2 : Int), (2 : Int)), ([], (3 : Int), (3 : Int), (0 : Int), (0 : Int))]) (.pair (Rs tDresser [([(0 : Int), (1 : Int), (2 : Int)], (1 : Int), a1), (a2, (0 : Int), (1 : Int))]) (.pair (Ri [(0 : Int), (1 : Int)]) (Ri [(1 : Int), (2 : Int)]))))) (a' := .rep tChange ([([(1 : Int)], (2 : Int), (2 : Int), (0 : Int), (0 : Int)), ([], (1 : Int), (1 : Int), (1 : Int), a0), ([], (1 : Int), (1 : Int), (2 : Int), (2 : Int)), ([], (3 : Int), (3 : Int), (0 : Int), (0 : Int))], [([(0 : Int), (1 : Int), (2 : Int)], (1 : Int), a1), (a2, (0 : Int), (1 : Int))], [(0 : Int), (1 : Int)], [(1 : Int), (2 : Int)])) (AE.ent (.agg (.pair .rep (.pair .rep (.pair .rep .rep)))))) ?_))
 cases h;exact JN.ret () [.rep tChange ([([(1 : Int)], (2 : Int), (2 : Int), (0 : Int), (0 : Int)), ([], (1 : Int), (1 : Int), (1 : Int), a0), ([], (1 : Int), (1 : Int), (2 : Int), (2 : Int)), ([], (3 : Int), (3 : Int), (0 : Int), (0 : Int))], [([(0 : Int), (1 : Int), (2 : Int)], (1 : Int), a1), (a2, (0 : Int), (1 : Int))], [(0 : Int), (1 : Int)], [(1 : Int), (2 : Int)])] 0 ⟨⟨_, _, _, _, _, rfl, (.head _), sz28, (nfn), rfl⟩, trivial⟩ rfl


def law_first (k : Nat) : Option (List dStep) :=
 some [((1 : Int), (0 : Int)), ((0 : Int), (0 : Int)), ((2 : Int), (0 : Int)), ((3 : Int), (1 : Int))]

theorem law_first_ok (k : Nat) (r : (List dStep)) (h : law_first k = some r) :
 Ctr Try.prog 59 [] [] (fun _ : Unit => (resA [Rs tStep r], [])) := by
 unfold law_first at h;replace h := b_top h;refine Ctr.of 6 Try.func59 rfl Try.ntmps59 rfl fun S w0 => ?_;refine sr (cq (nt (sr ?_)));refine jb (o_buildT [(0, .const (.int .i64 (1)), _), (1, .const (.int .i64 (0)), _)] rfl pl43 za43 alb43 (stors ⟨rfl, rfl, trivial⟩) rfl) ?_;refine jb (o_buildT [(0, .const (.int .i64 (0)), _), (1, .const (.int .i64 (0)), _)] rfl pl43 za43 alb43 (stors ⟨rfl, rfl, trivial⟩) rfl) ?_;refine jb (o_buildT [(0, .const (.int .i64 (2)), _), (1, .const (.int .i64 (0)), _)] rfl pl43 za43 alb43 (stors ⟨rfl, rfl, trivial⟩) rfl) ?_;refine jb (o_buildT [(0, .const (.int .i64 (3)), _), (1, .const (.int .i64 (1)), _)] rfl pl43 za43 alb43 (stors ⟨rfl, rfl, trivial⟩) rfl) ?_;refine JO.s rfl (o_litB (t := tStep) [(.tmp 1, _), (.tmp 2, _), (.tmp 3, _), (.tmp 4, _)] [((1 : Int), (0 : Int)), ((0 : Int), (0 : Int)), ((2 : Int), (0 : Int)), ((3 : Int), (1 : Int))] rfl rfl sl30 (.cons trivial (.agg (.pair .int .int)) (.cons trivial (.agg (.pair .int .int)) (.cons trivial (.agg (.pair .int .int)) (.cons trivial (.agg (.pair .int .int)) .nil)))) rfl rfl) ⟨rfl, rfl, rfl, rfl, trivial⟩ ?_;refine aq (nt (JC.ret ?_));cases h;exact ra


def law_dressed (k : Nat) : Option Bool :=
 (law_quick k (0 : Int) (0 : Int) [(0 : Int), (2 : Int)]).bind fun r1 =>
 (chg_Fewest k r1).bind fun r3 =>
 (law_first k).bind fun r4 =>
 (chg_Begins k r1 r4).bind fun r5 =>
 (law_quick k (3 : Int) (0 : Int) [(0 : Int), (2 : Int)]).bind fun r6 =>
 (law_first k).bind fun r7 =>
 (chg_Late k r6 r7).bind fun r8 =>
 (chg_Spare k r1 (1 : Int)).bind fun r9 =>
 (law_first k).bind fun r10 =>
 (chg_Wearing k r1 r10 (4 : Int)).bind fun r11 =>
 (law_quick k (0 : Int) (3 : Int) [(0 : Int), (2 : Int)]).bind fun r12 =>
 (law_quick k (0 : Int) (3 : Int) [(0 : Int), (2 : Int)]).bind fun r13 =>
 (chg_Through k [r12, r13] [(0 : Int)]).bind fun r14 =>
 (law_quick k (0 : Int) (0 : Int) [(0 : Int)]).bind fun r15 =>
 (chg_Learn k r15).bind fun r16 =>
 ((if r3.2.2 = (0 : Int) then (if r5.2 = (0 : Int) then (if r8.2.2 = (0 : Int) then (if r9.2 = (0 : Int) then (if r11.2 = (0 : Int) then (if r14.2 = (0 : Int) then (if r16.2.2.2 = (0 : Int) then (if r3.2.1 = (4 : Int) then (if r8.1 = (2 : Int) then (if r8.2.1 = (3 : Int) then (if r9.1 = (3 : Int) then (if r16.1 = (1 : Int) then (if r16.2.1 = (2 : Int) then (if r16.2.2.1 = (4 : Int) then ((law_first k).bind fun r19 =>
 (kit_SameSteps k r3.1 r19).bind fun r20 =>
 if r20 = true then ((kit_SameInts k r5.1 [(0 : Int), (1 : Int), (3 : Int), (1 : Int)]).bind fun r21 =>
 if r21 = true then ((kit_SameInts k r11.1 [(1 : Int), (2 : Int)]).bind fun r22 =>
 if r22 = true then ((kit_SameInts k r14.1 [(7 : Int), (11 : Int)]).bind fun r23 =>
 some r23) else (some false)) else (some false)) else (some false)) else (some false)) else (some false)) else (some false)) else (some false)) else (some false)) else (some false)) else (some false)) else (some false)) else (some false)) else (some false)) else (some false)) else (some false)) else (some false)) else (some false)) : Option (Bool)).bind fun x17 =>
 some x17

theorem law_dressed_ok (k : Nat) (r : Bool) (h : law_dressed k = some r) :
 Ctr Try.prog 22 [] [] (fun _ : Unit => (resA [.eq (.bool r)], [])) := by
 unfold law_dressed at h;replace h := b_top h;refine Ctr.of 145 Try.func22 rfl Try.ntmps22 rfl fun S w0 => ?_;refine sr (cq (nt (sr ?_)));refine jb (o_litB (t := (.int .i64)) [(.const (.int .i64 (0)), _), (.const (.int .i64 (2)), _)] [(0 : Int), (2 : Int)] rfl rfl sl22 (.cons rfl .int (.cons rfl .int .nil)) rfl rfl) ?_;obtain ⟨r1, er1, h⟩ := b_bind h;have cr1 := law_quick_ok k (0 : Int) (0 : Int) [(0 : Int), (2 : Int)] r1 er1;refine jc (o_call [.const (.int .i64 (0)), .const (.int .i64 (0)), .tmp 20] rfl rfl en58 rfl cr1) ?_;refine JO.s01 rfl rfl rfl (o_alloc rfl za28 al28) trivial fun b2 => ?_;refine JO.n11 rfl rfl (o_store rfl sz28 rfl rfl rfl) ⟨rfl, rfl, trivial⟩ ?_;refine nt (sr (lo sz28 ?_));obtain ⟨r3, er3, h⟩ := b_bind h;have cr3 := chg_Fewest_ok k r1 r3 er3;refine ja (o_call [.tmp 23] rfl rfl en25 rfl cr3) ?_;refine mq ?_;refine xr ?_;refine xr ?_;refine xr ?_;refine aq ?_;refine aq ?_;refine aq (nt (JC.seq ?_));refine JC.drawN ?_;refine ea 0 (o_load_obj rfl sz28 (nfn) rfl) ?_;obtain ⟨r4, er4, h⟩ := b_bind h;have cr4 := law_first_ok k  r4 er4;refine DN.s00 rfl rfl rfl (o_call [] rfl rfl en59 rfl cr4) trivial ?_;obtain ⟨r5, er5, h⟩ := b_bind h;have cr5 := chg_Begins_ok k r1 r4 r5 er5;refine db (o_call [.tmp 29, .tmp 30] rfl rfl en20 rfl cr5) ?_;refine dm ?_;refine da (o_extract rfl rfl) ?_;refine da (o_extract rfl rfl) ?_;refine da (o_assign rfl) ?_;refine df mixed ?_;refine aq (nt (sr ?_));refine jb (o_litB (t := (.int .i64)) [(.const (.int .i64 (0)), _), (.const (.int .i64 (2)), _)] [(0 : Int), (2 : Int)] rfl rfl sl22 (.cons rfl .int (.cons rfl .int .nil)) rfl rfl) ?_;obtain ⟨r6, er6, h⟩ := b_bind h;have cr6 := law_quick_ok k (3 : Int) (0 : Int) [(0 : Int), (2 : Int)] r6 er6;refine jc (o_call [.const (.int .i64 (3)), .const (.int .i64 (0)), .tmp 35] rfl rfl en58 rfl cr6) ?_;obtain ⟨r7, er7, h⟩ := b_bind h;have cr7 := law_first_ok k  r7 er7;refine JO.s rfl (o_call [] rfl rfl en59 rfl cr7) trivial ?_;obtain ⟨r8, er8, h⟩ := b_bind h;have cr8 := chg_Late_ok k r6 r7 r8 er8;refine jb (o_call [.tmp 36, .tmp 37] rfl rfl en21 rfl cr8) ?_;refine mq ?_;refine xr ?_;refine xr ?_;refine xr ?_;refine aq ?_;refine aq ?_;refine aq (nt (sr ?_));refine lo sz28 ?_;obtain ⟨r9, er9, h⟩ := b_bind h;have cr9 := chg_Spare_ok k r1 (1 : Int) r9 er9;refine jb (o_call [.tmp 43, .const (.int .i64 (1))] rfl rfl en26 rfl cr9) ?_;refine mq ?_;refine xr ?_;refine xr ?_;refine aq ?_;refine aq (nt (JC.seq ?_));refine JC.drawN ?_;refine ea 0 (o_load_obj rfl sz28 (nfn) rfl) ?_;obtain ⟨r10, er10, h⟩ := b_bind h;have cr10 := law_first_ok k  r10 er10;refine DN.s00 rfl rfl rfl (o_call [] rfl rfl en59 rfl cr10) trivial ?_;obtain ⟨r11, er11, h⟩ := b_bind h;have cr11 := chg_Wearing_ok k r1 r10 (4 : Int) r11 er11;refine dc (o_call [.tmp 48, .tmp 49, .const (.int .i64 (4))] rfl rfl en39 rfl cr11) ?_;refine dm ?_;refine da (o_extract rfl rfl) ?_;refine da (o_extract rfl rfl) ?_;refine da (o_assign rfl) ?_;refine df mixed ?_;refine aq (nt (sr ?_));refine jb (o_litB (t := (.int .i64)) [(.const (.int .i64 (0)), _), (.const (.int .i64 (2)), _)] [(0 : Int), (2 : Int)] rfl rfl sl22 (.cons rfl .int (.cons rfl .int .nil)) rfl rfl) ?_;obtain ⟨r12, er12, h⟩ := b_bind h;have cr12 := law_quick_ok k (0 : Int) (3 : Int) [(0 : Int), (2 : Int)] r12 er12;refine jc (o_call [.const (.int .i64 (0)), .const (.int .i64 (3)), .tmp 54] rfl rfl en58 rfl cr12) ?_;refine jb (o_litB (t := (.int .i64)) [(.const (.int .i64 (0)), _), (.const (.int .i64 (2)), _)] [(0 : Int), (2 : Int)] rfl rfl sl22 (.cons rfl .int (.cons rfl .int .nil)) rfl rfl) ?_;obtain ⟨r13, er13, h⟩ := b_bind h;have cr13 := law_quick_ok k (0 : Int) (3 : Int) [(0 : Int), (2 : Int)] r13 er13;refine jc (o_call [.const (.int .i64 (0)), .const (.int .i64 (3)), .tmp 56] rfl rfl en58 rfl cr13) ?_;refine jb (o_litB (t := tChange) [(.tmp 55, _), (.tmp 57, _)] [r12, r13] rfl rfl sl62 (.cons rfl .rep (.cons rfl .rep .nil)) rfl rfl) ?_;refine ja (o_litB (t := (.int .i64)) [(.const (.int .i64 (0)), _)] [(0 : Int)] rfl rfl sl22 (.cons rfl .int .nil) rfl rfl) ?_
 obtain ⟨r14, er14, h⟩ := b_bind h;refine jb (o_call [.tmp 58, .tmp 59] rfl rfl en33 rfl (chg_Through_ok k [r12, r13] [(0 : Int)] r14 er14)) ?_;refine mq ?_;refine xr ?_;refine xr ?_;refine aq ?_;refine aq (nt (sr ?_));refine ja (o_litB (t := (.int .i64)) [(.const (.int .i64 (0)), _)] [(0 : Int)] rfl rfl sl22 (.cons rfl .int .nil) rfl rfl) ?_;obtain ⟨r15, er15, h⟩ := b_bind h;refine jc (o_call [.const (.int .i64 (0)), .const (.int .i64 (0)), .tmp 64] rfl rfl en58 rfl (law_quick_ok k (0 : Int) (0 : Int) [(0 : Int)] r15 er15)) ?_;obtain ⟨r16, er16, h⟩ := b_bind h;refine ja (o_call [.tmp 65] rfl rfl en29 rfl (chg_Learn_ok k r15 r16 er16)) ?_;refine mq ?_;refine xr ?_;refine xr ?_;refine xr ?_;refine xr ?_;refine aq ?_;refine aq ?_;refine aq ?_;refine aq (nt ?_);refine JC.cutB (Z := Unit) (α := Bool) (fun z18 x17 => [(0, .eq (.bool x17))]) (fun z18 x17 => []) h (fun K h => ?_) (fun z18 x17 h => ?_)
 ·refine JC.region (mq ?_);refine jb (o_eql rfl) ?_;refine mq ?_;refine JO.bool (s := 73) rfl (fun hb => ?_) (fun hb => ?_)
  ·replace h := b_if (d_t hb) h;refine gm ?_;refine gb (o_eql rfl) ?_;refine pt ?_;refine mq ?_;refine JO.bool (s := 77) rfl (fun hb => ?_) (fun hb => ?_)
   ·replace h := b_if (d_t hb) h;refine gm ?_;refine gb (o_eql rfl) ?_;refine pt ?_;refine mq ?_;refine JO.bool (s := 81) rfl (fun hb => ?_) (fun hb => ?_)
    ·replace h := b_if (d_t hb) h;refine gm ?_;refine gb (o_eql rfl) ?_;refine pt ?_;refine mq ?_;refine JO.bool (s := 85) rfl (fun hb => ?_) (fun hb => ?_)
     ·replace h := b_if (d_t hb) h;refine gm ?_;refine gb (o_eql rfl) ?_;refine pt ?_;refine mq ?_;refine JO.bool (s := 89) rfl (fun hb => ?_) (fun hb => ?_)
      ·replace h := b_if (d_t hb) h;refine gm ?_;refine gb (o_eql rfl) ?_;refine pt ?_;refine mq ?_;refine JO.bool (s := 93) rfl (fun hb => ?_) (fun hb => ?_)
       ·replace h := b_if (d_t hb) h;refine gm ?_;refine gb (o_eql rfl) ?_;refine pt ?_;refine mq ?_;refine JO.bool (s := 97) rfl (fun hb => ?_) (fun hb => ?_)
        ·replace h := b_if (d_t hb) h;refine gm ?_;refine gb (o_eql rfl) ?_;refine pt ?_;refine mq ?_;refine JO.bool (s := 101) rfl (fun hb => ?_) (fun hb => ?_)
         ·replace h := b_if (d_t hb) h;refine gm ?_;refine gb (o_eql rfl) ?_;refine pt ?_;refine mq ?_;refine JO.bool (s := 105) rfl (fun hb => ?_) (fun hb => ?_)
          ·replace h := b_if (d_t hb) h;refine gm ?_;refine gb (o_eql rfl) ?_;refine pt ?_;refine mq ?_;refine JO.bool (s := 109) rfl (fun hb => ?_) (fun hb => ?_)
           ·replace h := b_if (d_t hb) h;refine gm ?_;refine gb (o_eql rfl) ?_;refine pt ?_;refine mq ?_;refine JO.bool (s := 113) rfl (fun hb => ?_) (fun hb => ?_)
            ·replace h := b_if (d_t hb) h;refine gm ?_;refine gb (o_eql rfl) ?_;refine pt ?_;refine mq ?_;refine JO.bool (s := 117) rfl (fun hb => ?_) (fun hb => ?_)
             ·replace h := b_if (d_t hb) h;refine gm ?_;refine gb (o_eql rfl) ?_;refine pt ?_;refine mq ?_;refine JO.bool (s := 121) rfl (fun hb => ?_) (fun hb => ?_)
              ·replace h := b_if (d_t hb) h;refine gm ?_;refine gb (o_eql rfl) ?_;refine pt ?_;refine mq ?_;refine JO.bool (s := 125) rfl (fun hb => ?_) (fun hb => ?_)
               ·replace h := b_if (d_t hb) h;refine gm ?_;obtain ⟨r19, er19, h⟩ := b_bind h;refine JO.g00 rfl rfl rfl rfl rfl rfl (o_call [] rfl rfl en59 rfl (law_first_ok k  r19 er19)) trivial ?_;obtain ⟨r20, er20, h⟩ := b_bind h;refine gb (o_call [.tmp 126, .tmp 127] rfl rfl en44 rfl (kit_SameSteps_ok k r3.1 r19 r20 er20)) ?_;refine pt ?_;refine mq ?_;refine JO.bool (s := 130) rfl (fun hb => ?_) (fun hb => ?_)
                ·replace h := b_if (v_t hb) h;refine gm ?_;refine JO.g00 rfl rfl rfl rfl rfl rfl (o_litB (t := (.int .i64)) [(.const (.int .i64 (0)), _), (.const (.int .i64 (1)), _), (.const (.int .i64 (3)), _), (.const (.int .i64 (1)), _)] [(0 : Int), (1 : Int), (3 : Int), (1 : Int)] rfl rfl sl22 (.cons rfl .int (.cons rfl .int (.cons rfl .int (.cons rfl .int .nil)))) rfl rfl) ⟨rfl, rfl, rfl, rfl, trivial⟩ ?_;obtain ⟨r21, er21, h⟩ := b_bind h;refine gb (o_call [.tmp 131, .tmp 132] rfl rfl en40 rfl (kit_SameInts_ok k r5.1 [(0 : Int), (1 : Int), (3 : Int), (1 : Int)] r21 er21)) ?_;refine pt ?_;refine mq ?_;refine JO.bool (s := 135) rfl (fun hb => ?_) (fun hb => ?_)
                 ·replace h := b_if (v_t hb) h;refine gm ?_;refine gb (o_litB (t := (.int .i64)) [(.const (.int .i64 (1)), _), (.const (.int .i64 (2)), _)] [(1 : Int), (2 : Int)] rfl rfl sl22 (.cons rfl .int (.cons rfl .int .nil)) rfl rfl) ?_;obtain ⟨r22, er22, h⟩ := b_bind h;refine gb (o_call [.tmp 136, .tmp 137] rfl rfl en40 rfl (kit_SameInts_ok k r11.1 [(1 : Int), (2 : Int)] r22 er22)) ?_;refine pt ?_;refine mq ?_;refine JO.bool (s := 140) rfl (fun hb => ?_) (fun hb => ?_)
                  ·replace h := b_if (v_t hb) h;refine gm ?_;refine gb (o_litB (t := (.int .i64)) [(.const (.int .i64 (7)), _), (.const (.int .i64 (11)), _)] [(7 : Int), (11 : Int)] rfl rfl sl22 (.cons rfl .int (.cons rfl .int .nil)) rfl rfl) ?_;obtain ⟨r23, er23, h⟩ := b_bind h;refine gb (o_call [.tmp 141, .tmp 142] rfl rfl en40 rfl (kit_SameInts_ok k r14.1 [(7 : Int), (11 : Int)] r23 er23)) ?_;refine pt ?_;refine aq (nl ?_);exact jz ((), r23) h []
                  ·replace h := b_ifn (v_f hb) h;iterate 3 refine gn ?_
                   refine pf ?_;refine aq (nl ?_);exact jz ((), false) h []
                 ·replace h := b_ifn (v_f hb) h;iterate 3 refine gn ?_
                  refine pf ?_;refine mq ?_;iterate 3 refine gn ?_
                  refine pf ?_;refine aq (nl ?_);exact jz ((), false) h []
                ·replace h := b_ifn (v_f hb) h;iterate 3 refine gn ?_
                 refine pf ?_;refine mq ?_;iterate 3 refine gn ?_
                 refine pf ?_;refine mq ?_;iterate 3 refine gn ?_
                 refine pf ?_;refine aq (nl ?_);exact jz ((), false) h []
               ·replace h := b_ifn (d_f hb) h;iterate 3 refine gn ?_
                refine pf ?_;refine mq ?_;iterate 3 refine gn ?_
                refine pf ?_;refine mq ?_;iterate 3 refine gn ?_
                refine pf ?_;refine mq ?_;iterate 3 refine gn ?_
                refine pf ?_;refine aq (nl ?_);exact jz ((), false) h []
              ·replace h := b_ifn (d_f hb) h;iterate 2 refine gn ?_
               refine pf ?_;refine mq ?_;iterate 3 refine gn ?_
               refine pf ?_;refine mq ?_;iterate 3 refine gn ?_
               refine pf ?_;refine mq ?_;iterate 3 refine gn ?_
               refine pf ?_;refine mq ?_;iterate 3 refine gn ?_
               refine pf ?_;refine aq (nl ?_);exact jz ((), false) h []
             ·replace h := b_ifn (d_f hb) h;iterate 2 refine gn ?_
              refine pf ?_;refine mq ?_;iterate 2 refine gn ?_
              refine pf ?_;refine mq ?_;iterate 3 refine gn ?_
              refine pf ?_;refine mq ?_;iterate 3 refine gn ?_
              refine pf ?_;refine mq ?_;iterate 3 refine gn ?_
              refine pf ?_;refine mq ?_;iterate 3 refine gn ?_
              refine pf ?_;refine aq (nl ?_);exact jz ((), false) h []
            ·replace h := b_ifn (d_f hb) h;iterate 2 refine gn ?_
             refine pf ?_;refine mq ?_;iterate 2 refine gn ?_
             refine pf ?_;refine mq ?_;iterate 2 refine gn ?_
             refine pf ?_;refine mq ?_;iterate 3 refine gn ?_
             refine pf ?_;refine mq ?_;iterate 3 refine gn ?_
             refine pf ?_;refine mq ?_;iterate 3 refine gn ?_
             refine pf ?_;refine mq ?_;iterate 3 refine gn ?_
             refine pf ?_;refine aq (nl ?_);exact jz ((), false) h []
           ·replace h := b_ifn (d_f hb) h;iterate 2 refine gn ?_
            refine pf ?_;refine mq ?_;iterate 2 refine gn ?_
            refine pf ?_;refine mq ?_;iterate 2 refine gn ?_
            refine pf ?_;refine mq ?_;iterate 2 refine gn ?_
            refine pf ?_;refine mq ?_;iterate 3 refine gn ?_
            refine pf ?_;refine mq ?_;iterate 3 refine gn ?_
            refine pf ?_;refine mq ?_;iterate 3 refine gn ?_
            refine pf ?_;refine mq ?_;iterate 3 refine gn ?_
            refine pf ?_;refine aq (nl ?_);exact jz ((), false) h []
          ·replace h := b_ifn (d_f hb) h;iterate 2 refine gn ?_
           refine pf ?_;refine mq ?_;iterate 2 refine gn ?_
           refine pf ?_;refine mq ?_;iterate 2 refine gn ?_
           refine pf ?_;refine mq ?_;iterate 2 refine gn ?_
           refine pf ?_;refine mq ?_;iterate 2 refine gn ?_
           refine pf ?_;refine mq ?_;iterate 3 refine gn ?_
           refine pf ?_;refine mq ?_;iterate 3 refine gn ?_
           refine pf ?_;refine mq ?_;iterate 3 refine gn ?_
           refine pf ?_;refine mq ?_;iterate 3 refine gn ?_
           refine pf ?_;refine aq (nl ?_);exact jz ((), false) h []
         ·replace h := b_ifn (d_f hb) h;iterate 2 refine gn ?_
          refine pf ?_;refine mq ?_;iterate 2 refine gn ?_
          refine pf ?_;refine mq ?_;iterate 2 refine gn ?_
          refine pf ?_;refine mq ?_;iterate 2 refine gn ?_
          refine pf ?_;refine mq ?_;iterate 2 refine gn ?_
          refine pf ?_;refine mq ?_;iterate 2 refine gn ?_
          refine pf ?_;refine mq ?_;iterate 3 refine gn ?_
          refine pf ?_;refine mq ?_;iterate 3 refine gn ?_
          refine pf ?_;refine mq ?_;iterate 3 refine gn ?_
          refine pf ?_;refine mq ?_;iterate 3 refine gn ?_
          refine pf ?_;refine aq (nl ?_);exact jz ((), false) h []
        ·replace h := b_ifn (d_f hb) h;iterate 2 refine gn ?_
         refine pf ?_;refine mq ?_;iterate 2 refine gn ?_
         refine pf ?_;refine mq ?_;iterate 2 refine gn ?_
         refine pf ?_;refine mq ?_;iterate 2 refine gn ?_
         refine pf ?_;refine mq ?_;iterate 2 refine gn ?_
         refine pf ?_;refine mq ?_;iterate 2 refine gn ?_
         refine pf ?_;refine mq ?_;iterate 2 refine gn ?_
         refine pf ?_;refine mq ?_;iterate 3 refine gn ?_
         refine pf ?_;refine mq ?_;iterate 3 refine gn ?_
         refine pf ?_;refine mq ?_;iterate 3 refine gn ?_
         refine pf ?_;refine mq ?_;iterate 3 refine gn ?_
         refine pf ?_;refine aq (nl ?_);exact jz ((), false) h []
       ·replace h := b_ifn (d_f hb) h;iterate 2 refine gn ?_
        refine pf ?_;refine mq ?_;iterate 2 refine gn ?_
        refine pf ?_;refine mq ?_;iterate 2 refine gn ?_
        refine pf ?_;refine mq ?_;iterate 2 refine gn ?_
        refine pf ?_;refine mq ?_;iterate 2 refine gn ?_
        refine pf ?_;refine mq ?_;iterate 2 refine gn ?_
        refine pf ?_;refine mq ?_;iterate 2 refine gn ?_
        refine pf ?_;refine mq ?_;iterate 2 refine gn ?_
        refine pf ?_;refine mq ?_;iterate 3 refine gn ?_
        refine pf ?_;refine mq ?_;iterate 3 refine gn ?_
        refine pf ?_;refine mq ?_;iterate 3 refine gn ?_
        refine pf ?_;refine mq ?_;iterate 3 refine gn ?_
        refine pf ?_;refine aq (nl ?_);exact jz ((), false) h []
      ·replace h := b_ifn (d_f hb) h;iterate 2 refine gn ?_
       refine pf ?_;refine mq ?_;iterate 2 refine gn ?_
       refine pf ?_;refine mq ?_;iterate 2 refine gn ?_
       refine pf ?_;refine mq ?_;iterate 2 refine gn ?_
       refine pf ?_;refine mq ?_;iterate 2 refine gn ?_
       refine pf ?_;refine mq ?_;iterate 2 refine gn ?_
       refine pf ?_;refine mq ?_;iterate 2 refine gn ?_
       refine pf ?_;refine mq ?_;iterate 2 refine gn ?_
       refine pf ?_;refine mq ?_;iterate 2 refine gn ?_
       refine pf ?_;refine mq ?_;iterate 3 refine gn ?_
       refine pf ?_;refine mq ?_;iterate 3 refine gn ?_
       refine pf ?_;refine mq ?_;iterate 3 refine gn ?_
       refine pf ?_;refine mq ?_;iterate 3 refine gn ?_
       refine pf ?_;refine aq (nl ?_);exact jz ((), false) h []
     ·replace h := b_ifn (d_f hb) h;iterate 2 refine gn ?_
      refine pf ?_;refine mq ?_;iterate 2 refine gn ?_
      refine pf ?_;refine mq ?_;iterate 2 refine gn ?_
      refine pf ?_;refine mq ?_;iterate 2 refine gn ?_
      refine pf ?_;refine mq ?_;iterate 2 refine gn ?_
      refine pf ?_;refine mq ?_;iterate 2 refine gn ?_
      refine pf ?_;refine mq ?_;iterate 2 refine gn ?_
      refine pf ?_;refine mq ?_;iterate 2 refine gn ?_
      refine pf ?_;refine mq ?_;iterate 2 refine gn ?_
      refine pf ?_;refine mq ?_;iterate 2 refine gn ?_
      refine pf ?_;refine mq ?_;iterate 3 refine gn ?_
      refine pf ?_;refine mq ?_;iterate 3 refine gn ?_
      refine pf ?_;refine mq ?_;iterate 3 refine gn ?_
      refine pf ?_;refine mq ?_;iterate 3 refine gn ?_
      refine pf ?_;refine aq (nl ?_);exact jz ((), false) h []
    ·replace h := b_ifn (d_f hb) h;iterate 2 refine gn ?_
     refine pf ?_;refine mq ?_;iterate 2 refine gn ?_
     refine pf ?_;refine mq ?_;iterate 2 refine gn ?_
     refine pf ?_;refine mq ?_;iterate 2 refine gn ?_
     refine pf ?_;refine mq ?_;iterate 2 refine gn ?_
     refine pf ?_;refine mq ?_;iterate 2 refine gn ?_
     refine pf ?_;refine mq ?_;iterate 2 refine gn ?_
     refine pf ?_;refine mq ?_;iterate 2 refine gn ?_
     refine pf ?_;refine mq ?_;iterate 2 refine gn ?_
     refine pf ?_;refine mq ?_;iterate 2 refine gn ?_
     refine pf ?_;refine mq ?_;iterate 2 refine gn ?_
     refine pf ?_;refine mq ?_;iterate 3 refine gn ?_
     refine pf ?_;refine mq ?_;iterate 3 refine gn ?_
     refine pf ?_;refine mq ?_;iterate 3 refine gn ?_
     refine pf ?_;refine mq ?_;iterate 3 refine gn ?_
     refine pf ?_;refine aq (nl ?_);exact jz ((), false) h []
   ·replace h := b_ifn (d_f hb) h;iterate 2 refine gn ?_
    refine pf ?_;refine mq ?_;iterate 2 refine gn ?_
    refine pf ?_;refine mq ?_;iterate 2 refine gn ?_
    refine pf ?_;refine mq ?_;iterate 2 refine gn ?_
    refine pf ?_;refine mq ?_;iterate 2 refine gn ?_
    refine pf ?_;refine mq ?_;iterate 2 refine gn ?_
    refine pf ?_;refine mq ?_;iterate 2 refine gn ?_
    refine pf ?_;refine mq ?_;iterate 2 refine gn ?_
    refine pf ?_;refine mq ?_;iterate 2 refine gn ?_
    refine pf ?_;refine mq ?_;iterate 2 refine gn ?_
    refine pf ?_;refine mq ?_;iterate 2 refine gn ?_
    refine pf ?_;refine mq ?_;iterate 2 refine gn ?_
    refine pf ?_;refine mq ?_;iterate 3 refine gn ?_
    refine pf ?_;refine mq ?_;iterate 3 refine gn ?_
    refine pf ?_;refine mq ?_;iterate 3 refine gn ?_
    refine pf ?_;refine mq ?_;iterate 3 refine gn ?_
    refine pf ?_;refine aq (nl ?_);exact jz ((), false) h []
  ·replace h := b_ifn (d_f hb) h;iterate 2 refine gn ?_
   refine pf ?_;refine mq ?_;iterate 2 refine gn ?_
   refine pf ?_;refine mq ?_;iterate 2 refine gn ?_
   refine pf ?_;refine mq ?_;iterate 2 refine gn ?_
   refine pf ?_;refine mq ?_;iterate 2 refine gn ?_
   refine pf ?_;refine mq ?_;iterate 2 refine gn ?_
   refine pf ?_;refine mq ?_;iterate 2 refine gn ?_
   refine pf ?_;refine mq ?_;iterate 2 refine gn ?_
   refine pf ?_;refine mq ?_;iterate 2 refine gn ?_
   refine pf ?_;refine mq ?_;iterate 2 refine gn ?_
   refine pf ?_;refine mq ?_;iterate 2 refine gn ?_
   refine pf ?_;refine mq ?_;iterate 2 refine gn ?_
   refine pf ?_;refine mq ?_;iterate 2 refine gn ?_
   refine pf ?_;refine mq ?_;iterate 3 refine gn ?_
   refine pf ?_;refine mq ?_;iterate 3 refine gn ?_
   refine pf ?_;refine mq ?_;iterate 3 refine gn ?_
   refine pf ?_;refine mq ?_;iterate 3 refine gn ?_
   refine pf ?_;refine aq (nl ?_);exact jz ((), false) h []
 ·refine JC.ret ?_;cases h;exact ra


def kit_CopyInts (k : Nat) (a0 : (List Int)) : Option (List Int) :=
 (chkP (okLen (List.length ([] : (List Int)) + List.length a0))).bind fun _ =>
 some (([] : (List Int)) ++ a0)

theorem kit_CopyInts_ok (k : Nat) (a0 : (List Int)) (r : (List Int)) (h : kit_CopyInts k a0 = some r) :
 Ctr Try.prog 37 [Ri a0] [] (fun z : Value => (resA [.eq z], [.sl z 3 (.int .i64) r])) := by
 unfold kit_CopyInts at h;replace h := b_top h;refine Ctr.of 6 Try.func37 rfl Try.ntmps37 rfl fun S w0 => ?_;refine sr (cq (nt (sr ?_)));refine JO.s01 rfl rfl rfl (o_litB_own (t := (.int .i64)) [] ([] : (List Int)) rfl rfl sl22 .nil rfl rfl) trivial fun v1 => ?_;refine mq ?_;obtain ⟨u2, eu2, h⟩ := b_bind h;refine JO.s1x rfl rfl rfl (o_append rfl rfl sl22 (chkP_some eu2)) ⟨rfl, rfl, trivial⟩ fun v3 => ?_;refine aq (nt (JC.ret ?_));cases h;exact JN.ret v3 [.eq v3] 1 ⟨rfl, trivial⟩ rfl


def kit_CopyChange_l1 (k : Nat) (a0 : dChange) : Nat → ((List dThing) × Int) → Option (List dThing)
 | 0, _ => none
 | n + 1, y8 =>
  if y8.2 < (a0.1.length : Int) then ((geti a0.1 y8.2).bind fun x10 =>
  (kit_CopyInts k x10.1).bind fun r12 =>
  (chkP (okLen (List.length y8.1 + List.length [(r12, x10.2)]))).bind fun _ =>
  (ck (y8.2 + (1 : Int))).bind fun x18 =>
  kit_CopyChange_l1 k a0 n (y8.1 ++ [(r12, x10.2)], x18)) else (some y8.1)

def kit_CopyChange_l2 (k : Nat) (a0 : dChange) : Nat → ((List dDresser) × Int) → Option (List dDresser)
 | 0, _ => none
 | n + 1, y21 =>
  if y21.2 < (a0.2.1.length : Int) then ((geti a0.2.1 y21.2).bind fun x23 =>
  (kit_CopyInts k x23.1).bind fun r25 =>
  (chkP (okLen (List.length y21.1 + List.length [(r25, x23.2)]))).bind fun _ =>
  (ck (y21.2 + (1 : Int))).bind fun x31 =>
  kit_CopyChange_l2 k a0 n (y21.1 ++ [(r25, x23.2)], x31)) else (some y21.1)
def kit_CopyChange (k : Nat) (a0 : dChange) : Option dChange :=
 (kit_CopyInts k a0.2.2.1).bind fun r3 =>
 (kit_CopyInts k a0.2.2.2).bind fun r4 =>
 ((kit_CopyChange_l1 k a0 k (([] : (List dThing)), (0 : Int))) : Option ((List dThing))).bind fun x6 =>
 ((kit_CopyChange_l2 k a0 k (([] : (List dDresser)), (0 : Int))) : Option ((List dDresser))).bind fun x19 =>
 some (x6, x19, r3, r4)

theorem kit_CopyChange_ok (k : Nat) (a0 : dChange) (r : dChange) (h : kit_CopyChange k a0 = some r) :
 Ctr Try.prog 27 [.rep tChange a0] [] (fun z : Value × Value => (resA [.agg (.pair (.eq z.1) (.pair (.eq z.2) (.pair (Ri r.2.2.1) (Ri r.2.2.2))))], [.sl z.1 45 tThing r.1, .sl z.2 53 tDresser r.2.1])) := by
 unfold kit_CopyChange at h;replace h := b_top h;refine Ctr.of 60 Try.func27 rfl Try.ntmps27 rfl fun S w0 => ?_;refine sr (bx fun b1 => ?_);refine JO.s01 rfl rfl rfl (o_alloc rfl za28 al28) trivial fun b2 => ?_;refine nt (JC.seq (JC.drawW ?_));refine DW.t00 rfl rfl rfl (o_field_obj rfl fo28_2) ⟨rfl, trivial⟩ ?_;refine DW.t11 1 rfl rfl rfl rfl (o_load_obj rfl sz22 nfs rfl) ⟨rfl, trivial⟩ ?_;obtain ⟨r3, er3, h⟩ := b_bind h;refine DW.t00 rfl rfl rfl (OpT.frz (o_call [.tmp 9] rfl rfl en37 rfl (kit_CopyInts_ok k a0.2.2.1 r3 er3))) ⟨rfl, trivial⟩ ?_;refine DW.t00 rfl rfl rfl (o_field_obj rfl fo28_3) ⟨rfl, trivial⟩ ?_;refine DW.t11 1 rfl rfl rfl rfl (o_load_obj rfl sz22 nfs rfl) ⟨rfl, trivial⟩ ?_;obtain ⟨r4, er4, h⟩ := b_bind h;refine DW.t00 rfl rfl rfl (OpT.frz (o_call [.tmp 12] rfl rfl en37 rfl (kit_CopyInts_ok k a0.2.2.2 r4 er4))) ⟨rfl, trivial⟩ ?_;refine DW.t00 rfl rfl rfl (o_buildT [(2, .tmp 10, _), (3, .tmp 13, _)] rfl pl28 za28 alb28 (stors ⟨rfl, rfl, trivial⟩) rfl) ⟨rfl, rfl, trivial⟩ ?_;refine DW.tNew (ptrD 28 N4) (fun _ => rfl) rfl rfl rfl (o_alloc rfl za28 al28) trivial ?_;refine DW.fin 8 [true, true, true, true, true, true, true, true] [] [] [] rfl (by kernel_rfl) (by kernel_rfl) (by kernel_rfl) mixed (fun vs hv hB => ?_);obtain ⟨w0, vs1, rfl, hv1⟩ := len_cons hv;obtain ⟨w1, vs2, rfl, hv2⟩ := len_cons hv1;obtain ⟨w2, vs3, rfl, hv3⟩ := len_cons hv2;obtain ⟨w3, vs4, rfl, hv4⟩ := len_cons hv3;obtain ⟨w4, vs5, rfl, hv5⟩ := len_cons hv4;obtain ⟨w5, vs6, rfl, hv6⟩ := len_cons hv5;obtain ⟨w6, vs7, rfl, hv7⟩ := len_cons hv6;obtain ⟨w7, vs8, rfl, hv8⟩ := len_cons hv7;obtain rfl := len_nil hv8;obtain ⟨b5, rfl⟩ := ptr_of hB.2.2.2.2.2.2.2.1;refine ⟨[0, 1, 2], [.obj b2 28 N4, .obj b1 28 (.rep tChange a0), .obj b5 28 N4], by kernel_rfl, by decide, ?_⟩;refine JT.front 2 rfl ?_;refine JT.n11 rfl rfl (o_store rfl sz28 trivial rfl rfl) ⟨rfl, rfl, trivial⟩ (by kernel_rfl) ?_;refine JT.nil ?_;refine JN.se (SE.fin (Γ' := [(1, Pt b1), (2, Pt b2), (3, Pt b5)]) (Δ' := [.obj b5 28 (.agg (.pair (.eq (.slice none 0 0)) (.pair (.eq (.slice none 0 0)) (.pair (Ri r3) (Ri r4))))), .obj b2 28 N4, .obj b1 28 (.rep tChange a0)]) [0, 1, 2] ⟨rfl, rfl, rfl, trivial⟩ rfl) ?_;refine tn (JC.cutB (Z := Value) (α := (List dThing)) (fun z7 x6 => [(1, Pt b1), (2, Pt b2), (3, Pt b5)]) (fun z7 x6 => [.obj b1 28 (.rep tChange a0), .obj b2 28 N4, .obj b5 28 (.agg (.pair (.eq z7) (.pair (.eq (.slice none 0 0)) (.pair (Ri r3) (Ri r4))))), .sl z7 45 tThing x6]) h (fun K h => ?_) (fun z7 x6 h => ?_))
 ·refine sr (cq (nt (JC.block ?_)));refine JC.se (SE.nil 45 tThing) ?_;refine JC.loopB (Z := Value) (α := (List dThing) × Int) (fun z9 y8 => [(1, Pt b1), (2, Pt b2), (3, Pt b5), (4, I y8.2)]) (fun z9 y8 => [.obj b1 28 (.rep tChange a0), .obj b2 28 N4, .obj b5 28 (.agg (.pair (.eq z9) (.pair (.eq (.slice none 0 0)) (.pair (Ri r3) (Ri r4))))), .sl z9 45 tThing y8.1]) (kit_CopyChange_l1 k a0) k (.slice none 0 0) (([] : (List dThing)), (0 : Int)) (fun _ => rfl) h (SE.fin [3, 2, 1, 0] ⟨rfl, rfl, rfl, rfl, trivial⟩ rfl) (fun n z9 y8 h => ?_);unfold kit_CopyChange_l1 at h;refine JC.seq (sr (mq ?_));refine fl fo28_0 ?_;refine lo sz25 ?_;refine ol U25 ?_;refine jb (o_lss rfl) ?_;refine nt (ci h (fun h => ?_) (fun h => ?_))
  ·refine sk (JC.seq (JC.block (sr (fl fo28_0 ?_))));refine lo sz25 ?_;refine mq ?_;obtain ⟨x10, ex10, h⟩ := b_bind h;refine jb (o_index (t := tThing) rfl U25 sz45 ex10) ?_;refine ja (o_load_at (t := tThing) rfl sz45 rfl) ?_;refine JO.s01 rfl rfl rfl (o_alloc rfl za45 al45) trivial fun b11 => ?_;refine JO.n11 rfl rfl (o_store rfl sz45 rfl rfl rfl) ⟨rfl, rfl, trivial⟩ ?_;refine nt (sr (fl fo45_0 ?_));refine lo sz22 ?_;obtain ⟨r12, er12, h⟩ := b_bind h;refine JO.s01 rfl rfl rfl (o_call [.tmp 28] rfl rfl en37 rfl (kit_CopyInts_ok k x10.1 r12 er12)) ⟨rfl, trivial⟩ fun v13 => ?_;refine fl fo45_0 ?_;refine JO.one fun o14 => ?_;refine fr 1 ?_;refine JO.n11 rfl rfl (o_store rfl sz22 o14 rfl rfl) ⟨rfl, rfl, trivial⟩ ?_;refine nt (JC.region (fl fo28_0 ?_));refine fr 4 ?_;refine lo sz25 ?_;refine fr 1 ?_;refine fr 2 ?_;refine JO.se (SE.frzBoth (off := 0) [29] ⟨rfl, trivial⟩ rfl rfl) ?_;refine lo sz45 ?_;refine ja (o_litB (t := tThing) [(.tmp 33, _)] [(r12, x10.2)] rfl rfl sl25 (.cons trivial (.agg (.pair .rep .rep)) .nil) rfl rfl) ?_;obtain ⟨u15, eu15, h⟩ := b_bind h;refine fr 4 ?_;refine JO.s1x rfl rfl rfl (o_append rfl rfl sl25 (chkP_some eu15)) ⟨rfl, rfl, trivial⟩ fun v16 => ?_;refine fl fo28_0 ?_;refine JO.one fun o17 => ?_;refine fr 2 ?_;refine JO.n11 rfl rfl (o_store rfl sz25 o17 rfl rfl) ⟨rfl, rfl, trivial⟩ ?_;refine JO.nil (JN.blk_n (tn (JC.region (mq ?_))));obtain ⟨x18, ex18, h⟩ := b_bind h;refine jb (o_add rfl ex18) ?_;refine aq (nl ?_);exact jz (v16, (y8.1 ++ [(r12, x10.2)], x18)) h [3, 4, 0, 1]
  ·refine xa ?_;exact jz (z9, y8.1) h [0, 1, 2, 3]
 ·refine JC.cutB (Z := Value) (α := (List dDresser)) (fun z20 x19 => [(2, Pt b2), (3, Pt b5)]) (fun z20 x19 => [.obj b2 28 N4, .obj b5 28 (.agg (.pair (.eq z7) (.pair (.eq z20) (.pair (Ri r3) (Ri r4))))), .sl z7 45 tThing x6, .sl z20 53 tDresser x19]) h (fun K h => ?_) (fun z20 x19 h => ?_)
  ·refine sr (cq (nt (JC.block ?_)));refine JC.se (SE.nil 53 tDresser) ?_;refine JC.loopB (Z := Value) (α := (List dDresser) × Int) (fun z22 y21 => [(1, Pt b1), (2, Pt b2), (3, Pt b5), (6, I y21.2)]) (fun z22 y21 => [.obj b1 28 (.rep tChange a0), .obj b2 28 N4, .obj b5 28 (.agg (.pair (.eq z7) (.pair (.eq z22) (.pair (Ri r3) (Ri r4))))), .sl z7 45 tThing x6, .sl z22 53 tDresser y21.1]) (kit_CopyChange_l2 k a0) k (.slice none 0 0) (([] : (List dDresser)), (0 : Int)) (fun _ => rfl) h (SE.fin [1, 2, 3, 4, 0] ⟨rfl, rfl, rfl, rfl, trivial⟩ rfl) (fun n z22 y21 h => ?_);unfold kit_CopyChange_l2 at h;refine JC.seq (sr (mq ?_));refine fl fo28_1 ?_;refine lo sz26 ?_;refine ol U26 ?_;refine jb (o_lss rfl) ?_;refine nt (ci h (fun h => ?_) (fun h => ?_))
   ·refine sk (JC.seq (JC.block (sr (fl fo28_1 ?_))));refine lo sz26 ?_;refine mq ?_;obtain ⟨x23, ex23, h⟩ := b_bind h;refine jb (o_index (t := tDresser) rfl U26 sz53 ex23) ?_;refine ja (o_load_at (t := tDresser) rfl sz53 rfl) ?_;refine JO.s01 rfl rfl rfl (o_alloc rfl za53 al53) trivial fun b24 => ?_;refine JO.n11 rfl rfl (o_store rfl sz53 rfl rfl rfl) ⟨rfl, rfl, trivial⟩ ?_;refine nt (sr (fl fo53_0 ?_));refine lo sz22 ?_;obtain ⟨r25, er25, h⟩ := b_bind h;refine JO.s01 rfl rfl rfl (o_call [.tmp 50] rfl rfl en37 rfl (kit_CopyInts_ok k x23.1 r25 er25)) ⟨rfl, trivial⟩ fun v26 => ?_;refine fl fo53_0 ?_;refine JO.one fun o27 => ?_;refine fr 1 ?_;refine JO.n11 rfl rfl (o_store rfl sz22 o27 rfl rfl) ⟨rfl, rfl, trivial⟩ ?_;refine nt (JC.region (fl fo28_1 ?_));refine fr 4 ?_;refine lo sz26 ?_;refine fr 1 ?_;refine fr 2 ?_;refine JO.se (SE.frzBoth (off := 0) [51] ⟨rfl, trivial⟩ rfl rfl) ?_;refine lo sz53 ?_;refine ja (o_litB (t := tDresser) [(.tmp 55, _)] [(r25, x23.2)] rfl rfl sl26 (.cons trivial (.agg (.pair .rep .rep)) .nil) rfl rfl) ?_;obtain ⟨u28, eu28, h⟩ := b_bind h;refine fr 5 ?_;refine JO.s1x rfl rfl rfl (o_append rfl rfl sl26 (chkP_some eu28)) ⟨rfl, rfl, trivial⟩ fun v29 => ?_;refine fl fo28_1 ?_;refine JO.one fun o30 => ?_;refine fr 2 ?_;refine JO.n11 rfl rfl (o_store rfl sz26 o30 rfl rfl) ⟨rfl, rfl, trivial⟩ ?_;refine JO.nil (JN.blk_n (tn (JC.region (mq ?_))));obtain ⟨x31, ex31, h⟩ := b_bind h;refine jb (o_add rfl ex31) ?_;refine aq (nl ?_);exact jz (v29, (y21.1 ++ [(r25, x23.2)], x31)) h [3, 4, 0, 5, 1]
   ·refine xa ?_;exact jz (z22, y21.1) h [1, 2, 3, 4]
  ·refine sr (fr 1 ?_);refine lo sz28 ?_;refine fr 1 ?_;refine JO.n11 rfl rfl (o_store rfl sz28 trivial rfl rfl) ⟨rfl, rfl, trivial⟩ ?_;refine nt (JC.ret (JN.se (SE.fin (Γ' := [(2, _)]) [2, 3, 0, 1] ⟨rfl, trivial⟩ rfl) ?_));cases h;exact JN.ret (z7, z20) [.agg (.pair (.eq z7) (.pair (.eq z20) (.pair (Ri r3) (Ri r4))))] 2 ⟨⟨_, _, _, _, _, rfl, (.tail _ (.tail _ (.head _))), sz28, (nfn), rfl⟩, trivial⟩ rfl


def chg_quick_kept (k : Nat) (a0 : (dChange × (List (Bool × Int)) × (List Int))) (a1 : Int) : Option ((List dStep) × Bool) :=
 (chg_quick_plans_1 k (stopY (fun (y6 : Bool × (List dStep)) (p8 : (List dStep)) =>
  (chg_quick_late k ((a0.1.1, a0.1.2.1, a0.1.2.2.1, a0.1.2.2.2), a0.2.1, a0.2.2) p8 a1).bind fun r10 =>
  if r10.1 < (0 : Int) then (some ((true, p8), false)) else (some ((y6.1, y6.2), true)))) ((a0.1.1, a0.1.2.1, a0.1.2.2.1, a0.1.2.2.2), a0.2.1, a0.2.2) ((false, []), false)).bind fun r9 =>
 if r9.2 = true then (some (r9.1.2, r9.1.1)) else (some ([], false))

theorem chg_quick_kept_ok (k : Nat) (a0 : (dChange × (List (Bool × Int)) × (List Int))) (b_a0 : Nat) (m_a0 : Value) (a1 : Int) (r : (List dStep) × Bool) (h : chg_quick_kept k a0 a1 = some r) :
 Ctr Try.prog 83 [Pt b_a0, .eq (.int .u8 a1)] [.obj b_a0 120 (Qq a0 (.eq m_a0))] (fun _ : Unit => (resA [Rs tStep r.1, .eq (.bool r.2)], [.obj b_a0 120 (Qq a0 (.eq m_a0))])) := by
 unfold chg_quick_kept at h;replace h := b_top h;refine Ctr.ofM 22 Try.func83 rfl Try.ntmps83 rfl fun S w0 => ?_;refine sr (bx fun b1 => ?_);refine bx fun b2 => ?_;refine JO.s01 rfl rfl rfl (o_alloc rfl za30 al30) trivial fun b3 => ?_;refine JO.s01 rfl rfl rfl (o_alloc rfl za4 al4) trivial fun b4 => ?_;refine nt (JC.seq (sr (fr 3 ?_)));refine lo sz98 ?_;refine JO.s01 rfl rfl rfl (o_call [.tmp 9] rfl rfl en69 rfl (chg_quick_plans_ok b_a0)) ⟨rfl, trivial⟩ fun b5 => ?_;refine nt (JC.block (JC.front 3 rfl ?_));refine JC.se (SE.objE (a := .eq (.slice none 0 0)) (a' := Rs tStep []) (AE.ent .nil)) ?_;refine JC.front 4 rfl ?_;refine JC.front 1 rfl ?_;refine JC.front 4 rfl ?_;refine JC.front 4 rfl ?_;refine JC.front 5 rfl ?_;refine JC.front 5 rfl ?_;obtain ⟨r9, er9, h⟩ := b_bind h;refine JC.rangeFunc (Δ := [.obj b5 98 (Pt b_a0), .obj b_a0 120 (Qq a0 (.eq m_a0)), .obj b1 98 (Pt b_a0), .obj b4 4 (.eq (.bool false)), .obj b3 30 (Rs tStep []), .obj b2 106 (.eq (.int .u8 a1))]) (F := []) (X := Unit) (J := fun _ => jOf r9.2) (E := fun _ => [.obj b5 98 (Pt b_a0), .obj b_a0 120 (Qq a0 (.eq m_a0)), .obj b1 98 (Pt b_a0), .obj b4 4 (.eq (.bool r9.1.1)), .obj b3 30 (Rs tStep r9.1.2), .obj b2 106 (.eq (.int .u8 a1))]) (r0 := fun _ => .tup .any) rfl rfl en104 (fun rec hp ha hb hs hpe hN hv l => ?_) (fun dl _ => stop_cases (fun hj => ?_) (fun hj => ?_))
 ·rcases rec with ⟨st0, pe0, fn0, tm0, ps0, as0, bd0, df0⟩;dsimp only at hp ha hb hs hpe hN hv;subst hp hs hpe;have vN : Vals tm0 [(2, Pt b1), (3, Pt b2), (4, Pt b3), (5, Pt b4)] := ⟨congrArg A.eq (hv 2 _ rfl).symm, congrArg A.eq (hv 3 _ rfl).symm, congrArg A.eq (hv 4 _ rfl).symm, congrArg A.eq (hv 5 _ rfl).symm, trivial⟩;refine Ctr.pick [1, 2, 0, 3, 4, 5, 6] [2, 0, 1, 3, 4, 5, 6] (chg_quick_plans_1_ok (fun (_ : Unit) (q : (Bool × (List dStep)) × Bool) => [.raw l (.loop (recEnd ⟨.ready, none, fn0, tm0, #[11], as0, bd0, df0⟩ (jOf q.2))), .obj b1 98 (Pt b_a0), .obj b4 4 (.eq (.bool q.1.1)), .obj b3 30 (Rs tStep q.1.2), .obj b2 106 (.eq (.int .u8 a1))]) l (stopY (fun (y6 : Bool × (List dStep)) (p8 : (List dStep)) =>
  (chg_quick_late k ((a0.1.1, a0.1.2.1, a0.1.2.2.1, a0.1.2.2.2), a0.2.1, a0.2.2) p8 a1).bind fun r10 =>
  if r10.1 < (0 : Int) then (some ((true, p8), false)) else (some ((y6.1, y6.2), true)))) k ((a0.1.1, a0.1.2.1, a0.1.2.2.1, a0.1.2.2.2), a0.2.1, a0.2.2) b_a0 m_a0 b5 (fun z q p r' h => ?_) () ((false, []), false) r9 er9) rfl (fun _ => rfl) (fun _ => rfl)
  obtain ⟨r2, hq, h2, rfl⟩ := stopY_some h;obtain ⟨y6, b5⟩ := q;obtain rfl : b5 = false := hq;replace h := b_top h2;obtain ⟨p8, hpv⟩ : ∃ x, x = p := ⟨_, rfl⟩;subst hpv;refine YT.pick (R' := (fun _ : Unit => (.eq (.bool r2.2), [.raw l (.loop (recEnd ⟨.ready, none, fn0, tm0, #[11], as0, bd0, df0⟩ (jOf (!r2.2)))), .obj b_a0 120 (Qq a0 (.eq m_a0)), .obj b1 98 (Pt b_a0), .obj b4 4 (.eq (.bool r2.1.1)), .obj b3 30 (Rs tStep r2.1.2), .obj b2 106 (.eq (.int .u8 a1))]))) [1, 0, 2, 3, 4, 5] [1, 0, 2, 3, 4, 5] (YT.of' ha hb (N := 22) (Γ := [(2, Pt b1), (3, Pt b2), (4, Pt b3), (5, Pt b4)]) rfl hN (by decide) vN (fun S w => ?_)) rfl (fun _ => rfl) (fun _ => rfl);refine JC.region (aq (nl ?_));refine JN.begin rfl rfl ?_;refine JC.block (sr (fr 2 ?_));refine lo sz98 ?_;refine mq ?_;refine fr 5 ?_;refine lo sz106 ?_;obtain ⟨r10, er10, h⟩ := b_bind h;refine fr 3 ?_;refine kc (o_call [.tmp 13, .tmp 14, .tmp 15] rfl rfl en66 rfl (chg_quick_late_ok k ((a0.1.1, a0.1.2.1, a0.1.2.2.1, a0.1.2.2.2), a0.2.1, a0.2.2) b_a0 m_a0 p8 a1 r10 er10)) ?_;refine mq ?_;refine xr ?_;refine xr ?_;refine aq ?_;refine aq (nt (sr ?_));refine mq ?_;refine jb (o_lss rfl) ?_;refine nt (ci h (fun h => ?_) (fun h => ?_))
  ·refine sr (mq ?_);refine fr 5 ?_;refine JO.n11 rfl rfl (o_store rfl sz30 rfl rfl rfl) ⟨rfl, rfl, trivial⟩ ?_;refine fr 5 ?_;refine JO.n11 rfl rfl (o_store rfl sz4 rfl rfl rfl) ⟨rfl, rfl, trivial⟩ ?_;refine nt (JC.ret (JN.blk_r (JN.front 3 rfl ?_)));refine JN.front 2 rfl ?_;refine JN.front 2 rfl ?_;refine JN.front 4 rfl ?_;refine JN.front 4 rfl ?_;refine JN.front 5 rfl ?_;cases h;exact JN.roundR () 5 rfl
  ·refine JC.skip (JN.blk_n (JN.front 1 rfl ?_));refine JN.front 5 rfl ?_;refine JN.front 5 rfl ?_;refine JN.front 4 rfl ?_;refine JN.front 4 rfl ?_;refine JN.front 5 rfl ?_;cases h;exact JN.roundN () 5 rfl
 ·replace h := b_ifn (v_f hj) h;refine JN.blk_n (tn (sr (fr 5 ?_)));refine JO.n11 rfl rfl (o_store rfl sz30 rfl rfl rfl) ⟨rfl, rfl, trivial⟩ ?_;refine fr 5 ?_;refine JO.n11 rfl rfl (o_store rfl sz4 rfl rfl rfl) ⟨rfl, rfl, trivial⟩ ?_;refine nt (JC.ret (JN.front 1 rfl ?_));refine JN.se (SE.objE (a := .eq (.slice none 0 0)) (a' := Rs tStep []) (AE.ent .nil)) ?_;refine JN.front 2 rfl ?_;refine JN.retM ?_;refine JN.se (SE.fin (Γ' := [(4, _), (5, _)]) [3, 0, 1, 2, 4, 5] ⟨rfl, rfl, trivial⟩ rfl) ?_;cases h;exact JN.ret () [_, _] 1 ⟨⟨_, _, _, _, _, rfl, (.tail _ (.head _)), sz30, (fun _ => rfl), rfl⟩, ⟨_, _, _, _, _, rfl, (.tail _ (.tail _ (.head _))), sz4, (fun _ => rfl), rfl⟩, trivial⟩ rfl
 ·replace h := b_if (v_t hj) h;refine JC.ret (JN.blk_r (JN.then_r (JN.retM ?_)));refine JN.se (SE.fin (Γ' := [(4, _), (5, _)]) [1, 0, 2, 3, 4, 5] ⟨rfl, rfl, trivial⟩ rfl) ?_;cases h;exact JN.ret () [_, _] 1 ⟨⟨_, _, _, _, _, rfl, (.tail _ (.tail _ (.tail _ (.tail _ (.head _))))), sz30, (fun _ => rfl), rfl⟩, ⟨_, _, _, _, _, rfl, (.tail _ (.tail _ (.tail _ (.head _)))), sz4, (fun _ => rfl), rfl⟩, trivial⟩ rfl


def chg_Kept (k : Nat) (a0 : dChange) : Option ((List dStep) × Int) :=
 (chg_begin k a0).bind fun r2 =>
 casesO r2.1 (if ¬ (r2.2 = (0 : Int)) then (some ([], r2.2)) else (none)) (fun q3 => if ¬ (r2.2 = (0 : Int)) then (some ([], r2.2)) else ((chg_quick_kept k ((q3.1.1, q3.1.2.1, q3.1.2.2.1, q3.1.2.2.2), q3.2.1, q3.2.2) (0 : Int)).bind fun r5 =>
 if ¬ (r5.2 = true) then (some ([], (11 : Int))) else (some (r5.1, (0 : Int)))))

theorem chg_Kept_ok (k : Nat) (a0 : dChange) (r : (List dStep) × Int) (h : chg_Kept k a0 = some r) :
 Ctr Try.prog 41 [.rep tChange a0] [] (fun _ : Unit => (resA [Rs tStep r.1, I r.2], [])) := by
 unfold chg_Kept at h;replace h := b_top h;refine Ctr.of 24 Try.func41 rfl Try.ntmps41 rfl fun S w0 => ?_;refine sr (bx fun b1 => ?_);refine cq ?_;refine cq (nt (sr ?_));refine lo sz28 ?_;obtain ⟨r2, er2, h⟩ := b_bind h;have cr2 := chg_begin_ok k a0 r2 er2;rcases hr : r2.1 with _ | q3
 ·rw [hr] at h cr2; replace h := co_n h;refine JO.stepG (Δ := []) (F := _) (fun _ _ _ => wanted_none rfl _) rfl rfl (o_call [.tmp 9] rfl rfl en67 rfl cr2) ⟨rfl, trivial⟩ fun _ => ?_;refine mq ?_;refine xr ?_;refine xr ?_;refine aq ?_;refine aq (nt (JC.seq (sr ?_)));refine mq ?_;refine jb (o_neq rfl) ?_;refine nt (cn h (fun h => ?_) (fun h => ?_))
  ·refine sr (mq ?_);refine cq ?_;refine aq (nt (rx ?_));refine JN.se (SE.ent (t := (.slice tStep)) (x := []) 2 rfl .nil rfl rfl) ?_;cases h;exact rb
  ·refine sk (sr (mq ?_));cases h
 ·rw [hr] at h cr2; replace h := co_s h;refine JO.stepG (Δ := []) (F := _) (fun _ _ _ => wanted_none rfl _) rfl rfl (o_call [.tmp 9] rfl rfl en67 rfl cr2) ⟨rfl, trivial⟩ fun z4 => ?_;refine mq ?_;refine xr ?_;refine xr ?_;refine aq ?_;refine aq (nt (JC.seq (sr ?_)));refine mq ?_;refine jb (o_neq rfl) ?_;refine nt (cn h (fun h => ?_) (fun h => ?_))
  ·refine sr (mq ?_);refine cq ?_;refine aq (nt (rx ?_));refine JN.se (SE.ent (t := (.slice tStep)) (x := []) 2 rfl .nil rfl rfl) ?_;cases h;exact rb
  ·refine sk (sr (mq ?_));obtain ⟨r5, er5, h⟩ := b_bind h;refine kb (o_call [.tmp 17, .const (.int .u8 (0))] rfl rfl en83 rfl (chg_quick_kept_ok k ((q3.1.1, q3.1.2.1, q3.1.2.2.1, q3.1.2.2.2), q3.2.1, q3.2.2) z4.1 (.map (some z4.2)) (0 : Int) r5 er5)) ?_;refine mq ?_;refine xr ?_;refine xr ?_;refine aq ?_;refine aq (nt (JC.seq (sr ?_)));refine mq ?_;refine ja (o_not rfl) ?_;refine nt (cw h (fun h => ?_) (fun h => ?_))
   ·refine sr (cq ?_);refine cq (nt (rx ?_));refine JN.se (SE.ent (t := (.slice tStep)) (x := []) 2 rfl .nil rfl rfl) ?_;cases h;exact rb
   ·refine sk (sr (mq ?_));refine aq ?_;refine cq (nt (JC.ret ?_));cases h;exact rb


def chg_subsets_1_1_l1 {σ : Type} (k : Nat) (a1 : Int) (a4 : Int) (self : Int → Int → (List Int) → σ → Option (Bool × (List Int) × σ)) : Nat → ((List Int) × Int × σ) → Option (Except (Bool × (List Int) × σ) ((List Int) × σ))
 | 0, _ => none
 | n + 1, y6 =>
  if y6.2.1 < a4 then ((chkP (okLen (List.length y6.1 + List.length [y6.2.1]))).bind fun _ =>
  (ck (y6.2.1 + (1 : Int))).bind fun x11 =>
  (ck (a1 - (1 : Int))).bind fun x12 =>
  (self x11 x12 (y6.1 ++ [y6.2.1]) y6.2.2).bind fun r13 =>
  (ck ((r13.2.1.length : Int) - (1 : Int))).bind fun x15 =>
  (chkP (0 ≤ x15 ∧ x15 ≤ (r13.2.1.length : Int))).bind fun _ =>
  if ¬ (r13.1 = true) then (some (.error (false, List.take (Int.toNat x15) r13.2.1, r13.2.2))) else ((ck (y6.2.1 + (1 : Int))).bind fun x19 =>
  chg_subsets_1_1_l1 k a1 a4 self n (List.take (Int.toNat x15) r13.2.1, x19, r13.2.2))) else (some (.ok (y6.1, y6.2.2)))
def chg_subsets_1_1 {σ : Type} (k : Nat) (Y : σ → (List Int) → Option (σ × Bool)) (a4 : Int) : Nat → Int → Int → (List Int) → σ → Option (Bool × (List Int) × σ)
 | 0, _, _, _, _ => none
 | m0 + 1, a0, a1, a3, s0 =>
  if a1 = (0 : Int) then ((slc_Clone_int k a3).bind fun r1 =>
  (Y s0 r1).bind fun r2 =>
  some (r2.2, a3, r2.1)) else (bE (α := (List Int) × σ) (chg_subsets_1_1_l1 k a1 a4 (chg_subsets_1_1 k Y a4 m0) k (a3, a0, s0)) (some) fun x4 =>
  some (true, x4.1, x4.2))

theorem chg_subsets_1_1_ok {σ Z : Type} (E : Z → σ → List D) (l : Nat) (Y : σ → (List Int) → Option (σ × Bool)) (k : Nat) (c_a2 : Nat) (c_a3 : Nat) (a4 : Int) (c_a4 : Nat) (c_a5 : Nat) (hY : ∀ z s p r, Y s p = some r → YT Try.prog l [Ri p] (E z s) (fun z' : Z => (.eq (.bool r.2), E z' r.1))) :
 ∀ (n : Nat) (a0 : Int) (a1 : Int) (a3 : (List Int)) (v_a3 : Value) (z0 : Z) (s0 : σ) (r : Bool × (List Int) × σ), chg_subsets_1_1 k Y a4 n a0 a1 a3 s0 = some r → Ctr Try.prog 116 [I a0, I a1, Pt c_a2, Pt c_a3, Pt c_a4, Pt c_a5] ([.obj c_a2 47 (.eq (.func (.yield l) #[] #[])), .sl v_a3 3 (.int .i64) a3, .obj c_a3 22 (.eq v_a3), .obj c_a4 3 (I a4), .obj c_a5 166 (.eq (.func (.func 116) #[] #[(Pv c_a2), (Pv c_a3), (Pv c_a4), (Pv c_a5)]))] ++ E z0 s0) (fun z : Value × Z => (resA [.eq (.bool r.1)], [.obj c_a2 47 (.eq (.func (.yield l) #[] #[])), .sl z.1 3 (.int .i64) r.2.1, .obj c_a3 22 (.eq z.1), .obj c_a4 3 (I a4), .obj c_a5 166 (.eq (.func (.func 116) #[] #[(Pv c_a2), (Pv c_a3), (Pv c_a4), (Pv c_a5)]))] ++ E z.2 r.2.2)) := by
 intro n
 induction n with
 | zero => intro a0 a1 a3 v_a3 z0 s0 r h; cases h
 | succ m0 ih =>
  intro a0 a1 a3 v_a3 z0 s0 r h;rw [chg_subsets_1_1] at h;replace h := b_top h;refine Ctr.of 40 Try.func116 rfl Try.ntmps116 rfl fun S w0 => ?_;refine sr (cq (nt (JC.seq (sr ?_))));refine mq ?_;refine jb (o_eql rfl) ?_;refine nt (ci h (fun h => ?_) (fun h => ?_))
  ·refine JC.seq (JC.drawN ?_);refine ea 0 (o_load_obj rfl sz47 nfs rfl) ?_;refine ea 2 (o_load_obj rfl sz22 nfs rfl) ?_;obtain ⟨r1, er1, h⟩ := b_bind h;refine DN.s11 1 rfl rfl rfl rfl (OpT.frzB (OpT.borrow (N := [(.tmp 14, .eq v_a3)]) (o_call [.tmp 14] rfl rfl en75 rfl (slc_Clone_int_ok k a3 r1 er1)) (fun _ _ _ hv hn => ⟨(lend hn.1 hv), trivial⟩) (fun _ => ⟨rfl, flat_all (by simp [D.flat, A.flat, Ty.flat])⟩))) ⟨rfl, trivial⟩ ?_;refine df mixed ?_;obtain ⟨r2, er2, h⟩ := b_bind h;refine fr 4 ?_;refine fr 4 ?_;refine fr 4 ?_;refine fr 4 ?_;refine fr 4 ?_;refine JO.stepT [.obj c_a2 47 (.eq (.func (.yield l) #[] #[])), .sl v_a3 3 (.int .i64) a3, .obj c_a3 22 (.eq v_a3), .obj c_a4 3 (I a4), .obj c_a5 166 (.eq (.func (.func 116) #[] #[(Pv c_a2), (Pv c_a3), (Pv c_a4), (Pv c_a5)]))] rfl rfl rfl (o_yield [.tmp 15] rfl rfl rfl (hY z0 s0 r1 r2 er2)) ⟨rfl, rfl, trivial⟩ fun z3 => ?_;refine aq (nt (rx ?_));cases h;exact JN.retA (v_a3, z3) [_] ⟨rfl, trivial⟩ rfl
  ·refine sk (JC.cutE (Z := Value × Z) (α := (List Int) × σ) (fun z5 x4 => []) (fun z5 x4 => [.obj c_a2 47 (.eq (.func (.yield l) #[] #[])), .obj c_a3 22 (.eq z5.1), .sl z5.1 3 (.int .i64) x4.1, .obj c_a4 3 (I a4), .obj c_a5 166 (.eq (.func (.func 116) #[] #[(Pv c_a2), (Pv c_a3), (Pv c_a4), (Pv c_a5)]))] ++ E z5.2 x4.2) (fun e => e = r) h (fun e h => Option.some.inj h) (fun K hR h => ?_) (fun z5 x4 h => ?_))
   ·refine sr (mq ?_);refine aq (nt (JC.block ?_));refine JC.loopB (Z := Value × Z) (α := (List Int) × Int × σ) (fun z7 y6 => [(1, I a1), (3, Pt c_a3), (4, Pt c_a4), (5, Pt c_a5), (9, I y6.2.1)]) (fun z7 y6 => [.obj c_a3 22 (.eq z7.1), .sl z7.1 3 (.int .i64) y6.1, .obj c_a4 3 (I a4), .obj c_a5 166 (.eq (.func (.func 116) #[] #[(Pv c_a2), (Pv c_a3), (Pv c_a4), (Pv c_a5)])), .obj c_a2 47 (.eq (.func (.yield l) #[] #[]))] ++ E z7.2 y6.2.2) (chg_subsets_1_1_l1 k a1 a4 (chg_subsets_1_1 k Y a4 m0)) k (v_a3, z0) (a3, a0, s0) (fun _ => rfl) h (SE.finT [.obj c_a2 47 (.eq (.func (.yield l) #[] #[])), .sl v_a3 3 (.int .i64) a3, .obj c_a3 22 (.eq v_a3), .obj c_a4 3 (I a4), .obj c_a5 166 (.eq (.func (.func 116) #[] #[(Pv c_a2), (Pv c_a3), (Pv c_a4), (Pv c_a5)]))] (E z0 s0) [2, 1, 3, 4, 0] ⟨rfl, rfl, rfl, rfl, rfl, trivial⟩ rfl) (fun n z7 y6 h => ?_);unfold chg_subsets_1_1_l1 at h;refine JC.seq (sr (mq ?_));refine fr 2 ?_;refine lo sz3 ?_;refine jb (o_lss rfl) ?_;refine nt (ci h (fun h => ?_) (fun h => ?_))
    ·refine sk (JC.seq (JC.block (sr (fr 1 ?_))));refine lo sz22 ?_;refine mq ?_;refine ja (o_litB (t := (.int .i64)) [(.tmp 24, _)] [y6.2.1] rfl rfl sl22 (.cons rfl .int .nil) rfl rfl) ?_;obtain ⟨u8, eu8, h⟩ := b_bind h;refine fr 2 ?_;refine JO.s1x rfl rfl rfl (o_append rfl rfl sl22 (chkP_some eu8)) ⟨rfl, rfl, trivial⟩ fun v9 => ?_;refine JO.one fun o10 => ?_;refine fr 1 ?_;refine JO.n11 rfl rfl (o_store rfl sz22 o10 rfl rfl) ⟨rfl, rfl, trivial⟩ ?_;refine nt (sr (fr 3 ?_));refine lo sz166 ?_;refine mq ?_;obtain ⟨x11, ex11, h⟩ := b_bind h;refine jb (o_add rfl ex11) ?_;refine mq ?_;obtain ⟨x12, ex12, h⟩ := b_bind h;refine jb (o_sub rfl ex12) ?_;obtain ⟨r13, er13, h⟩ := b_bind h;refine fr 3 ?_;refine fr 2 ?_;refine fr 3 ?_;refine fr 4 ?_;refine JO.stepA rfl rfl rfl (o_callv (fs := []) (cs := [(Pv c_a2), (Pv c_a3), (Pv c_a4), (Pv c_a5)]) (ags := [I x11, I x12]) [.tmp 29, .tmp 31] rfl rfl en116 rfl (ih x11 x12 (y6.1 ++ [y6.2.1]) v9 z7.2 y6.2.2 r13 er13)) ⟨rfl, rfl, rfl, trivial⟩ fun z14 => ?_;refine aq (nt (sr ?_));refine fr 2 ?_;refine lo sz22 ?_;refine lo sz22 ?_;refine fr 2 ?_;refine ka (o_len_own rfl rfl U22) ?_;obtain ⟨x15, ex15, h⟩ := b_bind h;refine jb (o_sub rfl ex15) ?_;obtain ⟨u16, eu16, h⟩ := b_bind h;refine JO.s1x rfl rfl rfl (o_slice_own (t := (.int .i64)) rfl U22 sz3 (chkP_some eu16).1 (chkP_some eu16).2) ⟨rfl, rfl, trivial⟩ fun v17 => ?_;refine JO.one fun o18 => ?_;refine fr 1 ?_;refine JO.n11 rfl rfl (o_store rfl sz22 o18 rfl rfl) ⟨rfl, rfl, trivial⟩ ?_;refine nt (sr (mq ?_));refine ja (o_not rfl) ?_;refine nt (cw h (fun h => ?_) (fun h => ?_))
     ·refine sr (cq (nt (JC.ret (br (JN.blk_r (JN.then_r ?_))))));refine JN.se (SE.finT (Γ' := [(8, _)]) [.obj c_a3 22 (.eq v17), .sl v17 3 (.int .i64) (List.take (Int.toNat x15) r13.2.1), .obj c_a2 47 (.eq (.func (.yield l) #[] #[])), .obj c_a4 3 (I a4), .obj c_a5 166 (.eq (.func (.func 116) #[] #[(Pv c_a2), (Pv c_a3), (Pv c_a4), (Pv c_a5)]))] (E z14.2 r13.2.2) [2, 1, 0, 3, 4] ⟨rfl, trivial⟩ rfl) ?_;obtain rfl := hR _ h;exact JN.retA (v17, z14.2) [_] ⟨rfl, trivial⟩ rfl
     ·refine JC.skip (JN.blk_n (tn (JC.region (mq ?_))));obtain ⟨x19, ex19, h⟩ := b_bind h;refine jb (o_add rfl ex19) ?_;refine aq (nl ?_);exact JN.z ((v17, z14.2), (List.take (Int.toNat x15) r13.2.1, x19, r13.2.2)) h (SE.finT [.obj c_a3 22 (.eq v17), .sl v17 3 (.int .i64) (List.take (Int.toNat x15) r13.2.1), .obj c_a2 47 (.eq (.func (.yield l) #[] #[])), .obj c_a4 3 (I a4), .obj c_a5 166 (.eq (.func (.func 116) #[] #[(Pv c_a2), (Pv c_a3), (Pv c_a4), (Pv c_a5)]))] (E z14.2 r13.2.2) [0, 1, 3, 4, 2] ⟨rfl, rfl, rfl, rfl, rfl, trivial⟩ rfl)
    ·refine xa ?_;exact JN.z ((z7.1, z7.2), (y6.1, y6.2.2)) h (SE.finT [.obj c_a4 3 (I a4), .obj c_a3 22 (.eq z7.1), .sl z7.1 3 (.int .i64) y6.1, .obj c_a5 166 (.eq (.func (.func 116) #[] #[(Pv c_a2), (Pv c_a3), (Pv c_a4), (Pv c_a5)])), .obj c_a2 47 (.eq (.func (.yield l) #[] #[]))] (E z7.2 y6.2.2) [4, 1, 2, 0, 3] trivial rfl)
   ·refine sr (cq (nt (JC.ret ?_)));refine JN.se (SE.finT (Γ' := [(8, _)]) [.obj c_a2 47 (.eq (.func (.yield l) #[] #[])), .obj c_a3 22 (.eq z5.1), .sl z5.1 3 (.int .i64) x4.1, .obj c_a4 3 (I a4), .obj c_a5 166 (.eq (.func (.func 116) #[] #[(Pv c_a2), (Pv c_a3), (Pv c_a4), (Pv c_a5)]))] (E z5.2 x4.2) [0, 2, 1, 3, 4] ⟨rfl, trivial⟩ rfl) ?_;cases h;exact JN.retA (z5.1, z5.2) [_] ⟨rfl, trivial⟩ rfl


def chg_subsets_1_l1 {σ : Type} (k : Nat) (a1 : Int) (Y : σ → (List Int) → Option (σ × Bool)) (x4 : Int) : Nat → ((List Int) × Int × σ) → Option (σ)
 | 0, _ => none
 | n + 1, y5 =>
  if y5.2.1 < x4 then ((chg_subsets_1_1 k Y a1 k (0 : Int) y5.2.1 y5.1 y5.2.2).bind fun r7 =>
  if ¬ (r7.1 = true) then (some r7.2.2) else ((ck (y5.2.1 + (1 : Int))).bind fun x9 =>
  chg_subsets_1_l1 k a1 Y x4 n (r7.2.1, x9, r7.2.2))) else (some y5.2.2)
def chg_subsets_1 {σ : Type} (k : Nat) (Y : σ → (List Int) → Option (σ × Bool)) (a1 : Int) (s0 : σ) : Option (σ) :=
 (ck (a1 + (1 : Int))).bind fun x4 =>
 chg_subsets_1_l1 k a1 Y x4 k (([] : (List Int)), (0 : Int), s0)

theorem chg_subsets_1_ok {σ Z : Type} (E : Z → σ → List D) (l : Nat) (Y : σ → (List Int) → Option (σ × Bool)) (k : Nat) (a1 : Int) (c_a1 : Nat) (hY : ∀ z s p r, Y s p = some r → YT Try.prog l [Ri p] (E z s) (fun z' : Z => (.eq (.bool r.2), E z' r.1))) :
 ∀ (z0 : Z) (s0 : σ) (r : σ), chg_subsets_1 k Y a1 s0 = some r → Ctr Try.prog 115 [.eq (.func (.yield l) #[] #[]), Pt c_a1] ([.obj c_a1 3 (I a1)] ++ E z0 s0) (fun z : Z => (resA [], [.obj c_a1 3 (I a1)] ++ E z r)) := by
 intro z0 s0 r h;unfold chg_subsets_1 at h;replace h := b_top h;refine Ctr.of 17 Try.func115 rfl Try.ntmps115 rfl fun S w0 => ?_;refine sr (bx fun b1 => ?_);refine nt (sr (JO.s01 rfl rfl rfl (o_alloc rfl za22 al22) trivial fun b2 => ?_));refine nt (sr (JO.s01 rfl rfl rfl (o_alloc rfl za166 al166) trivial fun b3 => ?_));refine nt (sr (JO.s rfl (o_mkfn [] [.tmp 2, .tmp 3, .tmp 1, .tmp 4] [] [(Pv b1), (Pv b2), (Pv c_a1), (Pv b3)] rfl rfl rfl) ⟨rfl, rfl, rfl, rfl, trivial⟩ ?_));refine JO.n11 rfl rfl (o_store rfl sz166 rfl rfl rfl) ⟨rfl, rfl, trivial⟩ ?_;refine nt (sr (fr 3 ?_));refine lo sz3 ?_;obtain ⟨x4, ex4, h⟩ := b_bind h;refine jb (o_add rfl ex4) ?_;refine JO.mc rfl ?_;refine nt (JC.block (JC.se (SE.nil 3 (.int .i64)) ?_));refine JC.loopB (Z := Value × Z) (α := (List Int) × Int × σ) (fun z6 y5 => [(4, Pt b3), (8, I x4), (9, I y5.2.1)]) (fun z6 y5 => [.obj b3 166 (.eq (.func (.func 116) #[] #[(Pv b1), (Pv b2), (Pv c_a1), (Pv b3)])), .obj b1 47 (.eq (.func (.yield l) #[] #[])), .obj b2 22 (.eq z6.1), .sl z6.1 3 (.int .i64) y5.1, .obj c_a1 3 (I a1)] ++ E z6.2 y5.2.2) (chg_subsets_1_l1 k a1 Y x4) k ((.slice none 0 0), z0) (([] : (List Int)), (0 : Int), s0) (fun _ => rfl) h (SE.finT [.sl (.slice none 0 0) 3 (.int .i64) ([] : (List Int)), .obj c_a1 3 (I a1), .obj b3 166 (.eq (.func (.func 116) #[] #[(Pv b1), (Pv b2), (Pv c_a1), (Pv b3)])), .obj b2 22 (.eq (.slice none 0 0)), .obj b1 47 (.eq (.func (.yield l) #[] #[]))] (E z0 s0) [2, 4, 3, 0, 1] ⟨rfl, rfl, rfl, trivial⟩ rfl) (fun n z6 y5 h => ?_);unfold chg_subsets_1_l1 at h;refine sr (jb (o_lss rfl) ?_);refine nt (JC.seq (ci h (fun h => ?_) (fun h => ?_)))
 ·refine sk (JC.seq (JC.block (sr (mq ?_))));refine aq (nt (sr ?_));refine lo sz166 ?_;refine mq ?_;obtain ⟨r7, er7, h⟩ := b_bind h;refine fr 4 ?_;refine fr 3 ?_;refine fr 4 ?_;refine fr 4 ?_;refine JO.stepA rfl rfl rfl (o_callv (fs := []) (cs := [(Pv b1), (Pv b2), (Pv c_a1), (Pv b3)]) (ags := [I (0 : Int), I y5.2.1]) [.const (.int .i64 (0)), .tmp 13] rfl rfl en116 rfl (chg_subsets_1_1_ok E l Y k b1 b2 a1 c_a1 b3 hY k (0 : Int) y5.2.1 y5.1 z6.1 z6.2 y5.2.2 r7 er7)) ⟨rfl, rfl, rfl, trivial⟩ fun z8 => ?_;refine ja (o_not rfl) ?_;refine nt (cw h (fun h => ?_) (fun h => ?_))
  ·refine JC.ret (br (JN.blk_r (JN.se (SE.finT (Γ' := []) [.obj b1 47 (.eq (.func (.yield l) #[] #[])), .sl z8.1 3 (.int .i64) r7.2.1, .obj b2 22 (.eq z8.1), .obj c_a1 3 (I a1), .obj b3 166 (.eq (.func (.func 116) #[] #[(Pv b1), (Pv b2), (Pv c_a1), (Pv b3)]))] (E z8.2 r7.2.2) [3] trivial rfl) ?_)));cases h;exact JN.retA z8.2 [] trivial rfl
  ·refine JC.skip (JN.blk_n (tn (JC.region ?_)));obtain ⟨x9, ex9, h⟩ := b_bind h;refine jb (o_add rfl ex9) ?_;refine mq (nl ?_);exact JN.z ((z8.1, z8.2), (r7.2.1, x9, r7.2.2)) h (SE.finT [.obj b1 47 (.eq (.func (.yield l) #[] #[])), .sl z8.1 3 (.int .i64) r7.2.1, .obj b2 22 (.eq z8.1), .obj c_a1 3 (I a1), .obj b3 166 (.eq (.func (.func 116) #[] #[(Pv b1), (Pv b2), (Pv c_a1), (Pv b3)]))] (E z8.2 r7.2.2) [4, 0, 2, 1, 3] ⟨rfl, rfl, rfl, trivial⟩ rfl)
 ·refine JC.exit (JN.then_x (JN.then_x (JN.blk_hit (JN.end_n ?_))));refine JN.se (SE.finT (Γ' := []) [.obj b3 166 (.eq (.func (.func 116) #[] #[(Pv b1), (Pv b2), (Pv c_a1), (Pv b3)])), .obj b1 47 (.eq (.func (.yield l) #[] #[])), .obj b2 22 (.eq z6.1), .sl z6.1 3 (.int .i64) y5.1, .obj c_a1 3 (I a1)] (E z6.2 y5.2.2) [4] trivial rfl) ?_;cases h;exact JN.retA z6.2 [] trivial rfl



theorem chg_subsets_ok (a0 : Int) : Ctr Try.prog 98 [I a0] [] (fun z : Nat => (resA [.eq (.func (.func 115) #[] #[(Pv z)])], [.obj z 3 (I a0)])) := by
 refine Ctr.of 4 Try.func98 rfl Try.ntmps98 rfl fun S w0 => ?_;refine sr (bx fun z => ?_);refine cq (nt (sr ?_));refine ja (o_mkfn [] [.tmp 1] [] [(Pv z)] rfl rfl rfl) ?_;refine aq (nt (JC.ret ?_));exact JN.ret z [_] 1 ⟨rfl, trivial⟩ rfl


def chg_Gives (k : Nat) (a0 : dChange) : Option ((List Int) × Int) :=
 (chg_begin k a0).bind fun r4 =>
 casesO r4.1 (if ¬ (r4.2 = (0 : Int)) then (some ([], r4.2)) else (none)) (fun q5 => if ¬ (r4.2 = (0 : Int)) then (some ([], r4.2)) else ((chg_subsets_1 k (stopY (fun (y10 : (List Int)) (p12 : (List Int)) =>
  (chg_of k p12).bind fun r14 =>
  (chg_quick_kept k ((q5.1.1, q5.1.2.1, q5.1.2.2.1, q5.1.2.2.2), q5.2.1, q5.2.2) r14).bind fun r15 =>
  if r15.2 = true then (some (p12, false)) else (some (y10, true)))) (q5.1.1.length : Int) ([], false)).bind fun r13 =>
 if r13.2 = true then (some (r13.1, (0 : Int))) else (some ([], (11 : Int)))))

theorem chg_Gives_ok (k : Nat) (a0 : dChange) (r : (List Int) × Int) (h : chg_Gives k a0 = some r) :
 Ctr Try.prog 55 [.rep tChange a0] [] (fun _ : Unit => (resA [Ri r.1, I r.2], [])) := by
 unfold chg_Gives at h;replace h := b_top h;refine Ctr.ofM 34 Try.func55 rfl Try.ntmps55 rfl fun S w0 => ?_;refine sr (bx fun b1 => ?_);refine JO.s01 rfl rfl rfl (o_alloc rfl za22 al22) trivial fun b2 => ?_;refine JO.s01 rfl rfl rfl (o_alloc rfl za32 al32) trivial fun b3 => ?_;refine nt (sr (fr 2 ?_));refine lo sz28 ?_;obtain ⟨r4, er4, h⟩ := b_bind h;have cr4 := chg_begin_ok k a0 r4 er4;rcases hr : r4.1 with _ | q5
 ·rw [hr] at h cr4; replace h := co_n h;refine JO.stepG (Δ := []) (F := _) (fun _ _ _ => wanted_none rfl _) rfl rfl (o_call [.tmp 10] rfl rfl en67 rfl cr4) ⟨rfl, trivial⟩ fun _ => ?_;refine mq ?_;refine xr ?_;refine xr ?_;refine JO.s01 rfl rfl rfl (o_alloc rfl za98 al98) trivial fun b6 => ?_;refine JO.n11 rfl rfl (o_store rfl sz98 rfl rfl rfl) ⟨rfl, rfl, trivial⟩ ?_;refine aq (nt (JC.seq (sr ?_)));refine mq ?_;refine jb (o_neq rfl) ?_;refine nt (cn h (fun h => ?_) (fun h => ?_))
  ·refine sr (mq ?_);refine fr 3 ?_;refine JO.n11 rfl rfl (o_store rfl sz22 rfl rfl rfl) ⟨rfl, rfl, trivial⟩ ?_;refine fr 3 ?_;refine JO.n11 rfl rfl (o_store rfl sz32 rfl rfl rfl) ⟨rfl, rfl, trivial⟩ ?_;refine nt (rx (JN.front 1 rfl ?_));refine JN.se (SE.objE (a := .eq (.slice none 0 0)) (a' := Ri []) (AE.ent .nil)) ?_;refine JN.retM0 ?_;cases h;exact JN.ret () [_, _] 0 ⟨⟨_, _, _, _, _, rfl, (.head _), sz22, (fun _ => rfl), rfl⟩, ⟨_, _, _, _, _, rfl, (.tail _ (.head _)), sz32, (fun _ => rfl), rfl⟩, trivial⟩ rfl
  ·refine sk (JC.seq (sr (lo sz98 ?_)));cases h
 ·rw [hr] at h cr4; replace h := co_s h;refine JO.stepG (Δ := []) (F := _) (fun _ _ _ => wanted_none rfl _) rfl rfl (o_call [.tmp 10] rfl rfl en67 rfl cr4) ⟨rfl, trivial⟩ fun z7 => ?_;refine mq ?_;refine xr ?_;refine xr ?_;refine JO.s01 rfl rfl rfl (o_alloc rfl za98 al98) trivial fun b8 => ?_;refine JO.n11 rfl rfl (o_store rfl sz98 rfl rfl rfl) ⟨rfl, rfl, trivial⟩ ?_;refine aq (nt (JC.seq (sr ?_)));refine mq ?_;refine jb (o_neq rfl) ?_;refine nt (cn h (fun h => ?_) (fun h => ?_))
  ·refine sr (mq ?_);refine fr 5 ?_;refine JO.n11 rfl rfl (o_store rfl sz22 rfl rfl rfl) ⟨rfl, rfl, trivial⟩ ?_;refine fr 5 ?_;refine JO.n11 rfl rfl (o_store rfl sz32 rfl rfl rfl) ⟨rfl, rfl, trivial⟩ ?_;refine nt (rx (JN.front 1 rfl ?_));refine JN.se (SE.objE (a := .eq (.slice none 0 0)) (a' := Ri []) (AE.ent .nil)) ?_;refine JN.retM0 ?_;cases h;exact JN.ret () [_, _] 0 ⟨⟨_, _, _, _, _, rfl, (.head _), sz22, (fun _ => rfl), rfl⟩, ⟨_, _, _, _, _, rfl, (.tail _ (.head _)), sz32, (fun _ => rfl), rfl⟩, trivial⟩ rfl
  ·refine sk (JC.seq (sr (lo sz98 ?_)));refine ja (o_nil_obj rfl) ?_;refine fl fo120_0 ?_;refine fl fo28_0 ?_;refine fr 1 ?_;refine lo sz25 ?_;refine ol U25 ?_;refine JO.s01 rfl rfl rfl (o_call [.tmp 22] rfl rfl en98 rfl (chg_subsets_ok (q5.1.1.length : Int))) ⟨rfl, trivial⟩ fun b9 => ?_;refine nt (JC.block (JC.front 6 rfl ?_));refine JC.se (SE.objE (a := .eq (.slice none 0 0)) (a' := Ri []) (AE.ent .nil)) ?_;refine JC.front 6 rfl ?_;refine JC.front 6 rfl ?_;refine JC.front 6 rfl ?_;refine JC.front 6 rfl ?_;refine JC.front 6 rfl ?_;refine JC.front 6 rfl ?_;obtain ⟨r13, er13, h⟩ := b_bind h;refine JC.rangeFunc (Δ := [.obj b9 3 (I (q5.1.1.length : Int)), .obj z7.1 120 (Qq q5 (.eq (.map (some z7.2)))), .obj b8 98 (.eq (.pointer (some ⟨z7.1, 0, none⟩))), .raw z7.2 (.map #[] 0), .obj b1 28 (.rep tChange a0), .obj b3 32 (I (0 : Int)), .obj b2 22 (Ri [])]) (F := []) (X := Unit) (J := fun _ => jOf r13.2) (E := fun _ => [.obj b9 3 (I (q5.1.1.length : Int)), .obj z7.1 120 (Qq q5 (.eq (.map (some z7.2)))), .obj b8 98 (.eq (.pointer (some ⟨z7.1, 0, none⟩))), .raw z7.2 (.map #[] 0), .obj b1 28 (.rep tChange a0), .obj b3 32 (I (0 : Int)), .obj b2 22 (Ri r13.1)]) (r0 := fun _ => .tup .any) rfl rfl en115 (fun rec hp ha hb hs hpe hN hv l => ?_) (fun dl _ => stop_cases (fun hj => ?_) (fun hj => ?_))
   ·rcases rec with ⟨st0, pe0, fn0, tm0, ps0, as0, bd0, df0⟩;dsimp only at hp ha hb hs hpe hN hv;subst hp hs hpe;have vN : Vals tm0 [(2, Pt b2), (3, Pt b3), (4, Pt b8)] := ⟨congrArg A.eq (hv 2 _ rfl).symm, congrArg A.eq (hv 3 _ rfl).symm, congrArg A.eq (hv 4 _ rfl).symm, trivial⟩;refine Ctr.pick [1, 0, 2, 3, 4, 5, 6, 7] [1, 0, 2, 3, 4, 5, 6, 7] (chg_subsets_1_ok (fun (_ : Unit) (q : (List Int) × Bool) => [.raw l (.loop (recEnd ⟨.ready, none, fn0, tm0, #[24], as0, bd0, df0⟩ (jOf q.2))), .obj z7.1 120 (Qq q5 (.eq (.map (some z7.2)))), .obj b8 98 (.eq (.pointer (some ⟨z7.1, 0, none⟩))), .raw z7.2 (.map #[] 0), .obj b1 28 (.rep tChange a0), .obj b3 32 (I (0 : Int)), .obj b2 22 (Ri q.1)]) l (stopY (fun (y10 : (List Int)) (p12 : (List Int)) =>
    (chg_of k p12).bind fun r14 =>
    (chg_quick_kept k ((q5.1.1, q5.1.2.1, q5.1.2.2.1, q5.1.2.2.2), q5.2.1, q5.2.2) r14).bind fun r15 =>
    if r15.2 = true then (some (p12, false)) else (some (y10, true)))) k (q5.1.1.length : Int) b9 (fun z q p r' h => ?_) () ([], false) r13 er13) rfl (fun _ => rfl) (fun _ => rfl)
    obtain ⟨r2, hq, h2, rfl⟩ := stopY_some h;obtain ⟨y10, b5⟩ := q;obtain rfl : b5 = false := hq;replace h := b_top h2;obtain ⟨p12, hpv⟩ : ∃ x, x = p := ⟨_, rfl⟩;subst hpv;refine YT.pick (R' := (fun _ : Unit => (.eq (.bool r2.2), [.raw l (.loop (recEnd ⟨.ready, none, fn0, tm0, #[24], as0, bd0, df0⟩ (jOf (!r2.2)))), .obj z7.1 120 (Qq q5 (.eq (.map (some z7.2)))), .obj b8 98 (.eq (.pointer (some ⟨z7.1, 0, none⟩))), .raw z7.2 (.map #[] 0), .obj b1 28 (.rep tChange a0), .obj b3 32 (I (0 : Int)), .obj b2 22 (Ri r2.1)]))) [0, 1, 2, 3, 4, 5, 6] [0, 1, 2, 3, 4, 5, 6] (YT.of' ha hb (N := 34) (Γ := [(2, Pt b2), (3, Pt b3), (4, Pt b8)]) rfl hN (by decide) vN (fun S w => ?_)) rfl (fun _ => rfl) (fun _ => rfl);refine JC.region (aq (nl ?_));refine JN.begin rfl rfl ?_;refine JC.block (JC.seq (JC.drawN ?_));refine ea 2 (o_load_obj rfl sz98 nfs rfl) ?_;refine dm ?_;obtain ⟨r14, er14, h⟩ := b_bind h;refine da (o_call [.tmp 27] rfl rfl en81 rfl (chg_of_ok k p12 r14 er14)) ?_;obtain ⟨r15, er15, h⟩ := b_bind h;refine eb 1 (o_call [.tmp 26, .tmp 28] rfl rfl en83 rfl (chg_quick_kept_ok k ((q5.1.1, q5.1.2.1, q5.1.2.2.1, q5.1.2.2.2), q5.2.1, q5.2.2) z7.1 (.map (some z7.2)) r14 r15 er15)) ?_;refine dm ?_;refine da (o_extract rfl rfl) ?_;refine da (o_extract rfl rfl) ?_;refine da (o_assign rfl) ?_;refine df mixed ?_;refine aq (nt (sr ?_));refine mq (nt ?_);refine cv h (fun h => ?_) (fun h => ?_)
    ·refine sr (mq ?_);refine fr 6 ?_;refine JO.n11 rfl rfl (o_store rfl sz22 rfl rfl rfl) ⟨rfl, rfl, trivial⟩ ?_;refine fr 6 ?_;refine JO.n11 rfl rfl (o_store rfl sz32 rfl rfl rfl) ⟨rfl, rfl, trivial⟩ ?_;refine nt (JC.ret (JN.blk_r (JN.front 1 rfl ?_)));refine JN.front 1 rfl ?_;refine JN.front 6 rfl ?_;refine JN.front 6 rfl ?_;refine JN.front 6 rfl ?_;refine JN.front 6 rfl ?_;refine JN.front 6 rfl ?_;cases h;exact JN.roundR () 6 rfl
    ·refine JC.skip (JN.blk_n (JN.front 6 rfl ?_));refine JN.front 6 rfl ?_;refine JN.front 6 rfl ?_;refine JN.front 6 rfl ?_;refine JN.front 6 rfl ?_;refine JN.front 6 rfl ?_;refine JN.front 6 rfl ?_;cases h;exact JN.roundN () 6 rfl
   ·replace h := b_ifn (v_f hj) h;refine JN.blk_n (tn (sr (fr 7 ?_)));refine JO.n11 rfl rfl (o_store rfl sz22 rfl rfl rfl) ⟨rfl, rfl, trivial⟩ ?_;refine fr 7 ?_;refine JO.n11 rfl rfl (o_store rfl sz32 rfl rfl rfl) ⟨rfl, rfl, trivial⟩ ?_;refine nt (JC.ret (JN.front 1 rfl ?_));refine JN.se (SE.objE (a := .eq (.slice none 0 0)) (a' := Ri []) (AE.ent .nil)) ?_;refine JN.front 2 rfl ?_;refine JN.retM ?_;cases h;exact JN.ret () [_, _] 0 ⟨⟨_, _, _, _, _, rfl, (.head _), sz22, (fun _ => rfl), rfl⟩, ⟨_, _, _, _, _, rfl, (.tail _ (.head _)), sz32, (fun _ => rfl), rfl⟩, trivial⟩ rfl
   ·replace h := b_if (v_t hj) h;refine JC.ret (JN.blk_r (JN.then_r (JN.retM ?_)));cases h;exact JN.ret () [_, _] 0 ⟨⟨_, _, _, _, _, rfl, (.tail _ (.tail _ (.tail _ (.tail _ (.tail _ (.tail _ (.head _))))))), sz22, (fun _ => rfl), rfl⟩, ⟨_, _, _, _, _, rfl, (.tail _ (.tail _ (.tail _ (.tail _ (.tail _ (.head _)))))), sz32, (fun _ => rfl), rfl⟩, trivial⟩ rfl


def kit_Less_l1 (k : Nat) (a0 : (List Int)) (a1 : (List Int)) : Nat → Int → Option (Except Bool Unit)
 | 0, _ => none
 | n + 1, y3 =>
  ((if y3 < (a0.length : Int) then (some (decide (y3 < (a1.length : Int)))) else (some false)) : Option (Bool)).bind fun x5 =>
  if x5 = true then ((geti a0 y3).bind fun x7 =>
  (geti a1 y3).bind fun x8 =>
  if ¬ (x7 = x8) then ((geti a0 y3).bind fun x9 =>
  (geti a1 y3).bind fun x10 =>
  some (.error (decide (x9 < x10)))) else ((ck (y3 + (1 : Int))).bind fun x11 =>
  kit_Less_l1 k a0 a1 n x11)) else (some (.ok ()))
def kit_Less (k : Nat) (a0 : (List Int)) (a1 : (List Int)) : Option Bool :=
 bE (α := Unit) (kit_Less_l1 k a0 a1 k (0 : Int)) (some) fun _ =>
 some (decide ((a0.length : Int) < (a1.length : Int)))

theorem kit_Less_ok (k : Nat) (a0 : (List Int)) (a1 : (List Int)) (r : Bool) (h : kit_Less k a0 a1 = some r) :
 Ctr Try.prog 99 [Ri a0, Ri a1] [] (fun _ : Unit => (resA [.eq (.bool r)], [])) := by
 unfold kit_Less at h;replace h := b_top h;refine Ctr.of 41 Try.func99 rfl Try.ntmps99 rfl fun S w0 => ?_;refine sr (cq (nt ?_));refine JC.cutE (Z := Unit) (α := Unit) (fun z2 x1 => [(0, Ri a0), (1, Ri a1)]) (fun z2 x1 => []) (fun e => e = r) h (fun e h => Option.some.inj h) (fun K hR h => ?_) (fun z2 x1 h => ?_)
 ·refine sr (cq (nt (JC.block ?_)));refine JC.loopB (Z := Unit) (α := Int) (fun z4 y3 => [(0, Ri a0), (1, Ri a1), (5, I y3)]) (fun z4 y3 => []) (kit_Less_l1 k a0 a1) k () (0 : Int) (fun _ => rfl) h (SE.fin [] ⟨rfl, rfl, rfl, trivial⟩ rfl) (fun n z4 y3 h => ?_);unfold kit_Less_l1 at h;refine JC.seq (JC.cutB (Z := Unit) (α := Bool) (fun z6 x5 => [(0, Ri a0), (1, Ri a1), (5, I y3), (15, .eq (.bool x5))]) (fun z6 x5 => []) h (fun K h => ?_) (fun z6 x5 h => ?_))
  ·refine JC.region ?_;iterate 2 refine mq ?_
   refine ol U22 ?_;refine jb (o_lss rfl) ?_;refine mq ?_;refine JO.bool (s := 10) rfl (fun hb => ?_) (fun hb => ?_)
   ·replace h := b_if (d_t hb) h;refine gm ?_;refine gm ?_;refine ga (o_len rfl rfl U22) ?_;refine gb (o_lss rfl) ?_;refine pt (nl ?_);exact jz ((), decide (y3 < (a1.length : Int))) h []
   ·replace h := b_ifn (d_f hb) h;iterate 4 refine gn ?_
    refine pf (nl ?_);exact jz ((), false) h []
  ·refine cv h (fun h => ?_) (fun h => ?_)
   ·refine sk (JC.seq (JC.block (JC.seq (JC.drawN ?_))));refine dm ?_;refine dm ?_;obtain ⟨x7, ex7, h⟩ := b_bind h;refine db (o_index (t := (.int .i64)) rfl U22 sz3 ex7) ?_;refine da (o_load_at (t := (.int .i64)) rfl sz3 rfl) ?_;refine dm ?_;refine dm ?_;obtain ⟨x8, ex8, h⟩ := b_bind h;refine db (o_index (t := (.int .i64)) rfl U22 sz3 ex8) ?_;refine da (o_load_at (t := (.int .i64)) rfl sz3 rfl) ?_;refine df mixed ?_;refine jb (o_neq rfl) ?_;refine nt (cn h (fun h => ?_) (fun h => ?_))
    ·refine JC.seq (JC.drawN ?_);refine dm ?_;refine dm ?_;obtain ⟨x9, ex9, h⟩ := b_bind h;refine db (o_index (t := (.int .i64)) rfl U22 sz3 ex9) ?_;refine da (o_load_at (t := (.int .i64)) rfl sz3 rfl) ?_;refine dm ?_;refine dm ?_;obtain ⟨x10, ex10, h⟩ := b_bind h;refine db (o_index (t := (.int .i64)) rfl U22 sz3 ex10) ?_;refine da (o_load_at (t := (.int .i64)) rfl sz3 rfl) ?_;refine df mixed ?_;refine jb (o_lss rfl) ?_;refine aq (nt (JC.ret (br (JN.blk_r (JN.then_r ?_)))));obtain rfl := hR _ h;exact ra
    ·refine JC.skip (JN.blk_n (tn (JC.region (mq ?_))));obtain ⟨x11, ex11, h⟩ := b_bind h;refine jb (o_add rfl ex11) ?_;refine aq (nl ?_);exact jz ((), x11) h []
   ·refine xa ?_;exact jz ((), ()) h []
 ·refine sr (mq ?_);refine ol U22 ?_;refine mq ?_;refine ol U22 ?_;refine jb (o_lss rfl) ?_;refine aq (nt (JC.ret ?_));cases h;exact ra


def kit_Picks_l2 (k : Nat) (y4 : (List (List Int)) × Int) (r9 : (List (List Int))) : Nat → ((List (List Int)) × Int) → Option (List (List Int))
 | 0, _ => none
 | n + 1, y10 =>
  if y10.2 < (r9.length : Int) then ((geti r9 y10.2).bind fun x12 =>
  (chkP (okLen (List.length x12 + List.length [y4.2]))).bind fun _ =>
  (chkP (okLen (List.length y10.1 + List.length [x12 ++ [y4.2]]))).bind fun _ =>
  (ck (y10.2 + (1 : Int))).bind fun x17 =>
  kit_Picks_l2 k y4 r9 n (y10.1 ++ [x12 ++ [y4.2]], x17)) else (some y10.1)

def kit_Picks_l1 (k : Nat) (a0 : Int) (a1 : Int) (self : Int → Int → Option ((List (List Int)))) : Nat → ((List (List Int)) × Int) → Option (List (List Int))
 | 0, _ => none
 | n + 1, y4 =>
  if y4.2 < a0 then ((((ck (a1 - (1 : Int))).bind fun x8 =>
  (self y4.2 x8).bind fun r9 =>
  kit_Picks_l2 k y4 r9 k (y4.1, (0 : Int))) : Option ((List (List Int)))).bind fun x6 =>
  (ck (y4.2 + (1 : Int))).bind fun x18 =>
  kit_Picks_l1 k a0 a1 self n (x6, x18)) else (some y4.1)

def kit_Picks_l4 (k : Nat) : Nat → ((List (List Int)) × Int) → Option (List (List Int))
 | 0, _ => none
 | n + 1, y25 =>
  ((if (0 : Int) < y25.2 then ((geti y25.1 y25.2).bind fun x29 =>
  (ck (y25.2 - (1 : Int))).bind fun x30 =>
  (geti y25.1 x30).bind fun x31 =>
  (kit_Less k x29 x31).bind fun r32 =>
  some r32) else (some false)) : Option (Bool)).bind fun x27 =>
  if x27 = true then ((ck (y25.2 - (1 : Int))).bind fun x33 =>
  (ck (y25.2 - (1 : Int))).bind fun x34 =>
  (geti y25.1 x34).bind fun x35 =>
  (geti y25.1 y25.2).bind fun x36 =>
  (geti y25.1 y25.2).bind fun x37 =>
  (geti (List.set y25.1 (Int.toNat y25.2) x35) x33).bind fun x38 =>
  (ck (y25.2 - (1 : Int))).bind fun x39 =>
  kit_Picks_l4 k n (List.set (List.set y25.1 (Int.toNat y25.2) x35) (Int.toNat x33) x36, x39)) else (some y25.1)

def kit_Picks_l3 (k : Nat) : Nat → ((List (List Int)) × Int) → Option (List (List Int))
 | 0, _ => none
 | n + 1, y21 =>
  if y21.2 < (y21.1.length : Int) then (((kit_Picks_l4 k k (y21.1, y21.2)) : Option ((List (List Int)))).bind fun x23 =>
  (ck (y21.2 + (1 : Int))).bind fun x40 =>
  kit_Picks_l3 k n (x23, x40)) else (some y21.1)
def kit_Picks (k : Nat) : Nat → Int → Int → Option ((List (List Int)))
 | 0, _, _ => none
 | m0 + 1, a0, a1 =>
  if a1 = (0 : Int) then (some [[]]) else ((((ck (a1 - (1 : Int))).bind fun x3 =>
  kit_Picks_l1 k a0 a1 (kit_Picks k m0) k (([] : (List (List Int))), x3)) : Option ((List (List Int)))).bind fun x1 =>
  ((kit_Picks_l3 k k (x1, (1 : Int))) : Option ((List (List Int)))).bind fun x19 =>
  some x19)


theorem kit_Picks_own (k : Nat) :
 ∀ (n : Nat) (a0 : Int) (a1 : Int) (r : (List (List Int))), kit_Picks k n a0 a1 = some r → Ctr Try.prog 56 [I a0, I a1] ([]) (fun z : Value × (Nat → Value) => (resA [.eq z.1], .sl z.1 22 .val (vlF z.2 0 r) :: owF z.2 0 r)) := by
 intro n
 induction n with
 | zero => intro a0 a1 r h; cases h
 | succ m0 ih =>
  intro a0 a1 r h;rw [kit_Picks] at h;replace h := b_top h;refine Ctr.of 81 Try.func56 rfl Try.ntmps56 rfl fun S w0 => ?_;refine sr (cq (nt (JC.seq (sr ?_))));refine mq ?_;refine jb (o_eql rfl) ?_;refine nt (ci h (fun h => ?_) (fun h => ?_))
  ·refine sr (JO.s01 rfl rfl rfl (o_litB_own (t := .val) [(.const (.slice none 0 0), .eq (.slice none 0 0))] [.slice none 0 0] rfl rfl sl78 (.cons rfl (.val rfl) .nil) rfl rfl) ⟨rfl, trivial⟩ fun v1 => ?_);refine aq (nt (rx ?_));refine JN.se (SE.nil 3 (.int .i64)) ?_;refine JN.se (SE.pp (List.Perm.swap _ _ _)) ?_;cases h;exact JN.retA (v1, fun _ => .slice none 0 0) [_] ⟨rfl, trivial⟩ rfl
  ·refine sk (sr (cq (nt ?_)));refine JC.cutB (Z := Value × (Nat → Value)) (α := (List (List Int))) (fun z2 x1 => [(5, .eq z2.1)]) (fun z2 x1 => .sl z2.1 22 .val (vlF z2.2 0 x1) :: owF z2.2 0 x1) h (fun K h => ?_) (fun z2 x1 h => ?_)
   ·refine sr (mq ?_);obtain ⟨x3, ex3, h⟩ := b_bind h;refine jb (o_sub rfl ex3) ?_;refine aq (nt (JC.block ?_));refine JC.se (SE.nil 22 .val) ?_;refine JC.loopB (Z := Value × (Nat → Value)) (α := (List (List Int)) × Int) (fun z5 y4 => [(0, I a0), (1, I a1), (5, .eq z5.1), (6, I y4.2)]) (fun z5 y4 => .sl z5.1 22 .val (vlF z5.2 0 y4.1) :: owF z5.2 0 y4.1) (kit_Picks_l1 k a0 a1 (kit_Picks k m0)) k (.slice none 0 0, fun _ => .slice none 0 0) (([] : (List (List Int))), x3) (fun _ => rfl) h (SE.pf ⟨rfl, rfl, rfl, rfl, trivial⟩ perm0) (fun n z5 y4 h => ?_);unfold kit_Picks_l1 at h;refine JC.seq (sr ?_);iterate 2 refine mq ?_
    refine jb (o_lss rfl) ?_;refine nt (ci h (fun h => ?_) (fun h => ?_))
    ·refine sk (JC.cutB (Z := Value × (Nat → Value)) (α := (List (List Int))) (fun z7 x6 => [(0, I a0), (1, I a1), (5, .eq z7.1), (6, I y4.2)]) (fun z7 x6 => .sl z7.1 22 .val (vlF z7.2 0 x6) :: owF z7.2 0 x6) h (fun K h => ?_) (fun z7 x6 h => ?_))
     ·refine JC.block (sr ?_);iterate 2 refine mq ?_
      obtain ⟨x8, ex8, h⟩ := b_bind h;refine jb (o_sub rfl ex8) ?_;obtain ⟨r9, er9, h⟩ := b_bind h;refine JO.stepG (Δ := []) (F := _) (fun _ _ _ => wanted_none rfl _) rfl rfl (o_call [.tmp 21, .tmp 23] rfl rfl en56 rfl (ih y4.2 x8 r9 er9)) ⟨rfl, rfl, trivial⟩ fun z => ?_;refine aq (nt (sr ?_));refine cq (nt (JC.block ?_));refine JC.loopB (Z := Value × (Nat → Value)) (α := (List (List Int)) × Int) (fun z11 y10 => [(0, I a0), (1, I a1), (5, .eq z11.1), (6, I y4.2), (7, .eq z.1), (8, I y10.2)]) (fun z11 y10 => .sl z11.1 22 .val (vlF z11.2 0 y10.1) :: .sl z.1 22 .val (vlF z.2 0 r9) :: (owF z11.2 0 y10.1 ++ owF z.2 y10.2.toNat (r9.drop y10.2.toNat))) (kit_Picks_l2 k y4 r9) k z5 (y4.1, (0 : Int)) (fun _ => rfl) h (SE.pf (junk := []) ⟨rfl, rfl, rfl, rfl, rfl, rfl, trivial⟩ ?perm1) (fun n z11 y10 h => ?_)
      case perm1 =>
       show List.Perm ((D.sl z.1 22 .val (vlF z.2 0 r9) :: owF z.2 0 r9) ++ (D.sl z5.1 22 .val (vlF z5.2 0 y4.1) :: owF z5.2 0 y4.1)) ((D.sl z5.1 22 .val (vlF z5.2 0 y4.1) :: D.sl z.1 22 .val (vlF z.2 0 r9) :: (owF z5.2 0 y4.1 ++ owF z.2 0 r9)) ++ []);rw [List.append_nil];exact (List.perm_append_comm (l₁ := D.sl z.1 22 .val (vlF z.2 0 r9) :: owF z.2 0 r9)).trans (List.Perm.cons _ (List.perm_middle (l₁ := owF z5.2 0 y4.1)))
      unfold kit_Picks_l2 at h;refine JC.seq (sr ?_);iterate 2 refine mq ?_
      refine fr 1 ?_;refine ka (o_len_own rfl rfl U78) ?_;refine fr 1 ?_;refine jb (o_lss rfl) ?_;refine nt (JC.cond rfl (fun hb => ?_) (fun hb => ?_))
      ·rw [vlF_len] at hb;replace h := b_if (d_t hb) h;refine sk (JC.seq (JC.block (JC.region ?_)));iterate 3 refine mq ?_
       obtain ⟨x12, ex12, h⟩ := b_bind h;obtain ⟨p12, q12⟩ := geti_q' ex12;refine fr 1 ?_;refine kb (o_index_own (t := .val) rfl U78 sz22 (vl_geti ex12)) ?_;refine ka (o_load_el (t := .val) (i := Int.toNat y10.2) (off := 0) rfl sz22 (fun _ => rfl) rfl (geti_q' (vl_geti ex12)).2 rfl) ?_;refine mq ?_;refine ja (o_litB (t := (.int .i64)) [(.tmp 36, _)] [y4.2] rfl rfl sl22 (.cons rfl .int .nil) rfl rfl) ?_;rw [owF_drop q12];refine JO.se (SE.pp (Δ' := .sl (z.2 y10.2.toNat) 3 (.int .i64) x12 :: .sl z11.1 22 .val (vlF z11.2 0 y10.1) :: .sl z.1 22 .val (vlF z.2 0 r9) :: (owF z11.2 0 y10.1 ++ owF z.2 (y10.2.toNat + 1) (r9.drop (y10.2.toNat + 1)))) ?perm2) ?_
       case perm2 =>
        show List.Perm (D.sl z.1 22 .val (vlF z.2 0 r9) :: D.sl z11.1 22 .val (vlF z11.2 0 y10.1) :: (owF z11.2 0 y10.1 ++ (D.sl (z.2 y10.2.toNat) 3 (.int .i64) x12 :: owF z.2 (y10.2.toNat + 1) (r9.drop (y10.2.toNat + 1))))) _;refine (List.Perm.swap _ _ _).trans ?_;exact (((List.perm_middle (l₁ := owF z11.2 0 y10.1)).cons _).cons _).trans (List.perm_middle (l₁ := [D.sl z11.1 22 .val (vlF z11.2 0 y10.1), D.sl z.1 22 .val (vlF z.2 0 r9)]))
       obtain ⟨u13, eu13, h⟩ := b_bind h;refine JO.s1x rfl rfl rfl (o_append rfl rfl sl22 (chkP_some eu13)) ⟨rfl, rfl, trivial⟩ fun v14 => ?_;refine JO.one fun o14 => ?_;refine ja (o_litB (t := .val) [(.tmp 38, .eq v14)] [v14] rfl rfl sl78 (.cons o14 (.val o14) .nil) rfl rfl) ?_;obtain ⟨u15, eu15, h⟩ := b_bind h;refine fr 1 ?_;refine JO.s1x rfl rfl rfl (o_append rfl rfl sl78 (show okLen ((vlF z11.2 0 y10.1).length + [v14].length) by rw [vlF_len]; exact chkP_some eu15)) ⟨rfl, rfl, trivial⟩ fun v16 => ?_;refine aq (JO.nil (JN.blk_n (tn (JC.region ?_))));refine mq ?_;obtain ⟨x17, ex17, h⟩ := b_bind h;refine jb (o_add rfl ex17) ?_;refine aq (nl ?_);have e17 : x17.toNat = y10.2.toNat + 1 := by have := ck_val ex17; omega
       refine JN.z ((v16, setV z11.2 y10.1.length v14), (y10.1 ++ [x12 ++ [y4.2]], x17)) h (SE.pf (junk := []) ⟨rfl, rfl, rfl, rfl, rfl, rfl, trivial⟩ ?perm3)
       case perm3 =>
        simp only;rw [vlF_snoc, owF_snoc, e17, List.append_nil];show List.Perm (D.sl v16 22 .val (vlF z11.2 0 y10.1 ++ [v14]) :: D.sl v14 3 (.int .i64) (x12 ++ [y4.2]) :: D.sl z.1 22 .val (vlF z.2 0 r9) :: (owF z11.2 0 y10.1 ++ owF z.2 (y10.2.toNat + 1) (r9.drop (y10.2.toNat + 1)))) _;rw [List.append_assoc];exact ((List.Perm.swap _ _ _).trans ((List.perm_middle (l₁ := owF z11.2 0 y10.1)).symm.cons _)).cons _
      ·rw [vlF_len] at hb;replace h := b_ifn (d_f hb) h;refine JC.exit (JN.then_x (JN.then_x (JN.blk_hit (bn ?_))));exact JN.z (z11, y10.1) h (SE.pf (junk := .sl z.1 22 .val (vlF z.2 0 r9) :: owF z.2 y10.2.toNat (r9.drop y10.2.toNat)) ⟨rfl, rfl, rfl, rfl, trivial⟩ ((List.perm_middle (l₁ := owF z11.2 0 y10.1)).symm.cons _))
     ·refine JC.region (mq ?_);obtain ⟨x18, ex18, h⟩ := b_bind h;refine jb (o_add rfl ex18) ?_;refine aq (nl ?_);exact JN.z (z7, (x6, x18)) h (SE.pf ⟨rfl, rfl, rfl, rfl, trivial⟩ perm0)
    ·refine xa ?_;exact JN.z (z5, y4.1) h (SE.pf ⟨rfl, trivial⟩ perm0)
   ·refine JC.cutB (Z := Nat → Value) (α := (List (List Int))) (fun z20 x19 => [(5, .eq z2.1)]) (fun z20 x19 => .sl z2.1 22 .val (vlF z20 0 x19) :: owF z20 0 x19) h (fun K h => ?_) (fun z20 x19 h => ?_)
    ·refine sr (cq (nt (JC.block ?_)));refine JC.loopB (Z := Nat → Value) (α := (List (List Int)) × Int) (fun z22 y21 => [(5, .eq z2.1), (9, I y21.2)]) (fun z22 y21 => .sl z2.1 22 .val (vlF z22 0 y21.1) :: owF z22 0 y21.1) (kit_Picks_l3 k) k z2.2 (x1, (1 : Int)) (fun _ => rfl) h (SE.pf ⟨rfl, rfl, trivial⟩ perm0) (fun n z22 y21 h => ?_);unfold kit_Picks_l3 at h;refine JC.seq (sr ?_);iterate 2 refine mq ?_
     refine ka (o_len_own rfl rfl U78) ?_;refine jb (o_lss rfl) ?_;refine nt (JC.cond rfl (fun hb => ?_) (fun hb => ?_))
     ·rw [vlF_len] at hb;replace h := b_if (d_t hb) h;refine sk (JC.cutB (Z := Nat → Value) (α := (List (List Int))) (fun z24 x23 => [(5, .eq z2.1), (9, I y21.2)]) (fun z24 x23 => .sl z2.1 22 .val (vlF z24 0 x23) :: owF z24 0 x23) h (fun K h => ?_) (fun z24 x23 h => ?_))
      ·refine JC.block (sr (mq ?_));refine aq (nt (JC.block ?_));refine JC.loopB (Z := Nat → Value) (α := (List (List Int)) × Int) (fun z26 y25 => [(5, .eq z2.1), (9, I y21.2), (10, I y25.2)]) (fun z26 y25 => .sl z2.1 22 .val (vlF z26 0 y25.1) :: owF z26 0 y25.1) (kit_Picks_l4 k) k z22 (y21.1, y21.2) (fun _ => rfl) h (SE.pf ⟨rfl, rfl, rfl, trivial⟩ perm0) (fun n z26 y25 h => ?_);unfold kit_Picks_l4 at h;refine JC.seq (JC.cutB (Z := Unit) (α := Bool) (fun z28 x27 => [(5, .eq z2.1), (9, I y21.2), (10, I y25.2), (61, .eq (.bool x27))]) (fun z28 x27 => .sl z2.1 22 .val (vlF z26 0 y25.1) :: owF z26 0 y25.1) h (fun K h => ?_) (fun z28 x27 h => ?_))
       ·refine JC.drawN ?_;refine dm ?_;refine db (o_gtr rfl) ?_;refine DN.fork rfl rfl rfl (o_move rfl) ⟨rfl, trivial⟩ (fun hb => ?_) (fun hb => ?_)
        ·replace h := b_if (d_t hb) h;refine DN.sg00 rfl rfl rfl rfl rfl (o_move rfl) ⟨rfl, rfl, trivial⟩ ?_;refine DN.sg00 rfl rfl rfl rfl rfl (o_move rfl) ⟨rfl, rfl, trivial⟩ ?_;obtain ⟨x29, ex29, h⟩ := b_bind h;refine DN.sg11 0 rfl rfl rfl rfl rfl rfl (o_index_own (t := .val) rfl U78 sz22 (vl_geti ex29)) ⟨rfl, rfl, rfl, trivial⟩ ?_;refine DN.sg11 0 rfl rfl rfl rfl rfl rfl (o_load_el (t := .val) (i := Int.toNat y25.2) (off := 0) rfl sz22 (fun _ => rfl) rfl (geti_q' (vl_geti ex29)).2 rfl) ⟨rfl, rfl, trivial⟩ ?_;refine DN.sg00 rfl rfl rfl rfl rfl (o_move rfl) ⟨rfl, rfl, trivial⟩ ?_;refine DN.sg00 rfl rfl rfl rfl rfl (o_move rfl) ⟨rfl, rfl, trivial⟩ ?_;obtain ⟨x30, ex30, h⟩ := b_bind h;refine DN.sg00 rfl rfl rfl rfl rfl (o_sub rfl ex30) ⟨rfl, rfl, rfl, trivial⟩ ?_;obtain ⟨x31, ex31, h⟩ := b_bind h;refine DN.sg11 0 rfl rfl rfl rfl rfl rfl (o_index_own (t := .val) rfl U78 sz22 (vl_geti ex31)) ⟨rfl, rfl, rfl, trivial⟩ ?_;refine DN.sg11 0 rfl rfl rfl rfl rfl rfl (o_load_el (t := .val) (i := Int.toNat x30) (off := 0) rfl sz22 (fun _ => rfl) rfl (geti_q' (vl_geti ex31)).2 rfl) ⟨rfl, rfl, trivial⟩ ?_;refine df mixed ?_;obtain ⟨r32, er32, h⟩ := b_bind h;have cr32 := kit_Less_ok k x29 x31 r32 er32;obtain ⟨rest, hp⟩ := owF_two (vs := z26) (geti_q' ex29).2 (geti_q' ex31).2 (by have := ck_val ex30; have := (geti_q' ex29).1; have := (geti_q' ex31).1; omega);refine JO.se (SE.pp ((hp.cons _).trans (List.perm_middle (l₁ := [D.sl (z26 y25.2.toNat) 3 (.int .i64) x29, D.sl (z26 x30.toNat) 3 (.int .i64) x31])).symm)) ?_
         refine JO.stepG (Δ := [_, _]) (F := _) (fun _ _ h => by rw [wanted_of rfl rfl rfl rfl h]; simp) rfl rfl
          (OpT.borrow (N := [(.tmp 54, .eq (z26 y25.2.toNat)), (.tmp 59, .eq (z26 x30.toNat))]) (OpT.borrow (N := [(.tmp 54, Ri x29), (.tmp 59, .eq (z26 x30.toNat))]) (o_call [.tmp 54, .tmp 59] rfl rfl en99 rfl cr32) (fun _ _ _ hv hn => ⟨hn.1, lend hn.2.1 hv, trivial⟩) (fun _ => ⟨rfl, flat_nil⟩)) (fun _ _ _ hv hn => ⟨lend hn.1 hv, hn.2⟩) (fun _ => ⟨rfl, fun d hd => by simp only [List.mem_cons, List.not_mem_nil, or_false] at hd; subst hd; rfl⟩)) ⟨rfl, rfl, trivial⟩ fun _ => ?_
         refine pt (nl ?_);refine JN.z ((), r32) h (SE.pf (junk := []) ⟨rfl, rfl, rfl, rfl, trivial⟩ ?perm4)
         case perm4 =>
          rw [List.append_nil];exact (List.perm_middle (l₁ := [D.sl (z26 y25.2.toNat) 3 (.int .i64) x29, D.sl (z26 x30.toNat) 3 (.int .i64) x31])).trans (hp.symm.cons _)
        ·replace h := b_ifn (d_f hb) h;iterate 9 refine DN.sgno rfl rfl rfl rfl rfl rfl rfl ?_
         refine df mixed ?_;refine gn ?_;refine pf (nl ?_);exact JN.z ((), false) h (SE.pf ⟨rfl, rfl, rfl, rfl, trivial⟩ perm0)
       ·refine cv h (fun h => ?_) (fun h => ?_)
        ·refine sk ?_;obtain ⟨x33, ex33, h⟩ := b_bind h;obtain ⟨x34, ex34, h⟩ := b_bind h;obtain rfl : x33 = x34 := Option.some.inj (ex33.symm.trans ex34);obtain ⟨x35, ex35, h⟩ := b_bind h;obtain ⟨x36, ex36, h⟩ := b_bind h;obtain ⟨x37, ex37, h⟩ := b_bind h;obtain rfl : x36 = x37 := Option.some.inj (ex36.symm.trans ex37);obtain ⟨x38, ex38, h⟩ := b_bind h;obtain ⟨n33, q35⟩ := geti_q' ex35;obtain ⟨n25, q36⟩ := geti_q' ex36;have hne : y25.2.toNat ≠ x33.toNat := by have := ck_val ex33; omega
         obtain ⟨rest, hp⟩ := owF_two (vs := z26) q36 q35 hne;have hp2 := (hp.cons (D.sl z2.1 22 .val (vlF z26 0 y25.1))).trans (List.perm_middle (l₁ := [D.sl (z26 y25.2.toNat) 3 (.int .i64) x36, D.sl (z26 x33.toNat) 3 (.int .i64) x35])).symm;refine JC.seq (JC.se (SE.pp hp2) ?_);refine JC.one fun o36 => ?_;refine JC.front 1 rfl ?_;refine JC.one fun o35 => ?_;refine JC.front 1 rfl ?_;refine JC.se (SE.pp hp2.symm) ?_;have hlv : (vlF z26 0 y25.1).length = y25.1.length := vlF_len;have hl25 := (List.getElem?_eq_some_iff.1 q36).1;have hl33 := (List.getElem?_eq_some_iff.1 q35).1
         have g38 : geti ((vlF z26 0 y25.1).set y25.2.toNat (z26 x33.toNat)) x33 = some (z26 x33.toNat) := by
          have := vl_geti (vs := z26) ex35;rw [geti, if_pos n33] at this ⊢;rw [List.getElem?_set, if_neg hne];exact this
         refine JC.block (JC.drawW ?_);refine DW.t00 rfl rfl rfl (o_move rfl) ⟨rfl, trivial⟩ ?_;refine DW.t00 rfl rfl rfl (o_move rfl) ⟨rfl, trivial⟩ ?_;refine DW.t00 rfl rfl rfl (o_move rfl) ⟨rfl, trivial⟩ ?_;refine DW.t00 rfl rfl rfl (o_move rfl) ⟨rfl, trivial⟩ ?_;refine DW.t00 rfl rfl rfl (o_sub rfl ex33) ⟨rfl, rfl, trivial⟩ ?_;refine DW.t00 rfl rfl rfl (o_move rfl) ⟨rfl, trivial⟩ ?_;refine DW.t00 rfl rfl rfl (o_move rfl) ⟨rfl, trivial⟩ ?_;refine DW.t00 rfl rfl rfl (o_sub rfl ex33) ⟨rfl, rfl, trivial⟩ ?_;refine DW.t11 0 rfl rfl rfl rfl (o_index_own (t := .val) rfl U78 sz22 (vl_geti ex35)) ⟨rfl, rfl, trivial⟩ ?_;refine DW.t11 0 rfl rfl rfl rfl (o_load_el (t := .val) (i := Int.toNat x33) (off := 0) rfl sz22 (fun _ => rfl) rfl (geti_q' (vl_geti ex35)).2 rfl) ⟨rfl, trivial⟩ ?_;refine DW.t00 rfl rfl rfl (o_move rfl) ⟨rfl, trivial⟩ ?_;refine DW.t00 rfl rfl rfl (o_move rfl) ⟨rfl, trivial⟩ ?_;refine DW.t11 0 rfl rfl rfl rfl (o_index_own (t := .val) rfl U78 sz22 (vl_geti ex36)) ⟨rfl, rfl, trivial⟩ ?_;refine DW.t11 0 rfl rfl rfl rfl (o_load_el (t := .val) (i := Int.toNat y25.2) (off := 0) rfl sz22 (fun _ => rfl) rfl (geti_q' (vl_geti ex36)).2 rfl) ⟨rfl, trivial⟩ ?_;refine DW.t11 0 rfl rfl rfl rfl (o_index_own (t := .val) rfl U78 sz22 (vl_geti ex36)) ⟨rfl, rfl, trivial⟩ ?_;refine DW.fin 15 [true, true, false, false, false, true, true, true, true, true, true, true, true, true, true] [79] [] [] rfl (by kernel_rfl) (by kernel_rfl) (by kernel_rfl) mixed (fun vs hv hB => ?_);obtain ⟨w0, vs1, rfl, hv1⟩ := len_cons hv;obtain ⟨w1, vs2, rfl, hv2⟩ := len_cons hv1;obtain ⟨w2, vs3, rfl, hv3⟩ := len_cons hv2;obtain ⟨w3, vs4, rfl, hv4⟩ := len_cons hv3;obtain ⟨w4, vs5, rfl, hv5⟩ := len_cons hv4;obtain ⟨w5, vs6, rfl, hv6⟩ := len_cons hv5;obtain ⟨w6, vs7, rfl, hv7⟩ := len_cons hv6;obtain ⟨w7, vs8, rfl, hv8⟩ := len_cons hv7;obtain ⟨w8, vs9, rfl, hv9⟩ := len_cons hv8;obtain ⟨w9, vs10, rfl, hv10⟩ := len_cons hv9;obtain ⟨w10, vs11, rfl, hv11⟩ := len_cons hv10;obtain ⟨w11, vs12, rfl, hv12⟩ := len_cons hv11;obtain ⟨w12, vs13, rfl, hv13⟩ := len_cons hv12;obtain ⟨w13, vs14, rfl, hv14⟩ := len_cons hv13;obtain ⟨w14, vs15, rfl, hv15⟩ := len_cons hv14;obtain rfl := len_nil hv15;refine ⟨List.range (D.sl z2.1 22 .val (vlF z26 0 y25.1) :: owF z26 0 y25.1).length, .sl z2.1 22 .val (vlF z26 0 y25.1) :: owF z26 0 y25.1, ?pick, List.nodup_range, ?_⟩
         case pick =>
          unfold endD;rw [NM.keep (by simp only [List.reverse_cons, List.reverse_nil, List.nil_append, List.cons_append]; repeat (first | exact trivial | refine ⟨⟨fun k => by simp [eats], rfl⟩, ?_⟩))];show pickD ((D.sl z2.1 22 .val (vlF z26 0 y25.1) :: owF z26 0 y25.1) ++ []) _ = some _;rw [List.append_nil];exact pickD_all
         refine JT.n11 rfl rfl (o_store_elW (t := .val) (i := Int.toNat y25.2) rfl sz22 rfl (by rw [hlv]; exact hl25) rfl (.val o35) o35) ⟨rfl, rfl, trivial⟩ (by kernel_rfl) ?_;refine JT.y11 rfl rfl rfl rfl (o_index_own (t := .val) rfl U78 sz22 g38) ⟨rfl, rfl, trivial⟩ (by kernel_rfl) ?_;refine JT.n11 rfl rfl (o_store_elW (t := .val) (i := Int.toNat x33) rfl sz22 rfl (by rw [List.length_set, hlv]; exact hl33) rfl (.val o36) o36) ⟨rfl, rfl, trivial⟩ (by kernel_rfl) ?_;refine JT.nil ?_;refine JN.se (SE.pf (Γ' := [(5, .eq z2.1), (9, I y21.2), (10, I y25.2)]) (Δ' := .sl z2.1 22 .val (vlF (swpV z26 y25.2.toNat x33.toNat) 0 (List.set (List.set y25.1 (Int.toNat y25.2) x35) (Int.toNat x33) x36)) :: owF (swpV z26 y25.2.toNat x33.toNat) 0 (List.set (List.set y25.1 (Int.toNat y25.2) x35) (Int.toNat x33) x36)) (junk := []) ⟨rfl, rfl, rfl, trivial⟩ ?perm5) ?_
         case perm5 =>
          rw [List.append_nil, vlF_swap q36 q35 hne];exact (owF_swap q36 q35 hne).symm.cons _
         refine JN.blk_n (tn (JC.region (mq ?_)));obtain ⟨x39, ex39, h⟩ := b_bind h;refine jb (o_sub rfl ex39) ?_;refine aq (nl ?_);exact JN.z (swpV z26 y25.2.toNat x33.toNat, (List.set (List.set y25.1 (Int.toNat y25.2) x35) (Int.toNat x33) x36, x39)) h (SE.pf ⟨rfl, rfl, rfl, trivial⟩ perm0)
        ·refine JC.exit (JN.then_x (JN.then_x (JN.blk_hit (bn ?_))));exact JN.z (z26, y25.1) h (SE.pf ⟨rfl, rfl, trivial⟩ perm0)
      ·refine JC.region (mq ?_);obtain ⟨x40, ex40, h⟩ := b_bind h;refine jb (o_add rfl ex40) ?_;refine aq (nl ?_);exact JN.z (z24, (x23, x40)) h (SE.pf ⟨rfl, rfl, trivial⟩ perm0)
     ·rw [vlF_len] at hb;replace h := b_ifn (d_f hb) h;refine xa ?_;exact JN.z (z22, y21.1) h (SE.pf ⟨rfl, trivial⟩ perm0)
    ·refine sr (mq ?_);refine aq (nt (JC.ret ?_));cases h;exact JN.retA (z2.1, z20) [_] ⟨rfl, trivial⟩ rfl

theorem kit_Picks_ok (k : Nat) (n : Nat) (a0 : Int) (a1 : Int) (r : (List (List Int))) (h : kit_Picks k n a0 a1 = some r) : Ctr Try.prog 56 [I a0, I a1] [] (fun z : Value => (resA [.eq z], [.sl z 22 (.slice (.int .i64)) r])) := (kit_Picks_own k n a0 a1 r h).frzAll


def law_freed_l1 (k : Nat) (a1 : (List Int)) : Nat → ((List dThing) × Int) → Option (List dThing)
 | 0, _ => none
 | n + 1, y8 =>
  if y8.2 < (a1.length : Int) then ((geti a1 y8.2).bind fun x10 =>
  (geti y8.1 x10).bind fun x11 =>
  (ck (y8.2 + (1 : Int))).bind fun x12 =>
  law_freed_l1 k a1 n (List.set y8.1 (Int.toNat x10) (x11.1, x11.2.1, x11.2.2.1, x11.2.2.2.1, (0 : Int)), x12)) else (some y8.1)
def law_freed (k : Nat) (a0 : dChange) (a1 : (List Int)) : Option dChange :=
 (kit_CopyChange k a0).bind fun r3 =>
 ((law_freed_l1 k a1 k (r3.1, (0 : Int))) : Option ((List dThing))).bind fun x6 =>
 some (x6, r3.2.1, r3.2.2.1, r3.2.2.2)

theorem law_freed_ok (k : Nat) (a0 : dChange) (a1 : (List Int)) (r : dChange) (h : law_freed k a0 a1 = some r) :
 Ctr Try.prog 57 [.rep tChange a0, Ri a1] [] (fun _ : Unit => (resA [.rep tChange r], [])) := by
 unfold law_freed at h;replace h := b_top h;refine Ctr.of 24 Try.func57 rfl Try.ntmps57 rfl fun S w0 => ?_;refine sr (bx fun b1 => ?_);refine JO.s01 rfl rfl rfl (o_alloc rfl za28 al28) trivial fun b2 => ?_;refine nt (sr (fr 1 ?_));refine lo sz28 ?_;obtain ⟨r3, er3, h⟩ := b_bind h;refine JO.stepG (Δ := []) (F := _) (fun _ _ _ => wanted_none rfl _) rfl rfl (o_call [.tmp 7] rfl rfl en27 rfl (kit_CopyChange_ok k a0 r3 er3)) ⟨rfl, trivial⟩ fun z4 => ?_;refine JO.s01 rfl rfl rfl (o_alloc rfl za28 al28) trivial fun b5 => ?_;refine JO.n11 rfl rfl (o_store rfl sz28 trivial rfl rfl) ⟨rfl, rfl, trivial⟩ ?_;refine nt (JC.cutB (Z := Unit) (α := (List dThing)) (fun z7 x6 => [(4, Pt b2), (5, Pt b5)]) (fun z7 x6 => [.obj b2 28 N4, .obj b5 28 (.agg (.pair (.eq z4.1) (.pair (.eq z4.2) (.pair (Ri r3.2.2.1) (Ri r3.2.2.2))))), .sl z4.1 45 tThing x6, .sl z4.2 53 tDresser r3.2.1]) h (fun K h => ?_) (fun z7 x6 h => ?_))
 ·refine sr (cq (nt (JC.block ?_)));refine JC.loopB (Z := Unit) (α := (List dThing) × Int) (fun z9 y8 => [(1, Ri a1), (4, Pt b2), (5, Pt b5), (6, I y8.2)]) (fun z9 y8 => [.obj b2 28 N4, .obj b5 28 (.agg (.pair (.eq z4.1) (.pair (.eq z4.2) (.pair (Ri r3.2.2.1) (Ri r3.2.2.2))))), .sl z4.1 45 tThing y8.1, .sl z4.2 53 tDresser r3.2.1]) (law_freed_l1 k a1) k () (r3.1, (0 : Int)) (fun _ => rfl) h (SE.fin [4, 0, 1, 2] ⟨rfl, rfl, rfl, rfl, trivial⟩ rfl) (fun n z9 y8 h => ?_);unfold law_freed_l1 at h;refine JC.seq (sr ?_);iterate 2 refine mq ?_
  refine ol U22 ?_;refine jb (o_lss rfl) ?_;refine nt (ci h (fun h => ?_) (fun h => ?_))
  ·refine sk (JC.seq (JC.block (JC.drawN ?_)));refine da (o_field_obj rfl fo28_0) ?_;refine ea 1 (o_load_obj rfl sz25 nfs rfl) ?_;refine dm ?_;refine dm ?_;obtain ⟨x10, ex10, h⟩ := b_bind h;refine db (o_index (t := (.int .i64)) rfl U22 sz3 ex10) ?_;refine da (o_load_at (t := (.int .i64)) rfl sz3 rfl) ?_;refine df mixed ?_;obtain ⟨x11, ex11, h⟩ := b_bind h;refine fr 2 ?_;refine kb (o_index_own (t := tThing) rfl U25 sz45 ex11) ?_;refine ka (o_field_el rfl fo45_4 (geti_ne ex11)) ?_;refine JO.n11 rfl rfl (o_store_el (i := Int.toNat x10) (off := 4) rfl sz3 rfl (geti_some ex11).2.2 .int rfl (.agg (.right (.right (.right (.right .whole rfl) rfl) rfl) rfl))) ⟨rfl, rfl, trivial⟩ ?_;refine JO.nil (JN.blk_n (tn (JC.region (mq ?_))));obtain ⟨x12, ex12, h⟩ := b_bind h;refine jb (o_add rfl ex12) ?_;refine aq (nl ?_);exact jz ((), (List.set y8.1 (Int.toNat x10) (x11.1, x11.2.1, x11.2.2.1, x11.2.2.2.1, (0 : Int)), x12)) h [1, 2, 0, 3]
  ·refine xa ?_;exact jz ((), y8.1) h [0, 1, 2, 3]
 ·refine sr (fr 1 ?_);refine fr 2 ?_;refine JO.se (SE.frzBoth (off := 0) [] trivial rfl rfl) ?_;refine fr 2 ?_;refine JO.se (SE.frzBoth (off := 1) [] trivial rfl rfl) ?_;refine lo sz28 ?_;refine fr 1 ?_;refine JO.n11 rfl rfl (o_store rfl sz28 trivial rfl rfl) ⟨rfl, rfl, trivial⟩ ?_;refine nt (JC.ret (JN.se (SE.objE (a := .agg (.pair (Rs tThing x6) (.pair (Rs tDresser r3.2.1) (.pair (Ri r3.2.2.1) (Ri r3.2.2.2))))) (a' := .rep tChange (x6, r3.2.1, r3.2.2.1, r3.2.2.2)) (AE.ent (.agg (.pair .rep (.pair .rep (.pair .rep .rep)))))) ?_));cases h;exact JN.ret () [.rep tChange (x6, r3.2.1, r3.2.2.1, r3.2.2.2)] 0 ⟨⟨_, _, _, _, _, rfl, (.head _), sz28, (nfn), rfl⟩, trivial⟩ rfl


def law_ChangeGives_l2 (k : Nat) (r3 : dChange × dLots) (r5 : (List Int) × Int) (r12 : (List (List Int))) : Nat → Int → Option (Except Bool Unit)
 | 0, _ => none
 | n + 1, y14 =>
  if y14 < (r12.length : Int) then ((geti r12 y14).bind fun x16 =>
  (law_freed k r3.1 x16).bind fun r17 =>
  (chg_Kept k r17).bind fun r18 =>
  if r18.2 = (0 : Int) then (((if r5.2 = (0 : Int) then ((geti r12 y14).bind fun x21 =>
  (kit_SameInts k r5.1 x21).bind fun r22 =>
  if r22 = true then ((law_dressed k).bind fun r23 =>
  some r23) else (some false)) else (some false)) : Option (Bool)).bind fun x19 =>
  some (.error x19)) else (if ¬ (r18.2 = (11 : Int)) then (some (.error false)) else ((ck (y14 + (1 : Int))).bind fun x24 =>
  law_ChangeGives_l2 k r3 r5 r12 n x24))) else (some (.ok ()))

def law_ChangeGives_l1 (k : Nat) (r3 : dChange × dLots) (r5 : (List Int) × Int) : Nat → Int → Option (Except Bool Unit)
 | 0, _ => none
 | n + 1, y8 =>
  if y8 ≤ (r3.1.1.length : Int) then (bE (α := Unit) ((kit_Picks k k (r3.1.1.length : Int) y8).bind fun r12 =>
  law_ChangeGives_l2 k r3 r5 r12 k (0 : Int)) (fun e => some (.error e)) fun _ =>
  (ck (y8 + (1 : Int))).bind fun x25 =>
  law_ChangeGives_l1 k r3 r5 n x25) else (some (.ok ()))
def law_ChangeGives (k : Nat) (a0 : (List Int)) : Option Bool :=
 (kit_NewLots k a0).bind fun r1 =>
 (kit_ChangeOf k (r1.1, r1.2.1, r1.2.2)).bind fun r3 =>
 (chg_Gives k r3.1).bind fun r5 =>
 bE (α := Unit) (law_ChangeGives_l1 k r3 r5 k (0 : Int)) (some) fun _ =>
 ((if r5.2 = (11 : Int) then (if (r5.1.length : Int) = (0 : Int) then ((law_dressed k).bind fun r28 =>
 some r28) else (some false)) else (some false)) : Option (Bool)).bind fun x26 =>
 some x26

theorem law_ChangeGives_ok (k : Nat) (a0 : (List Int)) (r : Bool) (h : law_ChangeGives k a0 = some r) :
 Ctr Try.prog 15 [Ri a0] [] (fun _ : Unit => (resA [.eq (.bool r)], [])) := by
 unfold law_ChangeGives at h;replace h := b_top h;refine Ctr.of 74 Try.func15 rfl Try.ntmps15 rfl fun S w0 => ?_;refine sr (cq (nt (sr ?_)));refine mq ?_;obtain ⟨r1, er1, h⟩ := b_bind h;refine JO.s01 rfl rfl rfl (o_call [.tmp 11] rfl rfl en17 rfl (kit_NewLots_ok k a0 r1 er1)) ⟨rfl, trivial⟩ fun b2 => ?_;obtain ⟨r3, er3, h⟩ := b_bind h;refine ka (o_call [.tmp 12] rfl rfl en18 rfl (kit_ChangeOf_ok k (r1.1, r1.2.1, r1.2.2) b2 r3 er3)) ?_;refine JO.s01 rfl rfl rfl (o_alloc rfl za28 al28) trivial fun b4 => ?_;refine JO.n11 rfl rfl (o_store rfl sz28 rfl rfl rfl) ⟨rfl, rfl, trivial⟩ ?_;refine nt (sr (lo sz28 ?_));obtain ⟨r5, er5, h⟩ := b_bind h;refine ja (o_call [.tmp 15] rfl rfl en55 rfl (chg_Gives_ok k r3.1 r5 er5)) ?_;refine mq ?_;refine xr ?_;refine xr ?_;refine aq ?_;refine aq (nt ?_);refine JC.cutE (Z := Unit) (α := Unit) (fun z7 x6 => [(4, Ri r5.1), (5, I r5.2)]) (fun z7 x6 => []) (fun e => e = r) h (fun e h => Option.some.inj h) (fun K hR h => ?_) (fun z7 x6 h => ?_)
 ·refine sr (cq (nt (JC.block ?_)));refine JC.loopB (Z := Unit) (α := Int) (fun z9 y8 => [(3, Pt b4), (4, Ri r5.1), (5, I r5.2), (6, I y8)]) (fun z9 y8 => [.obj b4 28 (.rep tChange r3.1)]) (law_ChangeGives_l1 k r3 r5) k () (0 : Int) (fun _ => rfl) h (SE.fin [0] ⟨rfl, rfl, rfl, rfl, trivial⟩ rfl) (fun n z9 y8 h => ?_);unfold law_ChangeGives_l1 at h;refine JC.seq (sr (mq ?_));refine fl fo28_0 ?_;refine lo sz25 ?_;refine ol U25 ?_;refine jb (o_leq rfl) ?_;refine nt (ci h (fun h => ?_) (fun h => ?_))
  ·refine sk (JC.cutE (Z := Unit) (α := Unit) (fun z11 x10 => [(3, Pt b4), (4, Ri r5.1), (5, I r5.2), (6, I y8)]) (fun z11 x10 => [.obj b4 28 (.rep tChange r3.1)]) (fun e => e = r) h (fun e h => hR e h) (fun K hR h => ?_) (fun z11 x10 h => ?_))
   ·refine JC.block (sr (fl fo28_0 ?_));refine lo sz25 ?_;refine ol U25 ?_;refine mq ?_;obtain ⟨r12, er12, h⟩ := b_bind h;refine JO.s01 rfl rfl rfl (o_call [.tmp 28, .tmp 29] rfl rfl en56 rfl (kit_Picks_ok k k (r3.1.1.length : Int) y8 r12 er12)) ⟨rfl, rfl, trivial⟩ fun v13 => ?_;refine aq (nt (sr ?_));refine cq (nt (JC.block ?_));refine JC.loopB (Z := Unit) (α := Int) (fun z15 y14 => [(3, Pt b4), (4, Ri r5.1), (5, I r5.2), (6, I y8), (7, .eq v13), (8, I y14)]) (fun z15 y14 => [.obj b4 28 (.rep tChange r3.1), .sl v13 22 (.slice (.int .i64)) r12]) (law_ChangeGives_l2 k r3 r5 r12) k () (0 : Int) (fun _ => rfl) h (SE.fin [1, 0] ⟨rfl, rfl, rfl, rfl, rfl, rfl, trivial⟩ rfl) (fun n z15 y14 h => ?_);unfold law_ChangeGives_l2 at h;refine JC.seq (sr ?_);iterate 2 refine mq ?_
    refine fr 1 ?_;refine ka (o_len_own rfl rfl U78) ?_;refine jb (o_lss rfl) ?_;refine nt (ci h (fun h => ?_) (fun h => ?_))
    ·refine sk (JC.seq (JC.block (JC.seq (JC.drawN ?_))));refine ea 1 (o_load_obj rfl sz28 (nfn) rfl) ?_;refine dm ?_;refine dm ?_;obtain ⟨x16, ex16, h⟩ := b_bind h;refine eb 0 (o_index_own (t := (.slice (.int .i64))) rfl U78 sz22 ex16) ?_;refine ea 0 (o_load_el (i := Int.toNat y14) (off := 0) rfl sz22 (fun _ => rfl) rfl (geti_some ex16).2.2 rfl) ?_;obtain ⟨r17, er17, h⟩ := b_bind h;refine db (o_call [.tmp 38, .tmp 42] rfl rfl en57 rfl (law_freed_ok k r3.1 x16 r17 er17)) ?_;obtain ⟨r18, er18, h⟩ := b_bind h;refine da (o_call [.tmp 43] rfl rfl en41 rfl (chg_Kept_ok k r17 r18 er18)) ?_;refine dm ?_;refine da (o_extract rfl rfl) ?_;refine da (o_extract rfl rfl) ?_;refine da (o_assign rfl) ?_;refine df mixed ?_;refine aq (nt (JC.seq (sr ?_)));refine mq ?_;refine jb (o_eql rfl) ?_;refine nt (ci h (fun h => ?_) (fun h => ?_))
     ·refine JC.cutB (Z := Unit) (α := Bool) (fun z20 x19 => [(2, .eq (.bool x19))]) (fun z20 x19 => []) h (fun K h => ?_) (fun z20 x19 h => ?_)
      ·refine JC.region (mq ?_);refine jb (o_eql rfl) ?_;refine mq ?_;refine JO.bool (s := 51) rfl (fun hb => ?_) (fun hb => ?_)
       ·replace h := b_if (d_t hb) h;refine gm ?_;refine gm ?_;refine gm ?_;obtain ⟨x21, ex21, h⟩ := b_bind h;refine JO.g11 rfl rfl rfl rfl rfl rfl (o_index_own (t := (.slice (.int .i64))) rfl U78 sz22 ex21) ⟨rfl, rfl, trivial⟩ ?_;refine JO.g11 rfl rfl rfl rfl rfl rfl (o_load_el (i := Int.toNat y14) (off := 0) rfl sz22 (fun _ => rfl) rfl (geti_some ex21).2.2 rfl) ⟨rfl, trivial⟩ ?_;obtain ⟨r22, er22, h⟩ := b_bind h;refine gb (o_call [.tmp 52, .tmp 56] rfl rfl en40 rfl (kit_SameInts_ok k r5.1 x21 r22 er22)) ?_;refine pt ?_;refine mq ?_;refine JO.bool (s := 59) rfl (fun hb => ?_) (fun hb => ?_)
        ·replace h := b_if (v_t hb) h;obtain ⟨r23, er23, h⟩ := b_bind h;refine JO.g00 rfl rfl rfl rfl rfl rfl (o_call [] rfl rfl en22 rfl (law_dressed_ok k  r23 er23)) trivial ?_;refine pt ?_;refine aq (nl ?_);exact jz ((), r23) h []
        ·replace h := b_ifn (v_f hb) h;refine gn ?_;refine pf ?_;refine aq (nl ?_);exact jz ((), false) h []
       ·replace h := b_ifn (d_f hb) h;iterate 6 refine gn ?_
        refine pf ?_;refine mq ?_;refine gn ?_;refine pf ?_;refine aq (nl ?_);exact jz ((), false) h []
      ·refine rx (br (JN.blk_r (br (JN.blk_r (JN.then_r ?_)))));obtain rfl := hR _ h;exact ra
     ·refine sk (sr (mq ?_));refine jb (o_neq rfl) ?_;refine nt (cn h (fun h => ?_) (fun h => ?_))
      ·refine sr (cq (nt (JC.ret (br (JN.blk_r (br (JN.blk_r (JN.then_r ?_))))))));obtain rfl := hR _ h;exact ra
      ·refine JC.skip (JN.blk_n (tn (JC.region (mq ?_))));obtain ⟨x24, ex24, h⟩ := b_bind h;refine jb (o_add rfl ex24) ?_;refine aq (nl ?_);exact jz ((), x24) h [1, 0]
    ·refine JC.exit (JN.then_x (JN.then_x (JN.blk_hit (bn ?_))));exact jz ((), ()) h [1]
   ·refine JC.region (mq ?_);obtain ⟨x25, ex25, h⟩ := b_bind h;refine jb (o_add rfl ex25) ?_;refine aq (nl ?_);exact jz ((), x25) h [0]
  ·refine xa ?_;exact jz ((), ()) h []
 ·refine JC.cutB (Z := Unit) (α := Bool) (fun z27 x26 => [(2, .eq (.bool x26))]) (fun z27 x26 => []) h (fun K h => ?_) (fun z27 x26 h => ?_)
  ·refine JC.region (mq ?_);refine jb (o_eql rfl) ?_;refine mq ?_;refine JO.bool (s := 66) rfl (fun hb => ?_) (fun hb => ?_)
   ·replace h := b_if (d_t hb) h;refine gm ?_;refine ga (o_len rfl rfl U22) ?_;refine gb (o_eql rfl) ?_;refine pt ?_;refine mq ?_;refine JO.bool (s := 71) rfl (fun hb => ?_) (fun hb => ?_)
    ·replace h := b_if (d_t hb) h;obtain ⟨r28, er28, h⟩ := b_bind h;refine JO.g00 rfl rfl rfl rfl rfl rfl (o_call [] rfl rfl en22 rfl (law_dressed_ok k  r28 er28)) trivial ?_;refine pt ?_;refine aq (nl ?_);exact jz ((), r28) h []
    ·replace h := b_ifn (d_f hb) h;refine gn ?_;refine pf ?_;refine aq (nl ?_);exact jz ((), false) h []
   ·replace h := b_ifn (d_f hb) h;iterate 3 refine gn ?_
    refine pf ?_;refine mq ?_;refine gn ?_;refine pf ?_;refine aq (nl ?_);exact jz ((), false) h []
  ·refine JC.ret ?_;cases h;exact ra


end Go.Proofs.Ytfhdclhbdmhnmaa
