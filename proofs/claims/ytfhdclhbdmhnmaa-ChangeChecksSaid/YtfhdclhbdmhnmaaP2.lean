/- The program's functions, part 2: what each computes, and that the code computes it. Printed by a program of this proof's own. -/
import Derived.Test.YtfhdclhbdmhnmaaP1
set_option linter.unusedVariables false
set_option maxRecDepth 4000
namespace Go.Proofs.Ytfhdclhbdmhnmaa
open K Go Go.Proofs
def chg_Begins (k : Nat) (a0 : dChange) (a1 : (List dStep)) : Option ((List Int) × Int) :=
 (chg_asked k a0 a1).bind fun r2 =>
 casesO r2.1 (if ¬ (r2.2 = (0 : Int)) then (some ([], r2.2)) else (none)) (fun q3 => if ¬ (r2.2 = (0 : Int)) then (some ([], r2.2)) else ((chg_quick_begins k ((q3.1.1, q3.1.2.1, q3.1.2.2.1, q3.1.2.2.2), q3.2.1, q3.2.2) a1).bind fun r5 =>
 some (r5.1, (0 : Int))))

theorem chg_Begins_ok (k : Nat) (a0 : dChange) (a1 : (List dStep)) (r : (List Int) × Int) (h : chg_Begins k a0 a1 = some r) :
 Ctr Try.prog 20 [.rep tChange a0, .rep (.slice tStep) a1] [] (fun _ : Unit => (resA [.rep (.slice (.int .i64)) r.1, .eq (.int .i64 r.2)], [])) := by
 unfold chg_Begins at h
 replace h := b_top h
 refine Ctr.of 26 Try.func20 rfl Try.ntmps20 rfl fun S w0 => ?_
 refine sr ?_
 refine JO.s01 rfl rfl rfl (o_box rfl rfl) ⟨rfl, trivial⟩ fun b1 => ?_
 refine cq ?_
 refine cq ?_
 refine nt ?_
 refine sr ?_
 refine ka (o_load_obj rfl sz28 (nfn) rfl) ?_
 refine mq ?_
 obtain ⟨r2, er2, h⟩ := b_bind h
 have cr2 := chg_asked_ok k a0 a1 r2 er2
 rcases hr : r2.1 with _ | q3
 ·
  rw [hr] at h cr2; replace h := co_n h
  refine JO.stepG (Δ := []) (F := _) (fun _ _ _ => wanted_none rfl _) rfl rfl (o_call [.tmp 11, .tmp 12] rfl rfl en64 rfl cr2) ⟨rfl, rfl, trivial⟩ fun _ => ?_
  refine mq ?_
  refine ja (o_extract rfl rfl) ?_
  refine ja (o_extract rfl rfl) ?_
  refine aq ?_
  refine aq ?_
  refine nt ?_
  refine JC.seq ?_
  refine sr ?_
  refine mq ?_
  refine jb (o_neq rfl) ?_
  refine nt ?_
  refine JC.cond rfl (fun hb => ?_) (fun hb => ?_)
  ·
   replace h := b_if (n_t hb) h
   refine sr ?_
   refine mq ?_
   refine cq ?_
   refine aq ?_
   refine nt ?_
   refine JC.ret ?_
   refine JN.then_r ?_
   refine JN.se (SE.ent (t := (.slice (.int .i64))) (x := []) 4 rfl .nil rfl rfl) ?_
   obtain rfl := Option.some.inj h
   exact JN.ret () [_, _] 0 ⟨rfl, rfl, trivial⟩ rfl
  ·
   replace h := b_ifn (n_fn hb) h
   refine JC.skip ?_
   refine JN.then_n ?_
   show JC _ _ _ _ _
   refine sr ?_
   iterate 2 refine mq ?_
   cases h
 ·
  rw [hr] at h cr2; replace h := co_s h
  refine JO.stepG (Δ := []) (F := _) (fun _ _ _ => wanted_none rfl _) rfl rfl (o_call [.tmp 11, .tmp 12] rfl rfl en64 rfl cr2) ⟨rfl, rfl, trivial⟩ fun z4 => ?_
  refine mq ?_
  refine ja (o_extract rfl rfl) ?_
  refine ja (o_extract rfl rfl) ?_
  refine aq ?_
  refine aq ?_
  refine nt ?_
  refine JC.seq ?_
  refine sr ?_
  refine mq ?_
  refine jb (o_neq rfl) ?_
  refine nt ?_
  refine JC.cond rfl (fun hb => ?_) (fun hb => ?_)
  ·
   replace h := b_if (n_t hb) h
   refine sr ?_
   refine mq ?_
   refine cq ?_
   refine aq ?_
   refine nt ?_
   refine JC.ret ?_
   refine JN.then_r ?_
   refine JN.se (SE.ent (t := (.slice (.int .i64))) (x := []) 4 rfl .nil rfl rfl) ?_
   obtain rfl := Option.some.inj h
   exact JN.ret () [_, _] 0 ⟨rfl, rfl, trivial⟩ rfl
  ·
   replace h := b_ifn (n_fn hb) h
   refine JC.skip ?_
   refine JN.then_n ?_
   show JC _ _ _ _ _
   refine sr ?_
   iterate 2 refine mq ?_
   obtain ⟨r5, er5, h⟩ := b_bind h
   have cr5 := chg_quick_begins_ok k ((q3.1.1, q3.1.2.1, q3.1.2.2.1, q3.1.2.2.2), q3.2.1, q3.2.2) z4.1 (.map (some z4.2)) a1 r5 er5
   refine kb (o_call [.tmp 20, .tmp 21] rfl rfl en65 rfl cr5) ?_
   refine mq ?_
   refine ja (o_extract rfl rfl) ?_
   refine ja (o_extract rfl rfl) ?_
   refine JO.s01 rfl rfl rfl (o_alloc rfl za101 al101) trivial fun b6 => ?_
   refine aq ?_
   refine JO.n11 rfl rfl (o_store rfl sz101 rfl rfl rfl) ⟨rfl, rfl, trivial⟩ ?_
   refine nt ?_
   refine sr ?_
   refine mq ?_
   refine aq ?_
   refine cq ?_
   refine nt ?_
   refine JC.ret ?_
   obtain rfl := Option.some.inj h
   exact JN.ret () [_, _] 0 ⟨rfl, rfl, trivial⟩ rfl


def chg_quick_late_l1 (k : Nat) (a0 : (dChange × (List (Bool × Int)) × (List Int))) (a1 : (List dStep)) (a2 : Int) (r1 : (List Int) × (List Int)) : Nat → Int → Option (Except (Int × Int) Unit)
 | 0, _ => none
 | n + 1, y5 =>
  if y5 < (a1.length : Int) then ((geti a1 y5).bind fun x7 =>
  (geti a0.2.1 x7.1).bind fun x9 =>
  (cond x9.1 (chg_on_thing k x9.2) (chg_off_thing k x9.2)).bind fun r10 =>
  (geti a0.1.1 r10).bind fun x11 =>
  ((if x9.1 = true then (if (0 : Int) < x11.2.2.2.2 then ((chkP (0 ≤ x7.1 ∧ x7.1 < 4)).bind fun _ =>
  (geti r1.2 x7.1).bind fun x15 =>
  if x11.2.2.2.2 < x15 then ((cond x9.1 (chg_on_thing k x9.2) (chg_off_thing k x9.2)).bind fun r16 =>
  (chg_set_has k a2 r16).bind fun r17 =>
  some (!r17)) else (some false)) else (some false)) else (some false)) : Option (Bool)).bind fun x12 =>
  if x12 = true then (some (.error (y5, x11.2.2.2.2))) else ((ck (y5 + (1 : Int))).bind fun x18 =>
  chg_quick_late_l1 k a0 a1 a2 r1 n x18)) else (some (.ok ()))
def chg_quick_late (k : Nat) (a0 : (dChange × (List (Bool × Int)) × (List Int))) (a1 : (List dStep)) (a2 : Int) : Option (Int × Int) :=
 (chg_quick_begins k ((a0.1.1, a0.1.2.1, a0.1.2.2.1, a0.1.2.2.2), a0.2.1, a0.2.2) a1).bind fun r1 =>
 bE (α := Unit) (chg_quick_late_l1 k a0 a1 a2 r1 k (0 : Int)) (some) fun _ =>
 some ((-1 : Int), (0 : Int))

theorem chg_quick_late_ok (k : Nat) (a0 : (dChange × (List (Bool × Int)) × (List Int))) (b_a0 : Nat) (m_a0 : Value) (a1 : (List dStep)) (a2 : Int) (r : Int × Int) (h : chg_quick_late k a0 a1 a2 = some r) :
 Ctr Try.prog 66 [.eq (.pointer (some ⟨b_a0, 0, none⟩)), .rep (.slice tStep) a1, .eq (.int .u8 a2)] [.obj b_a0 120 (.agg (.pair (.agg (.pair (.rep (.slice tThing) a0.1.1) (.pair (.rep (.slice tDresser) a0.1.2.1) (.pair (.rep (.slice (.int .i64)) a0.1.2.2.1) (.rep (.slice (.int .i64)) a0.1.2.2.2))))) (.pair (.rep (.slice (.tag 131 133)) a0.2.1) (.pair (.rep (.arr 8 (.int .u8)) a0.2.2) (.eq m_a0)))))] (fun _ : Unit => (resA [.eq (.int .i64 r.1), .eq (.int .i64 r.2)], [.obj b_a0 120 (.agg (.pair (.agg (.pair (.rep (.slice tThing) a0.1.1) (.pair (.rep (.slice tDresser) a0.1.2.1) (.pair (.rep (.slice (.int .i64)) a0.1.2.2.1) (.rep (.slice (.int .i64)) a0.1.2.2.2))))) (.pair (.rep (.slice (.tag 131 133)) a0.2.1) (.pair (.rep (.arr 8 (.int .u8)) a0.2.2) (.eq m_a0)))))])) := by
 unfold chg_quick_late at h
 replace h := b_top h
 refine Ctr.of 75 Try.func66 rfl Try.ntmps66 rfl fun S w0 => ?_
 refine sr ?_
 refine cq ?_
 refine cq ?_
 refine nt ?_
 refine sr ?_
 iterate 2 refine mq ?_
 obtain ⟨r1, er1, h⟩ := b_bind h
 have cr1 := chg_quick_begins_ok k ((a0.1.1, a0.1.2.1, a0.1.2.2.1, a0.1.2.2.2), a0.2.1, a0.2.2) b_a0 m_a0 a1 r1 er1
 refine kb (o_call [.tmp 17, .tmp 18] rfl rfl en65 rfl cr1) ?_
 refine mq ?_
 refine ja (o_extract rfl rfl) ?_
 refine ja (o_extract rfl rfl) ?_
 refine JO.s01 rfl rfl rfl (o_alloc rfl za101 al101) trivial fun b2 => ?_
 refine aq ?_
 refine JO.n11 rfl rfl (o_store rfl sz101 rfl rfl rfl) ⟨rfl, rfl, trivial⟩ ?_
 refine nt ?_
 refine JC.cutE (Z := Unit) (α := Unit) (fun z4 x3 => []) (fun z4 x3 => [.obj b_a0 120 (.agg (.pair (.agg (.pair (.rep (.slice tThing) a0.1.1) (.pair (.rep (.slice tDresser) a0.1.2.1) (.pair (.rep (.slice (.int .i64)) a0.1.2.2.1) (.rep (.slice (.int .i64)) a0.1.2.2.2))))) (.pair (.rep (.slice (.tag 131 133)) a0.2.1) (.pair (.rep (.arr 8 (.int .u8)) a0.2.2) (.eq m_a0)))))]) (fun e => e = r) h (fun e h => Option.some.inj h) (fun K hR h => ?_) (fun z4 x3 h => ?_)
 ·
  refine sr ?_
  refine mq ?_
  refine ja (o_len rfl rfl Try.underlying30) ?_
  refine JO.mc rfl ?_
  refine nt ?_
  refine JC.block ?_
  refine JC.loopB (Z := Unit) (α := Int) (fun z6 y5 => [(0, .eq (.pointer (some ⟨b_a0, 0, none⟩))), (2, .eq (.int .u8 a2)), (9, .eq (.pointer (some ⟨b2, 0, none⟩))), (22, .rep (.slice tStep) a1), (23, .eq (.int .i64 (a1.length : Int))), (24, .eq (.int .i64 y5))]) (fun z6 y5 => [.obj b_a0 120 (.agg (.pair (.agg (.pair (.rep (.slice tThing) a0.1.1) (.pair (.rep (.slice tDresser) a0.1.2.1) (.pair (.rep (.slice (.int .i64)) a0.1.2.2.1) (.rep (.slice (.int .i64)) a0.1.2.2.2))))) (.pair (.rep (.slice (.tag 131 133)) a0.2.1) (.pair (.rep (.arr 8 (.int .u8)) a0.2.2) (.eq m_a0))))), .obj b2 101 (.rep (.arr 4 (.int .i64)) r1.2)]) (chg_quick_late_l1 k a0 a1 a2 r1) k () (0 : Int) (fun _ => rfl) h (SE.fin [1, 0] ⟨rfl, rfl, rfl, rfl, rfl, rfl, trivial⟩ rfl) (fun n z6 y5 h => ?_)
  unfold chg_quick_late_l1 at h
  refine sr ?_
  refine jb (o_lss rfl) ?_
  refine nt ?_
  refine JC.seq ?_
  refine JC.cond rfl (fun hb => ?_) (fun hb => ?_)
  ·
   replace h := b_if (d_t hb) h
   refine JC.skip ?_
   refine JN.then_n ?_
   show JC _ _ _ _ _
   refine JC.seq ?_
   refine JC.block ?_
   refine sr ?_
   refine mq ?_
   obtain ⟨x7, ex7, h⟩ := b_bind h
   refine jb (o_index (t := tStep) rfl Try.underlying30 sz43 ex7) ?_
   refine ja (o_load_at (t := tStep) rfl sz43 rfl) ?_
   refine JO.s01 rfl rfl rfl (o_alloc rfl za43 al43) trivial fun b8 => ?_
   refine aq ?_
   refine JO.n11 rfl rfl (o_store rfl sz43 rfl rfl rfl) ⟨rfl, rfl, trivial⟩ ?_
   refine nt ?_
   refine JC.seq ?_
   refine JC.drawN ?_
   refine dm ?_
   refine da (o_nil_obj rfl) ?_
   refine da (o_field_obj rfl fo120_1) ?_
   refine ea 1 (o_load_obj rfl sz116 (fun _ => rfl) rfl) ?_
   refine da (o_field_obj rfl fo43_0) ?_
   refine ea 0 (o_load_obj rfl sz3 (fun _ => rfl) rfl) ?_
   refine DN.fin (by kernel_rfl) mixed ?_
   obtain ⟨x9, ex9, h⟩ := b_bind h
   refine jb (o_index (t := (.tag 131 133)) rfl Try.underlying116 sz130 ex9) ?_
   refine ja (o_load_at (t := (.tag 131 133)) rfl sz130 rfl) ?_
   refine aq ?_
   refine nt ?_
   refine JC.seq ?_
   refine JC.drawN ?_
   refine dm ?_
   refine da (o_nil_obj rfl) ?_
   refine da (o_field_obj rfl fo120_0) ?_
   refine da (o_field_obj rfl fo28_0) ?_
   refine ea 1 (o_load_obj rfl sz25 (fun _ => rfl) rfl) ?_
   refine dm ?_
   obtain ⟨r10, er10, h⟩ := b_bind h
   refine DN.s00 rfl rfl rfl (o_invoke rfl rfl mt131_thing mt133_thing (ctr_cond (fun hb => chg_off_thing_ok k x9.2 r10 (by simpa [hb] using er10)) (fun hb => chg_on_thing_ok k x9.2 r10 (by simpa [hb] using er10)))) ⟨rfl, trivial⟩ ?_
   refine DN.fin (by kernel_rfl) mixed ?_
   obtain ⟨x11, ex11, h⟩ := b_bind h
   refine jb (o_index (t := tThing) rfl Try.underlying25 sz45 ex11) ?_
   refine ja (o_field_at 1 false rfl fo45_4 rfl) ?_
   refine ja (o_load_at (t := (.int .i64)) rfl sz3 rfl) ?_
   refine aq ?_
   refine nt ?_
   refine sr ?_
   refine mq ?_
   refine JO.s rfl (o_as1 rfl ta133 (by decide)) ⟨rfl, trivial⟩ ?_
   refine mq ?_
   refine ja (o_extract rfl rfl) ?_
   refine ja (o_extract rfl rfl) ?_
   refine aq ?_
   refine aq ?_
   refine nt ?_
   refine JC.cutB (Z := Unit) (α := Bool) (fun z13 x12 => [(0, .eq (.pointer (some ⟨b_a0, 0, none⟩))), (2, .eq (.int .u8 a2)), (9, .eq (.pointer (some ⟨b2, 0, none⟩))), (10, .eq (.int .i64 y5)), (13, .eq (.int .i64 x11.2.2.2.2)), (22, .rep (.slice tStep) a1), (23, .eq (.int .i64 (a1.length : Int))), (24, .eq (.int .i64 y5)), (71, .eq (.bool x12))]) (fun z13 x12 => [.obj b_a0 120 (.agg (.pair (.agg (.pair (.rep (.slice tThing) a0.1.1) (.pair (.rep (.slice tDresser) a0.1.2.1) (.pair (.rep (.slice (.int .i64)) a0.1.2.2.1) (.rep (.slice (.int .i64)) a0.1.2.2.2))))) (.pair (.rep (.slice (.tag 131 133)) a0.2.1) (.pair (.rep (.arr 8 (.int .u8)) a0.2.2) (.eq m_a0))))), .obj b2 101 (.rep (.arr 4 (.int .i64)) r1.2)]) h (fun K h => ?_) (fun z13 x12 h => ?_)
   ·
    refine JC.region ?_
    iterate 2 refine mq ?_
    refine JO.bool (s := 53) rfl (fun hb => ?_) (fun hb => ?_)
    ·
     replace h := b_if (v_t hb) h
     refine gm ?_
     refine gb (o_gtr rfl) ?_
     refine pt ?_
     refine mq ?_
     refine JO.bool (s := 57) rfl (fun hb => ?_) (fun hb => ?_)
     ·
      replace h := b_if (d_t hb) h
      refine ga (o_field_obj rfl fo43_0) ?_
      refine JO.g11 rfl rfl rfl rfl rfl rfl (o_load_obj rfl sz3 (fun _ => rfl) rfl) ⟨rfl, trivial⟩ ?_
      obtain ⟨u14, eu14, h⟩ := b_bind h
      refine gb (o_index_arr rfl Try.underlying101 sz3 (chkP_some eu14).1 (chkP_some eu14).2) ?_
      obtain ⟨x15, ex15, h⟩ := b_bind h
      refine JO.front 2 rfl ?_
      refine JO.g11 rfl rfl rfl rfl rfl rfl (o_load_arr (t := (.int .i64)) (off := 0) (i := x7.1) (N := 4) rfl sz3 (fun _ => rfl) rfl rfl rfl rfl ex15) ⟨rfl, trivial⟩ ?_
      refine gm ?_
      refine gb (o_gtr rfl) ?_
      refine pt ?_
      refine mq ?_
      refine JO.bool (s := 65) rfl (fun hb => ?_) (fun hb => ?_)
      ·
       replace h := b_if (d_t hb) h
       refine gm ?_
       refine gm ?_
       obtain ⟨r16, er16, h⟩ := b_bind h
       refine JO.g00 rfl rfl rfl rfl rfl rfl (o_invoke rfl rfl mt131_thing mt133_thing (ctr_cond (fun hb => chg_off_thing_ok k x9.2 r16 (by simpa [hb] using er16)) (fun hb => chg_on_thing_ok k x9.2 r16 (by simpa [hb] using er16)))) ⟨rfl, trivial⟩ ?_
       obtain ⟨r17, er17, h⟩ := b_bind h
       have cr17 := chg_set_has_ok k a2 r16 r17 er17
       refine gb (o_call [.tmp 66, .tmp 68] rfl rfl en88 rfl cr17) ?_
       refine ga (o_not rfl) ?_
       refine pt ?_
       refine JO.nil ?_
       refine JN.then_n ?_
       exact JN.z ((), !r17) h (SE.fin [2, 0] ⟨rfl, rfl, rfl, rfl, rfl, rfl, rfl, rfl, rfl, trivial⟩ rfl)
      ·
       replace h := b_ifn (d_f hb) h
       iterate 5 refine gn ?_
       refine pf ?_
       refine JO.nil ?_
       refine JN.then_n ?_
       exact JN.z ((), false) h (SE.fin [2, 0] ⟨rfl, rfl, rfl, rfl, rfl, rfl, rfl, rfl, rfl, trivial⟩ rfl)
     ·
      replace h := b_ifn (d_f hb) h
      iterate 6 refine gn ?_
      refine pf ?_
      refine mq ?_
      iterate 5 refine gn ?_
      refine pf ?_
      refine JO.nil ?_
      refine JN.then_n ?_
      exact JN.z ((), false) h (SE.fin [1, 2] ⟨rfl, rfl, rfl, rfl, rfl, rfl, rfl, rfl, rfl, trivial⟩ rfl)
    ·
     replace h := b_ifn (v_f hb) h
     iterate 2 refine gn ?_
     refine pf ?_
     refine mq ?_
     iterate 6 refine gn ?_
     refine pf ?_
     refine mq ?_
     iterate 5 refine gn ?_
     refine pf ?_
     refine JO.nil ?_
     refine JN.then_n ?_
     exact JN.z ((), false) h (SE.fin [1, 2] ⟨rfl, rfl, rfl, rfl, rfl, rfl, rfl, rfl, rfl, trivial⟩ rfl)
   ·
    refine JC.cond rfl (fun hb => ?_) (fun hb => ?_)
    ·
     replace h := b_if (v_t hb) h
     refine sr ?_
     iterate 2 refine mq ?_
     refine aq ?_
     refine aq ?_
     refine nt ?_
     refine JC.ret ?_
     refine JN.blk_r ?_
     refine JN.then_r ?_
     refine JN.then_r ?_
     refine JN.blk_r ?_
     refine JN.then_r ?_
     obtain rfl := hR _ h
     exact JN.ret () [_, _] 1 ⟨rfl, rfl, trivial⟩ rfl
    ·
     replace h := b_ifn (v_f hb) h
     refine JC.skip ?_
     refine JN.blk_n ?_
     refine JN.then_n ?_
     show JC _ _ _ _ _
     refine JC.region ?_
     obtain ⟨x18, ex18, h⟩ := b_bind h
     refine jb (o_add rfl ex18) ?_
     refine mq ?_
     refine JO.nil ?_
     refine JN.then_n ?_
     exact JN.z ((), x18) h (SE.fin [0, 1] ⟨rfl, rfl, rfl, rfl, rfl, rfl, trivial⟩ rfl)
  ·
   replace h := b_ifn (d_f hb) h
   refine JC.exit ?_
   refine JN.then_x ?_
   refine JN.then_x ?_
   refine JN.blk_hit ?_
   refine JN.then_n ?_
   exact JN.z ((), ()) h (SE.fin [0] trivial rfl)
 ·
  refine sr ?_
  refine cq ?_
  refine cq ?_
  refine nt ?_
  refine JC.ret ?_
  obtain rfl := Option.some.inj h
  exact JN.ret () [_, _] 1 ⟨rfl, rfl, trivial⟩ rfl


def chg_Late (k : Nat) (a0 : dChange) (a1 : (List dStep)) : Option (Int × Int × Int) :=
 (chg_asked k a0 a1).bind fun r2 =>
 casesO r2.1 (if ¬ (r2.2 = (0 : Int)) then (some ((0 : Int), (0 : Int), r2.2)) else (none)) (fun q3 => if ¬ (r2.2 = (0 : Int)) then (some ((0 : Int), (0 : Int), r2.2)) else ((chg_quick_late k ((q3.1.1, q3.1.2.1, q3.1.2.2.1, q3.1.2.2.2), q3.2.1, q3.2.2) a1 (0 : Int)).bind fun r5 =>
 some (r5.1, r5.2, (0 : Int))))

theorem chg_Late_ok (k : Nat) (a0 : dChange) (a1 : (List dStep)) (r : Int × Int × Int) (h : chg_Late k a0 a1 = some r) :
 Ctr Try.prog 21 [.rep tChange a0, .rep (.slice tStep) a1] [] (fun _ : Unit => (resA [.eq (.int .i64 r.1), .eq (.int .i64 r.2.1), .eq (.int .i64 r.2.2)], [])) := by
 unfold chg_Late at h
 replace h := b_top h
 refine Ctr.of 28 Try.func21 rfl Try.ntmps21 rfl fun S w0 => ?_
 refine sr ?_
 refine JO.s01 rfl rfl rfl (o_box rfl rfl) ⟨rfl, trivial⟩ fun b1 => ?_
 refine cq ?_
 refine cq ?_
 refine cq ?_
 refine nt ?_
 refine sr ?_
 refine ka (o_load_obj rfl sz28 (nfn) rfl) ?_
 refine mq ?_
 obtain ⟨r2, er2, h⟩ := b_bind h
 have cr2 := chg_asked_ok k a0 a1 r2 er2
 rcases hr : r2.1 with _ | q3
 ·
  rw [hr] at h cr2; replace h := co_n h
  refine JO.stepG (Δ := []) (F := _) (fun _ _ _ => wanted_none rfl _) rfl rfl (o_call [.tmp 12, .tmp 13] rfl rfl en64 rfl cr2) ⟨rfl, rfl, trivial⟩ fun _ => ?_
  refine mq ?_
  refine ja (o_extract rfl rfl) ?_
  refine ja (o_extract rfl rfl) ?_
  refine aq ?_
  refine aq ?_
  refine nt ?_
  refine JC.seq ?_
  refine sr ?_
  refine mq ?_
  refine jb (o_neq rfl) ?_
  refine nt ?_
  refine JC.cond rfl (fun hb => ?_) (fun hb => ?_)
  ·
   replace h := b_if (n_t hb) h
   refine sr ?_
   refine mq ?_
   refine cq ?_
   refine cq ?_
   refine aq ?_
   refine nt ?_
   refine JC.ret ?_
   refine JN.then_r ?_
   obtain rfl := Option.some.inj h
   exact JN.ret () [_, _, _] 0 ⟨rfl, rfl, rfl, trivial⟩ rfl
  ·
   replace h := b_ifn (n_fn hb) h
   refine JC.skip ?_
   refine JN.then_n ?_
   show JC _ _ _ _ _
   refine sr ?_
   iterate 2 refine mq ?_
   cases h
 ·
  rw [hr] at h cr2; replace h := co_s h
  refine JO.stepG (Δ := []) (F := _) (fun _ _ _ => wanted_none rfl _) rfl rfl (o_call [.tmp 12, .tmp 13] rfl rfl en64 rfl cr2) ⟨rfl, rfl, trivial⟩ fun z4 => ?_
  refine mq ?_
  refine ja (o_extract rfl rfl) ?_
  refine ja (o_extract rfl rfl) ?_
  refine aq ?_
  refine aq ?_
  refine nt ?_
  refine JC.seq ?_
  refine sr ?_
  refine mq ?_
  refine jb (o_neq rfl) ?_
  refine nt ?_
  refine JC.cond rfl (fun hb => ?_) (fun hb => ?_)
  ·
   replace h := b_if (n_t hb) h
   refine sr ?_
   refine mq ?_
   refine cq ?_
   refine cq ?_
   refine aq ?_
   refine nt ?_
   refine JC.ret ?_
   refine JN.then_r ?_
   obtain rfl := Option.some.inj h
   exact JN.ret () [_, _, _] 0 ⟨rfl, rfl, rfl, trivial⟩ rfl
  ·
   replace h := b_ifn (n_fn hb) h
   refine JC.skip ?_
   refine JN.then_n ?_
   show JC _ _ _ _ _
   refine sr ?_
   iterate 2 refine mq ?_
   obtain ⟨r5, er5, h⟩ := b_bind h
   have cr5 := chg_quick_late_ok k ((q3.1.1, q3.1.2.1, q3.1.2.2.1, q3.1.2.2.2), q3.2.1, q3.2.2) z4.1 (.map (some z4.2)) a1 (0 : Int) r5 er5
   refine kc (o_call [.tmp 21, .tmp 22, .const (.int .u8 (0))] rfl rfl en66 rfl cr5) ?_
   refine mq ?_
   refine ja (o_extract rfl rfl) ?_
   refine ja (o_extract rfl rfl) ?_
   refine aq ?_
   refine aq ?_
   refine nt ?_
   refine sr ?_
   iterate 2 refine mq ?_
   refine aq ?_
   refine aq ?_
   refine cq ?_
   refine nt ?_
   refine JC.ret ?_
   obtain rfl := Option.some.inj h
   exact JN.ret () [_, _, _] 0 ⟨rfl, rfl, rfl, trivial⟩ rfl


def slc_Clone_Step (k : Nat) (a0 : List dStep) : Option (List dStep) :=
 (chkP (okLen (List.length a0))).bind fun _ => some a0

theorem slc_Clone_Step_ok (k : Nat) (a0 : List dStep) (r : List dStep) (h : slc_Clone_Step k a0 = some r) :
 Ctr Try.prog 106 [.rep (.slice tStep) a0] [] (fun z : Value => (resA [.eq z], [.sl z 43 tStep r])) := by
 unfold slc_Clone_Step at h
 replace h := b_top h
 refine Ctr.of 8 Try.func106 rfl Try.ntmps106 rfl fun S w0 => ?_
 obtain ⟨u1, eu1, h⟩ := b_bind h
 obtain rfl := Option.some.inj h
 refine sr ?_
 refine cq ?_
 refine nt ?_
 refine JC.seq ?_
 refine sr ?_
 refine mq ?_
 refine JO.stepG (Δ := []) (F := _) (fun _ _ _ => wanted_none rfl _) rfl rfl (o_eqnil rfl Try.underlying30) ⟨rfl, rfl, trivial⟩ fun b => ?_
 refine nt ?_
 refine JC.cond rfl (fun hb => ?_) (fun hb => ?_)
 ·
  refine sr ?_
  refine cq ?_
  refine nt ?_
  refine JC.ret ?_
  refine JN.then_r ?_
  obtain rfl := b.2 hb
  refine JN.se (SE.nil 43 tStep) ?_
  exact JN.ret (.slice none 0 0) [.eq (.slice none 0 0)] 1 ⟨rfl, trivial⟩ rfl
 ·
  refine JC.skip ?_
  refine JN.then_n ?_
  show JC _ _ _ _ _
  refine sr ?_
  refine JO.s01 rfl rfl rfl (o_litB_own (t := tStep) [] [] rfl rfl sl30 .nil rfl rfl) trivial fun v1 => ?_
  refine mq ?_
  refine JO.s1x rfl rfl rfl (o_append rfl rfl sl30 (by simpa using chkP_some eu1)) ⟨rfl, rfl, trivial⟩ fun v2 => ?_
  refine aq ?_
  refine nt ?_
  refine JC.ret ?_
  exact JN.ret v2 [.eq v2] 1 ⟨rfl, trivial⟩ rfl


def chg_quick_plans_1_1_l2 {σ : Type} (k : Nat) (a0 : Int) (a2 : (dChange × (List (Bool × Int)) × (List Int))) (self : Int → (List dStep) → σ → Option (Bool × (List dStep) × σ)) (y6 : (List dStep) × Int × σ) (x10 : (Bool × Int)) : Nat → ((List dStep) × Int × σ) → Option (Except (Bool × (List dStep) × σ) ((List dStep) × σ))
 | 0, _ => none
 | n + 1, y16 =>
  if y16.2.1 < (a2.1.2.1.length : Int) then (bE (α := (List dStep) × σ) ((chg_quick_can k ((a2.1.1, a2.1.2.1, a2.1.2.2.1, a2.1.2.2.2), a2.2.1, a2.2.2) y16.2.1 x10).bind fun r20 =>
  if ¬ (r20 = true) then (some (.ok (y16.1, y16.2.2))) else ((chkP (okLen (List.length y16.1 + List.length [(y6.2.1, y16.2.1)]))).bind fun _ =>
  (chg_of k [y6.2.1]).bind fun r24 =>
  (self (ior .u8 a0 r24) (y16.1 ++ [(y6.2.1, y16.2.1)]) y16.2.2).bind fun r25 =>
  (ck ((r25.2.1.length : Int) - (1 : Int))).bind fun x27 =>
  (chkP (0 ≤ x27 ∧ x27 ≤ (r25.2.1.length : Int))).bind fun _ =>
  if ¬ (r25.1 = true) then (some (.error (false, List.take (Int.toNat x27) r25.2.1, r25.2.2))) else (some (.ok (List.take (Int.toNat x27) r25.2.1, r25.2.2))))) (fun e => some (.error e)) fun x18 =>
  (ck (y16.2.1 + (1 : Int))).bind fun x31 =>
  chg_quick_plans_1_1_l2 k a0 a2 self y6 x10 n (x18.1, x31, x18.2)) else (some (.ok (y16.1, y16.2.2)))

def chg_quick_plans_1_1_l1 {σ : Type} (k : Nat) (a0 : Int) (a2 : (dChange × (List (Bool × Int)) × (List Int))) (self : Int → (List dStep) → σ → Option (Bool × (List dStep) × σ)) : Nat → ((List dStep) × Int × σ) → Option (Except (Bool × (List dStep) × σ) ((List dStep) × σ))
 | 0, _ => none
 | n + 1, y6 =>
  if y6.2.1 < (a2.2.1.length : Int) then (bE (α := (List dStep) × σ) ((geti a2.2.1 y6.2.1).bind fun x10 =>
  (((chg_set_has k a0 y6.2.1).bind fun r13 =>
  if r13 = true then (some (true, y6.2.2)) else ((chkP (0 ≤ y6.2.1 ∧ y6.2.1 < 8)).bind fun _ =>
  (geti a2.2.2 y6.2.1).bind fun x15 =>
  some (!decide ((iandn .u8 x15 a0) = (0 : Int)), y6.2.2))) : Option (Bool × σ)).bind fun x11 =>
  if x11.1 = true then (some (.ok (y6.1, x11.2))) else (chg_quick_plans_1_1_l2 k a0 a2 self y6 x10 k (y6.1, (0 : Int), x11.2))) (fun e => some (.error e)) fun x8 =>
  (ck (y6.2.1 + (1 : Int))).bind fun x32 =>
  chg_quick_plans_1_1_l1 k a0 a2 self n (x8.1, x32, x8.2)) else (some (.ok (y6.1, y6.2.2)))
def chg_quick_plans_1_1 {σ : Type} (k : Nat) (Y : σ → (List dStep) → Option (σ × Bool)) (a2 : (dChange × (List (Bool × Int)) × (List Int))) : Nat → Int → (List dStep) → σ → Option (Bool × (List dStep) × σ)
 | 0, _, _, _ => none
 | m0 + 1, a0, a1, s0 =>
  if (a1.length : Int) = (a2.2.1.length : Int) then ((slc_Clone_Step k a1).bind fun r1 =>
  (Y s0 r1).bind fun r2 =>
  some (r2.2, a1, r2.1)) else (bE (α := (List dStep) × σ) (chg_quick_plans_1_1_l1 k a0 a2 (chg_quick_plans_1_1 k Y a2 m0) k (a1, (0 : Int), s0)) (some) fun x4 =>
  some (true, x4.1, x4.2))

theorem chg_quick_plans_1_1_ok {σ Z : Type} (E : Z → σ → List D) (l : Nat) (Y : σ → (List dStep) → Option (σ × Bool)) (k : Nat) (c_a1 : Nat) (a2 : (dChange × (List (Bool × Int)) × (List Int))) (b_a2 : Nat) (m_a2 : Value) (c_a2 : Nat) (c_a3 : Nat) (c_a4 : Nat) (hY : ∀ z s p r, Y s p = some r → YT Try.prog l [.rep (.slice tStep) p] ([.obj b_a2 120 (.agg (.pair (.agg (.pair (.rep (.slice tThing) a2.1.1) (.pair (.rep (.slice tDresser) a2.1.2.1) (.pair (.rep (.slice (.int .i64)) a2.1.2.2.1) (.rep (.slice (.int .i64)) a2.1.2.2.2))))) (.pair (.rep (.slice (.tag 131 133)) a2.2.1) (.pair (.rep (.arr 8 (.int .u8)) a2.2.2) (.eq m_a2)))))] ++ E z s) (fun z' : Z => (.eq (.bool r.2), [.obj b_a2 120 (.agg (.pair (.agg (.pair (.rep (.slice tThing) a2.1.1) (.pair (.rep (.slice tDresser) a2.1.2.1) (.pair (.rep (.slice (.int .i64)) a2.1.2.2.1) (.rep (.slice (.int .i64)) a2.1.2.2.2))))) (.pair (.rep (.slice (.tag 131 133)) a2.2.1) (.pair (.rep (.arr 8 (.int .u8)) a2.2.2) (.eq m_a2)))))] ++ E z' r.1))) :
 ∀ (n : Nat) (a0 : Int) (a1 : (List dStep)) (v_a1 : Value) (z0 : Z) (s0 : σ) (r : Bool × (List dStep) × σ), chg_quick_plans_1_1 k Y a2 n a0 a1 s0 = some r → Ctr Try.prog 105 [.eq (.int .u8 a0), .eq (.pointer (some ⟨c_a1, 0, none⟩)), .eq (.pointer (some ⟨c_a2, 0, none⟩)), .eq (.pointer (some ⟨c_a3, 0, none⟩)), .eq (.pointer (some ⟨c_a4, 0, none⟩))] ([.sl v_a1 43 tStep a1, .obj c_a1 30 (.eq v_a1), .obj c_a2 98 (.eq (.pointer (some ⟨b_a2, 0, none⟩))), .obj c_a3 153 (.eq (.func (.yield l) #[] #[])), .obj c_a4 154 (.eq (.func (.func 105) #[] #[(.pointer (some ⟨c_a1, 0, none⟩)), (.pointer (some ⟨c_a2, 0, none⟩)), (.pointer (some ⟨c_a3, 0, none⟩)), (.pointer (some ⟨c_a4, 0, none⟩))])), .obj b_a2 120 (.agg (.pair (.agg (.pair (.rep (.slice tThing) a2.1.1) (.pair (.rep (.slice tDresser) a2.1.2.1) (.pair (.rep (.slice (.int .i64)) a2.1.2.2.1) (.rep (.slice (.int .i64)) a2.1.2.2.2))))) (.pair (.rep (.slice (.tag 131 133)) a2.2.1) (.pair (.rep (.arr 8 (.int .u8)) a2.2.2) (.eq m_a2)))))] ++ E z0 s0) (fun z : Value × Z => (resA [.eq (.bool r.1)], [.sl z.1 43 tStep r.2.1, .obj c_a1 30 (.eq z.1), .obj c_a2 98 (.eq (.pointer (some ⟨b_a2, 0, none⟩))), .obj c_a3 153 (.eq (.func (.yield l) #[] #[])), .obj c_a4 154 (.eq (.func (.func 105) #[] #[(.pointer (some ⟨c_a1, 0, none⟩)), (.pointer (some ⟨c_a2, 0, none⟩)), (.pointer (some ⟨c_a3, 0, none⟩)), (.pointer (some ⟨c_a4, 0, none⟩))])), .obj b_a2 120 (.agg (.pair (.agg (.pair (.rep (.slice tThing) a2.1.1) (.pair (.rep (.slice tDresser) a2.1.2.1) (.pair (.rep (.slice (.int .i64)) a2.1.2.2.1) (.rep (.slice (.int .i64)) a2.1.2.2.2))))) (.pair (.rep (.slice (.tag 131 133)) a2.2.1) (.pair (.rep (.arr 8 (.int .u8)) a2.2.2) (.eq m_a2)))))] ++ E z.2 r.2.2)) := by
 intro n
 induction n with
 | zero => intro a0 a1 v_a1 z0 s0 r h; cases h
 | succ m0 ih =>
  intro a0 a1 v_a1 z0 s0 r h
  rw [chg_quick_plans_1_1] at h
  replace h := b_top h
  refine Ctr.of 83 Try.func105 rfl Try.ntmps105 rfl fun S w0 => ?_
  refine sr ?_
  refine cq ?_
  refine nt ?_
  refine JC.seq ?_
  refine JC.seq ?_
  refine JC.drawN ?_
  refine ea 1 (o_load_obj rfl sz30 (fun _ => rfl) rfl) ?_
  refine ea 0 (o_len_own rfl rfl Try.underlying30) ?_
  refine ea 2 (o_load_obj rfl sz98 (fun _ => rfl) rfl) ?_
  refine da (o_nil_obj rfl) ?_
  refine da (o_field_obj rfl fo120_1) ?_
  refine ea 5 (o_load_obj rfl sz116 (fun _ => rfl) rfl) ?_
  refine da (o_len rfl rfl Try.underlying116) ?_
  refine DN.fin (by kernel_rfl) mixed ?_
  refine jb (o_eql rfl) ?_
  refine nt ?_
  refine JC.cond rfl (fun hb => ?_) (fun hb => ?_)
  ·
   replace h := b_if (d_t hb) h
   refine JC.seq ?_
   refine JC.drawN ?_
   refine ea 3 (o_load_obj rfl sz153 (fun _ => rfl) rfl) ?_
   refine ea 1 (o_load_obj rfl sz30 (fun _ => rfl) rfl) ?_
   obtain ⟨r1, er1, h⟩ := b_bind h
   have cr1 := slc_Clone_Step_ok k a1 r1 er1
   refine DN.s11 0 rfl rfl rfl rfl (OpT.frzB (OpT.borrow (N := [(.tmp 20, .eq v_a1)]) (o_call [.tmp 20] rfl rfl en106 rfl cr1) (fun _ _ _ hv hn => ⟨(lend hn.1 hv), trivial⟩) (fun _ => ⟨rfl, flat_all (by simp [D.flat, A.flat, Ty.flat])⟩))) ⟨rfl, trivial⟩ ?_
   refine DN.fin (by kernel_rfl) mixed ?_
   obtain ⟨r2, er2, h⟩ := b_bind h
   have cr2 := hY z0 s0 r1 r2 er2
   refine JO.front 4 rfl ?_
   refine JO.front 4 rfl ?_
   refine JO.front 4 rfl ?_
   refine JO.front 4 rfl ?_
   refine JO.front 4 rfl ?_
   refine JO.stepT [.sl v_a1 43 tStep a1, .obj c_a1 30 (.eq v_a1), .obj c_a2 98 (.eq (.pointer (some ⟨b_a2, 0, none⟩))), .obj c_a3 153 (.eq (.func (.yield l) #[] #[])), .obj c_a4 154 (.eq (.func (.func 105) #[] #[(.pointer (some ⟨c_a1, 0, none⟩)), (.pointer (some ⟨c_a2, 0, none⟩)), (.pointer (some ⟨c_a3, 0, none⟩)), (.pointer (some ⟨c_a4, 0, none⟩))]))] rfl rfl rfl (o_yield [.tmp 21] rfl rfl rfl cr2) ⟨rfl, rfl, trivial⟩ fun z3 => ?_
   refine aq ?_
   refine nt ?_
   refine JC.ret ?_
   refine JN.then_r ?_
   obtain rfl := Option.some.inj h
   exact JN.retA (v_a1, z3) [_] ⟨rfl, trivial⟩ rfl
  ·
   replace h := b_ifn (d_f hb) h
   refine JC.skip ?_
   refine JN.then_n ?_
   show JC _ _ _ _ _
   refine JC.cutE (Z := Value × Z) (α := (List dStep) × σ) (fun z5 x4 => []) (fun z5 x4 => [.obj c_a1 30 (.eq z5.1), .sl z5.1 43 tStep x4.1, .obj c_a2 98 (.eq (.pointer (some ⟨b_a2, 0, none⟩))), .obj b_a2 120 (.agg (.pair (.agg (.pair (.rep (.slice tThing) a2.1.1) (.pair (.rep (.slice tDresser) a2.1.2.1) (.pair (.rep (.slice (.int .i64)) a2.1.2.2.1) (.rep (.slice (.int .i64)) a2.1.2.2.2))))) (.pair (.rep (.slice (.tag 131 133)) a2.2.1) (.pair (.rep (.arr 8 (.int .u8)) a2.2.2) (.eq m_a2))))), .obj c_a3 153 (.eq (.func (.yield l) #[] #[])), .obj c_a4 154 (.eq (.func (.func 105) #[] #[(.pointer (some ⟨c_a1, 0, none⟩)), (.pointer (some ⟨c_a2, 0, none⟩)), (.pointer (some ⟨c_a3, 0, none⟩)), (.pointer (some ⟨c_a4, 0, none⟩))]))] ++ E z5.2 x4.2) (fun e => e = r) h (fun e h => Option.some.inj h) (fun K hR h => ?_) (fun z5 x4 h => ?_)
   ·
    refine sr ?_
    refine JO.front 2 rfl ?_
    refine ka (o_load_obj rfl sz98 (fun _ => rfl) rfl) ?_
    refine ja (o_nil_obj rfl) ?_
    refine ja (o_field_obj rfl fo120_1) ?_
    refine JO.front 5 rfl ?_
    refine ka (o_load_obj rfl sz116 (fun _ => rfl) rfl) ?_
    refine ja (o_len rfl rfl Try.underlying116) ?_
    refine JO.mc rfl ?_
    refine nt ?_
    refine JC.block ?_
    refine JC.loopB (Z := Value × Z) (α := (List dStep) × Int × σ) (fun z7 y6 => [(0, .eq (.int .u8 a0)), (1, .eq (.pointer (some ⟨c_a1, 0, none⟩))), (2, .eq (.pointer (some ⟨c_a2, 0, none⟩))), (4, .eq (.pointer (some ⟨c_a4, 0, none⟩))), (26, .rep (.slice (.tag 131 133)) a2.2.1), (27, .eq (.int .i64 (a2.2.1.length : Int))), (28, .eq (.int .i64 y6.2.1))]) (fun z7 y6 => [.obj c_a1 30 (.eq z7.1), .sl z7.1 43 tStep y6.1, .obj c_a2 98 (.eq (.pointer (some ⟨b_a2, 0, none⟩))), .obj b_a2 120 (.agg (.pair (.agg (.pair (.rep (.slice tThing) a2.1.1) (.pair (.rep (.slice tDresser) a2.1.2.1) (.pair (.rep (.slice (.int .i64)) a2.1.2.2.1) (.rep (.slice (.int .i64)) a2.1.2.2.2))))) (.pair (.rep (.slice (.tag 131 133)) a2.2.1) (.pair (.rep (.arr 8 (.int .u8)) a2.2.2) (.eq m_a2))))), .obj c_a4 154 (.eq (.func (.func 105) #[] #[(.pointer (some ⟨c_a1, 0, none⟩)), (.pointer (some ⟨c_a2, 0, none⟩)), (.pointer (some ⟨c_a3, 0, none⟩)), (.pointer (some ⟨c_a4, 0, none⟩))])), .obj c_a3 153 (.eq (.func (.yield l) #[] #[]))] ++ E z7.2 y6.2.2) (chg_quick_plans_1_1_l1 k a0 a2 (chg_quick_plans_1_1 k Y a2 m0)) k (v_a1, z0) (a1, (0 : Int), s0) (fun _ => rfl) h (SE.finT [.obj b_a2 120 (.agg (.pair (.agg (.pair (.rep (.slice tThing) a2.1.1) (.pair (.rep (.slice tDresser) a2.1.2.1) (.pair (.rep (.slice (.int .i64)) a2.1.2.2.1) (.rep (.slice (.int .i64)) a2.1.2.2.2))))) (.pair (.rep (.slice (.tag 131 133)) a2.2.1) (.pair (.rep (.arr 8 (.int .u8)) a2.2.2) (.eq m_a2))))), .obj c_a2 98 (.eq (.pointer (some ⟨b_a2, 0, none⟩))), .sl v_a1 43 tStep a1, .obj c_a1 30 (.eq v_a1), .obj c_a3 153 (.eq (.func (.yield l) #[] #[])), .obj c_a4 154 (.eq (.func (.func 105) #[] #[(.pointer (some ⟨c_a1, 0, none⟩)), (.pointer (some ⟨c_a2, 0, none⟩)), (.pointer (some ⟨c_a3, 0, none⟩)), (.pointer (some ⟨c_a4, 0, none⟩))]))] (E z0 s0) [3, 2, 1, 0, 5, 4] ⟨rfl, rfl, rfl, rfl, rfl, rfl, rfl, trivial⟩ rfl) (fun n z7 y6 h => ?_)
    unfold chg_quick_plans_1_1_l1 at h
    refine sr ?_
    refine jb (o_lss rfl) ?_
    refine nt ?_
    refine JC.seq ?_
    refine JC.cond rfl (fun hb => ?_) (fun hb => ?_)
    ·
     replace h := b_if (d_t hb) h
     refine JC.skip ?_
     refine JN.then_n ?_
     show JC _ _ _ _ _
     refine JC.cutE (Z := Value × Z) (α := (List dStep) × σ) (fun z9 x8 => [(0, .eq (.int .u8 a0)), (1, .eq (.pointer (some ⟨c_a1, 0, none⟩))), (2, .eq (.pointer (some ⟨c_a2, 0, none⟩))), (4, .eq (.pointer (some ⟨c_a4, 0, none⟩))), (26, .rep (.slice (.tag 131 133)) a2.2.1), (27, .eq (.int .i64 (a2.2.1.length : Int))), (28, .eq (.int .i64 y6.2.1))]) (fun z9 x8 => [.obj c_a1 30 (.eq z9.1), .sl z9.1 43 tStep x8.1, .obj c_a2 98 (.eq (.pointer (some ⟨b_a2, 0, none⟩))), .obj b_a2 120 (.agg (.pair (.agg (.pair (.rep (.slice tThing) a2.1.1) (.pair (.rep (.slice tDresser) a2.1.2.1) (.pair (.rep (.slice (.int .i64)) a2.1.2.2.1) (.rep (.slice (.int .i64)) a2.1.2.2.2))))) (.pair (.rep (.slice (.tag 131 133)) a2.2.1) (.pair (.rep (.arr 8 (.int .u8)) a2.2.2) (.eq m_a2))))), .obj c_a4 154 (.eq (.func (.func 105) #[] #[(.pointer (some ⟨c_a1, 0, none⟩)), (.pointer (some ⟨c_a2, 0, none⟩)), (.pointer (some ⟨c_a3, 0, none⟩)), (.pointer (some ⟨c_a4, 0, none⟩))])), .obj c_a3 153 (.eq (.func (.yield l) #[] #[]))] ++ E z9.2 x8.2) (fun e => e = r) h (fun e h => hR e h) (fun K hR h => ?_) (fun z9 x8 h => ?_)
     ·
      refine JC.block ?_
      refine sr ?_
      refine mq ?_
      obtain ⟨x10, ex10, h⟩ := b_bind h
      refine jb (o_index (t := (.tag 131 133)) rfl Try.underlying116 sz130 ex10) ?_
      refine ja (o_load_at (t := (.tag 131 133)) rfl sz130 rfl) ?_
      refine aq ?_
      refine aq ?_
      refine nt ?_
      refine JC.seq ?_
      refine JC.cutB (Z := Z) (α := Bool × σ) (fun z12 x11 => [(0, .eq (.int .u8 a0)), (1, .eq (.pointer (some ⟨c_a1, 0, none⟩))), (2, .eq (.pointer (some ⟨c_a2, 0, none⟩))), (4, .eq (.pointer (some ⟨c_a4, 0, none⟩))), (7, .eq (.int .i64 y6.2.1)), (8, .rep (.tag 131 133) x10), (26, .rep (.slice (.tag 131 133)) a2.2.1), (27, .eq (.int .i64 (a2.2.1.length : Int))), (28, .eq (.int .i64 y6.2.1)), (46, .eq (.bool x11.1))]) (fun z12 x11 => [.obj c_a1 30 (.eq z7.1), .sl z7.1 43 tStep y6.1, .obj c_a2 98 (.eq (.pointer (some ⟨b_a2, 0, none⟩))), .obj b_a2 120 (.agg (.pair (.agg (.pair (.rep (.slice tThing) a2.1.1) (.pair (.rep (.slice tDresser) a2.1.2.1) (.pair (.rep (.slice (.int .i64)) a2.1.2.2.1) (.rep (.slice (.int .i64)) a2.1.2.2.2))))) (.pair (.rep (.slice (.tag 131 133)) a2.2.1) (.pair (.rep (.arr 8 (.int .u8)) a2.2.2) (.eq m_a2))))), .obj c_a4 154 (.eq (.func (.func 105) #[] #[(.pointer (some ⟨c_a1, 0, none⟩)), (.pointer (some ⟨c_a2, 0, none⟩)), (.pointer (some ⟨c_a3, 0, none⟩)), (.pointer (some ⟨c_a4, 0, none⟩))])), .obj c_a3 153 (.eq (.func (.yield l) #[] #[]))] ++ E z12 x11.2) h (fun K h => ?_) (fun z12 x11 h => ?_)
      ·
       refine JC.region ?_
       iterate 2 refine mq ?_
       obtain ⟨r13, er13, h⟩ := b_bind h
       have cr13 := chg_set_has_ok k a0 y6.2.1 r13 er13
       refine jb (o_call [.tmp 33, .tmp 34] rfl rfl en88 rfl cr13) ?_
       refine mq ?_
       refine JO.bool (s := 36) rfl (fun hb => ?_) (fun hb => ?_)
       ·
        replace h := b_if (v_t hb) h
        iterate 9 refine gn ?_
        refine pt ?_
        refine JO.nil ?_
        refine JN.then_n ?_
        exact JN.z (z7.2, (true, y6.2.2)) h (SE.finT [.obj c_a1 30 (.eq z7.1), .sl z7.1 43 tStep y6.1, .obj c_a2 98 (.eq (.pointer (some ⟨b_a2, 0, none⟩))), .obj b_a2 120 (.agg (.pair (.agg (.pair (.rep (.slice tThing) a2.1.1) (.pair (.rep (.slice tDresser) a2.1.2.1) (.pair (.rep (.slice (.int .i64)) a2.1.2.2.1) (.rep (.slice (.int .i64)) a2.1.2.2.2))))) (.pair (.rep (.slice (.tag 131 133)) a2.2.1) (.pair (.rep (.arr 8 (.int .u8)) a2.2.2) (.eq m_a2))))), .obj c_a4 154 (.eq (.func (.func 105) #[] #[(.pointer (some ⟨c_a1, 0, none⟩)), (.pointer (some ⟨c_a2, 0, none⟩)), (.pointer (some ⟨c_a3, 0, none⟩)), (.pointer (some ⟨c_a4, 0, none⟩))])), .obj c_a3 153 (.eq (.func (.yield l) #[] #[]))] (E z7.2 y6.2.2) [0, 1, 2, 3, 4, 5] ⟨rfl, rfl, rfl, rfl, rfl, rfl, rfl, rfl, rfl, rfl, trivial⟩ rfl)
       ·
        replace h := b_ifn (v_f hb) h
        refine JO.front 2 rfl ?_
        refine JO.g11 rfl rfl rfl rfl rfl rfl (o_load_obj rfl sz98 (fun _ => rfl) rfl) ⟨rfl, trivial⟩ ?_
        refine gm ?_
        refine ga (o_nil_obj rfl) ?_
        refine ga (o_field_obj rfl fo120_2) ?_
        obtain ⟨u14, eu14, h⟩ := b_bind h
        refine gb (o_index_arr rfl Try.underlying117 sz106 (chkP_some eu14).1 (chkP_some eu14).2) ?_
        obtain ⟨x15, ex15, h⟩ := b_bind h
        refine JO.front 3 rfl ?_
        refine JO.g11 rfl rfl rfl rfl rfl rfl (o_load_arr (t := (.int .u8)) (off := 5) (i := y6.2.1) (N := 8) rfl sz106 (fun _ => rfl) rfl rfl rfl rfl ex15) ⟨rfl, trivial⟩ ?_
        refine gm ?_
        refine gb (o_andn rfl) ?_
        refine gb (o_neq rfl) ?_
        refine pf ?_
        refine JO.nil ?_
        refine JN.then_n ?_
        exact JN.z (z7.2, (!decide ((iandn .u8 x15 a0) = (0 : Int)), y6.2.2)) h (SE.finT [.obj b_a2 120 (.agg (.pair (.agg (.pair (.rep (.slice tThing) a2.1.1) (.pair (.rep (.slice tDresser) a2.1.2.1) (.pair (.rep (.slice (.int .i64)) a2.1.2.2.1) (.rep (.slice (.int .i64)) a2.1.2.2.2))))) (.pair (.rep (.slice (.tag 131 133)) a2.2.1) (.pair (.rep (.arr 8 (.int .u8)) a2.2.2) (.eq m_a2))))), .obj c_a2 98 (.eq (.pointer (some ⟨b_a2, 0, none⟩))), .obj c_a1 30 (.eq z7.1), .sl z7.1 43 tStep y6.1, .obj c_a4 154 (.eq (.func (.func 105) #[] #[(.pointer (some ⟨c_a1, 0, none⟩)), (.pointer (some ⟨c_a2, 0, none⟩)), (.pointer (some ⟨c_a3, 0, none⟩)), (.pointer (some ⟨c_a4, 0, none⟩))])), .obj c_a3 153 (.eq (.func (.yield l) #[] #[]))] (E z7.2 y6.2.2) [2, 3, 1, 0, 4, 5] ⟨rfl, rfl, rfl, rfl, rfl, rfl, rfl, rfl, rfl, rfl, trivial⟩ rfl)
      ·
       refine JC.cond rfl (fun hb => ?_) (fun hb => ?_)
       ·
        replace h := b_if (v_t hb) h
        refine JC.exit ?_
        refine JN.then_x ?_
        refine JN.blk_hit ?_
        refine JN.then_n ?_
        exact JN.z ((z7.1, z12), (y6.1, x11.2)) h (SE.finT [.obj c_a1 30 (.eq z7.1), .sl z7.1 43 tStep y6.1, .obj c_a2 98 (.eq (.pointer (some ⟨b_a2, 0, none⟩))), .obj b_a2 120 (.agg (.pair (.agg (.pair (.rep (.slice tThing) a2.1.1) (.pair (.rep (.slice tDresser) a2.1.2.1) (.pair (.rep (.slice (.int .i64)) a2.1.2.2.1) (.rep (.slice (.int .i64)) a2.1.2.2.2))))) (.pair (.rep (.slice (.tag 131 133)) a2.2.1) (.pair (.rep (.arr 8 (.int .u8)) a2.2.2) (.eq m_a2))))), .obj c_a4 154 (.eq (.func (.func 105) #[] #[(.pointer (some ⟨c_a1, 0, none⟩)), (.pointer (some ⟨c_a2, 0, none⟩)), (.pointer (some ⟨c_a3, 0, none⟩)), (.pointer (some ⟨c_a4, 0, none⟩))])), .obj c_a3 153 (.eq (.func (.yield l) #[] #[]))] (E z12 x11.2) [0, 1, 2, 3, 4, 5] ⟨rfl, rfl, rfl, rfl, rfl, rfl, rfl, trivial⟩ rfl)
       ·
        replace h := b_ifn (v_f hb) h
        refine JC.skip ?_
        refine JN.then_n ?_
        show JC _ _ _ _ _
        refine sr ?_
        refine JO.front 2 rfl ?_
        refine ka (o_load_obj rfl sz98 (fun _ => rfl) rfl) ?_
        refine ja (o_nil_obj rfl) ?_
        refine ja (o_field_obj rfl fo120_0) ?_
        refine ja (o_field_obj rfl fo28_1) ?_
        refine JO.front 3 rfl ?_
        refine ka (o_load_obj rfl sz26 (fun _ => rfl) rfl) ?_
        refine ja (o_len rfl rfl Try.underlying26) ?_
        refine JO.mc rfl ?_
        refine nt ?_
        refine JC.block ?_
        refine JC.loopB (Z := Value × Z) (α := (List dStep) × Int × σ) (fun z17 y16 => [(0, .eq (.int .u8 a0)), (1, .eq (.pointer (some ⟨c_a1, 0, none⟩))), (2, .eq (.pointer (some ⟨c_a2, 0, none⟩))), (4, .eq (.pointer (some ⟨c_a4, 0, none⟩))), (7, .eq (.int .i64 y6.2.1)), (8, .rep (.tag 131 133) x10), (26, .rep (.slice (.tag 131 133)) a2.2.1), (27, .eq (.int .i64 (a2.2.1.length : Int))), (28, .eq (.int .i64 y6.2.1)), (52, .eq (.int .i64 (a2.1.2.1.length : Int))), (53, .eq (.int .i64 y16.2.1))]) (fun z17 y16 => [.obj c_a1 30 (.eq z17.1), .sl z17.1 43 tStep y16.1, .obj c_a2 98 (.eq (.pointer (some ⟨b_a2, 0, none⟩))), .obj b_a2 120 (.agg (.pair (.agg (.pair (.rep (.slice tThing) a2.1.1) (.pair (.rep (.slice tDresser) a2.1.2.1) (.pair (.rep (.slice (.int .i64)) a2.1.2.2.1) (.rep (.slice (.int .i64)) a2.1.2.2.2))))) (.pair (.rep (.slice (.tag 131 133)) a2.2.1) (.pair (.rep (.arr 8 (.int .u8)) a2.2.2) (.eq m_a2))))), .obj c_a4 154 (.eq (.func (.func 105) #[] #[(.pointer (some ⟨c_a1, 0, none⟩)), (.pointer (some ⟨c_a2, 0, none⟩)), (.pointer (some ⟨c_a3, 0, none⟩)), (.pointer (some ⟨c_a4, 0, none⟩))])), .obj c_a3 153 (.eq (.func (.yield l) #[] #[]))] ++ E z17.2 y16.2.2) (chg_quick_plans_1_1_l2 k a0 a2 (chg_quick_plans_1_1 k Y a2 m0) y6 x10) k (z7.1, z12) (y6.1, (0 : Int), x11.2) (fun _ => rfl) h (SE.finT [.obj b_a2 120 (.agg (.pair (.agg (.pair (.rep (.slice tThing) a2.1.1) (.pair (.rep (.slice tDresser) a2.1.2.1) (.pair (.rep (.slice (.int .i64)) a2.1.2.2.1) (.rep (.slice (.int .i64)) a2.1.2.2.2))))) (.pair (.rep (.slice (.tag 131 133)) a2.2.1) (.pair (.rep (.arr 8 (.int .u8)) a2.2.2) (.eq m_a2))))), .obj c_a2 98 (.eq (.pointer (some ⟨b_a2, 0, none⟩))), .obj c_a1 30 (.eq z7.1), .sl z7.1 43 tStep y6.1, .obj c_a4 154 (.eq (.func (.func 105) #[] #[(.pointer (some ⟨c_a1, 0, none⟩)), (.pointer (some ⟨c_a2, 0, none⟩)), (.pointer (some ⟨c_a3, 0, none⟩)), (.pointer (some ⟨c_a4, 0, none⟩))])), .obj c_a3 153 (.eq (.func (.yield l) #[] #[]))] (E z12 x11.2) [2, 3, 1, 0, 4, 5] ⟨rfl, rfl, rfl, rfl, rfl, rfl, rfl, rfl, rfl, rfl, rfl, trivial⟩ rfl) (fun n z17 y16 h => ?_)
        unfold chg_quick_plans_1_1_l2 at h
        refine sr ?_
        refine jb (o_lss rfl) ?_
        refine nt ?_
        refine JC.seq ?_
        refine JC.cond rfl (fun hb => ?_) (fun hb => ?_)
        ·
         replace h := b_if (d_t hb) h
         refine JC.skip ?_
         refine JN.then_n ?_
         show JC _ _ _ _ _
         refine JC.cutE (Z := Value × Z) (α := (List dStep) × σ) (fun z19 x18 => [(0, .eq (.int .u8 a0)), (1, .eq (.pointer (some ⟨c_a1, 0, none⟩))), (2, .eq (.pointer (some ⟨c_a2, 0, none⟩))), (4, .eq (.pointer (some ⟨c_a4, 0, none⟩))), (7, .eq (.int .i64 y6.2.1)), (8, .rep (.tag 131 133) x10), (26, .rep (.slice (.tag 131 133)) a2.2.1), (27, .eq (.int .i64 (a2.2.1.length : Int))), (28, .eq (.int .i64 y6.2.1)), (52, .eq (.int .i64 (a2.1.2.1.length : Int))), (53, .eq (.int .i64 y16.2.1))]) (fun z19 x18 => [.obj c_a1 30 (.eq z19.1), .sl z19.1 43 tStep x18.1, .obj c_a2 98 (.eq (.pointer (some ⟨b_a2, 0, none⟩))), .obj b_a2 120 (.agg (.pair (.agg (.pair (.rep (.slice tThing) a2.1.1) (.pair (.rep (.slice tDresser) a2.1.2.1) (.pair (.rep (.slice (.int .i64)) a2.1.2.2.1) (.rep (.slice (.int .i64)) a2.1.2.2.2))))) (.pair (.rep (.slice (.tag 131 133)) a2.2.1) (.pair (.rep (.arr 8 (.int .u8)) a2.2.2) (.eq m_a2))))), .obj c_a4 154 (.eq (.func (.func 105) #[] #[(.pointer (some ⟨c_a1, 0, none⟩)), (.pointer (some ⟨c_a2, 0, none⟩)), (.pointer (some ⟨c_a3, 0, none⟩)), (.pointer (some ⟨c_a4, 0, none⟩))])), .obj c_a3 153 (.eq (.func (.yield l) #[] #[]))] ++ E z19.2 x18.2) (fun e => e = r) h (fun e h => hR e h) (fun K hR h => ?_) (fun z19 x18 h => ?_)
         ·
          refine JC.block ?_
          refine sr ?_
          refine mq ?_
          refine aq ?_
          refine nt ?_
          refine JC.seq ?_
          refine sr ?_
          refine JO.front 2 rfl ?_
          refine ka (o_load_obj rfl sz98 (fun _ => rfl) rfl) ?_
          iterate 2 refine mq ?_
          obtain ⟨r20, er20, h⟩ := b_bind h
          have cr20 := chg_quick_can_ok k ((a2.1.1, a2.1.2.1, a2.1.2.2.1, a2.1.2.2.2), a2.2.1, a2.2.2) b_a2 m_a2 y16.2.1 x10 r20 er20
          refine JO.front 3 rfl ?_
          refine kc (o_call [.tmp 56, .tmp 57, .tmp 58] rfl rfl en107 rfl cr20) ?_
          refine ja (o_not rfl) ?_
          refine nt ?_
          refine JC.cond rfl (fun hb => ?_) (fun hb => ?_)
          ·
           replace h := b_if (nv_t hb) h
           refine JC.exit ?_
           refine JN.then_x ?_
           refine JN.blk_hit ?_
           refine JN.then_n ?_
           exact JN.z ((z17.1, z17.2), (y16.1, y16.2.2)) h (SE.finT [.obj b_a2 120 (.agg (.pair (.agg (.pair (.rep (.slice tThing) a2.1.1) (.pair (.rep (.slice tDresser) a2.1.2.1) (.pair (.rep (.slice (.int .i64)) a2.1.2.2.1) (.rep (.slice (.int .i64)) a2.1.2.2.2))))) (.pair (.rep (.slice (.tag 131 133)) a2.2.1) (.pair (.rep (.arr 8 (.int .u8)) a2.2.2) (.eq m_a2))))), .obj c_a2 98 (.eq (.pointer (some ⟨b_a2, 0, none⟩))), .obj c_a1 30 (.eq z17.1), .sl z17.1 43 tStep y16.1, .obj c_a4 154 (.eq (.func (.func 105) #[] #[(.pointer (some ⟨c_a1, 0, none⟩)), (.pointer (some ⟨c_a2, 0, none⟩)), (.pointer (some ⟨c_a3, 0, none⟩)), (.pointer (some ⟨c_a4, 0, none⟩))])), .obj c_a3 153 (.eq (.func (.yield l) #[] #[]))] (E z17.2 y16.2.2) [2, 3, 1, 0, 4, 5] ⟨rfl, rfl, rfl, rfl, rfl, rfl, rfl, rfl, rfl, rfl, rfl, trivial⟩ rfl)
          ·
           replace h := b_ifn (nv_fn hb) h
           refine JC.skip ?_
           refine JN.then_n ?_
           show JC _ _ _ _ _
           refine sr ?_
           refine JO.front 2 rfl ?_
           refine ka (o_load_obj rfl sz30 (fun _ => rfl) rfl) ?_
           iterate 2 refine mq ?_
           refine jb (o_buildT [(0, .tmp 62, _), (1, .tmp 63, _)] rfl pl43 za43 alb43 (stors ⟨rfl, rfl, trivial⟩) rfl) ?_
           refine ja (o_litB (t := tStep) [(.tmp 64, _)] [(y6.2.1, y16.2.1)] rfl rfl sl30 (.cons trivial (.agg (.pair .int .int)) .nil) rfl rfl) ?_
           obtain ⟨u21, eu21, h⟩ := b_bind h
           refine JO.front 3 rfl ?_
           refine JO.s1x rfl rfl rfl (o_append rfl rfl sl30 (chkP_some eu21)) ⟨rfl, rfl, trivial⟩ fun v22 => ?_
           refine JO.one fun o23 => ?_
           refine JO.front 1 rfl ?_
           refine JO.n11 rfl rfl (o_store rfl sz30 o23 rfl rfl) ⟨rfl, rfl, trivial⟩ ?_
           refine nt ?_
           refine JC.seq ?_
           refine JC.drawN ?_
           refine ea 4 (o_load_obj rfl sz154 (fun _ => rfl) rfl) ?_
           refine dm ?_
           refine dm ?_
           refine da (o_litB (t := (.int .i64)) [(.tmp 69, _)] [y6.2.1] rfl rfl sl22 (.cons rfl .int .nil) rfl rfl) ?_
           obtain ⟨r24, er24, h⟩ := b_bind h
           have cr24 := chg_of_ok k [y6.2.1] r24 er24
           refine da (o_call [.tmp 70] rfl rfl en81 rfl cr24) ?_
           refine db (o_or rfl) ?_
           refine DN.fin (by kernel_rfl) mixed ?_
           obtain ⟨r25, er25, h⟩ := b_bind h
           have cr25 := ih (ior .u8 a0 r24) (y16.1 ++ [(y6.2.1, y16.2.1)]) v22 z17.2 y16.2.2 r25 er25
           refine JO.front 2 rfl ?_
           refine JO.front 4 rfl ?_
           refine JO.front 5 rfl ?_
           refine JO.front 5 rfl ?_
           refine JO.front 4 rfl ?_
           refine JO.front 5 rfl ?_
           refine JO.stepA rfl rfl rfl (o_callv (fs := []) (cs := [(.pointer (some ⟨c_a1, 0, none⟩)), (.pointer (some ⟨c_a2, 0, none⟩)), (.pointer (some ⟨c_a3, 0, none⟩)), (.pointer (some ⟨c_a4, 0, none⟩))]) (ags := [.eq (.int .u8 (ior .u8 a0 r24))]) [.tmp 72] rfl rfl en105 rfl cr25) ⟨rfl, rfl, trivial⟩ fun z26 => ?_
           refine aq ?_
           refine nt ?_
           refine sr ?_
           refine JO.front 1 rfl ?_
           refine ka (o_load_obj rfl sz30 (fun _ => rfl) rfl) ?_
           refine ka (o_load_obj rfl sz30 (fun _ => rfl) rfl) ?_
           refine JO.front 1 rfl ?_
           refine ka (o_len_own rfl rfl Try.underlying30) ?_
           obtain ⟨x27, ex27, h⟩ := b_bind h
           refine jb (o_sub rfl ex27) ?_
           obtain ⟨u28, eu28, h⟩ := b_bind h
           refine JO.s1x rfl rfl rfl (o_slice_own (t := tStep) rfl Try.underlying30 sz43 (chkP_some eu28).1 (chkP_some eu28).2) ⟨rfl, rfl, trivial⟩ fun v29 => ?_
           refine JO.one fun o30 => ?_
           refine JO.front 1 rfl ?_
           refine JO.n11 rfl rfl (o_store rfl sz30 o30 rfl rfl) ⟨rfl, rfl, trivial⟩ ?_
           refine nt ?_
           refine sr ?_
           refine mq ?_
           refine ja (o_not rfl) ?_
           refine nt ?_
           refine JC.cond rfl (fun hb => ?_) (fun hb => ?_)
           ·
            replace h := b_if (nv_t hb) h
            refine sr ?_
            refine cq ?_
            refine nt ?_
            refine JC.ret ?_
            refine JN.blk_r ?_
            refine JN.then_r ?_
            refine JN.then_r ?_
            refine JN.blk_r ?_
            refine JN.blk_r ?_
            refine JN.then_r ?_
            refine JN.then_r ?_
            refine JN.blk_r ?_
            refine JN.then_r ?_
            refine JN.se (SE.finT (Γ' := [(6, _)]) [.obj c_a1 30 (.eq v29), .sl v29 43 tStep (List.take (Int.toNat x27) r25.2.1), .obj c_a2 98 (.eq (.pointer (some ⟨b_a2, 0, none⟩))), .obj c_a3 153 (.eq (.func (.yield l) #[] #[])), .obj c_a4 154 (.eq (.func (.func 105) #[] #[(.pointer (some ⟨c_a1, 0, none⟩)), (.pointer (some ⟨c_a2, 0, none⟩)), (.pointer (some ⟨c_a3, 0, none⟩)), (.pointer (some ⟨c_a4, 0, none⟩))])), .obj b_a2 120 (.agg (.pair (.agg (.pair (.rep (.slice tThing) a2.1.1) (.pair (.rep (.slice tDresser) a2.1.2.1) (.pair (.rep (.slice (.int .i64)) a2.1.2.2.1) (.rep (.slice (.int .i64)) a2.1.2.2.2))))) (.pair (.rep (.slice (.tag 131 133)) a2.2.1) (.pair (.rep (.arr 8 (.int .u8)) a2.2.2) (.eq m_a2)))))] (E z26.2 r25.2.2) [1, 0, 2, 3, 4, 5] ⟨rfl, trivial⟩ rfl) ?_
            obtain rfl := hR _ h
            exact JN.retA (v29, z26.2) [_] ⟨rfl, trivial⟩ rfl
           ·
            replace h := b_ifn (nv_fn hb) h
            refine JC.skip ?_
            refine JN.blk_n ?_
            refine JN.then_n ?_
            exact JN.z ((v29, z26.2), (List.take (Int.toNat x27) r25.2.1, r25.2.2)) h (SE.finT [.obj c_a1 30 (.eq v29), .sl v29 43 tStep (List.take (Int.toNat x27) r25.2.1), .obj c_a2 98 (.eq (.pointer (some ⟨b_a2, 0, none⟩))), .obj c_a3 153 (.eq (.func (.yield l) #[] #[])), .obj c_a4 154 (.eq (.func (.func 105) #[] #[(.pointer (some ⟨c_a1, 0, none⟩)), (.pointer (some ⟨c_a2, 0, none⟩)), (.pointer (some ⟨c_a3, 0, none⟩)), (.pointer (some ⟨c_a4, 0, none⟩))])), .obj b_a2 120 (.agg (.pair (.agg (.pair (.rep (.slice tThing) a2.1.1) (.pair (.rep (.slice tDresser) a2.1.2.1) (.pair (.rep (.slice (.int .i64)) a2.1.2.2.1) (.rep (.slice (.int .i64)) a2.1.2.2.2))))) (.pair (.rep (.slice (.tag 131 133)) a2.2.1) (.pair (.rep (.arr 8 (.int .u8)) a2.2.2) (.eq m_a2)))))] (E z26.2 r25.2.2) [0, 1, 2, 5, 4, 3] ⟨rfl, rfl, rfl, rfl, rfl, rfl, rfl, rfl, rfl, rfl, rfl, trivial⟩ rfl)
         ·
          refine JC.region ?_
          obtain ⟨x31, ex31, h⟩ := b_bind h
          refine jb (o_add rfl ex31) ?_
          refine mq ?_
          refine JO.nil ?_
          refine JN.then_n ?_
          exact JN.z ((z19.1, z19.2), (x18.1, x31, x18.2)) h (SE.finT [.obj c_a1 30 (.eq z19.1), .sl z19.1 43 tStep x18.1, .obj c_a2 98 (.eq (.pointer (some ⟨b_a2, 0, none⟩))), .obj b_a2 120 (.agg (.pair (.agg (.pair (.rep (.slice tThing) a2.1.1) (.pair (.rep (.slice tDresser) a2.1.2.1) (.pair (.rep (.slice (.int .i64)) a2.1.2.2.1) (.rep (.slice (.int .i64)) a2.1.2.2.2))))) (.pair (.rep (.slice (.tag 131 133)) a2.2.1) (.pair (.rep (.arr 8 (.int .u8)) a2.2.2) (.eq m_a2))))), .obj c_a4 154 (.eq (.func (.func 105) #[] #[(.pointer (some ⟨c_a1, 0, none⟩)), (.pointer (some ⟨c_a2, 0, none⟩)), (.pointer (some ⟨c_a3, 0, none⟩)), (.pointer (some ⟨c_a4, 0, none⟩))])), .obj c_a3 153 (.eq (.func (.yield l) #[] #[]))] (E z19.2 x18.2) [0, 1, 2, 3, 4, 5] ⟨rfl, rfl, rfl, rfl, rfl, rfl, rfl, rfl, rfl, rfl, rfl, trivial⟩ rfl)
        ·
         replace h := b_ifn (d_f hb) h
         refine JC.exit ?_
         refine JN.then_x ?_
         refine JN.then_x ?_
         refine JN.blk_hit ?_
         refine JN.blk_n ?_
         refine JN.then_n ?_
         exact JN.z ((z17.1, z17.2), (y16.1, y16.2.2)) h (SE.finT [.obj c_a1 30 (.eq z17.1), .sl z17.1 43 tStep y16.1, .obj c_a2 98 (.eq (.pointer (some ⟨b_a2, 0, none⟩))), .obj b_a2 120 (.agg (.pair (.agg (.pair (.rep (.slice tThing) a2.1.1) (.pair (.rep (.slice tDresser) a2.1.2.1) (.pair (.rep (.slice (.int .i64)) a2.1.2.2.1) (.rep (.slice (.int .i64)) a2.1.2.2.2))))) (.pair (.rep (.slice (.tag 131 133)) a2.2.1) (.pair (.rep (.arr 8 (.int .u8)) a2.2.2) (.eq m_a2))))), .obj c_a4 154 (.eq (.func (.func 105) #[] #[(.pointer (some ⟨c_a1, 0, none⟩)), (.pointer (some ⟨c_a2, 0, none⟩)), (.pointer (some ⟨c_a3, 0, none⟩)), (.pointer (some ⟨c_a4, 0, none⟩))])), .obj c_a3 153 (.eq (.func (.yield l) #[] #[]))] (E z17.2 y16.2.2) [0, 1, 2, 3, 4, 5] ⟨rfl, rfl, rfl, rfl, rfl, rfl, rfl, trivial⟩ rfl)
     ·
      refine JC.region ?_
      obtain ⟨x32, ex32, h⟩ := b_bind h
      refine jb (o_add rfl ex32) ?_
      refine mq ?_
      refine JO.nil ?_
      refine JN.then_n ?_
      exact JN.z ((z9.1, z9.2), (x8.1, x32, x8.2)) h (SE.finT [.obj c_a1 30 (.eq z9.1), .sl z9.1 43 tStep x8.1, .obj c_a2 98 (.eq (.pointer (some ⟨b_a2, 0, none⟩))), .obj b_a2 120 (.agg (.pair (.agg (.pair (.rep (.slice tThing) a2.1.1) (.pair (.rep (.slice tDresser) a2.1.2.1) (.pair (.rep (.slice (.int .i64)) a2.1.2.2.1) (.rep (.slice (.int .i64)) a2.1.2.2.2))))) (.pair (.rep (.slice (.tag 131 133)) a2.2.1) (.pair (.rep (.arr 8 (.int .u8)) a2.2.2) (.eq m_a2))))), .obj c_a4 154 (.eq (.func (.func 105) #[] #[(.pointer (some ⟨c_a1, 0, none⟩)), (.pointer (some ⟨c_a2, 0, none⟩)), (.pointer (some ⟨c_a3, 0, none⟩)), (.pointer (some ⟨c_a4, 0, none⟩))])), .obj c_a3 153 (.eq (.func (.yield l) #[] #[]))] (E z9.2 x8.2) [0, 1, 2, 3, 4, 5] ⟨rfl, rfl, rfl, rfl, rfl, rfl, rfl, trivial⟩ rfl)
    ·
     replace h := b_ifn (d_f hb) h
     refine JC.exit ?_
     refine JN.then_x ?_
     refine JN.then_x ?_
     refine JN.blk_hit ?_
     refine JN.then_n ?_
     exact JN.z ((z7.1, z7.2), (y6.1, y6.2.2)) h (SE.finT [.obj c_a1 30 (.eq z7.1), .sl z7.1 43 tStep y6.1, .obj c_a2 98 (.eq (.pointer (some ⟨b_a2, 0, none⟩))), .obj b_a2 120 (.agg (.pair (.agg (.pair (.rep (.slice tThing) a2.1.1) (.pair (.rep (.slice tDresser) a2.1.2.1) (.pair (.rep (.slice (.int .i64)) a2.1.2.2.1) (.rep (.slice (.int .i64)) a2.1.2.2.2))))) (.pair (.rep (.slice (.tag 131 133)) a2.2.1) (.pair (.rep (.arr 8 (.int .u8)) a2.2.2) (.eq m_a2))))), .obj c_a4 154 (.eq (.func (.func 105) #[] #[(.pointer (some ⟨c_a1, 0, none⟩)), (.pointer (some ⟨c_a2, 0, none⟩)), (.pointer (some ⟨c_a3, 0, none⟩)), (.pointer (some ⟨c_a4, 0, none⟩))])), .obj c_a3 153 (.eq (.func (.yield l) #[] #[]))] (E z7.2 y6.2.2) [0, 1, 2, 3, 5, 4] trivial rfl)
   ·
    refine sr ?_
    refine cq ?_
    refine nt ?_
    refine JC.ret ?_
    refine JN.se (SE.finT (Γ' := [(6, _)]) [.obj c_a1 30 (.eq z5.1), .sl z5.1 43 tStep x4.1, .obj c_a2 98 (.eq (.pointer (some ⟨b_a2, 0, none⟩))), .obj b_a2 120 (.agg (.pair (.agg (.pair (.rep (.slice tThing) a2.1.1) (.pair (.rep (.slice tDresser) a2.1.2.1) (.pair (.rep (.slice (.int .i64)) a2.1.2.2.1) (.rep (.slice (.int .i64)) a2.1.2.2.2))))) (.pair (.rep (.slice (.tag 131 133)) a2.2.1) (.pair (.rep (.arr 8 (.int .u8)) a2.2.2) (.eq m_a2))))), .obj c_a3 153 (.eq (.func (.yield l) #[] #[])), .obj c_a4 154 (.eq (.func (.func 105) #[] #[(.pointer (some ⟨c_a1, 0, none⟩)), (.pointer (some ⟨c_a2, 0, none⟩)), (.pointer (some ⟨c_a3, 0, none⟩)), (.pointer (some ⟨c_a4, 0, none⟩))]))] (E z5.2 x4.2) [1, 0, 2, 4, 5, 3] ⟨rfl, trivial⟩ rfl) ?_
    obtain rfl := Option.some.inj h
    exact JN.retA (z5.1, z5.2) [_] ⟨rfl, trivial⟩ rfl


def chg_quick_plans_1 {σ : Type} (k : Nat) (Y : σ → (List dStep) → Option (σ × Bool)) (a1 : (dChange × (List (Bool × Int)) × (List Int))) (s0 : σ) : Option (σ) :=
 (chg_quick_plans_1_1 k Y ((a1.1.1, a1.1.2.1, a1.1.2.2.1, a1.1.2.2.2), a1.2.1, a1.2.2) k (0 : Int) ([] : (List dStep)) s0).bind fun r4 =>
 some r4.2.2

theorem chg_quick_plans_1_ok {σ Z : Type} (E : Z → σ → List D) (l : Nat) (Y : σ → (List dStep) → Option (σ × Bool)) (k : Nat) (a1 : (dChange × (List (Bool × Int)) × (List Int))) (b_a1 : Nat) (m_a1 : Value) (c_a1 : Nat) (hY : ∀ z s p r, Y s p = some r → YT Try.prog l [.rep (.slice tStep) p] ([.obj b_a1 120 (.agg (.pair (.agg (.pair (.rep (.slice tThing) a1.1.1) (.pair (.rep (.slice tDresser) a1.1.2.1) (.pair (.rep (.slice (.int .i64)) a1.1.2.2.1) (.rep (.slice (.int .i64)) a1.1.2.2.2))))) (.pair (.rep (.slice (.tag 131 133)) a1.2.1) (.pair (.rep (.arr 8 (.int .u8)) a1.2.2) (.eq m_a1)))))] ++ E z s) (fun z' : Z => (.eq (.bool r.2), [.obj b_a1 120 (.agg (.pair (.agg (.pair (.rep (.slice tThing) a1.1.1) (.pair (.rep (.slice tDresser) a1.1.2.1) (.pair (.rep (.slice (.int .i64)) a1.1.2.2.1) (.rep (.slice (.int .i64)) a1.1.2.2.2))))) (.pair (.rep (.slice (.tag 131 133)) a1.2.1) (.pair (.rep (.arr 8 (.int .u8)) a1.2.2) (.eq m_a1)))))] ++ E z' r.1))) :
 ∀ (z0 : Z) (s0 : σ) (r : σ), chg_quick_plans_1 k Y a1 s0 = some r → Ctr Try.prog 104 [.eq (.func (.yield l) #[] #[]), .eq (.pointer (some ⟨c_a1, 0, none⟩))] ([.obj c_a1 98 (.eq (.pointer (some ⟨b_a1, 0, none⟩))), .obj b_a1 120 (.agg (.pair (.agg (.pair (.rep (.slice tThing) a1.1.1) (.pair (.rep (.slice tDresser) a1.1.2.1) (.pair (.rep (.slice (.int .i64)) a1.1.2.2.1) (.rep (.slice (.int .i64)) a1.1.2.2.2))))) (.pair (.rep (.slice (.tag 131 133)) a1.2.1) (.pair (.rep (.arr 8 (.int .u8)) a1.2.2) (.eq m_a1)))))] ++ E z0 s0) (fun z : Z => (resA [], [.obj c_a1 98 (.eq (.pointer (some ⟨b_a1, 0, none⟩))), .obj b_a1 120 (.agg (.pair (.agg (.pair (.rep (.slice tThing) a1.1.1) (.pair (.rep (.slice tDresser) a1.1.2.1) (.pair (.rep (.slice (.int .i64)) a1.1.2.2.1) (.rep (.slice (.int .i64)) a1.1.2.2.2))))) (.pair (.rep (.slice (.tag 131 133)) a1.2.1) (.pair (.rep (.arr 8 (.int .u8)) a1.2.2) (.eq m_a1)))))] ++ E z r)) := by
 intro z0 s0 r h
 unfold chg_quick_plans_1 at h
 replace h := b_top h
 refine Ctr.of 8 Try.func104 rfl Try.ntmps104 rfl fun S w0 => ?_
 refine sr ?_
 refine JO.s01 rfl rfl rfl (o_box rfl rfl) ⟨rfl, trivial⟩ fun b1 => ?_
 refine nt ?_
 refine sr ?_
 refine JO.s01 rfl rfl rfl (o_alloc rfl za30 al30) trivial fun b2 => ?_
 refine nt ?_
 refine sr ?_
 refine JO.s01 rfl rfl rfl (o_alloc rfl za154 al154) trivial fun b3 => ?_
 refine nt ?_
 refine sr ?_
 refine JO.s rfl (o_mkfn [] [.tmp 3, .tmp 1, .tmp 2, .tmp 4] [] [(.pointer (some ⟨b2, 0, none⟩)), (.pointer (some ⟨c_a1, 0, none⟩)), (.pointer (some ⟨b1, 0, none⟩)), (.pointer (some ⟨b3, 0, none⟩))] rfl rfl rfl) ⟨rfl, rfl, rfl, rfl, trivial⟩ ?_
 refine JO.n11 rfl rfl (o_store rfl sz154 rfl rfl rfl) ⟨rfl, rfl, trivial⟩ ?_
 refine nt ?_
 refine JC.region ?_
 refine ka (o_load_obj rfl sz154 (fun _ => rfl) rfl) ?_
 refine JO.se (SE.nil 43 tStep) ?_
 obtain ⟨r4, er4, h⟩ := b_bind h
 have cr4 := chg_quick_plans_1_1_ok E l Y k b2 ((a1.1.1, a1.1.2.1, a1.1.2.2.1, a1.1.2.2.2), a1.2.1, a1.2.2) b_a1 m_a1 c_a1 b1 b3 hY k (0 : Int) ([] : (List dStep)) (.slice none 0 0) z0 s0 r4 er4
 refine JO.front 5 rfl ?_
 refine JO.front 2 rfl ?_
 refine JO.front 4 rfl ?_
 refine JO.front 5 rfl ?_
 refine JO.front 5 rfl ?_
 refine JO.front 5 rfl ?_
 refine JO.stepA rfl rfl rfl (o_callv (fs := []) (cs := [(.pointer (some ⟨b2, 0, none⟩)), (.pointer (some ⟨c_a1, 0, none⟩)), (.pointer (some ⟨b1, 0, none⟩)), (.pointer (some ⟨b3, 0, none⟩))]) (ags := [.eq (.int .u8 (0 : Int))]) [.const (.int .u8 (0))] rfl rfl en105 rfl cr4) ⟨rfl, rfl, trivial⟩ fun z5 => ?_
 refine JO.nil ?_
 refine JN.end_n ?_
 refine JN.se (SE.finT (Γ' := []) [.sl z5.1 43 tStep r4.2.1, .obj b2 30 (.eq z5.1), .obj c_a1 98 (.eq (.pointer (some ⟨b_a1, 0, none⟩))), .obj b1 153 (.eq (.func (.yield l) #[] #[])), .obj b3 154 (.eq (.func (.func 105) #[] #[(.pointer (some ⟨b2, 0, none⟩)), (.pointer (some ⟨c_a1, 0, none⟩)), (.pointer (some ⟨b1, 0, none⟩)), (.pointer (some ⟨b3, 0, none⟩))])), .obj b_a1 120 (.agg (.pair (.agg (.pair (.rep (.slice tThing) a1.1.1) (.pair (.rep (.slice tDresser) a1.1.2.1) (.pair (.rep (.slice (.int .i64)) a1.1.2.2.1) (.rep (.slice (.int .i64)) a1.1.2.2.2))))) (.pair (.rep (.slice (.tag 131 133)) a1.2.1) (.pair (.rep (.arr 8 (.int .u8)) a1.2.2) (.eq m_a1)))))] (E z5.2 r4.2.2) [2, 5] trivial rfl) ?_
 obtain rfl := Option.some.inj h
 exact JN.retA z5.2 [] trivial rfl



theorem chg_quick_plans_ok (b : Nat) : Ctr Try.prog 69 [.eq (.pointer (some ⟨b, 0, none⟩))] [] (fun z : Nat => (resA [.eq (.func (.func 104) #[] #[(.pointer (some ⟨z, 0, none⟩))])], [.obj z 98 (.eq (.pointer (some ⟨b, 0, none⟩)))])) := by
 refine Ctr.of 4 Try.func69 rfl Try.ntmps69 rfl fun S w0 => ?_
 refine sr ?_
 refine JO.s01 rfl rfl rfl (o_box rfl rfl) ⟨rfl, trivial⟩ fun z => ?_
 refine cq ?_
 refine nt ?_
 refine sr ?_
 refine ja (o_mkfn [] [.tmp 1] [] [(.pointer (some ⟨z, 0, none⟩))] rfl rfl rfl) ?_
 refine aq ?_
 refine nt ?_
 refine JC.ret ?_
 exact JN.ret z [_] 1 ⟨rfl, trivial⟩ rfl


def chg_keyOf_l1 (k : Nat) : Nat → ((List dStep) × Int) → Option (List dStep)
 | 0, _ => none
 | n + 1, y5 =>
  if y5.2 < (4 : Int) then ((chkP (0 ≤ y5.2 ∧ y5.2 < 4)).bind fun _ =>
  (ck (y5.2 + (1 : Int))).bind fun x8 =>
  chg_keyOf_l1 k n (List.set y5.1 (Int.toNat y5.2) ((-1 : Int), (-1 : Int)), x8)) else (some y5.1)
def chg_keyOf (k : Nat) (a0 : (List dStep)) : Option (List dStep) :=
 ((chg_keyOf_l1 k k ([((0 : Int), (0 : Int)), ((0 : Int), (0 : Int)), ((0 : Int), (0 : Int)), ((0 : Int), (0 : Int))], (0 : Int))) : Option ((List dStep))).bind fun x3 =>
 some (List.take 4 a0 ++ List.drop (List.length a0) x3)

theorem chg_keyOf_ok (k : Nat) (a0 : (List dStep)) (r : (List dStep)) (h : chg_keyOf k a0 = some r) :
 Ctr Try.prog 108 [.rep (.slice tStep) a0] [] (fun _ : Unit => (resA [.rep (.arr 4 tStep) r], [])) := by
 unfold chg_keyOf at h
 replace h := b_top h
 refine Ctr.of 16 Try.func108 rfl Try.ntmps108 rfl fun S w0 => ?_
 refine sr ?_
 refine JO.s01 rfl rfl rfl (o_alloc rfl za158 al158) trivial fun b1 => ?_
 refine nt ?_
 refine sr ?_
 refine JO.s01 rfl rfl rfl (o_alloc rfl za158 al158) trivial fun b2 => ?_
 refine nt ?_
 refine JC.cutB (Z := Unit) (α := (List dStep)) (fun z4 x3 => [(0, .rep (.slice tStep) a0), (2, .eq (.pointer (some ⟨b1, 0, none⟩))), (3, .eq (.pointer (some ⟨b2, 0, none⟩)))]) (fun z4 x3 => [.obj b1 158 (.rep (.arr 4 tStep) [((0 : Int), (0 : Int)), ((0 : Int), (0 : Int)), ((0 : Int), (0 : Int)), ((0 : Int), (0 : Int))]), .obj b2 158 (.rep (.arr 4 tStep) x3)]) h (fun K h => ?_) (fun z4 x3 h => ?_)
 ·
  refine sr ?_
  refine JO.mc rfl ?_
  refine nt ?_
  refine JC.block ?_
  refine JC.loopB (Z := Unit) (α := (List dStep) × Int) (fun z6 y5 => [(0, .rep (.slice tStep) a0), (2, .eq (.pointer (some ⟨b1, 0, none⟩))), (3, .eq (.pointer (some ⟨b2, 0, none⟩))), (5, .eq (.int .i64 y5.2))]) (fun z6 y5 => [.obj b1 158 (.rep (.arr 4 tStep) [((0 : Int), (0 : Int)), ((0 : Int), (0 : Int)), ((0 : Int), (0 : Int)), ((0 : Int), (0 : Int))]), .obj b2 158 (.rep (.arr 4 tStep) y5.1)]) (chg_keyOf_l1 k) k () ([((0 : Int), (0 : Int)), ((0 : Int), (0 : Int)), ((0 : Int), (0 : Int)), ((0 : Int), (0 : Int))], (0 : Int)) (fun _ => rfl) h (SE.fin [1, 0] ⟨rfl, rfl, rfl, rfl, trivial⟩ rfl) (fun n z6 y5 h => ?_)
  unfold chg_keyOf_l1 at h
  refine sr ?_
  refine jb (o_lss rfl) ?_
  refine nt ?_
  refine JC.seq ?_
  refine JC.cond rfl (fun hb => ?_) (fun hb => ?_)
  ·
   replace h := b_if (d_t hb) h
   refine JC.skip ?_
   refine JN.then_n ?_
   show JC _ _ _ _ _
   refine JC.seq ?_
   refine JC.block ?_
   refine sr ?_
   refine mq ?_
   refine aq ?_
   refine nt ?_
   refine JC.region ?_
   refine mq ?_
   refine jb (o_buildT [(0, .const (.int .i64 (-1)), _), (1, .const (.int .i64 (-1)), _)] rfl pl43 za43 alb43 (stors ⟨rfl, rfl, trivial⟩) rfl) ?_
   obtain ⟨u7, eu7, h⟩ := b_bind h
   refine jb (o_index_arr rfl Try.underlying158 sz43 (chkP_some eu7).1 (chkP_some eu7).2) ?_
   refine JO.front 1 rfl ?_
   refine JO.n11 rfl rfl (o_store_arr (t := tStep) (off := 0) (i := y5.2) (N := 4) rfl sz43 (.agg (.pair .int .int)) trivial rfl rfl rfl (chkP_some eu7).1 (chkP_some eu7).2 rfl) ⟨rfl, rfl, trivial⟩ ?_
   refine JO.nil ?_
   refine JN.blk_n ?_
   refine JN.then_n ?_
   show JC _ _ _ _ _
   refine JC.region ?_
   obtain ⟨x8, ex8, h⟩ := b_bind h
   refine jb (o_add rfl ex8) ?_
   refine mq ?_
   refine JO.nil ?_
   refine JN.then_n ?_
   exact JN.z ((), (List.set y5.1 (Int.toNat y5.2) ((-1 : Int), (-1 : Int)), x8)) h (SE.fin [1, 0] ⟨rfl, rfl, rfl, rfl, trivial⟩ rfl)
  ·
   replace h := b_ifn (d_f hb) h
   refine JC.exit ?_
   refine JN.then_x ?_
   refine JN.then_x ?_
   refine JN.blk_hit ?_
   refine JN.then_n ?_
   exact JN.z ((), y5.1) h (SE.fin [0, 1] ⟨rfl, rfl, rfl, trivial⟩ rfl)
 ·
  refine sr ?_
  refine ja (o_slice_arr rfl Try.underlying158 sz43) ?_
  refine mq ?_
  refine JO.front 1 rfl ?_
  refine kb (o_copy_arr rfl rfl Try.underlying30 sz43) ?_
  refine nt ?_
  refine sr ?_
  refine ka (o_load_obj rfl sz158 (nfn) rfl) ?_
  refine JO.front 1 rfl ?_
  refine JO.n11 rfl rfl (o_store rfl sz158 rfl rfl rfl) ⟨rfl, rfl, trivial⟩ ?_
  refine nt ?_
  refine JC.ret ?_
  obtain rfl := Option.some.inj h
  exact JN.ret () [.rep (.arr 4 tStep) (List.take 4 a0 ++ List.drop (List.length a0) x3)] 0 ⟨⟨_, _, _, _, _, rfl, (.head _), sz158, (nfn), rfl⟩, trivial⟩ rfl


def slc_Max_int_l1 (k : Nat) (a0 : (List Int)) : Nat → (Int × Int) → Option Int
 | 0, _ => none
 | n + 1, y4 =>
  if y4.2 < (a0.length : Int) then ((geti a0 y4.2).bind fun x6 =>
  (ck (y4.2 + (1 : Int))).bind fun x7 =>
  slc_Max_int_l1 k a0 n (imax y4.1 x6, x7)) else (some y4.1)
def slc_Max_int (k : Nat) (a0 : (List Int)) : Option Int :=
 if (a0.length : Int) < (1 : Int) then (none) else ((geti a0 (0 : Int)).bind fun x1 =>
 ((slc_Max_int_l1 k a0 k (x1, (1 : Int))) : Option (Int)).bind fun x2 =>
 some x2)

theorem slc_Max_int_ok (k : Nat) (a0 : (List Int)) (r : Int) (h : slc_Max_int k a0 = some r) :
 Ctr Try.prog 109 [.rep (.slice (.int .i64)) a0] [] (fun _ : Unit => (resA [.eq (.int .i64 r)], [])) := by
 unfold slc_Max_int at h
 replace h := b_top h
 refine Ctr.of 25 Try.func109 rfl Try.ntmps109 rfl fun S w0 => ?_
 refine sr ?_
 refine cq ?_
 refine nt ?_
 refine JC.seq ?_
 refine sr ?_
 refine mq ?_
 refine ja (o_len rfl rfl Try.underlying22) ?_
 refine jb (o_lss rfl) ?_
 refine nt ?_
 refine JC.cond rfl (fun hb => ?_) (fun hb => ?_)
 ·
  replace h := b_if (d_t hb) h
  refine JC.region ?_
  cases h
 ·
  replace h := b_ifn (d_f hb) h
  refine JC.skip ?_
  refine JN.then_n ?_
  show JC _ _ _ _ _
  refine sr ?_
  refine mq ?_
  obtain ⟨x1, ex1, h⟩ := b_bind h
  refine jb (o_index (t := (.int .i64)) rfl Try.underlying22 sz3 ex1) ?_
  refine ja (o_load_at (t := (.int .i64)) rfl sz3 rfl) ?_
  refine aq ?_
  refine nt ?_
  refine JC.cutB (Z := Unit) (α := Int) (fun z3 x2 => [(3, .eq (.int .i64 x2))]) (fun z3 x2 => []) h (fun K h => ?_) (fun z3 x2 h => ?_)
  ·
   refine sr ?_
   refine cq ?_
   refine nt ?_
   refine JC.block ?_
   refine JC.loopB (Z := Unit) (α := Int × Int) (fun z5 y4 => [(0, .rep (.slice (.int .i64)) a0), (3, .eq (.int .i64 y4.1)), (4, .eq (.int .i64 y4.2))]) (fun z5 y4 => []) (slc_Max_int_l1 k a0) k () (x1, (1 : Int)) (fun _ => rfl) h (SE.fin [] ⟨rfl, rfl, rfl, trivial⟩ rfl) (fun n z5 y4 h => ?_)
   unfold slc_Max_int_l1 at h
   refine JC.seq ?_
   refine sr ?_
   iterate 2 refine mq ?_
   refine ja (o_len rfl rfl Try.underlying22) ?_
   refine jb (o_lss rfl) ?_
   refine nt ?_
   refine JC.cond rfl (fun hb => ?_) (fun hb => ?_)
   ·
    replace h := b_if (d_t hb) h
    refine JC.skip ?_
    refine JN.then_n ?_
    show JC _ _ _ _ _
    refine JC.seq ?_
    refine JC.block ?_
    refine JC.region ?_
    iterate 3 refine mq ?_
    obtain ⟨x6, ex6, h⟩ := b_bind h
    refine jb (o_index (t := (.int .i64)) rfl Try.underlying22 sz3 ex6) ?_
    refine ja (o_load_at (t := (.int .i64)) rfl sz3 rfl) ?_
    refine jb (o_max rfl rfl) ?_
    refine aq ?_
    refine JO.nil ?_
    refine JN.blk_n ?_
    refine JN.then_n ?_
    show JC _ _ _ _ _
    refine JC.region ?_
    refine mq ?_
    obtain ⟨x7, ex7, h⟩ := b_bind h
    refine jb (o_add rfl ex7) ?_
    refine aq ?_
    refine JO.nil ?_
    refine JN.then_n ?_
    exact JN.z ((), (imax y4.1 x6, x7)) h (SE.fin [] ⟨rfl, rfl, rfl, trivial⟩ rfl)
   ·
    replace h := b_ifn (d_f hb) h
    refine JC.exit ?_
    refine JN.then_x ?_
    refine JN.then_x ?_
    refine JN.blk_hit ?_
    refine JN.then_n ?_
    exact JN.z ((), y4.1) h (SE.fin [] ⟨rfl, trivial⟩ rfl)
  ·
   refine sr ?_
   refine mq ?_
   refine aq ?_
   refine nt ?_
   refine JC.ret ?_
   obtain rfl := Option.some.inj h
   exact JN.ret () [_] 0 ⟨rfl, trivial⟩ rfl


/-! The bars of a plan, known or not. -/
def lineV (l : List (Int × Int)) : Value := .agg (l.flatMap fun s => [Value.int .i64 s.1, Value.int .i64 s.2]).toArray

theorem lineV_inj : ∀ {l l' : List (Int × Int)}, lineV l = lineV l' → l = l' := by
 have key : ∀ {l l' : List (Int × Int)}, (l.flatMap fun s => [Value.int .i64 s.1, Value.int .i64 s.2]) = (l'.flatMap fun s => [Value.int .i64 s.1, Value.int .i64 s.2]) → l = l' := by
  intro l
  induction l with
  | nil => intro l' h; cases l' with
   | nil => rfl
   | cons s l' => simp at h
  | cons s l ih => intro l' h; cases l' with
   | nil => simp at h
   | cons s' l' =>
    obtain ⟨a, b⟩ := s
    obtain ⟨a', b'⟩ := s'
    simp only [List.flatMap_cons, List.cons_append, List.nil_append, List.cons.injEq, Value.int.injEq, true_and] at h
    rw [h.1, h.2.1, ih h.2.2]
 intro l l' h
 simp only [lineV, Value.agg.injEq] at h
 exact key (by simpa using congrArg Array.toList h)

theorem line_holds {S : FS} {w : World} {u : Value} {l : List dStep} (h : (A.rep (.arr 4 tStep) l).holds S w u) : u = lineV l := by
 obtain ⟨cs, ⟨_, h1⟩, h2⟩ := h
 have key : ∀ {l : List dStep} {cs : List Value}, rdAll (rd S w tStep) l cs → cs = l.flatMap fun s => [Value.int .i64 s.1, Value.int .i64 s.2] := by
  intro l
  induction l with
  | nil => intro cs h; exact h
  | cons s l ih =>
   rintro cs ⟨c1, c2, rfl, h1, h2⟩
   have e1 : c1 = [Value.int .i64 s.1, Value.int .i64 s.2] := rd_enc tStep rfl h1
   rw [e1, ih h2]
   rfl
 rw [h2, key h1]
 rfl

/-- The key of a plan. -/
def keyL (p : List dStep) : List dStep := p ++ List.replicate (4 - p.length) (-1, -1)

def lenGuard (a0 : (dChange × (List (Bool × Int)) × (List Int))) (p : List dStep) : Prop := p.length = a0.2.1.length ∧ p.length ≤ 4 ∧ ∀ s ∈ p, 0 ≤ s.1 ∧ s.1 < 8 ∧ 0 ≤ s.2 ∧ s.2 < 8
instance (a0 : (dChange × (List (Bool × Int)) × (List Int))) (p : List dStep) : Decidable (lenGuard a0 p) := by unfold lenGuard; infer_instance

theorem keyL_inj {a0 : (dChange × (List (Bool × Int)) × (List Int))} {p q : List dStep} (hp : lenGuard a0 p) (hq : lenGuard a0 q) (h : keyL p = keyL q) : p = q := by
 have hl : p.length = q.length := hp.1.trans hq.1.symm
 unfold keyL at h
 exact (List.append_inj h hl).1

theorem keyL_nil {a0 : (dChange × (List (Bool × Int)) × (List Int))} {p : List dStep} (hp : lenGuard a0 p) (h : keyL p = keyL []) : p = [] := by
 cases p with
 | nil => rfl
 | cons s p =>
  exfalso
  have h0 := (hp.2.2 s (by simp)).1
  have h1 : (keyL (s :: p))[0]? = (keyL [])[0]? := by rw [h]
  simp [keyL] at h1
  rw [h1] at h0
  omega

theorem keyL_len {p : List dStep} (h : p.length ≤ 4) : (keyL p).length = 4 := by simp [keyL]; omega

theorem typesN : Try.prog.types.size + 2 ≤ 10000 := Nat.le_of_ble_eq_true (by kernel_rfl)
theorem typesLine : 158 < Try.prog.types.size := Nat.lt_of_lt_of_le (Nat.lt_succ_self 158) (Nat.le_of_ble_eq_true (by kernel_rfl))
theorem klawLine : WideMaps.KeyLaw Try.prog 158 := deep_law_gate (by kernel_rfl) typesN (Nat.lt_of_lt_of_le (Nat.lt_succ_self 158) (Nat.le_of_ble_eq_true (by kernel_rfl))) (by kernel_rfl) (by kernel_rfl)

theorem key_line {l : List dStep} (h4 : l.length = 4) (hw : ∀ s ∈ l, (Lit.int .i64 s.1).wf = true ∧ (Lit.int .i64 s.2).wf = true) : ∃ lt, keyOf Try.prog 158 (lineV l) = some lt := by
 match l, h4, hw with
 | [(a0, a1), (b0, b1), (c0, c1), (d0, d1)], _, hw =>
  have h1 := hw (a0, a1) (by simp)
  have h2 := hw (b0, b1) (by simp)
  have h3 := hw (c0, c1) (by simp)
  have h4 := hw (d0, d1) (by simp)
  have hint : ∀ (d : Nat) (n : Int), (Lit.int .i64 n).wf = true → Try.prog.keyLits (d + 1) 3 [.int .i64 n] = some [.int .i64 n] := fun d n h => by
   simp only [Program.keyLits, Try.underlying3, h, and_self, if_true]
  have hstep : ∀ (d : Nat) (n m : Int), (Lit.int .i64 n).wf = true → (Lit.int .i64 m).wf = true → Try.prog.keyLits (d + 2) 43 [.int .i64 n, .int .i64 m] = some [.int .i64 n, .int .i64 m] := fun d n m g1 g2 => by
   have hc : Try.prog.cellsOf 43 = 2 := by kernel_rfl
   have hc3 : Try.prog.cellsOf 3 = 1 := by kernel_rfl
   simp [Program.keyLits, Try.underlying43, hc, hc3, g1, g2, Try.underlying3]
  obtain ⟨d, hd⟩ : ∃ d, Try.prog.types.size + 1 = d + 3 := ⟨Try.prog.types.size - 2, by have := typesLine; omega⟩
  have hc : Try.prog.cellsOf 158 = 8 := by kernel_rfl
  have hc2 : Try.prog.cellsOf 43 = 2 := by kernel_rfl
  have hk : Try.prog.keyType 158 = true := by kernel_rfl
  have hr : List.range 4 = [0, 1, 2, 3] := by decide
  have hL : Try.prog.keyLits (Try.prog.types.size + 1) 158 (lineV [(a0, a1), (b0, b1), (c0, c1), (d0, d1)]).cells.toList = some [.int .i64 a0, .int .i64 a1, .int .i64 b0, .int .i64 b1, .int .i64 c0, .int .i64 c1, .int .i64 d0, .int .i64 d1] := by
   rw [hd]
   unfold Program.keyLits
   simp [lineV, Value.cells, Try.underlying158, hc, hc2, hr, hstep, h1, h2, h3, h4]
  refine ⟨.string (keyBytes [.int .i64 a0, .int .i64 a1, .int .i64 b0, .int .i64 b1, .int .i64 c0, .int .i64 c1, .int .i64 d0, .int .i64 d1]), ?_⟩
  unfold keyOf
  rw [Try.underlying158]
  have hf : (lineV [(a0, a1), (b0, b1), (c0, c1), (d0, d1)]).formed Try.prog 158 = true := by simp [lineV, Value.formed, Try.underlying158, hc]
  simp only [hk, hf, Bool.and_self, if_true, hL, Option.map_some]

theorem wf_small {n : Int} (h1 : -1 ≤ n) (h2 : n < 8) : (Lit.int .i64 n).wf = true := by
 simp only [Lit.wf, Bool.and_eq_true, decide_eq_true_eq]
 exact ⟨Int.le_trans (by decide) h1, Int.le_trans (Int.le_of_lt h2) (by decide)⟩

theorem key_plan {a0 : (dChange × (List (Bool × Int)) × (List Int))} {p : List dStep} (h : lenGuard a0 p) : ∃ lt, keyOf Try.prog 158 (lineV (keyL p)) = some lt := by
 refine key_line (keyL_len h.2.1) fun s hs => ?_
 simp only [keyL, List.mem_append, List.mem_replicate] at hs
 rcases hs with hs | ⟨_, rfl⟩
 ·
  obtain ⟨h1, h2, h3, h4⟩ := h.2.2 s hs
  exact ⟨wf_small (by omega) h2, wf_small (by omega) h4⟩
 ·
  exact ⟨wf_small (by decide) (by decide), wf_small (by decide) (by decide)⟩

def chg_quick_length (k : Nat) (a0 : (dChange × (List (Bool × Int)) × (List Int))) (a1 : List dStep) : Option Int :=
 (chkP (lenGuard a0 a1)).bind fun _ =>
 (chg_keyOf k a1).bind fun ky =>
 (chkP (ky = keyL a1)).bind fun _ =>
 (chg_keyOf k []).bind fun k0 =>
 (chkP (k0 = keyL [])).bind fun _ =>
 if a1 = [] then some 0 else (chg_quick_begins k a0 a1).bind fun r => (slc_Max_int k r.2).bind fun n => some n

/-- What the map of the bars holds. -/
def Known (k : Nat) (a0 : (dChange × (List (Bool × Int)) × (List Int))) : Obj → Prop := MapInv Try.prog 158 fun kv n => ∃ p, lenGuard a0 p ∧ kv = lineV (keyL p) ∧ chg_quick_length k a0 p = some n
theorem known_nil {k : Nat} {a0 : (dChange × (List (Bool × Int)) × (List Int))} : Known k a0 (.map #[] 0) := MapInv.nil
theorem known_fun {k : Nat} {a0 : (dChange × (List (Bool × Int)) × (List Int))} {kv : Value} : ∀ n n' : Int, (∃ p, lenGuard a0 p ∧ kv = lineV (keyL p) ∧ chg_quick_length k a0 p = some n) → (∃ p, lenGuard a0 p ∧ kv = lineV (keyL p) ∧ chg_quick_length k a0 p = some n') → n = n' := by
 rintro n n' ⟨p, h1, h2, h3⟩ ⟨q, h4, h5, h6⟩
 obtain rfl := keyL_inj h1 h4 (lineV_inj (h2.symm.trans h5))
 exact Option.some.inj (h3.symm.trans h6)

theorem chg_quick_length_ok (k : Nat) (a0 : (dChange × (List (Bool × Int)) × (List Int))) (b_a0 z_a0 : Nat) (a1 : (List dStep)) (r : Int) (h : chg_quick_length k a0 a1 = some r) :
 Ctr Try.prog 70 [.eq (.pointer (some ⟨b_a0, 0, none⟩)), .rep (.slice tStep) a1] [.obj b_a0 120 (.agg (.pair (.agg (.pair (.rep (.slice tThing) a0.1.1) (.pair (.rep (.slice tDresser) a0.1.2.1) (.pair (.rep (.slice (.int .i64)) a0.1.2.2.1) (.rep (.slice (.int .i64)) a0.1.2.2.2))))) (.pair (.rep (.slice (.tag 131 133)) a0.2.1) (.pair (.rep (.arr 8 (.int .u8)) a0.2.2) (.eq (.map (some z_a0))))))), .inv z_a0 (Known k a0)] (fun _ : Unit => (resA [.eq (.int .i64 r)], [.obj b_a0 120 (.agg (.pair (.agg (.pair (.rep (.slice tThing) a0.1.1) (.pair (.rep (.slice tDresser) a0.1.2.1) (.pair (.rep (.slice (.int .i64)) a0.1.2.2.1) (.rep (.slice (.int .i64)) a0.1.2.2.2))))) (.pair (.rep (.slice (.tag 131 133)) a0.2.1) (.pair (.rep (.arr 8 (.int .u8)) a0.2.2) (.eq (.map (some z_a0))))))), .inv z_a0 (Known k a0)])) := by
 have h0 := h
 unfold chg_quick_length at h
 replace h := b_top h
 obtain ⟨u1, eg, h⟩ := b_bind h
 have hg := chkP_some eg
 obtain ⟨ky, eky, h⟩ := b_bind h
 obtain ⟨u2, e2, h⟩ := b_bind h
 have hky := chkP_some e2
 obtain ⟨k0, ek0, h⟩ := b_bind h
 obtain ⟨u3, e3, h⟩ := b_bind h
 have hk0 := chkP_some e3
 have gk := key_plan hg
 have g0 : ∃ lt, keyOf Try.prog 158 (lineV (keyL [])) = some lt := key_line (keyL_len (by simp)) (fun s hs => by simp [keyL] at hs; subst hs; exact ⟨by decide, by decide⟩)
 rw [← hky] at gk
 rw [← hk0] at g0
 refine Ctr.of 42 Try.func70 rfl Try.ntmps70 rfl fun S w0 => ?_
 refine sr ?_
 refine cq ?_
 refine nt ?_
 refine sr ?_
 refine mq ?_
 refine ja (o_call [.tmp 11] rfl rfl en108 rfl (chg_keyOf_ok k a1 ky eky)) ?_
 refine JO.s01 rfl rfl rfl (o_alloc rfl za158 al158) trivial fun b1 => ?_
 refine JO.n11 rfl rfl (o_store rfl sz158 rfl rfl rfl) ⟨rfl, rfl, trivial⟩ ?_
 refine nt ?_
 refine JC.seq ?_
 refine JC.seq ?_
 refine JC.drawN ?_
 refine ea 0 (o_load_obj rfl sz158 (nfn) rfl) ?_
 refine da (OpT.need (N := [(.const (.slice none 0 0), .eq (.slice none 0 0))]) (o_call [.const (.slice none 0 0)] rfl rfl en108 rfl (chg_keyOf_ok k [] k0 ek0)) fun _ _ _ hn => ⟨(ent_holds (t := (.slice tStep)) (x := ([] : (List dStep))) .nil rfl rfl hn.1), trivial⟩) ?_
 refine DN.fin (by kernel_rfl) mixed ?_
 refine JO.stepG (Δ := []) (F := _) (fun _ _ _ => wanted_none rfl _) rfl rfl (o_eqkey (kv := lineV ky) (kw := lineV k0) rfl (by kernel_rfl) (by kernel_rfl) klawLine (by kernel_rfl) (fun _ _ _ hh => line_holds hh) (fun _ _ _ hh => line_holds hh) gk g0) ⟨rfl, rfl, trivial⟩ fun q5 => ?_
 refine nt ?_
 refine JC.cond rfl (fun hb => ?_) (fun hb => ?_)
 ·
  have hn : a1 = [] := keyL_nil hg (by rw [← hky, ← hk0]; exact lineV_inj (q5.2.1 hb))
  replace h := b_if hn h
  refine sr ?_
  refine cq ?_
  refine nt ?_
  refine JC.ret ?_
  refine JN.then_r ?_
  refine JN.se (SE.fin (Γ' := [(4, _)]) [1, 2, 0] ⟨rfl, trivial⟩ rfl) ?_
  obtain rfl := Option.some.inj h
  exact JN.ret () [_] 2 ⟨rfl, trivial⟩ rfl
 ·
  have hn : ¬ a1 = [] := fun e => by rw [q5.2.2 (by rw [hky, hk0, e])] at hb; cases hb
  replace h := b_ifn hn h
  refine JC.skip ?_
  refine JN.then_n ?_
  show JC _ _ _ _ _
  refine JC.seq ?_
  refine JC.seq ?_
  refine JC.front 2 rfl ?_
  refine JC.openInv fun ob hob => ?_
  obtain ⟨lnn, lbb, hlR, hlk⟩ := lookup_cases (z := z_a0) Try.underlying118 zvLine klawLine gk known_fun hob
  refine JC.drawN ?_
  refine dm ?_
  refine da (o_nil_obj rfl) ?_
  refine da (o_field_obj rfl fo120_3) ?_
  refine ea 2 (o_load_obj rfl sz118 (fun _ => rfl) rfl) ?_
  refine ea 1 (o_load_obj rfl sz158 (nfn) rfl) ?_
  refine eb 0 (o_lookupD (kv := lineV ky) rfl (fun _ _ _ hh => line_holds hh) hlk) ?_
  refine dm ?_
  refine da (o_extract rfl rfl) ?_
  refine da (o_extract rfl rfl) ?_
  refine da (o_assign rfl) ?_
  refine DN.fin (by kernel_rfl) mixed ?_
  refine aq ?_
  refine nt ?_
  refine sr ?_
  refine mq ?_
  refine nt ?_
  refine JC.se (SE.rawInv (Known k a0) hob) ?_
  refine JC.cond rfl (fun hb => ?_) (fun hb => ?_)
  ·
   obtain ⟨p, hp, he, hl⟩ := hlR hb
   have hpa : p = a1 := keyL_inj hp hg (by rw [← hky]; exact (lineV_inj he).symm)
   rw [hpa] at hl
   replace h : (some lnn : Option Int).bind some = some r := hl.symm.trans h0
   refine sr ?_
   refine mq ?_
   refine aq ?_
   refine nt ?_
   refine JC.ret ?_
   refine JN.then_r ?_
   refine JN.se (SE.fin (Γ' := [(4, _)]) [2, 0, 1] ⟨rfl, trivial⟩ rfl) ?_
   obtain rfl := Option.some.inj h
   exact JN.ret () [_] 2 ⟨rfl, trivial⟩ rfl
  ·
   refine JC.skip ?_
   refine JN.then_n ?_
   show JC _ _ _ _ _
   refine sr ?_
   iterate 2 refine mq ?_
   obtain ⟨r2, er2, h⟩ := b_bind h
   have cr2 := chg_quick_begins_ok k ((a0.1.1, a0.1.2.1, a0.1.2.2.1, a0.1.2.2.2), a0.2.1, a0.2.2) b_a0 (.map (some z_a0)) a1 r2 er2
   refine JO.front 2 rfl ?_
   refine kb (o_call [.tmp 28, .tmp 29] rfl rfl en65 rfl cr2) ?_
   refine mq ?_
   refine ja (o_extract rfl rfl) ?_
   refine ja (o_extract rfl rfl) ?_
   refine JO.s01 rfl rfl rfl (o_alloc rfl za101 al101) trivial fun b3 => ?_
   refine aq ?_
   refine JO.n11 rfl rfl (o_store rfl sz101 rfl rfl rfl) ⟨rfl, rfl, trivial⟩ ?_
   refine nt ?_
   refine sr ?_
   refine ja (o_slice_arr rfl Try.underlying101 sz3) ?_
   refine JO.se (SE.arrSl' (by decide)) ?_
   obtain ⟨r4, er4, h⟩ := b_bind h
   have cr4 := slc_Max_int_ok k r2.2 r4 er4
   refine ka (OpT.borrow (N := [(.tmp 33, .eq (.slice (some ⟨b3, 0, none⟩) 4 4))]) (o_call [.tmp 33] rfl rfl en109 rfl cr4) (fun _ _ _ hv hn => ⟨(lend hn.1 hv), trivial⟩) (fun _ => ⟨rfl, flat_nil⟩)) ?_
   refine JO.se SE.slArr' ?_
   refine aq ?_
   refine nt ?_
   refine JC.seq ?_
   refine JC.drawN ?_
   refine dm ?_
   refine da (o_nil_obj rfl) ?_
   refine da (o_field_obj rfl fo120_3) ?_
   refine ea 1 (o_load_obj rfl sz118 (fun _ => rfl) rfl) ?_
   refine ea 3 (o_load_obj rfl sz158 (nfn) rfl) ?_
   refine dm ?_
   refine DN.fin (by kernel_rfl) mixed ?_
   refine JO.front 2 rfl ?_
   have hl : chg_quick_length k a0 a1 = some r4 := h0.trans (show some r = some r4 from h.symm)
   refine JO.n11 rfl rfl (o_mapUpdate (kv := lineV ky) rfl Try.underlying118 klawLine (fun _ _ _ hh => line_holds hh) gk ⟨a1, hg, by rw [hky], hl⟩) ⟨rfl, rfl, rfl, trivial⟩ ?_
   refine nt ?_
   refine sr ?_
   refine mq ?_
   refine aq ?_
   refine nt ?_
   refine JC.ret ?_
   refine JN.se (SE.fin (Γ' := [(4, _)]) [2, 0, 1, 3] ⟨rfl, trivial⟩ rfl) ?_
   obtain rfl := Option.some.inj h
   exact JN.ret () [_] 2 ⟨rfl, trivial⟩ rfl


def chg_least (k : Nat) (a0 : (dChange × (List (Bool × Int)) × (List Int))) : Option ((List dStep) × Int × Bool) :=
 (chg_quick_plans_1 k (stopY (fun (y5 : Bool × Int × (List dStep)) (p7 : (List dStep)) =>
  (chg_quick_length k ((a0.1.1, a0.1.2.1, a0.1.2.2.1, a0.1.2.2.2), a0.2.1, a0.2.2) p7).bind fun r9 =>
  ((if ¬ (y5.1 = true) then (some true) else (some (decide (r9 < y5.2.1)))) : Option (Bool)).bind fun x10 =>
  if x10 = true then (some ((true, r9, p7), true)) else (some ((y5.1, y5.2.1, y5.2.2), true)))) ((a0.1.1, a0.1.2.1, a0.1.2.2.1, a0.1.2.2.2), a0.2.1, a0.2.2) ((false, (0 : Int), []), false)).bind fun r8 =>
 if r8.2 = true then (none) else (some (r8.1.2.2, r8.1.2.1, r8.1.1))

theorem chg_least_ok (k : Nat) (a0 : (dChange × (List (Bool × Int)) × (List Int))) (b_a0 z_a0 : Nat) (c_a0 : Nat) (r : (List dStep) × Int × Bool) (h : chg_least k a0 = some r) :
 Ctr Try.prog 68 [.eq (.func (.func 104) #[] #[(.pointer (some ⟨c_a0, 0, none⟩))]), .eq (.func (.func 70) #[(.pointer (some ⟨b_a0, 0, none⟩))] #[])] [.obj b_a0 120 (.agg (.pair (.agg (.pair (.rep (.slice tThing) a0.1.1) (.pair (.rep (.slice tDresser) a0.1.2.1) (.pair (.rep (.slice (.int .i64)) a0.1.2.2.1) (.rep (.slice (.int .i64)) a0.1.2.2.2))))) (.pair (.rep (.slice (.tag 131 133)) a0.2.1) (.pair (.rep (.arr 8 (.int .u8)) a0.2.2) (.eq (.map (some z_a0))))))), .inv z_a0 (Known k a0), .obj c_a0 98 (.eq (.pointer (some ⟨b_a0, 0, none⟩)))] (fun _ : Unit => (resA [.rep (.slice tStep) r.1, .eq (.int .i64 r.2.1), .eq (.bool r.2.2)], [.obj b_a0 120 (.agg (.pair (.agg (.pair (.rep (.slice tThing) a0.1.1) (.pair (.rep (.slice tDresser) a0.1.2.1) (.pair (.rep (.slice (.int .i64)) a0.1.2.2.1) (.rep (.slice (.int .i64)) a0.1.2.2.2))))) (.pair (.rep (.slice (.tag 131 133)) a0.2.1) (.pair (.rep (.arr 8 (.int .u8)) a0.2.2) (.eq (.map (some z_a0))))))), .inv z_a0 (Known k a0), .obj c_a0 98 (.eq (.pointer (some ⟨b_a0, 0, none⟩)))])) := by
 unfold chg_least at h
 replace h := b_top h
 refine Ctr.ofM 29 Try.func68 rfl Try.ntmps68 rfl fun S w0 => ?_
 refine sr ?_
 refine JO.s01 rfl rfl rfl (o_box rfl rfl) ⟨rfl, trivial⟩ fun b1 => ?_
 refine cq ?_
 refine cq ?_
 refine cq ?_
 refine nt ?_
 refine sr ?_
 refine JO.s01 rfl rfl rfl (o_alloc rfl za30 al30) trivial fun b2 => ?_
 refine nt ?_
 refine sr ?_
 refine JO.s01 rfl rfl rfl (o_alloc rfl za3 al3) trivial fun b3 => ?_
 refine JO.s01 rfl rfl rfl (o_alloc rfl za4 al4) trivial fun b4 => ?_
 refine JO.front 1 rfl ?_
 refine JO.n11 rfl rfl (o_store rfl sz3 rfl rfl rfl) ⟨rfl, rfl, trivial⟩ ?_
 refine JO.front 1 rfl ?_
 refine JO.n11 rfl rfl (o_store rfl sz4 rfl rfl rfl) ⟨rfl, rfl, trivial⟩ ?_
 refine nt ?_
 refine JC.seq ?_
 refine sr ?_
 refine mq ?_
 refine nt ?_
 refine JC.block ?_
 refine JC.front 2 rfl ?_
 refine JC.se (SE.objE (a := .eq (.slice none 0 0)) (a' := .rep (.slice tStep) []) (AE.ent .nil)) ?_
 refine JC.front 5 rfl ?_
 refine JC.front 4 rfl ?_
 refine JC.front 2 rfl ?_
 refine JC.front 4 rfl ?_
 refine JC.front 4 rfl ?_
 refine JC.front 5 rfl ?_
 refine JC.front 6 rfl ?_
 obtain ⟨r8, er8, h⟩ := b_bind h
 refine JC.rangeFunc (Δ := [.obj c_a0 98 (.eq (.pointer (some ⟨b_a0, 0, none⟩))), .obj b_a0 120 (.agg (.pair (.agg (.pair (.rep (.slice tThing) a0.1.1) (.pair (.rep (.slice tDresser) a0.1.2.1) (.pair (.rep (.slice (.int .i64)) a0.1.2.2.1) (.rep (.slice (.int .i64)) a0.1.2.2.2))))) (.pair (.rep (.slice (.tag 131 133)) a0.2.1) (.pair (.rep (.arr 8 (.int .u8)) a0.2.2) (.eq (.map (some z_a0))))))), .obj b4 4 (.eq (.bool false)), .obj b3 3 (.eq (.int .i64 (0 : Int))), .obj b2 30 (.rep (.slice tStep) []), .obj b1 114 (.eq (.func (.func 70) #[(.pointer (some ⟨b_a0, 0, none⟩))] #[])), .inv z_a0 (Known k a0)]) (F := []) (X := Unit) (J := fun _ => jOf r8.2) (E := fun _ => [.obj c_a0 98 (.eq (.pointer (some ⟨b_a0, 0, none⟩))), .obj b_a0 120 (.agg (.pair (.agg (.pair (.rep (.slice tThing) a0.1.1) (.pair (.rep (.slice tDresser) a0.1.2.1) (.pair (.rep (.slice (.int .i64)) a0.1.2.2.1) (.rep (.slice (.int .i64)) a0.1.2.2.2))))) (.pair (.rep (.slice (.tag 131 133)) a0.2.1) (.pair (.rep (.arr 8 (.int .u8)) a0.2.2) (.eq (.map (some z_a0))))))), .obj b4 4 (.eq (.bool r8.1.1)), .obj b3 3 (.eq (.int .i64 r8.1.2.1)), .obj b2 30 (.rep (.slice tStep) r8.1.2.2), .obj b1 114 (.eq (.func (.func 70) #[(.pointer (some ⟨b_a0, 0, none⟩))] #[])), .inv z_a0 (Known k a0)]) (r0 := fun _ => .tup .any) rfl rfl en104 (fun rec hp ha hb hs hpe hN hv l => ?_) (fun dl _ => stop_cases (fun hj => ?_) (fun hj => ?_))
 ·
  rcases rec with ⟨st0, pe0, fn0, tm0, ps0, as0, bd0, df0⟩
  dsimp only at hp ha hb hs hpe hN hv
  subst hp hs hpe
  have vN : Vals tm0 [(3, .eq (.pointer (some ⟨b1, 0, none⟩))), (7, .eq (.pointer (some ⟨b2, 0, none⟩))), (8, .eq (.pointer (some ⟨b3, 0, none⟩))), (9, .eq (.pointer (some ⟨b4, 0, none⟩)))] := ⟨congrArg A.eq (hv 3 _ rfl).symm, congrArg A.eq (hv 7 _ rfl).symm, congrArg A.eq (hv 8 _ rfl).symm, congrArg A.eq (hv 9 _ rfl).symm, trivial⟩
  refine Ctr.pick [1, 2, 0, 3, 4, 5, 6, 7] [2, 0, 1, 3, 4, 5, 6, 7] (chg_quick_plans_1_ok (fun (_ : Unit) (q : (Bool × Int × (List dStep)) × Bool) => [.raw l (.loop (recEnd ⟨.ready, none, fn0, tm0, #[13], as0, bd0, df0⟩ (jOf q.2))), .obj b4 4 (.eq (.bool q.1.1)), .obj b3 3 (.eq (.int .i64 q.1.2.1)), .obj b2 30 (.rep (.slice tStep) q.1.2.2), .obj b1 114 (.eq (.func (.func 70) #[(.pointer (some ⟨b_a0, 0, none⟩))] #[])), .inv z_a0 (Known k a0)]) l (stopY (fun (y5 : Bool × Int × (List dStep)) (p7 : (List dStep)) =>
  (chg_quick_length k ((a0.1.1, a0.1.2.1, a0.1.2.2.1, a0.1.2.2.2), a0.2.1, a0.2.2) p7).bind fun r9 =>
  ((if ¬ (y5.1 = true) then (some true) else (some (decide (r9 < y5.2.1)))) : Option (Bool)).bind fun x10 =>
  if x10 = true then (some ((true, r9, p7), true)) else (some ((y5.1, y5.2.1, y5.2.2), true)))) k ((a0.1.1, a0.1.2.1, a0.1.2.2.1, a0.1.2.2.2), a0.2.1, a0.2.2) b_a0 (.map (some z_a0)) c_a0 (fun z q p r' h => ?_) () ((false, (0 : Int), []), false) r8 er8) rfl (fun _ => rfl) (fun _ => rfl)
  obtain ⟨r2, hq, h2, rfl⟩ := stopY_some h
  obtain ⟨y5, b5⟩ := q
  obtain rfl : b5 = false := hq
  replace h := b_top h2
  obtain ⟨p7, hpv⟩ : ∃ x, x = p := ⟨_, rfl⟩
  subst hpv
  refine YT.pick (R' := (fun _ : Unit => (.eq (.bool r2.2), [.raw l (.loop (recEnd ⟨.ready, none, fn0, tm0, #[13], as0, bd0, df0⟩ (jOf (!r2.2)))), .obj b_a0 120 (.agg (.pair (.agg (.pair (.rep (.slice tThing) a0.1.1) (.pair (.rep (.slice tDresser) a0.1.2.1) (.pair (.rep (.slice (.int .i64)) a0.1.2.2.1) (.rep (.slice (.int .i64)) a0.1.2.2.2))))) (.pair (.rep (.slice (.tag 131 133)) a0.2.1) (.pair (.rep (.arr 8 (.int .u8)) a0.2.2) (.eq (.map (some z_a0))))))), .obj b4 4 (.eq (.bool r2.1.1)), .obj b3 3 (.eq (.int .i64 r2.1.2.1)), .obj b2 30 (.rep (.slice tStep) r2.1.2.2), .obj b1 114 (.eq (.func (.func 70) #[(.pointer (some ⟨b_a0, 0, none⟩))] #[])), .inv z_a0 (Known k a0)]))) [1, 0, 2, 3, 4, 5, 6] [1, 0, 2, 3, 4, 5, 6] (YT.of' ha hb (N := 29) (Γ := [(3, .eq (.pointer (some ⟨b1, 0, none⟩))), (7, .eq (.pointer (some ⟨b2, 0, none⟩))), (8, .eq (.pointer (some ⟨b3, 0, none⟩))), (9, .eq (.pointer (some ⟨b4, 0, none⟩)))]) rfl hN (by decide) vN (fun S w => ?_)) rfl (fun _ => rfl) (fun _ => rfl)
  refine JC.region ?_
  refine aq ?_
  refine JO.nil ?_
  refine JN.then_n ?_
  refine JN.begin rfl rfl ?_
  refine JC.block ?_
  refine sr ?_
  refine JO.front 5 rfl ?_
  refine ka (o_load_obj rfl sz114 (fun _ => rfl) rfl) ?_
  refine mq ?_
  obtain ⟨r9, er9, h⟩ := b_bind h
  have cr9 := chg_quick_length_ok k ((a0.1.1, a0.1.2.1, a0.1.2.2.1, a0.1.2.2.2), a0.2.1, a0.2.2) b_a0 z_a0 p7 r9 er9
  refine JO.front 6 rfl ?_
  refine JO.front 3 rfl ?_
  refine JO.stepG (Δ := [_, _]) (F := _) (fun _ _ _ => wanted_none rfl _) rfl rfl (o_callv (fs := [(.pointer (some ⟨b_a0, 0, none⟩))]) (cs := []) (ags := [.rep (.slice tStep) p7]) [.tmp 15] rfl rfl en70 rfl cr9) ⟨rfl, rfl, trivial⟩ fun _ => ?_
  refine aq ?_
  refine nt ?_
  refine JC.cutB (Z := Unit) (α := Bool) (fun z11 x10 => [(7, .eq (.pointer (some ⟨b2, 0, none⟩))), (8, .eq (.pointer (some ⟨b3, 0, none⟩))), (9, .eq (.pointer (some ⟨b4, 0, none⟩))), (10, .rep (.slice tStep) p7), (11, .eq (.int .i64 r9)), (23, .eq (.bool x10))]) (fun z11 x10 => [.obj b2 30 (.rep (.slice tStep) y5.2.2), .obj b3 3 (.eq (.int .i64 y5.2.1)), .obj b4 4 (.eq (.bool y5.1)), .obj b_a0 120 (.agg (.pair (.agg (.pair (.rep (.slice tThing) a0.1.1) (.pair (.rep (.slice tDresser) a0.1.2.1) (.pair (.rep (.slice (.int .i64)) a0.1.2.2.1) (.rep (.slice (.int .i64)) a0.1.2.2.2))))) (.pair (.rep (.slice (.tag 131 133)) a0.2.1) (.pair (.rep (.arr 8 (.int .u8)) a0.2.2) (.eq (.map (some z_a0))))))), .inv z_a0 (Known k a0), .obj b1 114 (.eq (.func (.func 70) #[(.pointer (some ⟨b_a0, 0, none⟩))] #[])), .raw l (.loop (⟨.busy, none, fn0, tm0, #[13], as0, bd0, df0⟩ : Loop))]) h (fun K h => ?_) (fun z11 x10 h => ?_)
  ·
   refine JC.region ?_
   refine JO.front 4 rfl ?_
   refine ka (o_load_obj rfl sz4 (fun _ => rfl) rfl) ?_
   refine ja (o_not rfl) ?_
   refine mq ?_
   refine JO.bool (s := 19) rfl (fun hb => ?_) (fun hb => ?_)
   ·
    replace h := b_if (nv_t hb) h
    iterate 3 refine gn ?_
    refine pt ?_
    refine JO.nil ?_
    refine JN.then_n ?_
    exact JN.z ((), true) h (SE.fin [6, 5, 0, 1, 2, 3, 4] ⟨rfl, rfl, rfl, rfl, rfl, rfl, trivial⟩ rfl)
   ·
    replace h := b_ifn (nv_fn hb) h
    refine gm ?_
    refine JO.front 5 rfl ?_
    refine JO.g11 rfl rfl rfl rfl rfl rfl (o_load_obj rfl sz3 (fun _ => rfl) rfl) ⟨rfl, trivial⟩ ?_
    refine gb (o_lss rfl) ?_
    refine pf ?_
    refine JO.nil ?_
    refine JN.then_n ?_
    exact JN.z ((), decide (r9 < y5.2.1)) h (SE.fin [6, 0, 1, 2, 3, 4, 5] ⟨rfl, rfl, rfl, rfl, rfl, rfl, trivial⟩ rfl)
  ·
   refine JC.cond rfl (fun hb => ?_) (fun hb => ?_)
   ·
    replace h := b_if (v_t hb) h
    refine JC.region ?_
    iterate 2 refine mq ?_
    refine JO.n11 rfl rfl (o_store rfl sz30 rfl rfl rfl) ⟨rfl, rfl, trivial⟩ ?_
    refine JO.front 1 rfl ?_
    refine JO.n11 rfl rfl (o_store rfl sz3 rfl rfl rfl) ⟨rfl, rfl, trivial⟩ ?_
    refine JO.front 2 rfl ?_
    refine JO.n11 rfl rfl (o_store rfl sz4 rfl rfl rfl) ⟨rfl, rfl, trivial⟩ ?_
    refine JO.nil ?_
    refine JN.blk_n ?_
    refine JN.front 4 rfl ?_
    refine JN.front 5 rfl ?_
    refine JN.front 4 rfl ?_
    refine JN.front 4 rfl ?_
    refine JN.front 4 rfl ?_
    refine JN.front 5 rfl ?_
    refine JN.front 6 rfl ?_
    obtain rfl := Option.some.inj h
    exact JN.roundN () 6 rfl
   ·
    replace h := b_ifn (v_f hb) h
    refine JC.skip ?_
    refine JN.blk_n ?_
    refine JN.front 4 rfl ?_
    refine JN.front 5 rfl ?_
    refine JN.front 2 rfl ?_
    refine JN.front 3 rfl ?_
    refine JN.front 4 rfl ?_
    refine JN.front 5 rfl ?_
    refine JN.front 6 rfl ?_
    obtain rfl := Option.some.inj h
    exact JN.roundN () 6 rfl
 ·
  replace h := b_ifn (v_f hj) h
  refine JN.blk_n ?_
  refine JN.then_n ?_
  show JC _ _ _ _ _
  refine JC.seq ?_
  refine JC.drawN ?_
  refine ea 5 (o_load_obj rfl sz30 (fun _ => rfl) rfl) ?_
  refine ea 4 (o_load_obj rfl sz3 (fun _ => rfl) rfl) ?_
  refine ea 3 (o_load_obj rfl sz4 (fun _ => rfl) rfl) ?_
  refine da (o_assign rfl) ?_
  refine da (o_assign rfl) ?_
  refine DN.fin (by kernel_rfl) mixed ?_
  refine aq ?_
  refine nt ?_
  refine JC.ret ?_
  refine JN.retM ?_
  refine JN.se (SE.fin (Γ' := [(4, _), (5, _), (6, _)]) [1, 6, 0, 2, 3, 4, 5] ⟨rfl, rfl, rfl, trivial⟩ rfl) ?_
  obtain rfl := Option.some.inj h
  exact JN.ret () [_, _, _] 3 ⟨rfl, rfl, rfl, trivial⟩ rfl
 ·
  replace h := b_if (v_t hj) h
  cases h


def chg_Fewest (k : Nat) (a0 : dChange) : Option ((List dStep) × Int × Int) :=
 (chg_begin k a0).bind fun r2 =>
 casesO r2.1 (if ¬ (r2.2 = (0 : Int)) then (some ([], (0 : Int), r2.2)) else (none)) (fun q3 => if ¬ (r2.2 = (0 : Int)) then (some ([], (0 : Int), r2.2)) else ((chg_least k ((q3.1.1, q3.1.2.1, q3.1.2.2.1, q3.1.2.2.2), q3.2.1, q3.2.2)).bind fun r6 =>
 if ¬ (r6.2.2 = true) then (some ([], (0 : Int), (11 : Int))) else (some (r6.1, r6.2.1, (0 : Int)))))

theorem chg_Fewest_ok (k : Nat) (a0 : dChange) (r : (List dStep) × Int × Int) (h : chg_Fewest k a0 = some r) :
 Ctr Try.prog 25 [.rep tChange a0] [] (fun _ : Unit => (resA [.rep (.slice tStep) r.1, .eq (.int .i64 r.2.1), .eq (.int .i64 r.2.2)], [])) := by
 unfold chg_Fewest at h
 replace h := b_top h
 refine Ctr.of 31 Try.func25 rfl Try.ntmps25 rfl fun S w0 => ?_
 refine sr ?_
 refine JO.s01 rfl rfl rfl (o_box rfl rfl) ⟨rfl, trivial⟩ fun b1 => ?_
 refine cq ?_
 refine cq ?_
 refine cq ?_
 refine nt ?_
 refine sr ?_
 refine ka (o_load_obj rfl sz28 (nfn) rfl) ?_
 obtain ⟨r2, er2, h⟩ := b_bind h
 have cr2 := chg_begin_ok k a0 r2 er2
 rcases hr : r2.1 with _ | q3
 ·
  rw [hr] at h cr2; replace h := co_n h
  refine JO.stepG (Δ := []) (F := _) (fun _ _ _ => wanted_none rfl _) rfl rfl (o_call [.tmp 11] rfl rfl en67 rfl cr2) ⟨rfl, trivial⟩ fun _ => ?_
  refine mq ?_
  refine ja (o_extract rfl rfl) ?_
  refine ja (o_extract rfl rfl) ?_
  refine aq ?_
  refine aq ?_
  refine nt ?_
  refine JC.seq ?_
  refine sr ?_
  refine mq ?_
  refine jb (o_neq rfl) ?_
  refine nt ?_
  refine JC.cond rfl (fun hb => ?_) (fun hb => ?_)
  ·
   replace h := b_if (n_t hb) h
   refine sr ?_
   refine mq ?_
   refine cq ?_
   refine cq ?_
   refine aq ?_
   refine nt ?_
   refine JC.ret ?_
   refine JN.then_r ?_
   refine JN.se (SE.ent (t := (.slice tStep)) (x := []) 2 rfl .nil rfl rfl) ?_
   obtain rfl := Option.some.inj h
   exact JN.ret () [_, _, _] 0 ⟨rfl, rfl, rfl, trivial⟩ rfl
  ·
   replace h := b_ifn (n_fn hb) h
   refine JC.skip ?_
   refine JN.then_n ?_
   show JC _ _ _ _ _
   refine sr ?_
   refine mq ?_
   cases h
 ·
  rw [hr] at h cr2; replace h := co_s h
  refine JO.stepG (Δ := []) (F := _) (fun _ _ _ => wanted_none rfl _) rfl rfl (o_call [.tmp 11] rfl rfl en67 rfl cr2) ⟨rfl, trivial⟩ fun z4 => ?_
  refine mq ?_
  refine ja (o_extract rfl rfl) ?_
  refine ja (o_extract rfl rfl) ?_
  refine aq ?_
  refine aq ?_
  refine nt ?_
  refine JC.seq ?_
  refine sr ?_
  refine mq ?_
  refine jb (o_neq rfl) ?_
  refine nt ?_
  refine JC.cond rfl (fun hb => ?_) (fun hb => ?_)
  ·
   replace h := b_if (n_t hb) h
   refine sr ?_
   refine mq ?_
   refine cq ?_
   refine cq ?_
   refine aq ?_
   refine nt ?_
   refine JC.ret ?_
   refine JN.then_r ?_
   refine JN.se (SE.ent (t := (.slice tStep)) (x := []) 2 rfl .nil rfl rfl) ?_
   obtain rfl := Option.some.inj h
   exact JN.ret () [_, _, _] 0 ⟨rfl, rfl, rfl, trivial⟩ rfl
  ·
   replace h := b_ifn (n_fn hb) h
   refine JC.skip ?_
   refine JN.then_n ?_
   show JC _ _ _ _ _
   refine sr ?_
   refine mq ?_
   refine JO.s01 rfl rfl rfl (o_call [.tmp 19] rfl rfl en69 rfl (chg_quick_plans_ok z4.1)) ⟨rfl, trivial⟩ fun b5 => ?_
   refine mq ?_
   refine ja (o_mkfn [.tmp 21] [] [(.pointer (some ⟨z4.1, 0, none⟩))] [] rfl rfl rfl) ?_
   refine JO.front 2 rfl ?_
   refine JO.se (SE.rawInv (Known k ((q3.1.1, q3.1.2.1, q3.1.2.2.1, q3.1.2.2.2), q3.2.1, q3.2.2)) known_nil) ?_
   obtain ⟨r6, er6, h⟩ := b_bind h
   have cr6 := chg_least_ok k ((q3.1.1, q3.1.2.1, q3.1.2.2.1, q3.1.2.2.2), q3.2.1, q3.2.2) z4.1 z4.2 b5 r6 er6
   refine JO.front 1 rfl ?_
   refine JO.front 1 rfl ?_
   refine JO.front 2 rfl ?_
   refine JO.stepG (Δ := [_, _, _]) (F := _) (fun _ _ _ => wanted_none rfl _) rfl rfl (o_call [.tmp 20, .tmp 22] rfl rfl en68 rfl cr6) ⟨rfl, rfl, trivial⟩ fun _ => ?_
   refine mq ?_
   refine ja (o_extract rfl rfl) ?_
   refine ja (o_extract rfl rfl) ?_
   refine ja (o_extract rfl rfl) ?_
   refine aq ?_
   refine aq ?_
   refine aq ?_
   refine nt ?_
   refine JC.seq ?_
   refine sr ?_
   refine mq ?_
   refine ja (o_not rfl) ?_
   refine nt ?_
   refine JC.cond rfl (fun hb => ?_) (fun hb => ?_)
   ·
    replace h := b_if (nv_t hb) h
    refine sr ?_
    refine cq ?_
    refine cq ?_
    refine cq ?_
    refine nt ?_
    refine JC.ret ?_
    refine JN.then_r ?_
    refine JN.se (SE.ent (t := (.slice tStep)) (x := []) 2 rfl .nil rfl rfl) ?_
    obtain rfl := Option.some.inj h
    exact JN.ret () [_, _, _] 0 ⟨rfl, rfl, rfl, trivial⟩ rfl
   ·
    replace h := b_ifn (nv_fn hb) h
    refine JC.skip ?_
    refine JN.then_n ?_
    show JC _ _ _ _ _
    refine sr ?_
    iterate 2 refine mq ?_
    refine aq ?_
    refine aq ?_
    refine cq ?_
    refine nt ?_
    refine JC.ret ?_
    obtain rfl := Option.some.inj h
    exact JN.ret () [_, _, _] 0 ⟨rfl, rfl, rfl, trivial⟩ rfl


def slc_Clone_Dresser (k : Nat) (a0 : List dDresser) : Option (List dDresser) :=
 (chkP (okLen (List.length a0))).bind fun _ => some a0

theorem slc_Clone_Dresser_ok (k : Nat) (a0 : List dDresser) (r : List dDresser) (h : slc_Clone_Dresser k a0 = some r) :
 Ctr Try.prog 72 [.rep (.slice tDresser) a0] [] (fun z : Value => (resA [.eq z], [.sl z 53 tDresser r])) := by
 unfold slc_Clone_Dresser at h
 replace h := b_top h
 refine Ctr.of 8 Try.func72 rfl Try.ntmps72 rfl fun S w0 => ?_
 obtain ⟨u1, eu1, h⟩ := b_bind h
 obtain rfl := Option.some.inj h
 refine sr ?_
 refine cq ?_
 refine nt ?_
 refine JC.seq ?_
 refine sr ?_
 refine mq ?_
 refine JO.stepG (Δ := []) (F := _) (fun _ _ _ => wanted_none rfl _) rfl rfl (o_eqnil rfl Try.underlying26) ⟨rfl, rfl, trivial⟩ fun b => ?_
 refine nt ?_
 refine JC.cond rfl (fun hb => ?_) (fun hb => ?_)
 ·
  refine sr ?_
  refine cq ?_
  refine nt ?_
  refine JC.ret ?_
  refine JN.then_r ?_
  obtain rfl := b.2 hb
  refine JN.se (SE.nil 53 tDresser) ?_
  exact JN.ret (.slice none 0 0) [.eq (.slice none 0 0)] 1 ⟨rfl, trivial⟩ rfl
 ·
  refine JC.skip ?_
  refine JN.then_n ?_
  show JC _ _ _ _ _
  refine sr ?_
  refine JO.s01 rfl rfl rfl (o_litB_own (t := tDresser) [] [] rfl rfl sl26 .nil rfl rfl) trivial fun v1 => ?_
  refine mq ?_
  refine JO.s1x rfl rfl rfl (o_append rfl rfl sl26 (by simpa using chkP_some eu1)) ⟨rfl, rfl, trivial⟩ fun v2 => ?_
  refine aq ?_
  refine nt ?_
  refine JC.ret ?_
  exact JN.ret v2 [.eq v2] 1 ⟨rfl, trivial⟩ rfl


def chg_quick_fewest (k : Nat) (a0 : (dChange × (List (Bool × Int)) × (List Int))) (a1 : (List dDresser)) : Option (Int × Bool) :=
 (chg_begin k (a0.1.1, a1, a0.1.2.2.1, a0.1.2.2.2)).bind fun r2 =>
 casesO r2.1 (if ¬ (r2.2 = (0 : Int)) then (some ((0 : Int), false)) else (none)) (fun q3 => if ¬ (r2.2 = (0 : Int)) then (some ((0 : Int), false)) else ((chg_least k ((q3.1.1, q3.1.2.1, q3.1.2.2.1, q3.1.2.2.2), q3.2.1, q3.2.2)).bind fun r6 =>
 some (r6.2.1, r6.2.2)))

theorem chg_quick_fewest_ok (k : Nat) (a0 : (dChange × (List (Bool × Int)) × (List Int))) (b_a0 : Nat) (m_a0 : Value) (a1 : (List dDresser)) (r : Int × Bool) (h : chg_quick_fewest k a0 a1 = some r) :
 Ctr Try.prog 73 [.eq (.pointer (some ⟨b_a0, 0, none⟩)), .rep (.slice tDresser) a1] [.obj b_a0 120 (.agg (.pair (.agg (.pair (.rep (.slice tThing) a0.1.1) (.pair (.rep (.slice tDresser) a0.1.2.1) (.pair (.rep (.slice (.int .i64)) a0.1.2.2.1) (.rep (.slice (.int .i64)) a0.1.2.2.2))))) (.pair (.rep (.slice (.tag 131 133)) a0.2.1) (.pair (.rep (.arr 8 (.int .u8)) a0.2.2) (.eq m_a0)))))] (fun _ : Unit => (resA [.eq (.int .i64 r.1), .eq (.bool r.2)], [.obj b_a0 120 (.agg (.pair (.agg (.pair (.rep (.slice tThing) a0.1.1) (.pair (.rep (.slice tDresser) a0.1.2.1) (.pair (.rep (.slice (.int .i64)) a0.1.2.2.1) (.rep (.slice (.int .i64)) a0.1.2.2.2))))) (.pair (.rep (.slice (.tag 131 133)) a0.2.1) (.pair (.rep (.arr 8 (.int .u8)) a0.2.2) (.eq m_a0)))))])) := by
 unfold chg_quick_fewest at h
 replace h := b_top h
 refine Ctr.of 36 Try.func73 rfl Try.ntmps73 rfl fun S w0 => ?_
 refine sr ?_
 refine cq ?_
 refine cq ?_
 refine nt ?_
 refine sr ?_
 refine mq ?_
 refine ja (o_nil_obj rfl) ?_
 refine ja (o_field_obj rfl fo120_0) ?_
 refine ka (o_load_obj rfl sz28 (nfn) rfl) ?_
 refine JO.s01 rfl rfl rfl (o_alloc rfl za28 al28) trivial fun b1 => ?_
 refine JO.n11 rfl rfl (o_store rfl sz28 trivial rfl rfl) ⟨rfl, rfl, trivial⟩ ?_
 refine nt ?_
 refine sr ?_
 refine mq ?_
 refine ja (o_field_obj rfl fo28_1) ?_
 refine JO.n11 rfl rfl (o_store rfl sz26 rfl rfl rfl) ⟨rfl, rfl, trivial⟩ ?_
 refine nt ?_
 refine sr ?_
 refine ka (o_load_obj rfl sz28 (nfn) rfl) ?_
 obtain ⟨r2, er2, h⟩ := b_bind h
 have cr2 := chg_begin_ok k (a0.1.1, a1, a0.1.2.2.1, a0.1.2.2.2) r2 er2
 rcases hr : r2.1 with _ | q3
 ·
  rw [hr] at h cr2; replace h := co_n h
  refine JO.stepG (Δ := []) (F := _) (fun _ _ _ => wanted_none rfl _) rfl rfl (OpT.need (N := [(.tmp 19, .agg (.pair (.rep (.slice tThing) a0.1.1) (.pair (.rep (.slice tDresser) a1) (.pair (.rep (.slice (.int .i64)) a0.1.2.2.1) (.rep (.slice (.int .i64)) a0.1.2.2.2)))))]) (o_call [.tmp 19] rfl rfl en67 rfl cr2) fun _ _ _ hn => ⟨(ent_holds (t := tChange) (x := (a0.1.1, a1, a0.1.2.2.1, a0.1.2.2.2)) (.agg (.pair .rep (.pair .rep (.pair .rep .rep)))) trivial rfl hn.1), trivial⟩) ⟨rfl, trivial⟩ fun _ => ?_
  refine mq ?_
  refine ja (o_extract rfl rfl) ?_
  refine ja (o_extract rfl rfl) ?_
  refine aq ?_
  refine aq ?_
  refine nt ?_
  refine JC.seq ?_
  refine sr ?_
  refine mq ?_
  refine jb (o_neq rfl) ?_
  refine nt ?_
  refine JC.cond rfl (fun hb => ?_) (fun hb => ?_)
  ·
   replace h := b_if (n_t hb) h
   refine sr ?_
   refine cq ?_
   refine cq ?_
   refine nt ?_
   refine JC.ret ?_
   refine JN.then_r ?_
   refine JN.se (SE.fin (Γ' := [(4, _), (5, _)]) [1, 0] ⟨rfl, rfl, trivial⟩ rfl) ?_
   obtain rfl := Option.some.inj h
   exact JN.ret () [_, _] 1 ⟨rfl, rfl, trivial⟩ rfl
  ·
   replace h := b_ifn (n_fn hb) h
   refine JC.skip ?_
   refine JN.then_n ?_
   show JC _ _ _ _ _
   refine sr ?_
   refine mq ?_
   cases h
 ·
  rw [hr] at h cr2; replace h := co_s h
  refine JO.stepG (Δ := []) (F := _) (fun _ _ _ => wanted_none rfl _) rfl rfl (OpT.need (N := [(.tmp 19, .agg (.pair (.rep (.slice tThing) a0.1.1) (.pair (.rep (.slice tDresser) a1) (.pair (.rep (.slice (.int .i64)) a0.1.2.2.1) (.rep (.slice (.int .i64)) a0.1.2.2.2)))))]) (o_call [.tmp 19] rfl rfl en67 rfl cr2) fun _ _ _ hn => ⟨(ent_holds (t := tChange) (x := (a0.1.1, a1, a0.1.2.2.1, a0.1.2.2.2)) (.agg (.pair .rep (.pair .rep (.pair .rep .rep)))) trivial rfl hn.1), trivial⟩) ⟨rfl, trivial⟩ fun z4 => ?_
  refine mq ?_
  refine ja (o_extract rfl rfl) ?_
  refine ja (o_extract rfl rfl) ?_
  refine aq ?_
  refine aq ?_
  refine nt ?_
  refine JC.seq ?_
  refine sr ?_
  refine mq ?_
  refine jb (o_neq rfl) ?_
  refine nt ?_
  refine JC.cond rfl (fun hb => ?_) (fun hb => ?_)
  ·
   replace h := b_if (n_t hb) h
   refine sr ?_
   refine cq ?_
   refine cq ?_
   refine nt ?_
   refine JC.ret ?_
   refine JN.then_r ?_
   refine JN.se (SE.fin (Γ' := [(4, _), (5, _)]) [3, 0, 1, 2] ⟨rfl, rfl, trivial⟩ rfl) ?_
   obtain rfl := Option.some.inj h
   exact JN.ret () [_, _] 1 ⟨rfl, rfl, trivial⟩ rfl
  ·
   replace h := b_ifn (n_fn hb) h
   refine JC.skip ?_
   refine JN.then_n ?_
   show JC _ _ _ _ _
   refine sr ?_
   refine mq ?_
   refine JO.s01 rfl rfl rfl (o_call [.tmp 26] rfl rfl en69 rfl (chg_quick_plans_ok z4.1)) ⟨rfl, trivial⟩ fun b5 => ?_
   refine mq ?_
   refine ja (o_mkfn [.tmp 28] [] [(.pointer (some ⟨z4.1, 0, none⟩))] [] rfl rfl rfl) ?_
   refine JO.front 2 rfl ?_
   refine JO.se (SE.rawInv (Known k ((q3.1.1, q3.1.2.1, q3.1.2.2.1, q3.1.2.2.2), q3.2.1, q3.2.2)) known_nil) ?_
   obtain ⟨r6, er6, h⟩ := b_bind h
   have cr6 := chg_least_ok k ((q3.1.1, q3.1.2.1, q3.1.2.2.1, q3.1.2.2.2), q3.2.1, q3.2.2) z4.1 z4.2 b5 r6 er6
   refine JO.front 1 rfl ?_
   refine JO.front 1 rfl ?_
   refine JO.front 2 rfl ?_
   refine JO.stepG (Δ := [_, _, _]) (F := _) (fun _ _ _ => wanted_none rfl _) rfl rfl (o_call [.tmp 27, .tmp 29] rfl rfl en68 rfl cr6) ⟨rfl, rfl, trivial⟩ fun _ => ?_
   refine mq ?_
   refine ja (o_extract rfl rfl) ?_
   refine ja (o_extract rfl rfl) ?_
   refine ja (o_extract rfl rfl) ?_
   refine aq ?_
   refine aq ?_
   refine aq ?_
   refine nt ?_
   refine sr ?_
   iterate 2 refine mq ?_
   refine aq ?_
   refine aq ?_
   refine nt ?_
   refine JC.ret ?_
   refine JN.se (SE.fin (Γ' := [(4, _), (5, _)]) [4, 0, 1, 2, 3] ⟨rfl, rfl, trivial⟩ rfl) ?_
   obtain rfl := Option.some.inj h
   exact JN.ret () [_, _] 1 ⟨rfl, rfl, trivial⟩ rfl


def chg_quick_fewestF (k : Nat) (a0 : dquick) (a1 : (List dDresser)) : Option (Int × Bool) :=
 (chg_begin k (a0.1.1, a1, a0.1.2.2)).bind fun r2 =>
 casesO r2.1 (if ¬ (r2.2 = (0 : Int)) then (some ((0 : Int), false)) else (none)) (fun q3 => if ¬ (r2.2 = (0 : Int)) then (some ((0 : Int), false)) else ((chg_least k ((q3.1.1, q3.1.2.1, q3.1.2.2.1, q3.1.2.2.2), q3.2.1, q3.2.2)).bind fun r6 =>
 some (r6.2.1, r6.2.2)))

theorem chg_quick_fewestF_ok (k : Nat) (a0 : dquick) (a1 : (List dDresser)) (r : Int × Bool) (h : chg_quick_fewestF k a0 a1 = some r) :
 Ctr Try.prog 73 [.at tquick a0, .rep (.slice tDresser) a1] [] (fun _ : Unit => (resA [.eq (.int .i64 r.1), .eq (.bool r.2)], [])) := by
 unfold chg_quick_fewestF at h
 replace h := b_top h
 refine Ctr.of 36 Try.func73 rfl Try.ntmps73 rfl fun S w0 => ?_
 refine sr ?_
 refine cq ?_
 refine cq ?_
 refine nt ?_
 refine sr ?_
 refine mq ?_
 refine ja (o_nil_at rfl) ?_
 refine ja (o_field_at 4 true rfl fo120_0 rfl) ?_
 refine ja (o_load_at (t := tChange) rfl sz28 rfl) ?_
 refine JO.s01 rfl rfl rfl (o_alloc rfl za28 al28) trivial fun b1 => ?_
 refine JO.n11 rfl rfl (o_store rfl sz28 rfl rfl rfl) ⟨rfl, rfl, trivial⟩ ?_
 refine nt ?_
 refine sr ?_
 refine mq ?_
 refine ja (o_field_obj rfl fo28_1) ?_
 refine JO.n11 rfl rfl (o_store rfl sz26 rfl rfl rfl) ⟨rfl, rfl, trivial⟩ ?_
 refine nt ?_
 refine sr ?_
 refine ka (o_load_obj rfl sz28 (nfn) rfl) ?_
 obtain ⟨r2, er2, h⟩ := b_bind h
 have cr2 := chg_begin_ok k (a0.1.1, a1, a0.1.2.2) r2 er2
 rcases hr : r2.1 with _ | q3
 ·
  rw [hr] at h cr2; replace h := co_n h
  refine JO.stepG (Δ := []) (F := _) (fun _ _ _ => wanted_none rfl _) rfl rfl (OpT.need (N := [(.tmp 19, .agg (.pair (.rep (.slice tThing) a0.1.1) (.pair (.rep (.slice tDresser) a1) (.rep (.pair (.slice (.int .i64)) (.slice (.int .i64))) a0.1.2.2))))]) (o_call [.tmp 19] rfl rfl en67 rfl cr2) fun _ _ _ hn => ⟨(ent_holds (t := tChange) (x := (a0.1.1, a1, a0.1.2.2)) (.agg (.pair .rep (.pair .rep .rep))) trivial rfl hn.1), trivial⟩) ⟨rfl, trivial⟩ fun _ => ?_
  refine mq ?_
  refine ja (o_extract rfl rfl) ?_
  refine ja (o_extract rfl rfl) ?_
  refine aq ?_
  refine aq ?_
  refine nt ?_
  refine JC.seq ?_
  refine sr ?_
  refine mq ?_
  refine jb (o_neq rfl) ?_
  refine nt ?_
  refine JC.cond rfl (fun hb => ?_) (fun hb => ?_)
  ·
   replace h := b_if (n_t hb) h
   refine sr ?_
   refine cq ?_
   refine cq ?_
   refine nt ?_
   refine JC.ret ?_
   refine JN.then_r ?_
   obtain rfl := Option.some.inj h
   exact JN.ret () [_, _] 0 ⟨rfl, rfl, trivial⟩ rfl
  ·
   replace h := b_ifn (n_fn hb) h
   refine JC.skip ?_
   refine JN.then_n ?_
   show JC _ _ _ _ _
   refine sr ?_
   refine mq ?_
   cases h
 ·
  rw [hr] at h cr2; replace h := co_s h
  refine JO.stepG (Δ := []) (F := _) (fun _ _ _ => wanted_none rfl _) rfl rfl (OpT.need (N := [(.tmp 19, .agg (.pair (.rep (.slice tThing) a0.1.1) (.pair (.rep (.slice tDresser) a1) (.rep (.pair (.slice (.int .i64)) (.slice (.int .i64))) a0.1.2.2))))]) (o_call [.tmp 19] rfl rfl en67 rfl cr2) fun _ _ _ hn => ⟨(ent_holds (t := tChange) (x := (a0.1.1, a1, a0.1.2.2)) (.agg (.pair .rep (.pair .rep .rep))) trivial rfl hn.1), trivial⟩) ⟨rfl, trivial⟩ fun z4 => ?_
  refine mq ?_
  refine ja (o_extract rfl rfl) ?_
  refine ja (o_extract rfl rfl) ?_
  refine aq ?_
  refine aq ?_
  refine nt ?_
  refine JC.seq ?_
  refine sr ?_
  refine mq ?_
  refine jb (o_neq rfl) ?_
  refine nt ?_
  refine JC.cond rfl (fun hb => ?_) (fun hb => ?_)
  ·
   replace h := b_if (n_t hb) h
   refine sr ?_
   refine cq ?_
   refine cq ?_
   refine nt ?_
   refine JC.ret ?_
   refine JN.then_r ?_
   obtain rfl := Option.some.inj h
   exact JN.ret () [_, _] 0 ⟨rfl, rfl, trivial⟩ rfl
  ·
   replace h := b_ifn (n_fn hb) h
   refine JC.skip ?_
   refine JN.then_n ?_
   show JC _ _ _ _ _
   refine sr ?_
   refine mq ?_
   refine JO.s01 rfl rfl rfl (o_call [.tmp 26] rfl rfl en69 rfl (chg_quick_plans_ok z4.1)) ⟨rfl, trivial⟩ fun b5 => ?_
   refine mq ?_
   refine ja (o_mkfn [.tmp 28] [] [(.pointer (some ⟨z4.1, 0, none⟩))] [] rfl rfl rfl) ?_
   refine JO.front 2 rfl ?_
   refine JO.se (SE.rawInv (Known k ((q3.1.1, q3.1.2.1, q3.1.2.2.1, q3.1.2.2.2), q3.2.1, q3.2.2)) known_nil) ?_
   obtain ⟨r6, er6, h⟩ := b_bind h
   have cr6 := chg_least_ok k ((q3.1.1, q3.1.2.1, q3.1.2.2.1, q3.1.2.2.2), q3.2.1, q3.2.2) z4.1 z4.2 b5 r6 er6
   refine JO.front 1 rfl ?_
   refine JO.front 1 rfl ?_
   refine JO.front 2 rfl ?_
   refine JO.stepG (Δ := [_, _, _]) (F := _) (fun _ _ _ => wanted_none rfl _) rfl rfl (o_call [.tmp 27, .tmp 29] rfl rfl en68 rfl cr6) ⟨rfl, rfl, trivial⟩ fun _ => ?_
   refine mq ?_
   refine ja (o_extract rfl rfl) ?_
   refine ja (o_extract rfl rfl) ?_
   refine ja (o_extract rfl rfl) ?_
   refine aq ?_
   refine aq ?_
   refine aq ?_
   refine nt ?_
   refine sr ?_
   iterate 2 refine mq ?_
   refine aq ?_
   refine aq ?_
   refine nt ?_
   refine JC.ret ?_
   obtain rfl := Option.some.inj h
   exact JN.ret () [_, _] 0 ⟨rfl, rfl, trivial⟩ rfl


def chg_Spare_j1 (k : Nat) (a1 : Int) (q3 : (dChange × (List (Bool × Int)) × (List Int))) (r8 : (List dStep) × Int × Bool) : Nat → (Int × (List dDresser)) → Option (Int × Int)
 | 0, _ => none
 | n + 1, y11 =>
  (geti y11.2 a1).bind fun x13 =>
  (chg_quick_fewestF k ((q3.1.1, q3.1.2.1, q3.1.2.2.1, q3.1.2.2.2), q3.2.1, q3.2.2, ()) (List.set y11.2 (Int.toNat a1) (x13.1, x13.2.1, y11.1))).bind fun r14 =>
  if r8.2.1 < r14.1 then ((ck (y11.1 - (1 : Int))).bind fun x15 =>
  chg_Spare_j1 k a1 q3 r8 n (x15, List.set y11.2 (Int.toNat a1) (x13.1, x13.2.1, y11.1))) else (some (y11.1, (0 : Int)))
def chg_Spare (k : Nat) (a0 : dChange) (a1 : Int) : Option (Int × Int) :=
 (chg_begin k a0).bind fun r2 =>
 casesO r2.1 (if ¬ (r2.2 = (0 : Int)) then (some ((0 : Int), r2.2)) else (none)) (fun q3 => if ¬ (r2.2 = (0 : Int)) then (some ((0 : Int), r2.2)) else ((ck ((q3.1.2.1.length : Int) - (1 : Int))).bind fun x5 =>
 (chg_outside k a1 (0 : Int) x5).bind fun r6 =>
 if r6 = true then (some ((0 : Int), (3 : Int))) else ((chg_least k ((q3.1.1, q3.1.2.1, q3.1.2.2.1, q3.1.2.2.2), q3.2.1, q3.2.2)).bind fun r8 =>
 if ¬ (r8.2.2 = true) then (some ((0 : Int), (11 : Int))) else ((slc_Clone_Dresser k q3.1.2.1).bind fun r9 =>
 chg_Spare_j1 k a1 q3 r8 k ((9 : Int), r9)))))

theorem chg_Spare_ok (k : Nat) (a0 : dChange) (a1 : Int) (r : Int × Int) (h : chg_Spare k a0 a1 = some r) :
 Ctr Try.prog 26 [.rep tChange a0, .eq (.int .i64 a1)] [] (fun _ : Unit => (resA [.eq (.int .i64 r.1), .eq (.int .i64 r.2)], [])) := by
 unfold chg_Spare at h
 replace h := b_top h
 refine Ctr.of 66 Try.func26 rfl Try.ntmps26 rfl fun S w0 => ?_
 refine sr ?_
 refine JO.s01 rfl rfl rfl (o_box rfl rfl) ⟨rfl, trivial⟩ fun b1 => ?_
 refine cq ?_
 refine cq ?_
 refine nt ?_
 refine JC.scopeS rfl (fl_miss (by kernel_rfl) (fl_miss (by kernel_rfl) (fl_miss (by kernel_rfl) (fl_miss (by kernel_rfl) (fl_miss (by kernel_rfl) (fl_miss (by kernel_rfl) (fl_miss (by kernel_rfl) (fl_hit fl_lab)))))))) ?_
 refine sr ?_
 refine ka (o_load_obj rfl sz28 (nfn) rfl) ?_
 obtain ⟨r2, er2, h⟩ := b_bind h
 have cr2 := chg_begin_ok k a0 r2 er2
 rcases hr : r2.1 with _ | q3
 ·
  rw [hr] at h cr2; replace h := co_n h
  refine JO.stepG (Δ := []) (F := _) (fun _ _ _ => wanted_none rfl _) rfl rfl (o_call [.tmp 16] rfl rfl en67 rfl cr2) ⟨rfl, trivial⟩ fun _ => ?_
  refine mq ?_
  refine ja (o_extract rfl rfl) ?_
  refine ja (o_extract rfl rfl) ?_
  refine aq ?_
  refine aq ?_
  refine nt ?_
  refine JC.seq ?_
  refine sr ?_
  refine mq ?_
  refine jb (o_neq rfl) ?_
  refine nt ?_
  refine JC.cond rfl (fun hb => ?_) (fun hb => ?_)
  ·
   replace h := b_if (n_t hb) h
   refine sr ?_
   refine mq ?_
   refine cq ?_
   refine aq ?_
   refine nt ?_
   refine JC.ret ?_
   refine JN.then_r ?_
   refine JN.jmp_r ?_
   obtain rfl := Option.some.inj h
   exact JN.ret () [_, _] 0 ⟨rfl, rfl, trivial⟩ rfl
  ·
   replace h := b_ifn (n_fn hb) h
   refine JC.skip ?_
   refine JN.then_n ?_
   show JC _ _ _ _ _
   refine JC.seq ?_
   refine sr ?_
   iterate 2 refine mq ?_
   cases h
 ·
  rw [hr] at h cr2; replace h := co_s h
  refine JO.stepG (Δ := []) (F := _) (fun _ _ _ => wanted_none rfl _) rfl rfl (o_call [.tmp 16] rfl rfl en67 rfl cr2) ⟨rfl, trivial⟩ fun z4 => ?_
  refine mq ?_
  refine ja (o_extract rfl rfl) ?_
  refine ja (o_extract rfl rfl) ?_
  refine aq ?_
  refine aq ?_
  refine nt ?_
  refine JC.seq ?_
  refine sr ?_
  refine mq ?_
  refine jb (o_neq rfl) ?_
  refine nt ?_
  refine JC.cond rfl (fun hb => ?_) (fun hb => ?_)
  ·
   replace h := b_if (n_t hb) h
   refine sr ?_
   refine mq ?_
   refine cq ?_
   refine aq ?_
   refine nt ?_
   refine JC.ret ?_
   refine JN.then_r ?_
   refine JN.jmp_r ?_
   obtain rfl := Option.some.inj h
   exact JN.ret () [_, _] 0 ⟨rfl, rfl, trivial⟩ rfl
  ·
   replace h := b_ifn (n_fn hb) h
   refine JC.skip ?_
   refine JN.then_n ?_
   show JC _ _ _ _ _
   refine JC.seq ?_
   refine sr ?_
   iterate 2 refine mq ?_
   refine ja (o_nil_obj rfl) ?_
   refine ja (o_field_obj rfl fo120_0) ?_
   refine ja (o_field_obj rfl fo28_1) ?_
   refine ka (o_load_obj rfl sz26 (fun _ => rfl) rfl) ?_
   refine ja (o_len rfl rfl Try.underlying26) ?_
   obtain ⟨x5, ex5, h⟩ := b_bind h
   refine jb (o_sub rfl ex5) ?_
   obtain ⟨r6, er6, h⟩ := b_bind h
   have cr6 := chg_outside_ok k a1 (0 : Int) x5 r6 er6
   refine jc (o_call [.tmp 23, .const (.int .i64 (0)), .tmp 30] rfl rfl en71 rfl cr6) ?_
   refine nt ?_
   refine JC.cond rfl (fun hb => ?_) (fun hb => ?_)
   ·
    replace h := b_if (v_t hb) h
    refine sr ?_
    refine cq ?_
    refine cq ?_
    refine nt ?_
    refine JC.ret ?_
    refine JN.then_r ?_
    refine JN.jmp_r ?_
    obtain rfl := Option.some.inj h
    exact JN.ret () [_, _] 0 ⟨rfl, rfl, trivial⟩ rfl
   ·
    replace h := b_ifn (v_f hb) h
    refine JC.skip ?_
    refine JN.then_n ?_
    show JC _ _ _ _ _
    refine sr ?_
    refine mq ?_
    refine JO.s01 rfl rfl rfl (o_call [.tmp 33] rfl rfl en69 rfl (chg_quick_plans_ok z4.1)) ⟨rfl, trivial⟩ fun b7 => ?_
    refine mq ?_
    refine ja (o_mkfn [.tmp 35] [] [(.pointer (some ⟨z4.1, 0, none⟩))] [] rfl rfl rfl) ?_
    refine JO.front 2 rfl ?_
    refine JO.se (SE.rawInv (Known k ((q3.1.1, q3.1.2.1, q3.1.2.2.1, q3.1.2.2.2), q3.2.1, q3.2.2)) known_nil) ?_
    obtain ⟨r8, er8, h⟩ := b_bind h
    have cr8 := chg_least_ok k ((q3.1.1, q3.1.2.1, q3.1.2.2.1, q3.1.2.2.2), q3.2.1, q3.2.2) z4.1 z4.2 b7 r8 er8
    refine JO.front 1 rfl ?_
    refine JO.front 1 rfl ?_
    refine JO.front 2 rfl ?_
    refine JO.stepG (Δ := [_, _, _]) (F := _) (fun _ _ _ => wanted_none rfl _) rfl rfl (o_call [.tmp 34, .tmp 36] rfl rfl en68 rfl cr8) ⟨rfl, rfl, trivial⟩ fun _ => ?_
    refine mq ?_
    refine ja (o_extract rfl rfl) ?_
    refine ja (o_extract rfl rfl) ?_
    refine ja (o_extract rfl rfl) ?_
    refine aq ?_
    refine aq ?_
    refine aq ?_
    refine nt ?_
    refine JC.seq ?_
    refine sr ?_
    refine mq ?_
    refine ja (o_not rfl) ?_
    refine nt ?_
    refine JC.cond rfl (fun hb => ?_) (fun hb => ?_)
    ·
     replace h := b_if (nv_t hb) h
     refine sr ?_
     refine cq ?_
     refine cq ?_
     refine nt ?_
     refine JC.ret ?_
     refine JN.then_r ?_
     refine JN.jmp_r ?_
     obtain rfl := Option.some.inj h
     exact JN.ret () [_, _] 0 ⟨rfl, rfl, trivial⟩ rfl
    ·
     replace h := b_ifn (nv_fn hb) h
     refine JC.skip ?_
     refine JN.then_n ?_
     show JC _ _ _ _ _
     refine sr ?_
     refine cq ?_
     refine nt ?_
     refine sr ?_
     refine mq ?_
     refine ja (o_nil_obj rfl) ?_
     refine ja (o_field_obj rfl fo120_0) ?_
     refine ja (o_field_obj rfl fo28_1) ?_
     refine ka (o_load_obj rfl sz26 (fun _ => rfl) rfl) ?_
     obtain ⟨r9, er9, h⟩ := b_bind h
     have cr9 := slc_Clone_Dresser_ok k q3.1.2.1 r9 er9
     refine JO.s01 rfl rfl rfl (o_call [.tmp 47] rfl rfl en72 rfl cr9) ⟨rfl, trivial⟩ fun v10 => ?_
     refine aq ?_
     refine nt ?_
     refine JC.seq ?_
     refine JC.label ?_
     refine JN.then_n ?_
     show JC _ _ _ _ _
     refine JC.front 1 rfl ?_
     refine JC.se (SE.frzObj (t := tquick) (x := ((q3.1.1, q3.1.2.1, q3.1.2.2.1, q3.1.2.2.2), q3.2.1, q3.2.2, ())) [6, 18, 24, 25, 26, 33, 35, 43, 44, 45] (.agg (.pair (.agg (.pair .rep (.pair .rep (.pair .rep .rep)))) (.pair .rep (.pair .rep (.ign rfl))))) ⟨rfl, rfl, rfl, rfl, rfl, rfl, rfl, rfl, rfl, rfl, trivial⟩) ?_
     refine JC.atLabel (Z := Unit) (α := Int × (List dDresser)) rfl (fun z12 y11 => [(1, .eq (.int .i64 a1)), (6, .at tquick ((q3.1.1, q3.1.2.1, q3.1.2.2.1, q3.1.2.2.2), q3.2.1, q3.2.2, ())), (9, .eq (.int .i64 r8.2.1)), (11, .eq (.int .i64 y11.1)), (12, .eq v10)]) (fun z12 y11 => [.sl v10 53 tDresser y11.2, .inv z4.2 (Known k ((q3.1.1, q3.1.2.1, q3.1.2.2.1, q3.1.2.2.2), q3.2.1, q3.2.2))]) (chg_Spare_j1 k a1 q3 r8) k () ((9 : Int), r9) (fun _ => rfl) h (SE.fin [0, 1] ⟨rfl, rfl, rfl, rfl, rfl, trivial⟩ rfl) (fun n z12 y11 h => ?_)
     unfold chg_Spare_j1 at h
     refine sr ?_
     iterate 3 refine mq ?_
     obtain ⟨x13, ex13, h⟩ := b_bind h
     refine kb (o_index_own (t := tDresser) rfl Try.underlying26 sz53 ex13) ?_
     refine ka (o_field_el rfl fo53_2 (geti_ne ex13)) ?_
     refine JO.n11 rfl rfl (o_store_el (i := Int.toNat a1) (off := 2) rfl sz3 rfl (geti_some ex13).2.2 .int rfl (.agg (.right (.right .whole rfl) rfl))) ⟨rfl, rfl, trivial⟩ ?_
     refine nt ?_
     refine JC.seq ?_
     refine sr ?_
     iterate 2 refine mq ?_
     obtain ⟨r14, er14, h⟩ := b_bind h
     have cr14 := chg_quick_fewestF_ok k ((q3.1.1, q3.1.2.1, q3.1.2.2.1, q3.1.2.2.2), q3.2.1, q3.2.2, ()) (List.set y11.2 (Int.toNat a1) (x13.1, x13.2.1, y11.1)) r14 er14
     refine kb (OpT.borrow (N := [(.tmp 55, .at tquick ((q3.1.1, q3.1.2.1, q3.1.2.2.1, q3.1.2.2.2), q3.2.1, q3.2.2, ())), (.tmp 56, .eq v10)]) (o_call [.tmp 55, .tmp 56] rfl rfl en73 rfl cr14) (fun _ _ _ hv hn => ⟨hn.1, (lend hn.2.1 hv), trivial⟩) (fun _ => ⟨rfl, flat_nil⟩)) ?_
     refine mq ?_
     refine ja (o_extract rfl rfl) ?_
     refine ja (o_extract rfl rfl) ?_
     refine aq ?_
     refine aq ?_
     refine nt ?_
     refine sr ?_
     iterate 2 refine mq ?_
     refine jb (o_gtr rfl) ?_
     refine nt ?_
     refine JC.cond rfl (fun hb => ?_) (fun hb => ?_)
     ·
      replace h := b_if (d_t hb) h
      refine sr ?_
      refine mq ?_
      obtain ⟨x15, ex15, h⟩ := b_bind h
      refine jb (o_sub rfl ex15) ?_
      refine aq ?_
      refine nt ?_
      refine JC.goto ?_
      refine JN.then_g ?_
      exact JN.jmpz ((), (x15, List.set y11.2 (Int.toNat a1) (x13.1, x13.2.1, y11.1))) h (SE.fin [0, 1] ⟨rfl, rfl, rfl, rfl, rfl, trivial⟩ rfl)
     ·
      replace h := b_ifn (d_f hb) h
      refine JC.skip ?_
      refine JN.then_n ?_
      show JC _ _ _ _ _
      refine sr ?_
      refine mq ?_
      refine aq ?_
      refine cq ?_
      refine nt ?_
      refine JC.ret ?_
      refine JN.jmp_r ?_
      obtain rfl := Option.some.inj h
      exact JN.ret () [_, _] 0 ⟨rfl, rfl, trivial⟩ rfl


def slc_Clone_int (k : Nat) (a0 : List Int) : Option (List Int) :=
 (chkP (okLen (List.length a0))).bind fun _ => some a0

theorem slc_Clone_int_ok (k : Nat) (a0 : List Int) (r : List Int) (h : slc_Clone_int k a0 = some r) :
 Ctr Try.prog 75 [.rep (.slice (.int .i64)) a0] [] (fun z : Value => (resA [.eq z], [.sl z 3 (.int .i64) r])) := by
 unfold slc_Clone_int at h
 replace h := b_top h
 refine Ctr.of 8 Try.func75 rfl Try.ntmps75 rfl fun S w0 => ?_
 obtain ⟨u1, eu1, h⟩ := b_bind h
 obtain rfl := Option.some.inj h
 refine sr ?_
 refine cq ?_
 refine nt ?_
 refine JC.seq ?_
 refine sr ?_
 refine mq ?_
 refine JO.stepG (Δ := []) (F := _) (fun _ _ _ => wanted_none rfl _) rfl rfl (o_eqnil rfl Try.underlying22) ⟨rfl, rfl, trivial⟩ fun b => ?_
 refine nt ?_
 refine JC.cond rfl (fun hb => ?_) (fun hb => ?_)
 ·
  refine sr ?_
  refine cq ?_
  refine nt ?_
  refine JC.ret ?_
  refine JN.then_r ?_
  obtain rfl := b.2 hb
  refine JN.se (SE.nil 3 (.int .i64)) ?_
  exact JN.ret (.slice none 0 0) [.eq (.slice none 0 0)] 1 ⟨rfl, trivial⟩ rfl
 ·
  refine JC.skip ?_
  refine JN.then_n ?_
  show JC _ _ _ _ _
  refine sr ?_
  refine JO.s01 rfl rfl rfl (o_litB_own (t := (.int .i64)) [] [] rfl rfl sl22 .nil rfl rfl) trivial fun v1 => ?_
  refine mq ?_
  refine JO.s1x rfl rfl rfl (o_append rfl rfl sl22 (by simpa using chkP_some eu1)) ⟨rfl, rfl, trivial⟩ fun v2 => ?_
  refine aq ?_
  refine nt ?_
  refine JC.ret ?_
  exact JN.ret v2 [.eq v2] 1 ⟨rfl, trivial⟩ rfl


def cmp_isNaN (k : Nat) (a0 : Int) : Option Bool :=
 some (!decide (a0 = a0))

theorem cmp_isNaN_ok (k : Nat) (a0 : Int) (r : Bool) (h : cmp_isNaN k a0 = some r) :
 Ctr Try.prog 136 [.eq (.int .i64 a0)] [] (fun _ : Unit => (resA [.eq (.bool r)], [])) := by
 unfold cmp_isNaN at h
 replace h := b_top h
 refine Ctr.of 6 Try.func136 rfl Try.ntmps136 rfl fun S w0 => ?_
 refine sr ?_
 refine cq ?_
 refine nt ?_
 refine sr ?_
 iterate 2 refine mq ?_
 refine jb (o_neq rfl) ?_
 refine aq ?_
 refine nt ?_
 refine JC.ret ?_
 obtain rfl := Option.some.inj h
 exact JN.ret () [_] 0 ⟨rfl, trivial⟩ rfl


def cmp_Less (k : Nat) (a0 : Int) (a1 : Int) : Option Bool :=
 (((cmp_isNaN k a0).bind fun r3 =>
 if r3 = true then ((cmp_isNaN k a1).bind fun r4 =>
 if ¬ (r4 = true) then (some true) else (some (decide (a0 < a1)))) else (some (decide (a0 < a1)))) : Option (Bool)).bind fun x1 =>
 some x1

theorem cmp_Less_ok (k : Nat) (a0 : Int) (a1 : Int) (r : Bool) (h : cmp_Less k a0 a1 = some r) :
 Ctr Try.prog 126 [.eq (.int .i64 a0), .eq (.int .i64 a1)] [] (fun _ : Unit => (resA [.eq (.bool r)], [])) := by
 unfold cmp_Less at h
 replace h := b_top h
 refine Ctr.of 17 Try.func126 rfl Try.ntmps126 rfl fun S w0 => ?_
 refine sr ?_
 refine cq ?_
 refine nt ?_
 refine JC.cutB (Z := Unit) (α := Bool) (fun z2 x1 => [(4, .eq (.bool x1))]) (fun z2 x1 => []) h (fun K h => ?_) (fun z2 x1 h => ?_)
 ·
  refine JC.region ?_
  refine mq ?_
  obtain ⟨r3, er3, h⟩ := b_bind h
  have cr3 := cmp_isNaN_ok k a0 r3 er3
  refine ja (o_call [.tmp 5] rfl rfl en136 rfl cr3) ?_
  refine mq ?_
  refine JO.bool (s := 7) rfl (fun hb => ?_) (fun hb => ?_)
  ·
   replace h := b_if (v_t hb) h
   refine gm ?_
   obtain ⟨r4, er4, h⟩ := b_bind h
   have cr4 := cmp_isNaN_ok k a1 r4 er4
   refine ga (o_call [.tmp 8] rfl rfl en136 rfl cr4) ?_
   refine ga (o_not rfl) ?_
   refine pt ?_
   refine mq ?_
   refine JO.bool (s := 12) rfl (fun hb => ?_) (fun hb => ?_)
   ·
    replace h := b_if (nv_t hb) h
    iterate 3 refine gn ?_
    refine pt ?_
    refine aq ?_
    refine JO.nil ?_
    refine JN.then_n ?_
    exact JN.z ((), true) h (SE.fin [] ⟨rfl, trivial⟩ rfl)
   ·
    replace h := b_ifn (nv_fn hb) h
    refine gm ?_
    refine gm ?_
    refine gb (o_lss rfl) ?_
    refine pf ?_
    refine aq ?_
    refine JO.nil ?_
    refine JN.then_n ?_
    exact JN.z ((), decide (a0 < a1)) h (SE.fin [] ⟨rfl, trivial⟩ rfl)
  ·
   replace h := b_ifn (v_f hb) h
   iterate 3 refine gn ?_
   refine pf ?_
   refine mq ?_
   refine gm ?_
   refine gm ?_
   refine gb (o_lss rfl) ?_
   refine pf ?_
   refine aq ?_
   refine JO.nil ?_
   refine JN.then_n ?_
   exact JN.z ((), decide (a0 < a1)) h (SE.fin [] ⟨rfl, trivial⟩ rfl)
 ·
  refine JC.ret ?_
  obtain rfl := Option.some.inj h
  exact JN.ret () [_] 0 ⟨rfl, trivial⟩ rfl


def slc_insertionSortOrdered_l2 (k : Nat) (a1 : Int) : Nat → ((List Int) × Int) → Option (List Int)
 | 0, _ => none
 | n + 1, y6 =>
  ((if a1 < y6.2 then ((geti y6.1 y6.2).bind fun x10 =>
  (ck (y6.2 - (1 : Int))).bind fun x11 =>
  (geti y6.1 x11).bind fun x12 =>
  (cmp_Less k x10 x12).bind fun r13 =>
  some r13) else (some false)) : Option (Bool)).bind fun x8 =>
  if x8 = true then ((ck (y6.2 - (1 : Int))).bind fun x14 =>
  (ck (y6.2 - (1 : Int))).bind fun x15 =>
  (geti y6.1 x15).bind fun x16 =>
  (geti y6.1 y6.2).bind fun x17 =>
  (geti y6.1 y6.2).bind fun x18 =>
  (geti (List.set y6.1 (Int.toNat y6.2) x16) x14).bind fun x19 =>
  (ck (y6.2 - (1 : Int))).bind fun x20 =>
  slc_insertionSortOrdered_l2 k a1 n (List.set (List.set y6.1 (Int.toNat y6.2) x16) (Int.toNat x14) x17, x20)) else (some y6.1)

def slc_insertionSortOrdered_l1 (k : Nat) (a1 : Int) (a2 : Int) : Nat → ((List Int) × Int) → Option (List Int)
 | 0, _ => none
 | n + 1, y2 =>
  if y2.2 < a2 then (((slc_insertionSortOrdered_l2 k a1 k (y2.1, y2.2)) : Option ((List Int))).bind fun x4 =>
  (ck (y2.2 + (1 : Int))).bind fun x21 =>
  slc_insertionSortOrdered_l1 k a1 a2 n (x4, x21)) else (some y2.1)
def slc_insertionSortOrdered (k : Nat) (a0 : (List Int)) (a1 : Int) (a2 : Int) : Option (List Int) :=
 (ck (a1 + (1 : Int))).bind fun x1 =>
 slc_insertionSortOrdered_l1 k a1 a2 k (a0, x1)

theorem slc_insertionSortOrdered_ok (k : Nat) (a0 : (List Int)) (v_a0 : Value) (a1 : Int) (a2 : Int) (r : (List Int)) (h : slc_insertionSortOrdered k a0 a1 a2 = some r) :
 Ctr Try.prog 120 [.eq v_a0, .eq (.int .i64 a1), .eq (.int .i64 a2)] [.sl v_a0 3 (.int .i64) a0] (fun _ : Unit => (resA [], [.sl v_a0 3 (.int .i64) r])) := by
 unfold slc_insertionSortOrdered at h
 replace h := b_top h
 refine Ctr.of 49 Try.func120 rfl Try.ntmps120 rfl fun S w0 => ?_
 refine sr ?_
 refine mq ?_
 obtain ⟨x1, ex1, h⟩ := b_bind h
 refine jb (o_add rfl ex1) ?_
 refine aq ?_
 refine nt ?_
 refine JC.block ?_
 refine JC.loopB (Z := Unit) (α := (List Int) × Int) (fun z3 y2 => [(0, .eq v_a0), (1, .eq (.int .i64 a1)), (2, .eq (.int .i64 a2)), (6, .eq (.int .i64 y2.2))]) (fun z3 y2 => [.sl v_a0 3 (.int .i64) y2.1]) (slc_insertionSortOrdered_l1 k a1 a2) k () (a0, x1) (fun _ => rfl) h (SE.fin [0] ⟨rfl, rfl, rfl, rfl, trivial⟩ rfl) (fun n z3 y2 h => ?_)
 unfold slc_insertionSortOrdered_l1 at h
 refine JC.seq ?_
 refine sr ?_
 iterate 2 refine mq ?_
 refine jb (o_lss rfl) ?_
 refine nt ?_
 refine JC.cond rfl (fun hb => ?_) (fun hb => ?_)
 ·
  replace h := b_if (d_t hb) h
  refine JC.skip ?_
  refine JN.then_n ?_
  show JC _ _ _ _ _
  refine JC.cutB (Z := Unit) (α := (List Int)) (fun z5 x4 => [(0, .eq v_a0), (1, .eq (.int .i64 a1)), (2, .eq (.int .i64 a2)), (6, .eq (.int .i64 y2.2))]) (fun z5 x4 => [.sl v_a0 3 (.int .i64) x4]) h (fun K h => ?_) (fun z5 x4 h => ?_)
  ·
   refine JC.block ?_
   refine sr ?_
   refine mq ?_
   refine aq ?_
   refine nt ?_
   refine JC.block ?_
   refine JC.loopB (Z := Unit) (α := (List Int) × Int) (fun z7 y6 => [(0, .eq v_a0), (1, .eq (.int .i64 a1)), (2, .eq (.int .i64 a2)), (6, .eq (.int .i64 y2.2)), (7, .eq (.int .i64 y6.2))]) (fun z7 y6 => [.sl v_a0 3 (.int .i64) y6.1]) (slc_insertionSortOrdered_l2 k a1) k () (y2.1, y2.2) (fun _ => rfl) h (SE.fin [0] ⟨rfl, rfl, rfl, rfl, rfl, trivial⟩ rfl) (fun n z7 y6 h => ?_)
   unfold slc_insertionSortOrdered_l2 at h
   refine JC.seq ?_
   refine JC.cutB (Z := Unit) (α := Bool) (fun z9 x8 => [(0, .eq v_a0), (1, .eq (.int .i64 a1)), (2, .eq (.int .i64 a2)), (6, .eq (.int .i64 y2.2)), (7, .eq (.int .i64 y6.2)), (30, .eq (.bool x8))]) (fun z9 x8 => [.sl v_a0 3 (.int .i64) y6.1]) h (fun K h => ?_) (fun z9 x8 h => ?_)
   ·
    refine JC.drawN ?_
    refine dm ?_
    refine dm ?_
    refine db (o_gtr rfl) ?_
    refine DN.fork rfl rfl rfl (o_move rfl) ⟨rfl, trivial⟩ (fun hb => ?_) (fun hb => ?_)
    ·
     replace h := b_if (d_t hb) h
     refine DN.sg00 rfl rfl rfl rfl rfl (o_move rfl) ⟨rfl, rfl, trivial⟩ ?_
     refine DN.sg00 rfl rfl rfl rfl rfl (o_move rfl) ⟨rfl, rfl, trivial⟩ ?_
     obtain ⟨x10, ex10, h⟩ := b_bind h
     refine DN.sg11 0 rfl rfl rfl rfl rfl rfl (o_index_own (t := (.int .i64)) rfl Try.underlying22 sz3 ex10) ⟨rfl, rfl, rfl, trivial⟩ ?_
     refine DN.sg11 0 rfl rfl rfl rfl rfl rfl (o_load_el (i := Int.toNat y6.2) (off := 0) rfl sz3 (fun _ => rfl) rfl (geti_some ex10).2.2 rfl) ⟨rfl, rfl, trivial⟩ ?_
     refine DN.sg00 rfl rfl rfl rfl rfl (o_move rfl) ⟨rfl, rfl, trivial⟩ ?_
     refine DN.sg00 rfl rfl rfl rfl rfl (o_move rfl) ⟨rfl, rfl, trivial⟩ ?_
     obtain ⟨x11, ex11, h⟩ := b_bind h
     refine DN.sg00 rfl rfl rfl rfl rfl (o_sub rfl ex11) ⟨rfl, rfl, rfl, trivial⟩ ?_
     obtain ⟨x12, ex12, h⟩ := b_bind h
     refine DN.sg11 0 rfl rfl rfl rfl rfl rfl (o_index_own (t := (.int .i64)) rfl Try.underlying22 sz3 ex12) ⟨rfl, rfl, rfl, trivial⟩ ?_
     refine DN.sg11 0 rfl rfl rfl rfl rfl rfl (o_load_el (i := Int.toNat x11) (off := 0) rfl sz3 (fun _ => rfl) rfl (geti_some ex12).2.2 rfl) ⟨rfl, rfl, trivial⟩ ?_
     refine DN.fin (by kernel_rfl) mixed ?_
     obtain ⟨r13, er13, h⟩ := b_bind h
     have cr13 := cmp_Less_ok k x10 x12 r13 er13
     refine gb (o_call [.tmp 23, .tmp 28] rfl rfl en126 rfl cr13) ?_
     refine pt ?_
     refine JO.nil ?_
     refine JN.then_n ?_
     exact JN.z ((), r13) h (SE.fin [0] ⟨rfl, rfl, rfl, rfl, rfl, rfl, trivial⟩ rfl)
    ·
     replace h := b_ifn (d_f hb) h
     iterate 9 refine dg ?_
     refine DN.fin (by kernel_rfl) mixed ?_
     refine gn ?_
     refine pf ?_
     refine JO.nil ?_
     refine JN.then_n ?_
     exact JN.z ((), false) h (SE.fin [0] ⟨rfl, rfl, rfl, rfl, rfl, rfl, trivial⟩ rfl)
   ·
    refine JC.cond rfl (fun hb => ?_) (fun hb => ?_)
    ·
     replace h := b_if (v_t hb) h
     refine JC.skip ?_
     refine JN.then_n ?_
     show JC _ _ _ _ _
     refine JC.seq ?_
     refine JC.block ?_
     refine JC.drawW ?_
     refine DW.t00 rfl rfl rfl (o_move rfl) ⟨rfl, trivial⟩ ?_
     refine DW.t00 rfl rfl rfl (o_move rfl) ⟨rfl, trivial⟩ ?_
     refine DW.t00 rfl rfl rfl (o_move rfl) ⟨rfl, trivial⟩ ?_
     refine DW.t00 rfl rfl rfl (o_move rfl) ⟨rfl, trivial⟩ ?_
     obtain ⟨x14, ex14, h⟩ := b_bind h
     refine DW.t00 rfl rfl rfl (o_sub rfl ex14) ⟨rfl, rfl, trivial⟩ ?_
     refine DW.t00 rfl rfl rfl (o_move rfl) ⟨rfl, trivial⟩ ?_
     refine DW.t00 rfl rfl rfl (o_move rfl) ⟨rfl, trivial⟩ ?_
     obtain ⟨x15, ex15, h⟩ := b_bind h
     refine DW.t00 rfl rfl rfl (o_sub rfl ex15) ⟨rfl, rfl, trivial⟩ ?_
     obtain ⟨x16, ex16, h⟩ := b_bind h
     refine DW.t11 0 rfl rfl rfl rfl (o_index_own (t := (.int .i64)) rfl Try.underlying22 sz3 ex16) ⟨rfl, rfl, trivial⟩ ?_
     refine DW.t11 0 rfl rfl rfl rfl (o_load_el (i := Int.toNat x15) (off := 0) rfl sz3 (fun _ => rfl) rfl (geti_some ex16).2.2 rfl) ⟨rfl, trivial⟩ ?_
     refine DW.t00 rfl rfl rfl (o_move rfl) ⟨rfl, trivial⟩ ?_
     refine DW.t00 rfl rfl rfl (o_move rfl) ⟨rfl, trivial⟩ ?_
     obtain ⟨x17, ex17, h⟩ := b_bind h
     refine DW.t11 0 rfl rfl rfl rfl (o_index_own (t := (.int .i64)) rfl Try.underlying22 sz3 ex17) ⟨rfl, rfl, trivial⟩ ?_
     refine DW.t11 0 rfl rfl rfl rfl (o_load_el (i := Int.toNat y6.2) (off := 0) rfl sz3 (fun _ => rfl) rfl (geti_some ex17).2.2 rfl) ⟨rfl, trivial⟩ ?_
     obtain ⟨x18, ex18, h⟩ := b_bind h
     refine DW.t11 0 rfl rfl rfl rfl (o_index_own (t := (.int .i64)) rfl Try.underlying22 sz3 ex18) ⟨rfl, rfl, trivial⟩ ?_
     refine DW.fin 15 [true, true, false, false, false, true, true, true, true, true, true, true, true, true, true] [48] [] [] rfl (by kernel_rfl) (by kernel_rfl) (by kernel_rfl) mixed (fun vs hv hB => ?_)
     obtain ⟨w0, vs1, rfl, hv1⟩ := len_cons hv
     obtain ⟨w1, vs2, rfl, hv2⟩ := len_cons hv1
     obtain ⟨w2, vs3, rfl, hv3⟩ := len_cons hv2
     obtain ⟨w3, vs4, rfl, hv4⟩ := len_cons hv3
     obtain ⟨w4, vs5, rfl, hv5⟩ := len_cons hv4
     obtain ⟨w5, vs6, rfl, hv6⟩ := len_cons hv5
     obtain ⟨w6, vs7, rfl, hv7⟩ := len_cons hv6
     obtain ⟨w7, vs8, rfl, hv8⟩ := len_cons hv7
     obtain ⟨w8, vs9, rfl, hv9⟩ := len_cons hv8
     obtain ⟨w9, vs10, rfl, hv10⟩ := len_cons hv9
     obtain ⟨w10, vs11, rfl, hv11⟩ := len_cons hv10
     obtain ⟨w11, vs12, rfl, hv12⟩ := len_cons hv11
     obtain ⟨w12, vs13, rfl, hv13⟩ := len_cons hv12
     obtain ⟨w13, vs14, rfl, hv14⟩ := len_cons hv13
     obtain ⟨w14, vs15, rfl, hv15⟩ := len_cons hv14
     obtain rfl := len_nil hv15
     refine ⟨[0], [.sl v_a0 3 (.int .i64) y6.1], by kernel_rfl, by decide, ?_⟩
     refine JT.n11 rfl rfl (o_store_elW (i := Int.toNat y6.2) rfl sz3 rfl (geti_lt ex18) rfl .int rfl) ⟨rfl, rfl, trivial⟩ (by kernel_rfl) ?_
     obtain ⟨x19, ex19, h⟩ := b_bind h
     refine JT.y11 rfl rfl rfl rfl (o_index_own (t := (.int .i64)) rfl Try.underlying22 sz3 ex19) ⟨rfl, rfl, trivial⟩ (by kernel_rfl) ?_
     refine JT.n11 rfl rfl (o_store_elW (i := Int.toNat x14) rfl sz3 rfl (geti_lt ex19) rfl .int rfl) ⟨rfl, rfl, trivial⟩ (by kernel_rfl) ?_
     refine JT.nil ?_
     refine JN.se (SE.fin (Γ' := [(0, .eq v_a0), (1, .eq (.int .i64 a1)), (2, .eq (.int .i64 a2)), (6, .eq (.int .i64 y2.2)), (7, .eq (.int .i64 y6.2))]) (Δ' := [.sl v_a0 3 (.int .i64) (List.set (List.set y6.1 (Int.toNat y6.2) x16) (Int.toNat x14) x17)]) [0] ⟨rfl, rfl, rfl, rfl, rfl, trivial⟩ rfl) ?_
     refine JN.blk_n ?_
     refine JN.then_n ?_
     show JC _ _ _ _ _
     refine JC.region ?_
     refine mq ?_
     obtain ⟨x20, ex20, h⟩ := b_bind h
     refine jb (o_sub rfl ex20) ?_
     refine aq ?_
     refine JO.nil ?_
     refine JN.then_n ?_
     exact JN.z ((), (List.set (List.set y6.1 (Int.toNat y6.2) x16) (Int.toNat x14) x17, x20)) h (SE.fin [0] ⟨rfl, rfl, rfl, rfl, rfl, trivial⟩ rfl)
    ·
     replace h := b_ifn (v_f hb) h
     refine JC.exit ?_
     refine JN.then_x ?_
     refine JN.then_x ?_
     refine JN.blk_hit ?_
     refine JN.blk_n ?_
     refine JN.then_n ?_
     exact JN.z ((), y6.1) h (SE.fin [0] ⟨rfl, rfl, rfl, rfl, trivial⟩ rfl)
  ·
   refine JC.region ?_
   refine mq ?_
   obtain ⟨x21, ex21, h⟩ := b_bind h
   refine jb (o_add rfl ex21) ?_
   refine aq ?_
   refine JO.nil ?_
   refine JN.then_n ?_
   exact JN.z ((), (x4, x21)) h (SE.fin [0] ⟨rfl, rfl, rfl, rfl, trivial⟩ rfl)
 ·
  replace h := b_ifn (d_f hb) h
  refine JC.exit ?_
  refine JN.then_x ?_
  refine JN.then_x ?_
  refine JN.blk_hit ?_
  refine JN.end_n ?_
  obtain rfl := Option.some.inj h
  exact JN.ret () [] 1 trivial rfl


def math_bits_Len64 (k : Nat) (a0 : Int) : Option Int :=
 ((if (4294967296 : Int) ≤ a0 then (some (ishr .u64 a0 (32 : Int), (32 : Int))) else (some (a0, (0 : Int)))) : Option (Int × Int)).bind fun x1 =>
 ((if (65536 : Int) ≤ x1.1 then ((ck (x1.2 + (16 : Int))).bind fun x5 =>
 some (ishr .u64 x1.1 (16 : Int), x5)) else (some (x1.1, x1.2))) : Option (Int × Int)).bind fun x3 =>
 ((if (256 : Int) ≤ x3.1 then ((ck (x3.2 + (8 : Int))).bind fun x8 =>
 some (ishr .u64 x3.1 (8 : Int), x8)) else (some (x3.1, x3.2))) : Option (Int × Int)).bind fun x6 =>
 (idxStr len8tab (IntKind.u8.wrap x6.1)).bind fun x9 =>
 (ck (x9.toNat : Int)).bind fun x10 =>
 (ck (x6.2 + x10)).bind fun x11 =>
 some x11

theorem math_bits_Len64_ok (k : Nat) (a0 : Int) (r : Int) (h : math_bits_Len64 k a0 = some r) :
 Ctr Try.prog 130 [.eq (.int .u64 a0)] [] (fun _ : Unit => (resA [.eq (.int .i64 r)], [])) := by
 unfold math_bits_Len64 at h
 replace h := b_top h
 refine Ctr.of 25 Try.func130 rfl Try.ntmps130 rfl fun S w0 => ?_
 refine sr ?_
 refine cq ?_
 refine nt ?_
 refine JC.cutB (Z := Unit) (α := Int × Int) (fun z2 x1 => [(0, .eq (.int .u64 x1.1)), (2, .eq (.int .i64 x1.2))]) (fun z2 x1 => []) h (fun K h => ?_) (fun z2 x1 h => ?_)
 ·
  refine sr ?_
  refine mq ?_
  refine jb (o_geq rfl) ?_
  refine nt ?_
  refine JC.cond rfl (fun hb => ?_) (fun hb => ?_)
  ·
   replace h := b_if (d_t hb) h
   refine sr ?_
   refine mq ?_
   refine JO.s rfl (o_shr rfl (by decide)) ⟨rfl, rfl, trivial⟩ ?_
   refine aq ?_
   refine nt ?_
   refine JC.region ?_
   refine cq ?_
   refine JO.nil ?_
   refine JN.then_n ?_
   exact JN.z ((), (ishr .u64 a0 (32 : Int), (32 : Int))) h (SE.fin [] ⟨rfl, rfl, trivial⟩ rfl)
  ·
   replace h := b_ifn (d_f hb) h
   refine JC.skip ?_
   refine JN.then_n ?_
   exact JN.z ((), (a0, (0 : Int))) h (SE.fin [] ⟨rfl, rfl, trivial⟩ rfl)
 ·
  refine JC.cutB (Z := Unit) (α := Int × Int) (fun z4 x3 => [(0, .eq (.int .u64 x3.1)), (2, .eq (.int .i64 x3.2))]) (fun z4 x3 => []) h (fun K h => ?_) (fun z4 x3 h => ?_)
  ·
   refine sr ?_
   refine mq ?_
   refine jb (o_geq rfl) ?_
   refine nt ?_
   refine JC.cond rfl (fun hb => ?_) (fun hb => ?_)
   ·
    replace h := b_if (d_t hb) h
    refine sr ?_
    refine mq ?_
    refine JO.s rfl (o_shr rfl (by decide)) ⟨rfl, rfl, trivial⟩ ?_
    refine aq ?_
    refine nt ?_
    refine JC.region ?_
    refine mq ?_
    obtain ⟨x5, ex5, h⟩ := b_bind h
    refine jb (o_add rfl ex5) ?_
    refine aq ?_
    refine JO.nil ?_
    refine JN.then_n ?_
    exact JN.z ((), (ishr .u64 x1.1 (16 : Int), x5)) h (SE.fin [] ⟨rfl, rfl, trivial⟩ rfl)
   ·
    replace h := b_ifn (d_f hb) h
    refine JC.skip ?_
    refine JN.then_n ?_
    exact JN.z ((), (x1.1, x1.2)) h (SE.fin [] ⟨rfl, rfl, trivial⟩ rfl)
  ·
   refine JC.cutB (Z := Unit) (α := Int × Int) (fun z7 x6 => [(0, .eq (.int .u64 x6.1)), (2, .eq (.int .i64 x6.2))]) (fun z7 x6 => []) h (fun K h => ?_) (fun z7 x6 h => ?_)
   ·
    refine sr ?_
    refine mq ?_
    refine jb (o_geq rfl) ?_
    refine nt ?_
    refine JC.cond rfl (fun hb => ?_) (fun hb => ?_)
    ·
     replace h := b_if (d_t hb) h
     refine sr ?_
     refine mq ?_
     refine JO.s rfl (o_shr rfl (by decide)) ⟨rfl, rfl, trivial⟩ ?_
     refine aq ?_
     refine nt ?_
     refine JC.region ?_
     refine mq ?_
     obtain ⟨x8, ex8, h⟩ := b_bind h
     refine jb (o_add rfl ex8) ?_
     refine aq ?_
     refine JO.nil ?_
     refine JN.then_n ?_
     exact JN.z ((), (ishr .u64 x3.1 (8 : Int), x8)) h (SE.fin [] ⟨rfl, rfl, trivial⟩ rfl)
    ·
     replace h := b_ifn (d_f hb) h
     refine JC.skip ?_
     refine JN.then_n ?_
     exact JN.z ((), (x3.1, x3.2)) h (SE.fin [] ⟨rfl, rfl, trivial⟩ rfl)
   ·
    refine sr ?_
    iterate 2 refine mq ?_
    refine ja (o_conv rfl Try.underlying91 Try.underlying5) ?_
    obtain ⟨x9, ex9, h⟩ := b_bind h
    refine ja (o_index_str rfl Try.underlying9 ex9) ?_
    obtain ⟨x10, ex10, h⟩ := b_bind h
    refine ja (o_conv64 rfl Try.underlying5 Try.underlying3 ex10) ?_
    obtain ⟨x11, ex11, h⟩ := b_bind h
    refine jb (o_add rfl ex11) ?_
    refine aq ?_
    refine nt ?_
    refine JC.ret ?_
    obtain rfl := Option.some.inj h
    exact JN.ret () [_] 0 ⟨rfl, trivial⟩ rfl


def bit_Len (k : Nat) (a0 : Int) : Option Int :=
 (math_bits_Len64 k a0).bind fun r1 =>
 some r1

theorem bit_Len_ok (k : Nat) (a0 : Int) (r : Int) (h : bit_Len k a0 = some r) :
 Ctr Try.prog 112 [.eq (.int .u64 a0)] [] (fun _ : Unit => (resA [.eq (.int .i64 r)], [])) := by
 unfold bit_Len at h
 replace h := b_top h
 refine Ctr.of 8 Try.func112 rfl Try.ntmps112 rfl fun S w0 => ?_
 refine sr ?_
 refine cq ?_
 refine nt ?_
 refine JC.seq ?_
 refine JC.condc (fun hb => (by cases hb)) (fun hb => ?_)
 refine JC.skip ?_
 refine JN.then_n ?_
 show JC _ _ _ _ _
 refine sr ?_
 refine mq ?_
 obtain ⟨r1, er1, h⟩ := b_bind h
 have cr1 := math_bits_Len64_ok k a0 r1 er1
 refine ja (o_call [.tmp 6] rfl rfl en130 rfl cr1) ?_
 refine aq ?_
 refine nt ?_
 refine JC.ret ?_
 obtain rfl := Option.some.inj h
 exact JN.ret () [_] 0 ⟨rfl, trivial⟩ rfl


def slc_pdqsortOrdered_l1 (k : Nat) (a0 : (List Int)) (a1 : Int) (a2 : Int) (a3 : Int) : Nat → Unit → Option (List Int)
 | 0, _ => none
 | n + 1, y1 =>
  (ck (a2 - a1)).bind fun x3 =>
  if x3 ≤ (12 : Int) then ((slc_insertionSortOrdered k a0 a1 a2).bind fun r4 =>
  some r4) else (if a3 = (0 : Int) then (none) else (none))
def slc_pdqsortOrdered (k : Nat) (a0 : (List Int)) (a1 : Int) (a2 : Int) (a3 : Int) : Option (List Int) :=
 slc_pdqsortOrdered_l1 k a0 a1 a2 a3 k ()

theorem slc_pdqsortOrdered_ok (k : Nat) (a0 : (List Int)) (v_a0 : Value) (a1 : Int) (a2 : Int) (a3 : Int) (r : (List Int)) (h : slc_pdqsortOrdered k a0 a1 a2 a3 = some r) :
 Ctr Try.prog 111 [.eq v_a0, .eq (.int .i64 a1), .eq (.int .i64 a2), .eq (.int .i64 a3)] [.sl v_a0 3 (.int .i64) a0] (fun _ : Unit => (resA [], [.sl v_a0 3 (.int .i64) r])) := by
 unfold slc_pdqsortOrdered at h
 replace h := b_top h
 refine Ctr.of 134 Try.func111 rfl Try.ntmps111 rfl fun S w0 => ?_
 refine sr ?_
 refine cq ?_
 refine nt ?_
 refine sr ?_
 refine cq ?_
 refine nt ?_
 refine JC.block ?_
 refine JC.loopB (Z := Unit) (α := Unit) (fun z2 y1 => [(0, .eq v_a0), (1, .eq (.int .i64 a1)), (2, .eq (.int .i64 a2)), (3, .eq (.int .i64 a3)), (8, .eq (.bool true)), (9, .eq (.bool true))]) (fun z2 y1 => [.sl v_a0 3 (.int .i64) a0]) (slc_pdqsortOrdered_l1 k a0 a1 a2 a3) k () () (fun _ => rfl) h (SE.fin [0] ⟨rfl, rfl, rfl, rfl, rfl, rfl, trivial⟩ rfl) (fun n z2 y1 h => ?_)
 unfold slc_pdqsortOrdered_l1 at h
 refine JC.block ?_
 refine sr ?_
 iterate 2 refine mq ?_
 obtain ⟨x3, ex3, h⟩ := b_bind h
 refine jb (o_sub rfl ex3) ?_
 refine aq ?_
 refine nt ?_
 refine JC.seq ?_
 refine sr ?_
 refine mq ?_
 refine jb (o_leq rfl) ?_
 refine nt ?_
 refine JC.cond rfl (fun hb => ?_) (fun hb => ?_)
 ·
  replace h := b_if (d_t hb) h
  refine sr ?_
  iterate 3 refine mq ?_
  obtain ⟨r4, er4, h⟩ := b_bind h
  have cr4 := slc_insertionSortOrdered_ok k a0 v_a0 a1 a2 r4 er4
  refine kc (o_call [.tmp 24, .tmp 25, .tmp 26] rfl rfl en120 rfl cr4) ?_
  refine nt ?_
  refine JC.ret ?_
  refine JN.then_r ?_
  refine JN.blk_r ?_
  refine JN.then_r ?_
  refine JN.blk_r ?_
  obtain rfl := Option.some.inj h
  exact JN.ret () [] 1 trivial rfl
 ·
  replace h := b_ifn (d_f hb) h
  refine JC.skip ?_
  refine JN.then_n ?_
  show JC _ _ _ _ _
  refine JC.seq ?_
  refine sr ?_
  refine mq ?_
  refine jb (o_eql rfl) ?_
  refine nt ?_
  refine JC.cond rfl (fun hb => ?_) (fun hb => ?_)
  ·
   replace h := b_if (d_t hb) h
   refine sr ?_
   iterate 3 refine mq ?_
   cases h
  ·
   replace h := b_ifn (d_f hb) h
   refine JC.skip ?_
   refine JN.then_n ?_
   show JC _ _ _ _ _
   refine JC.seq ?_
   refine sr ?_
   refine mq ?_
   refine ja (o_not rfl) ?_
   refine nt ?_
   refine JC.cond rfl (fun hb => (by cases hb)) (fun hb => ?_)
   refine JC.skip ?_
   refine JN.then_n ?_
   show JC _ _ _ _ _
   refine sr ?_
   iterate 3 refine mq ?_
   cases h


def slc_Sort_int (k : Nat) (a0 : (List Int)) : Option (List Int) :=
 (bit_Len k (IntKind.u64.wrap (a0.length : Int))).bind fun r1 =>
 (slc_pdqsortOrdered k a0 (0 : Int) (a0.length : Int) r1).bind fun r2 =>
 some r2

theorem slc_Sort_int_ok (k : Nat) (a0 : (List Int)) (v_a0 : Value) (r : (List Int)) (h : slc_Sort_int k a0 = some r) :
 Ctr Try.prog 76 [.eq v_a0] [.sl v_a0 3 (.int .i64) a0] (fun _ : Unit => (resA [], [.sl v_a0 3 (.int .i64) r])) := by
 unfold slc_Sort_int at h
 replace h := b_top h
 refine Ctr.of 11 Try.func76 rfl Try.ntmps76 rfl fun S w0 => ?_
 refine sr ?_
 refine mq ?_
 refine ka (o_len_own rfl rfl Try.underlying22) ?_
 refine aq ?_
 refine nt ?_
 refine JC.region ?_
 iterate 3 refine mq ?_
 refine ja (o_conv rfl Try.underlying3 Try.underlying163) ?_
 obtain ⟨r1, er1, h⟩ := b_bind h
 have cr1 := bit_Len_ok k (IntKind.u64.wrap (a0.length : Int)) r1 er1
 refine ja (o_call [.tmp 8] rfl rfl en112 rfl cr1) ?_
 obtain ⟨r2, er2, h⟩ := b_bind h
 have cr2 := slc_pdqsortOrdered_ok k a0 v_a0 (0 : Int) (a0.length : Int) r1 r2 er2
 refine JO.s11 rfl rfl rfl (o_call [.tmp 5, .const (.int .i64 (0)), .tmp 6, .tmp 9] rfl rfl en111 rfl cr2) ⟨rfl, rfl, rfl, rfl, trivial⟩ ?_
 refine JO.nil ?_
 refine JN.end_n ?_
 obtain rfl := Option.some.inj h
 exact JN.ret () [] 1 trivial rfl


def chg_Learn_l2 (k : Nat) (q3 : (dChange × (List (Bool × Int)) × (List Int))) (y9 : Int × Bool × Int × Int × Int) : Nat → (Int × Bool × Int × Int × Int) → Option (Int × Bool × Int × Int)
 | 0, _ => none
 | n + 1, y13 =>
  if y13.2.2.2.2 < (q3.1.1.length : Int) then ((((geti q3.1.2.1 y9.2.2.2.2).bind fun x17 =>
  (slc_Contains_int k x17.1 y13.2.2.2.2).bind fun r18 =>
  if r18 = true then (some (y13.1, y13.2.1, y13.2.2.1, y13.2.2.2.1)) else ((slc_Clone_Dresser k q3.1.2.1).bind fun r19 =>
  (geti r19 y9.2.2.2.2).bind fun x21 =>
  (slc_Clone_int k x21.1).bind fun r22 =>
  (chkP (okLen (List.length r22 + List.length [y13.2.2.2.2]))).bind fun _ =>
  (geti r19 y9.2.2.2.2).bind fun x26 =>
  (slc_Sort_int k (r22 ++ [y13.2.2.2.2])).bind fun r28 =>
  (chg_quick_fewest k ((q3.1.1, q3.1.2.1, q3.1.2.2.1, q3.1.2.2.2), q3.2.1, q3.2.2) (List.set r19 (Int.toNat y9.2.2.2.2) (r28, x26.2.1, x26.2.2))).bind fun r29 =>
  ((if r29.2 = true then (if ¬ (y13.2.1 = true) then (some true) else (some (decide (r29.1 < y13.1)))) else (some false)) : Option (Bool)).bind fun x30 =>
  if x30 = true then (some (r29.1, true, y9.2.2.2.2, y13.2.2.2.2)) else (some (y13.1, y13.2.1, y13.2.2.1, y13.2.2.2.1)))) : Option (Int × Bool × Int × Int)).bind fun x15 =>
  (ck (y13.2.2.2.2 + (1 : Int))).bind fun x32 =>
  chg_Learn_l2 k q3 y9 n (x15.1, x15.2.1, x15.2.2.1, x15.2.2.2, x32)) else (some (y13.1, y13.2.1, y13.2.2.1, y13.2.2.2.1))

def chg_Learn_l1 (k : Nat) (q3 : (dChange × (List (Bool × Int)) × (List Int))) : Nat → (Int × Bool × Int × Int × Int) → Option (Int × Int × Int)
 | 0, _ => none
 | n + 1, y9 =>
  if y9.2.2.2.2 < (q3.1.2.1.length : Int) then (((chg_Learn_l2 k q3 y9 k (y9.1, y9.2.1, y9.2.2.1, y9.2.2.2.1, (0 : Int))) : Option (Int × Bool × Int × Int)).bind fun x11 =>
  (ck (y9.2.2.2.2 + (1 : Int))).bind fun x33 =>
  chg_Learn_l1 k q3 n (x11.1, x11.2.1, x11.2.2.1, x11.2.2.2, x33)) else (some (y9.1, y9.2.2.1, y9.2.2.2.1))
def chg_Learn (k : Nat) (a0 : dChange) : Option (Int × Int × Int × Int) :=
 (chg_begin k a0).bind fun r2 =>
 casesO r2.1 (if ¬ (r2.2 = (0 : Int)) then (some ((0 : Int), (0 : Int), (0 : Int), r2.2)) else (none)) (fun q3 => if ¬ (r2.2 = (0 : Int)) then (some ((0 : Int), (0 : Int), (0 : Int), r2.2)) else ((chg_least k ((q3.1.1, q3.1.2.1, q3.1.2.2.1, q3.1.2.2.2), q3.2.1, q3.2.2)).bind fun r6 =>
 ((chg_Learn_l1 k q3 k (r6.2.1, r6.2.2, (-1 : Int), (-1 : Int), (0 : Int))) : Option (Int × Int × Int)).bind fun x7 =>
 if x7.2.1 < (0 : Int) then (some ((0 : Int), (0 : Int), (0 : Int), (11 : Int))) else (some (x7.2.1, x7.2.2, x7.1, (0 : Int)))))

theorem chg_Learn_ok (k : Nat) (a0 : dChange) (r : Int × Int × Int × Int) (h : chg_Learn k a0 = some r) :
 Ctr Try.prog 29 [.rep tChange a0] [] (fun _ : Unit => (resA [.eq (.int .i64 r.1), .eq (.int .i64 r.2.1), .eq (.int .i64 r.2.2.1), .eq (.int .i64 r.2.2.2)], [])) := by
 unfold chg_Learn at h
 replace h := b_top h
 refine Ctr.of 115 Try.func29 rfl Try.ntmps29 rfl fun S w0 => ?_
 refine sr ?_
 refine JO.s01 rfl rfl rfl (o_box rfl rfl) ⟨rfl, trivial⟩ fun b1 => ?_
 refine cq ?_
 refine cq ?_
 refine cq ?_
 refine cq ?_
 refine nt ?_
 refine sr ?_
 refine ka (o_load_obj rfl sz28 (nfn) rfl) ?_
 obtain ⟨r2, er2, h⟩ := b_bind h
 have cr2 := chg_begin_ok k a0 r2 er2
 rcases hr : r2.1 with _ | q3
 ·
  rw [hr] at h cr2; replace h := co_n h
  refine JO.stepG (Δ := []) (F := _) (fun _ _ _ => wanted_none rfl _) rfl rfl (o_call [.tmp 19] rfl rfl en67 rfl cr2) ⟨rfl, trivial⟩ fun _ => ?_
  refine mq ?_
  refine ja (o_extract rfl rfl) ?_
  refine ja (o_extract rfl rfl) ?_
  refine aq ?_
  refine aq ?_
  refine nt ?_
  refine JC.seq ?_
  refine sr ?_
  refine mq ?_
  refine jb (o_neq rfl) ?_
  refine nt ?_
  refine JC.cond rfl (fun hb => ?_) (fun hb => ?_)
  ·
   replace h := b_if (n_t hb) h
   refine sr ?_
   refine mq ?_
   refine cq ?_
   refine cq ?_
   refine cq ?_
   refine aq ?_
   refine nt ?_
   refine JC.ret ?_
   refine JN.then_r ?_
   obtain rfl := Option.some.inj h
   exact JN.ret () [_, _, _, _] 0 ⟨rfl, rfl, rfl, rfl, trivial⟩ rfl
  ·
   replace h := b_ifn (n_fn hb) h
   refine JC.skip ?_
   refine JN.then_n ?_
   show JC _ _ _ _ _
   refine sr ?_
   refine mq ?_
   cases h
 ·
  rw [hr] at h cr2; replace h := co_s h
  refine JO.stepG (Δ := []) (F := _) (fun _ _ _ => wanted_none rfl _) rfl rfl (o_call [.tmp 19] rfl rfl en67 rfl cr2) ⟨rfl, trivial⟩ fun z4 => ?_
  refine mq ?_
  refine ja (o_extract rfl rfl) ?_
  refine ja (o_extract rfl rfl) ?_
  refine aq ?_
  refine aq ?_
  refine nt ?_
  refine JC.seq ?_
  refine sr ?_
  refine mq ?_
  refine jb (o_neq rfl) ?_
  refine nt ?_
  refine JC.cond rfl (fun hb => ?_) (fun hb => ?_)
  ·
   replace h := b_if (n_t hb) h
   refine sr ?_
   refine mq ?_
   refine cq ?_
   refine cq ?_
   refine cq ?_
   refine aq ?_
   refine nt ?_
   refine JC.ret ?_
   refine JN.then_r ?_
   obtain rfl := Option.some.inj h
   exact JN.ret () [_, _, _, _] 0 ⟨rfl, rfl, rfl, rfl, trivial⟩ rfl
  ·
   replace h := b_ifn (n_fn hb) h
   refine JC.skip ?_
   refine JN.then_n ?_
   show JC _ _ _ _ _
   refine sr ?_
   refine mq ?_
   refine JO.s01 rfl rfl rfl (o_call [.tmp 27] rfl rfl en69 rfl (chg_quick_plans_ok z4.1)) ⟨rfl, trivial⟩ fun b5 => ?_
   refine mq ?_
   refine ja (o_mkfn [.tmp 29] [] [(.pointer (some ⟨z4.1, 0, none⟩))] [] rfl rfl rfl) ?_
   refine JO.front 2 rfl ?_
   refine JO.se (SE.rawInv (Known k ((q3.1.1, q3.1.2.1, q3.1.2.2.1, q3.1.2.2.2), q3.2.1, q3.2.2)) known_nil) ?_
   obtain ⟨r6, er6, h⟩ := b_bind h
   have cr6 := chg_least_ok k ((q3.1.1, q3.1.2.1, q3.1.2.2.1, q3.1.2.2.2), q3.2.1, q3.2.2) z4.1 z4.2 b5 r6 er6
   refine JO.front 1 rfl ?_
   refine JO.front 1 rfl ?_
   refine JO.front 2 rfl ?_
   refine JO.stepG (Δ := [_, _, _]) (F := _) (fun _ _ _ => wanted_none rfl _) rfl rfl (o_call [.tmp 28, .tmp 30] rfl rfl en68 rfl cr6) ⟨rfl, rfl, trivial⟩ fun _ => ?_
   refine mq ?_
   refine ja (o_extract rfl rfl) ?_
   refine ja (o_extract rfl rfl) ?_
   refine ja (o_extract rfl rfl) ?_
   refine aq ?_
   refine aq ?_
   refine aq ?_
   refine nt ?_
   refine sr ?_
   refine cq ?_
   refine cq ?_
   refine nt ?_
   refine JC.cutB (Z := Unit) (α := Int × Int × Int) (fun z8 x7 => [(9, .eq (.int .i64 x7.1)), (11, .eq (.int .i64 x7.2.1)), (12, .eq (.int .i64 x7.2.2))]) (fun z8 x7 => [.inv z4.2 (Known k ((q3.1.1, q3.1.2.1, q3.1.2.2.1, q3.1.2.2.2), q3.2.1, q3.2.2))]) h (fun K h => ?_) (fun z8 x7 h => ?_)
   ·
    refine sr ?_
    refine mq ?_
    refine ja (o_nil_obj rfl) ?_
    refine ja (o_field_obj rfl fo120_0) ?_
    refine ja (o_field_obj rfl fo28_1) ?_
    refine ka (o_load_obj rfl sz26 (fun _ => rfl) rfl) ?_
    refine ja (o_len rfl rfl Try.underlying26) ?_
    refine JO.mc rfl ?_
    refine nt ?_
    refine JC.block ?_
    refine JC.loopB (Z := Unit) (α := Int × Bool × Int × Int × Int) (fun z10 y9 => [(6, .eq (.pointer (some ⟨z4.1, 0, none⟩))), (9, .eq (.int .i64 y9.1)), (10, .eq (.bool y9.2.1)), (11, .eq (.int .i64 y9.2.2.1)), (12, .eq (.int .i64 y9.2.2.2.1)), (40, .eq (.int .i64 (q3.1.2.1.length : Int))), (41, .eq (.int .i64 y9.2.2.2.2))]) (fun z10 y9 => [.obj z4.1 120 (.agg (.pair (.agg (.pair (.rep (.slice tThing) q3.1.1) (.pair (.rep (.slice tDresser) q3.1.2.1) (.pair (.rep (.slice (.int .i64)) q3.1.2.2.1) (.rep (.slice (.int .i64)) q3.1.2.2.2))))) (.pair (.rep (.slice (.tag 131 133)) q3.2.1) (.pair (.rep (.arr 8 (.int .u8)) q3.2.2) (.eq (.map (some z4.2))))))), .inv z4.2 (Known k ((q3.1.1, q3.1.2.1, q3.1.2.2.1, q3.1.2.2.2), q3.2.1, q3.2.2))]) (chg_Learn_l1 k q3) k () (r6.2.1, r6.2.2, (-1 : Int), (-1 : Int), (0 : Int)) (fun _ => rfl) h (SE.fin [0, 1] ⟨rfl, rfl, rfl, rfl, rfl, rfl, rfl, trivial⟩ rfl) (fun n z10 y9 h => ?_)
    unfold chg_Learn_l1 at h
    refine sr ?_
    refine jb (o_lss rfl) ?_
    refine nt ?_
    refine JC.seq ?_
    refine JC.cond rfl (fun hb => ?_) (fun hb => ?_)
    ·
     replace h := b_if (d_t hb) h
     refine JC.skip ?_
     refine JN.then_n ?_
     show JC _ _ _ _ _
     refine JC.cutB (Z := Unit) (α := Int × Bool × Int × Int) (fun z12 x11 => [(6, .eq (.pointer (some ⟨z4.1, 0, none⟩))), (9, .eq (.int .i64 x11.1)), (10, .eq (.bool x11.2.1)), (11, .eq (.int .i64 x11.2.2.1)), (12, .eq (.int .i64 x11.2.2.2)), (40, .eq (.int .i64 (q3.1.2.1.length : Int))), (41, .eq (.int .i64 y9.2.2.2.2))]) (fun z12 x11 => [.obj z4.1 120 (.agg (.pair (.agg (.pair (.rep (.slice tThing) q3.1.1) (.pair (.rep (.slice tDresser) q3.1.2.1) (.pair (.rep (.slice (.int .i64)) q3.1.2.2.1) (.rep (.slice (.int .i64)) q3.1.2.2.2))))) (.pair (.rep (.slice (.tag 131 133)) q3.2.1) (.pair (.rep (.arr 8 (.int .u8)) q3.2.2) (.eq (.map (some z4.2))))))), .inv z4.2 (Known k ((q3.1.1, q3.1.2.1, q3.1.2.2.1, q3.1.2.2.2), q3.2.1, q3.2.2))]) h (fun K h => ?_) (fun z12 x11 h => ?_)
     ·
      refine JC.block ?_
      refine sr ?_
      refine mq ?_
      refine aq ?_
      refine nt ?_
      refine JC.scopeS rfl (fl_hit fl_lab) ?_
      refine JC.seq ?_
      refine JC.label ?_
      refine JN.then_n ?_
      show JC _ _ _ _ _
      refine sr ?_
      refine mq ?_
      refine ja (o_nil_obj rfl) ?_
      refine ja (o_field_obj rfl fo120_0) ?_
      refine ja (o_field_obj rfl fo28_0) ?_
      refine ka (o_load_obj rfl sz25 (fun _ => rfl) rfl) ?_
      refine ja (o_len rfl rfl Try.underlying25) ?_
      refine JO.mc rfl ?_
      refine nt ?_
      refine JC.block ?_
      refine JC.loopB (Z := Unit) (α := Int × Bool × Int × Int × Int) (fun z14 y13 => [(6, .eq (.pointer (some ⟨z4.1, 0, none⟩))), (9, .eq (.int .i64 y13.1)), (10, .eq (.bool y13.2.1)), (11, .eq (.int .i64 y13.2.2.1)), (12, .eq (.int .i64 y13.2.2.2.1)), (13, .eq (.int .i64 y9.2.2.2.2)), (40, .eq (.int .i64 (q3.1.2.1.length : Int))), (41, .eq (.int .i64 y9.2.2.2.2)), (49, .eq (.int .i64 (q3.1.1.length : Int))), (50, .eq (.int .i64 y13.2.2.2.2))]) (fun z14 y13 => [.obj z4.1 120 (.agg (.pair (.agg (.pair (.rep (.slice tThing) q3.1.1) (.pair (.rep (.slice tDresser) q3.1.2.1) (.pair (.rep (.slice (.int .i64)) q3.1.2.2.1) (.rep (.slice (.int .i64)) q3.1.2.2.2))))) (.pair (.rep (.slice (.tag 131 133)) q3.2.1) (.pair (.rep (.arr 8 (.int .u8)) q3.2.2) (.eq (.map (some z4.2))))))), .inv z4.2 (Known k ((q3.1.1, q3.1.2.1, q3.1.2.2.1, q3.1.2.2.2), q3.2.1, q3.2.2))]) (chg_Learn_l2 k q3 y9) k () (y9.1, y9.2.1, y9.2.2.1, y9.2.2.2.1, (0 : Int)) (fun _ => rfl) h (SE.fin [0, 1] ⟨rfl, rfl, rfl, rfl, rfl, rfl, rfl, rfl, rfl, rfl, trivial⟩ rfl) (fun n z14 y13 h => ?_)
      unfold chg_Learn_l2 at h
      refine sr ?_
      refine jb (o_lss rfl) ?_
      refine nt ?_
      refine JC.seq ?_
      refine JC.cond rfl (fun hb => ?_) (fun hb => ?_)
      ·
       replace h := b_if (d_t hb) h
       refine JC.skip ?_
       refine JN.then_n ?_
       show JC _ _ _ _ _
       refine JC.cutB (Z := Unit) (α := Int × Bool × Int × Int) (fun z16 x15 => [(6, .eq (.pointer (some ⟨z4.1, 0, none⟩))), (9, .eq (.int .i64 x15.1)), (10, .eq (.bool x15.2.1)), (11, .eq (.int .i64 x15.2.2.1)), (12, .eq (.int .i64 x15.2.2.2)), (13, .eq (.int .i64 y9.2.2.2.2)), (40, .eq (.int .i64 (q3.1.2.1.length : Int))), (41, .eq (.int .i64 y9.2.2.2.2)), (49, .eq (.int .i64 (q3.1.1.length : Int))), (50, .eq (.int .i64 y13.2.2.2.2))]) (fun z16 x15 => [.obj z4.1 120 (.agg (.pair (.agg (.pair (.rep (.slice tThing) q3.1.1) (.pair (.rep (.slice tDresser) q3.1.2.1) (.pair (.rep (.slice (.int .i64)) q3.1.2.2.1) (.rep (.slice (.int .i64)) q3.1.2.2.2))))) (.pair (.rep (.slice (.tag 131 133)) q3.2.1) (.pair (.rep (.arr 8 (.int .u8)) q3.2.2) (.eq (.map (some z4.2))))))), .inv z4.2 (Known k ((q3.1.1, q3.1.2.1, q3.1.2.2.1, q3.1.2.2.2), q3.2.1, q3.2.2))]) h (fun K h => ?_) (fun z16 x15 h => ?_)
       ·
        refine JC.block ?_
        refine sr ?_
        refine mq ?_
        refine aq ?_
        refine nt ?_
        refine JC.seq ?_
        refine sr ?_
        refine mq ?_
        refine ja (o_nil_obj rfl) ?_
        refine ja (o_field_obj rfl fo120_0) ?_
        refine ja (o_field_obj rfl fo28_1) ?_
        refine ka (o_load_obj rfl sz26 (fun _ => rfl) rfl) ?_
        refine mq ?_
        obtain ⟨x17, ex17, h⟩ := b_bind h
        refine jb (o_index (t := tDresser) rfl Try.underlying26 sz53 ex17) ?_
        refine ja (o_field_at 1 false rfl fo53_0 rfl) ?_
        refine ja (o_load_at (t := (.slice (.int .i64))) rfl sz22 rfl) ?_
        refine mq ?_
        obtain ⟨r18, er18, h⟩ := b_bind h
        have cr18 := slc_Contains_int_ok k x17.1 y13.2.2.2.2 r18 er18
        refine jb (o_call [.tmp 61, .tmp 62] rfl rfl en74 rfl cr18) ?_
        refine nt ?_
        refine JC.cond rfl (fun hb => ?_) (fun hb => ?_)
        ·
         replace h := b_if (v_t hb) h
         refine JC.exit ?_
         refine JN.then_x ?_
         refine JN.blk_hit ?_
         refine JN.then_n ?_
         exact JN.z ((), (y13.1, y13.2.1, y13.2.2.1, y13.2.2.2.1)) h (SE.fin [0, 1] ⟨rfl, rfl, rfl, rfl, rfl, rfl, rfl, rfl, rfl, rfl, trivial⟩ rfl)
        ·
         replace h := b_ifn (v_f hb) h
         refine JC.skip ?_
         refine JN.then_n ?_
         show JC _ _ _ _ _
         refine sr ?_
         refine mq ?_
         refine ja (o_nil_obj rfl) ?_
         refine ja (o_field_obj rfl fo120_0) ?_
         refine ja (o_field_obj rfl fo28_1) ?_
         refine ka (o_load_obj rfl sz26 (fun _ => rfl) rfl) ?_
         obtain ⟨r19, er19, h⟩ := b_bind h
         have cr19 := slc_Clone_Dresser_ok k q3.1.2.1 r19 er19
         refine JO.s01 rfl rfl rfl (o_call [.tmp 68] rfl rfl en72 rfl cr19) ⟨rfl, trivial⟩ fun v20 => ?_
         refine aq ?_
         refine nt ?_
         refine sr ?_
         iterate 4 refine mq ?_
         obtain ⟨x21, ex21, h⟩ := b_bind h
         refine kb (o_index_own (t := tDresser) rfl Try.underlying26 sz53 ex21) ?_
         refine ka (o_field_el rfl fo53_0 (geti_ne ex21)) ?_
         refine ka (o_load_el (i := Int.toNat y9.2.2.2.2) (off := 0) rfl sz22 (fun _ => rfl) rfl (geti_some ex21).2.2 rfl) ?_
         obtain ⟨r22, er22, h⟩ := b_bind h
         have cr22 := slc_Clone_int_ok k x21.1 r22 er22
         refine JO.s01 rfl rfl rfl (o_call [.tmp 76] rfl rfl en75 rfl cr22) ⟨rfl, trivial⟩ fun v23 => ?_
         refine mq ?_
         refine ja (o_litB (t := (.int .i64)) [(.tmp 78, _)] [y13.2.2.2.2] rfl rfl sl22 (.cons rfl .int .nil) rfl rfl) ?_
         obtain ⟨u24, eu24, h⟩ := b_bind h
         refine JO.s1x rfl rfl rfl (o_append rfl rfl sl22 (chkP_some eu24)) ⟨rfl, rfl, trivial⟩ fun v25 => ?_
         refine JO.front 1 rfl ?_
         refine JO.se SE.toAlt ?_
         obtain ⟨x26, ex26, h⟩ := b_bind h
         have ax26 := geti_map (f := altF) ex26
         refine kb (o_index_own (t := (.agg (.pair (.alt (.slice (.int .i64))) (.pair (.int .i64) (.int .i64))))) rfl Try.underlying26 sz53 ax26) ?_
         refine ka (o_field_el rfl fo53_0 (geti_ne ax26)) ?_
         refine JO.front 1 rfl ?_
         refine JO.one fun o27 => ?_
         refine JO.front 1 rfl ?_
         refine JO.n11 rfl rfl (o_store_el (d' := ((Sum.inr v25), x26.2.1, x26.2.2)) (i := Int.toNat y9.2.2.2.2) (off := 0) rfl sz22 rfl (geti_some ax26).2.2 (.altR o27) o27 (.agg (.left .whole))) ⟨rfl, rfl, trivial⟩ ?_
         refine nt ?_
         refine sr ?_
         iterate 2 refine mq ?_
         have bx26 := geti_set ((Sum.inr v25), x26.2.1, x26.2.2) ax26
         refine kb (o_index_own (t := (.agg (.pair (.alt (.slice (.int .i64))) (.pair (.int .i64) (.int .i64))))) rfl Try.underlying26 sz53 bx26) ?_
         refine ka (o_field_el rfl fo53_0 (geti_ne bx26)) ?_
         refine ka (o_load_el (i := Int.toNat y9.2.2.2.2) (off := 0) rfl sz22 (fun _ => rfl) rfl (geti_some bx26).2.2 rfl) ?_
         refine JO.se (SE.altR 87 rfl rfl) ?_
         obtain ⟨r28, er28, h⟩ := b_bind h
         have cr28 := slc_Sort_int_ok k (r22 ++ [y13.2.2.2.2]) v25 r28 er28
         refine JO.front 1 rfl ?_
         refine ka (o_call [.tmp 87] rfl rfl en76 rfl cr28) ?_
         refine JO.front 1 rfl ?_
         refine JO.front 1 rfl ?_
         refine JO.se SE.ofAlt ?_
         refine nt ?_
         refine sr ?_
         iterate 2 refine mq ?_
         refine JO.se (SE.frz [15, 69, 70, 72, 83, 91] ⟨rfl, rfl, rfl, rfl, rfl, rfl, trivial⟩) ?_
         obtain ⟨r29, er29, h⟩ := b_bind h
         have cr29 := chg_quick_fewest_ok k ((q3.1.1, q3.1.2.1, q3.1.2.2.1, q3.1.2.2.2), q3.2.1, q3.2.2) z4.1 (.map (some z4.2)) (List.set r19 (Int.toNat y9.2.2.2.2) (r28, x26.2.1, x26.2.2)) r29 er29
         refine kb (o_call [.tmp 90, .tmp 91] rfl rfl en73 rfl cr29) ?_
         refine mq ?_
         refine ja (o_extract rfl rfl) ?_
         refine ja (o_extract rfl rfl) ?_
         refine aq ?_
         refine aq ?_
         refine nt ?_
         refine JC.cutB (Z := Unit) (α := Bool) (fun z31 x30 => [(6, .eq (.pointer (some ⟨z4.1, 0, none⟩))), (9, .eq (.int .i64 y13.1)), (10, .eq (.bool y13.2.1)), (11, .eq (.int .i64 y13.2.2.1)), (12, .eq (.int .i64 y13.2.2.2.1)), (13, .eq (.int .i64 y9.2.2.2.2)), (14, .eq (.int .i64 y13.2.2.2.2)), (16, .eq (.int .i64 r29.1)), (40, .eq (.int .i64 (q3.1.2.1.length : Int))), (41, .eq (.int .i64 y9.2.2.2.2)), (49, .eq (.int .i64 (q3.1.1.length : Int))), (50, .eq (.int .i64 y13.2.2.2.2)), (104, .eq (.bool x30))]) (fun z31 x30 => [.obj z4.1 120 (.agg (.pair (.agg (.pair (.rep (.slice tThing) q3.1.1) (.pair (.rep (.slice tDresser) q3.1.2.1) (.pair (.rep (.slice (.int .i64)) q3.1.2.2.1) (.rep (.slice (.int .i64)) q3.1.2.2.2))))) (.pair (.rep (.slice (.tag 131 133)) q3.2.1) (.pair (.rep (.arr 8 (.int .u8)) q3.2.2) (.eq (.map (some z4.2))))))), .inv z4.2 (Known k ((q3.1.1, q3.1.2.1, q3.1.2.2.1, q3.1.2.2.2), q3.2.1, q3.2.2))]) h (fun K h => ?_) (fun z31 x30 h => ?_)
         ·
          refine JC.region ?_
          iterate 2 refine mq ?_
          refine JO.bool (s := 96) rfl (fun hb => ?_) (fun hb => ?_)
          ·
           replace h := b_if (v_t hb) h
           refine gm ?_
           refine ga (o_not rfl) ?_
           refine gm ?_
           refine JO.bool (s := 99) rfl (fun hb => ?_) (fun hb => ?_)
           ·
            replace h := b_if (nv_t hb) h
            iterate 3 refine gn ?_
            refine gb (o_pick_t rfl) ?_
            refine pt ?_
            refine JO.nil ?_
            refine JN.then_n ?_
            exact JN.z ((), true) h (SE.fin [0, 1] ⟨rfl, rfl, rfl, rfl, rfl, rfl, rfl, rfl, rfl, rfl, rfl, rfl, rfl, trivial⟩ rfl)
           ·
            replace h := b_ifn (nv_fn hb) h
            refine gm ?_
            refine gm ?_
            refine gb (o_lss rfl) ?_
            refine gb (o_pick_f rfl) ?_
            refine pt ?_
            refine JO.nil ?_
            refine JN.then_n ?_
            exact JN.z ((), decide (r29.1 < y13.1)) h (SE.fin [0, 1] ⟨rfl, rfl, rfl, rfl, rfl, rfl, rfl, rfl, rfl, rfl, rfl, rfl, rfl, trivial⟩ rfl)
          ·
           replace h := b_ifn (v_f hb) h
           iterate 3 refine gn ?_
           refine JO.gnou rfl rfl rfl rfl rfl rfl ?_
           refine JO.gnou rfl rfl rfl rfl rfl rfl ?_
           refine JO.gnou rfl rfl rfl rfl rfl rfl ?_
           refine gn ?_
           refine pf ?_
           refine JO.nil ?_
           refine JN.then_n ?_
           exact JN.z ((), false) h (SE.fin [0, 1] ⟨rfl, rfl, rfl, rfl, rfl, rfl, rfl, rfl, rfl, rfl, rfl, rfl, rfl, trivial⟩ rfl)
         ·
          refine JC.cond rfl (fun hb => ?_) (fun hb => ?_)
          ·
           replace h := b_if (v_t hb) h
           refine JC.region ?_
           iterate 3 refine mq ?_
           refine aq ?_
           refine aq ?_
           refine aq ?_
           refine cq ?_
           refine JO.nil ?_
           refine JN.blk_n ?_
           refine JN.then_n ?_
           exact JN.z ((), (r29.1, true, y9.2.2.2.2, y13.2.2.2.2)) h (SE.fin [0, 1] ⟨rfl, rfl, rfl, rfl, rfl, rfl, rfl, rfl, rfl, rfl, trivial⟩ rfl)
          ·
           replace h := b_ifn (v_f hb) h
           refine JC.skip ?_
           refine JN.blk_n ?_
           refine JN.then_n ?_
           exact JN.z ((), (y13.1, y13.2.1, y13.2.2.1, y13.2.2.2.1)) h (SE.fin [0, 1] ⟨rfl, rfl, rfl, rfl, rfl, rfl, rfl, rfl, rfl, rfl, trivial⟩ rfl)
       ·
        refine JC.region ?_
        obtain ⟨x32, ex32, h⟩ := b_bind h
        refine jb (o_add rfl ex32) ?_
        refine mq ?_
        refine JO.nil ?_
        refine JN.then_n ?_
        exact JN.z ((), (x15.1, x15.2.1, x15.2.2.1, x15.2.2.2, x32)) h (SE.fin [0, 1] ⟨rfl, rfl, rfl, rfl, rfl, rfl, rfl, rfl, rfl, rfl, trivial⟩ rfl)
      ·
       replace h := b_ifn (d_f hb) h
       refine JC.exit ?_
       refine JN.then_x ?_
       refine JN.then_x ?_
       refine JN.blk_hit ?_
       refine JN.jmp_n ?_
       refine JN.blk_n ?_
       refine JN.then_n ?_
       exact JN.z ((), (y13.1, y13.2.1, y13.2.2.1, y13.2.2.2.1)) h (SE.fin [0, 1] ⟨rfl, rfl, rfl, rfl, rfl, rfl, rfl, trivial⟩ rfl)
     ·
      refine JC.region ?_
      obtain ⟨x33, ex33, h⟩ := b_bind h
      refine jb (o_add rfl ex33) ?_
      refine mq ?_
      refine JO.nil ?_
      refine JN.then_n ?_
      exact JN.z ((), (x11.1, x11.2.1, x11.2.2.1, x11.2.2.2, x33)) h (SE.fin [0, 1] ⟨rfl, rfl, rfl, rfl, rfl, rfl, rfl, trivial⟩ rfl)
    ·
     replace h := b_ifn (d_f hb) h
     refine JC.exit ?_
     refine JN.then_x ?_
     refine JN.then_x ?_
     refine JN.blk_hit ?_
     refine JN.then_n ?_
     exact JN.z ((), (y9.1, y9.2.2.1, y9.2.2.2.1)) h (SE.fin [1] ⟨rfl, rfl, rfl, trivial⟩ rfl)
   ·
    refine JC.seq ?_
    refine sr ?_
    refine mq ?_
    refine jb (o_lss rfl) ?_
    refine nt ?_
    refine JC.cond rfl (fun hb => ?_) (fun hb => ?_)
    ·
     replace h := b_if (d_t hb) h
     refine sr ?_
     refine cq ?_
     refine cq ?_
     refine cq ?_
     refine cq ?_
     refine nt ?_
     refine JC.ret ?_
     refine JN.then_r ?_
     obtain rfl := Option.some.inj h
     exact JN.ret () [_, _, _, _] 0 ⟨rfl, rfl, rfl, rfl, trivial⟩ rfl
    ·
     replace h := b_ifn (d_f hb) h
     refine JC.skip ?_
     refine JN.then_n ?_
     show JC _ _ _ _ _
     refine sr ?_
     iterate 3 refine mq ?_
     refine aq ?_
     refine aq ?_
     refine aq ?_
     refine cq ?_
     refine nt ?_
     refine JC.ret ?_
     obtain rfl := Option.some.inj h
     exact JN.ret () [_, _, _, _] 0 ⟨rfl, rfl, rfl, rfl, trivial⟩ rfl


def chg_Through_l1 (k : Nat) (a0 : (List dChange)) : Nat → ((List dquick) × Int) → Option (Except ((List Int) × Int) (List dquick))
 | 0, _ => none
 | n + 1, y4 =>
  if y4.2 < (a0.length : Int) then ((geti a0 y4.2).bind fun x6 =>
  (chg_begin k x6).bind fun r8 =>
  casesO r8.1 (if ¬ (r8.2 = (0 : Int)) then (some (.error ([], r8.2))) else (none)) (fun q9 => if ¬ (r8.2 = (0 : Int)) then (some (.error ([], r8.2))) else ((chkP (okLen (List.length y4.1 + List.length [((q9.1.1, q9.1.2.1, q9.1.2.2.1, q9.1.2.2.2), q9.2.1, q9.2.2, ())]))).bind fun _ =>
  (ck (y4.2 + (1 : Int))).bind fun x13 =>
  chg_Through_l1 k a0 n (y4.1 ++ [((q9.1.1, q9.1.2.1, q9.1.2.2.1, q9.1.2.2.2), q9.2.1, q9.2.2, ())], x13)))) else (some (.ok y4.1))

def chg_Through_l2 (k : Nat) (x2 : (List dquick)) : Nat → Int → Option (Except ((List Int) × Int) Unit)
 | 0, _ => none
 | n + 1, y16 =>
  if y16 < (x2.length : Int) then ((geti x2 y16).bind fun x18 =>
  (geti x2 (0 : Int)).bind fun x19 =>
  if ¬ ((x18.1.2.1.length : Int) = (x19.1.2.1.length : Int)) then (some (.error ([], (9 : Int)))) else ((ck (y16 + (1 : Int))).bind fun x20 =>
  chg_Through_l2 k x2 n x20)) else (some (.ok ()))

def chg_Through_l3 (k : Nat) (a1 : (List Int)) : Nat → Int → Option (Except ((List Int) × Int) Unit)
 | 0, _ => none
 | n + 1, y24 =>
  if y24 < (a1.length : Int) then ((geti a1 y24).bind fun x26 =>
  (chg_outside k x26 (0 : Int) (20 : Int)).bind fun r27 =>
  if r27 = true then (some (.error ([], (1 : Int)))) else ((ck (y24 + (1 : Int))).bind fun x28 =>
  chg_Through_l3 k a1 n x28)) else (some (.ok ()))

def chg_Through_l5 (k : Nat) (x36 : Int) (r41 : (List dDresser)) : Nat → ((List dDresser) × Int) → Option (List dDresser)
 | 0, _ => none
 | n + 1, y45 =>
  if y45.2 < (r41.length : Int) then ((geti y45.1 y45.2).bind fun x47 =>
  (ck (x47.2.2 - x36)).bind fun x48 =>
  (geti y45.1 y45.2).bind fun x49 =>
  (ck (y45.2 + (1 : Int))).bind fun x50 =>
  chg_Through_l5 k x36 r41 n (List.set y45.1 (Int.toNat y45.2) (x49.1, x49.2.1, imax (0 : Int) x48), x50)) else (some y45.1)

def chg_Through_l4 (k : Nat) (a1 : (List Int)) (x2 : (List dquick)) : Nat → ((List Int) × Int × Int) → Option (Except ((List Int) × Int) (List Int))
 | 0, _ => none
 | n + 1, y31 =>
  if y31.2.2 < (x2.length : Int) then (bE (α := (List Int) × Int) ((geti x2 y31.2.2).bind fun x35 =>
  ((if (0 : Int) < y31.2.2 then ((ck (y31.2.2 - (1 : Int))).bind fun x38 =>
  (geti a1 x38).bind fun x39 =>
  (ck (y31.2.1 + x39)).bind fun x40 =>
  some x40) else (some y31.2.1)) : Option (Int)).bind fun x36 =>
  (slc_Clone_Dresser k x35.1.2.1).bind fun r41 =>
  ((chg_Through_l5 k x36 r41 k (r41, (0 : Int))) : Option ((List dDresser))).bind fun x43 =>
  (chg_quick_fewestF k x35 x43).bind fun r51 =>
  if ¬ (r51.2 = true) then (some (.error ([], (11 : Int)))) else ((ck (x36 + r51.1)).bind fun x52 =>
  (chkP (okLen (List.length y31.1 + List.length [x52]))).bind fun _ =>
  some (.ok (y31.1 ++ [x52], x52)))) (fun e => some (.error e)) fun x33 =>
  (ck (y31.2.2 + (1 : Int))).bind fun x55 =>
  chg_Through_l4 k a1 x2 n (x33.1, x33.2, x55)) else (some (.ok y31.1))
def chg_Through (k : Nat) (a0 : (List dChange)) (a1 : (List Int)) : Option ((List Int) × Int) :=
 (chg_sized k (a0.length : Int) (3 : Int)).bind fun r1 =>
 if ¬ (r1 = (0 : Int)) then (some ([], r1)) else (bE (α := (List dquick)) (chg_Through_l1 k a0 k (([] : (List dquick)), (0 : Int))) (some) fun x2 =>
 bE (α := Unit) (chg_Through_l2 k x2 k (0 : Int)) (some) fun _ =>
 (ck ((a0.length : Int) - (1 : Int))).bind fun x21 =>
 if ¬ ((a1.length : Int) = x21) then (some ([], (9 : Int))) else (bE (α := Unit) (chg_Through_l3 k a1 k (0 : Int)) (some) fun _ =>
 bE (α := (List Int)) (chg_Through_l4 k a1 x2 k (([] : (List Int)), (0 : Int), (0 : Int))) (some) fun x29 =>
 some (x29, (0 : Int))))

theorem chg_Through_ok (k : Nat) (a0 : (List dChange)) (a1 : (List Int)) (r : (List Int) × Int) (h : chg_Through k a0 a1 = some r) :
 Ctr Try.prog 33 [.rep (.slice tChange) a0, .rep (.slice (.int .i64)) a1] [] (fun _ : Unit => (resA [.rep (.slice (.int .i64)) r.1, .eq (.int .i64 r.2)], [])) := by
 unfold chg_Through at h
 replace h := b_top h
 refine Ctr.of 143 Try.func33 rfl Try.ntmps33 rfl fun S w0 => ?_
 refine sr ?_
 refine cq ?_
 refine cq ?_
 refine nt ?_
 refine JC.seq ?_
 refine sr ?_
 refine mq ?_
 refine ja (o_len rfl rfl Try.underlying62) ?_
 obtain ⟨r1, er1, h⟩ := b_bind h
 have cr1 := chg_sized_ok k (a0.length : Int) (3 : Int) r1 er1
 refine jb (o_call [.tmp 25, .const (.int .i64 (3))] rfl rfl en78 rfl cr1) ?_
 refine aq ?_
 refine nt ?_
 refine sr ?_
 refine mq ?_
 refine jb (o_neq rfl) ?_
 refine nt ?_
 refine JC.cond rfl (fun hb => ?_) (fun hb => ?_)
 ·
  replace h := b_if (n_t hb) h
  refine sr ?_
  refine mq ?_
  refine cq ?_
  refine aq ?_
  refine nt ?_
  refine JC.ret ?_
  refine JN.then_r ?_
  refine JN.se (SE.ent (t := (.slice (.int .i64))) (x := []) 4 rfl .nil rfl rfl) ?_
  obtain rfl := Option.some.inj h
  exact JN.ret () [_, _] 0 ⟨rfl, rfl, trivial⟩ rfl
 ·
  replace h := b_ifn (n_fn hb) h
  refine JC.skip ?_
  refine JN.then_n ?_
  show JC _ _ _ _ _
  refine sr ?_
  refine cq ?_
  refine nt ?_
  refine JC.cutE (Z := Value) (α := (List dquick)) (fun z3 x2 => [(0, .rep (.slice tChange) a0), (1, .rep (.slice (.int .i64)) a1), (7, .eq z3)]) (fun z3 x2 => [.sl z3 98 (.ptr tquick) x2]) (fun e => e = r) h (fun e h => Option.some.inj h) (fun K hR h => ?_) (fun z3 x2 h => ?_)
  ·
   refine sr ?_
   refine mq ?_
   refine ja (o_len rfl rfl Try.underlying62) ?_
   refine JO.mc rfl ?_
   refine nt ?_
   refine JC.block ?_
   refine JC.se (SE.nil 98 (.ptr tquick)) ?_
   refine JC.loopB (Z := Value) (α := (List dquick) × Int) (fun z5 y4 => [(0, .rep (.slice tChange) a0), (1, .rep (.slice (.int .i64)) a1), (7, .eq z5), (30, .rep (.slice tChange) a0), (31, .eq (.int .i64 (a0.length : Int))), (32, .eq (.int .i64 y4.2))]) (fun z5 y4 => [.sl z5 98 (.ptr tquick) y4.1]) (chg_Through_l1 k a0) k (.slice none 0 0) (([] : (List dquick)), (0 : Int)) (fun _ => rfl) h (SE.fin [0] ⟨rfl, rfl, rfl, rfl, rfl, rfl, trivial⟩ rfl) (fun n z5 y4 h => ?_)
   unfold chg_Through_l1 at h
   refine sr ?_
   refine jb (o_lss rfl) ?_
   refine nt ?_
   refine JC.seq ?_
   refine JC.cond rfl (fun hb => ?_) (fun hb => ?_)
   ·
    replace h := b_if (d_t hb) h
    refine JC.skip ?_
    refine JN.then_n ?_
    show JC _ _ _ _ _
    refine JC.seq ?_
    refine JC.block ?_
    refine sr ?_
    obtain ⟨x6, ex6, h⟩ := b_bind h
    refine jb (o_index (t := tChange) rfl Try.underlying62 sz28 ex6) ?_
    refine ja (o_load_at (t := tChange) rfl sz28 rfl) ?_
    refine JO.s01 rfl rfl rfl (o_alloc rfl za28 al28) trivial fun b7 => ?_
    refine JO.n11 rfl rfl (o_store rfl sz28 rfl rfl rfl) ⟨rfl, rfl, trivial⟩ ?_
    refine nt ?_
    refine sr ?_
    refine ka (o_load_obj rfl sz28 (nfn) rfl) ?_
    obtain ⟨r8, er8, h⟩ := b_bind h
    have cr8 := chg_begin_ok k x6 r8 er8
    rcases hr : r8.1 with _ | q9
    ·
     rw [hr] at h cr8; replace h := co_n h
     refine JO.stepG (Δ := []) (F := _) (fun _ _ _ => wanted_none rfl _) rfl rfl (o_call [.tmp 37] rfl rfl en67 rfl cr8) ⟨rfl, trivial⟩ fun _ => ?_
     refine mq ?_
     refine ja (o_extract rfl rfl) ?_
     refine ja (o_extract rfl rfl) ?_
     refine aq ?_
     refine aq ?_
     refine nt ?_
     refine JC.seq ?_
     refine sr ?_
     refine mq ?_
     refine jb (o_neq rfl) ?_
     refine nt ?_
     refine JC.cond rfl (fun hb => ?_) (fun hb => ?_)
     ·
      replace h := b_if (n_t hb) h
      refine sr ?_
      refine mq ?_
      refine cq ?_
      refine aq ?_
      refine nt ?_
      refine JC.ret ?_
      refine JN.then_r ?_
      refine JN.blk_r ?_
      refine JN.then_r ?_
      refine JN.then_r ?_
      refine JN.blk_r ?_
      refine JN.then_r ?_
      refine JN.se (SE.ent (t := (.slice (.int .i64))) (x := []) 4 rfl .nil rfl rfl) ?_
      obtain rfl := hR _ h
      exact JN.ret () [_, _] 0 ⟨rfl, rfl, trivial⟩ rfl
     ·
      replace h := b_ifn (n_fn hb) h
      refine JC.skip ?_
      refine JN.then_n ?_
      show JC _ _ _ _ _
      refine JC.region ?_
      iterate 2 refine mq ?_
      cases h
    ·
     rw [hr] at h cr8; replace h := co_s h
     refine JO.stepG (Δ := []) (F := _) (fun _ _ _ => wanted_none rfl _) rfl rfl (o_call [.tmp 37] rfl rfl en67 rfl cr8) ⟨rfl, trivial⟩ fun z10 => ?_
     refine mq ?_
     refine ja (o_extract rfl rfl) ?_
     refine ja (o_extract rfl rfl) ?_
     refine aq ?_
     refine aq ?_
     refine nt ?_
     refine JC.seq ?_
     refine sr ?_
     refine mq ?_
     refine jb (o_neq rfl) ?_
     refine nt ?_
     refine JC.cond rfl (fun hb => ?_) (fun hb => ?_)
     ·
      replace h := b_if (n_t hb) h
      refine sr ?_
      refine mq ?_
      refine cq ?_
      refine aq ?_
      refine nt ?_
      refine JC.ret ?_
      refine JN.then_r ?_
      refine JN.blk_r ?_
      refine JN.then_r ?_
      refine JN.then_r ?_
      refine JN.blk_r ?_
      refine JN.then_r ?_
      refine JN.se (SE.ent (t := (.slice (.int .i64))) (x := []) 4 rfl .nil rfl rfl) ?_
      obtain rfl := hR _ h
      exact JN.ret () [_, _] 0 ⟨rfl, rfl, trivial⟩ rfl
     ·
      replace h := b_ifn (n_fn hb) h
      refine JC.skip ?_
      refine JN.then_n ?_
      show JC _ _ _ _ _
      refine JC.region ?_
      iterate 2 refine mq ?_
      refine JO.se (SE.frzObj (t := tquick) (x := ((q9.1.1, q9.1.2.1, q9.1.2.2.1, q9.1.2.2.2), q9.2.1, q9.2.2, ())) [10, 39, 45] (.agg (.pair (.agg (.pair .rep (.pair .rep (.pair .rep .rep)))) (.pair .rep (.pair .rep (.ign rfl))))) ⟨rfl, rfl, rfl, trivial⟩) ?_
      refine ja (o_litB (t := (.ptr tquick)) [(.tmp 45, _)] [((q9.1.1, q9.1.2.1, q9.1.2.2.1, q9.1.2.2.2), q9.2.1, q9.2.2, ())] rfl rfl sl128 (.cons trivial .ptr .nil) rfl rfl) ?_
      obtain ⟨u11, eu11, h⟩ := b_bind h
      refine JO.front 2 rfl ?_
      refine JO.s1x rfl rfl rfl (o_append rfl rfl sl128 (chkP_some eu11)) ⟨rfl, rfl, trivial⟩ fun v12 => ?_
      refine aq ?_
      refine JO.nil ?_
      refine JN.blk_n ?_
      refine JN.then_n ?_
      show JC _ _ _ _ _
      refine JC.region ?_
      obtain ⟨x13, ex13, h⟩ := b_bind h
      refine jb (o_add rfl ex13) ?_
      refine mq ?_
      refine JO.nil ?_
      refine JN.then_n ?_
      exact JN.z (v12, (y4.1 ++ [((q9.1.1, q9.1.2.1, q9.1.2.2.1, q9.1.2.2.2), q9.2.1, q9.2.2, ())], x13)) h (SE.fin [0] ⟨rfl, rfl, rfl, rfl, rfl, rfl, trivial⟩ rfl)
   ·
    replace h := b_ifn (d_f hb) h
    refine JC.exit ?_
    refine JN.then_x ?_
    refine JN.then_x ?_
    refine JN.blk_hit ?_
    refine JN.then_n ?_
    exact JN.z (z5, y4.1) h (SE.fin [0] ⟨rfl, rfl, rfl, trivial⟩ rfl)
  ·
   refine JC.cutE (Z := Unit) (α := Unit) (fun z15 x14 => [(0, .rep (.slice tChange) a0), (1, .rep (.slice (.int .i64)) a1), (7, .eq z3)]) (fun z15 x14 => [.sl z3 98 (.ptr tquick) x2]) (fun e => e = r) h (fun e h => Option.some.inj h) (fun K hR h => ?_) (fun z15 x14 h => ?_)
   ·
    refine sr ?_
    refine mq ?_
    refine ka (o_len_own rfl rfl Try.underlying128) ?_
    refine JO.mc rfl ?_
    refine nt ?_
    refine JC.block ?_
    refine JC.loopB (Z := Unit) (α := Int) (fun z17 y16 => [(0, .rep (.slice tChange) a0), (1, .rep (.slice (.int .i64)) a1), (7, .eq z3), (49, .eq z3), (50, .eq (.int .i64 (x2.length : Int))), (51, .eq (.int .i64 y16))]) (fun z17 y16 => [.sl z3 98 (.ptr tquick) x2]) (chg_Through_l2 k x2) k () (0 : Int) (fun _ => rfl) h (SE.fin [0] ⟨rfl, rfl, rfl, rfl, rfl, rfl, trivial⟩ rfl) (fun n z17 y16 h => ?_)
    unfold chg_Through_l2 at h
    refine sr ?_
    refine jb (o_lss rfl) ?_
    refine nt ?_
    refine JC.seq ?_
    refine JC.cond rfl (fun hb => ?_) (fun hb => ?_)
    ·
     replace h := b_if (d_t hb) h
     refine JC.skip ?_
     refine JN.then_n ?_
     show JC _ _ _ _ _
     refine JC.seq ?_
     refine JC.block ?_
     refine sr ?_
     obtain ⟨x18, ex18, h⟩ := b_bind h
     refine kb (o_index_own (t := (.ptr tquick)) rfl Try.underlying128 sz98 ex18) ?_
     refine ka (o_load_el (i := Int.toNat y16) (off := 0) rfl sz98 (fun _ => rfl) rfl (geti_some ex18).2.2 rfl) ?_
     refine aq ?_
     refine nt ?_
     refine JC.seq ?_
     refine JC.drawN ?_
     refine dm ?_
     refine da (o_nil_at rfl) ?_
     refine da (o_field_at 4 true rfl fo120_0 rfl) ?_
     refine da (o_field_at 1 false rfl fo28_1 rfl) ?_
     refine da (o_load_at (t := (.slice tDresser)) rfl sz26 rfl) ?_
     refine da (o_len rfl rfl Try.underlying26) ?_
     refine dm ?_
     obtain ⟨x19, ex19, h⟩ := b_bind h
     refine eb 0 (o_index_own (t := (.ptr tquick)) rfl Try.underlying128 sz98 ex19) ?_
     refine ea 0 (o_load_el (i := Int.toNat (0 : Int)) (off := 0) rfl sz98 (fun _ => rfl) rfl (geti_some ex19).2.2 rfl) ?_
     refine da (o_nil_at rfl) ?_
     refine da (o_field_at 4 true rfl fo120_0 rfl) ?_
     refine da (o_field_at 1 false rfl fo28_1 rfl) ?_
     refine da (o_load_at (t := (.slice tDresser)) rfl sz26 rfl) ?_
     refine da (o_len rfl rfl Try.underlying26) ?_
     refine DN.fin (by kernel_rfl) mixed ?_
     refine jb (o_neq rfl) ?_
     refine nt ?_
     refine JC.cond rfl (fun hb => ?_) (fun hb => ?_)
     ·
      replace h := b_if (n_t hb) h
      refine sr ?_
      refine cq ?_
      refine cq ?_
      refine nt ?_
      refine JC.ret ?_
      refine JN.blk_r ?_
      refine JN.then_r ?_
      refine JN.then_r ?_
      refine JN.blk_r ?_
      refine JN.then_r ?_
      refine JN.se (SE.ent (t := (.slice (.int .i64))) (x := []) 4 rfl .nil rfl rfl) ?_
      obtain rfl := hR _ h
      exact JN.ret () [_, _] 0 ⟨rfl, rfl, trivial⟩ rfl
     ·
      replace h := b_ifn (n_fn hb) h
      refine JC.skip ?_
      refine JN.blk_n ?_
      refine JN.then_n ?_
      show JC _ _ _ _ _
      refine JC.region ?_
      obtain ⟨x20, ex20, h⟩ := b_bind h
      refine jb (o_add rfl ex20) ?_
      refine mq ?_
      refine JO.nil ?_
      refine JN.then_n ?_
      exact JN.z ((), x20) h (SE.fin [0] ⟨rfl, rfl, rfl, rfl, rfl, rfl, trivial⟩ rfl)
    ·
     replace h := b_ifn (d_f hb) h
     refine JC.exit ?_
     refine JN.then_x ?_
     refine JN.then_x ?_
     refine JN.blk_hit ?_
     refine JN.then_n ?_
     exact JN.z ((), ()) h (SE.fin [0] ⟨rfl, rfl, rfl, trivial⟩ rfl)
   ·
    refine JC.seq ?_
    refine sr ?_
    refine mq ?_
    refine ja (o_len rfl rfl Try.underlying22) ?_
    refine mq ?_
    refine ja (o_len rfl rfl Try.underlying62) ?_
    obtain ⟨x21, ex21, h⟩ := b_bind h
    refine jb (o_sub rfl ex21) ?_
    refine jb (o_neq rfl) ?_
    refine nt ?_
    refine JC.cond rfl (fun hb => ?_) (fun hb => ?_)
    ·
     replace h := b_if (n_t hb) h
     refine sr ?_
     refine cq ?_
     refine cq ?_
     refine nt ?_
     refine JC.ret ?_
     refine JN.then_r ?_
     refine JN.se (SE.ent (t := (.slice (.int .i64))) (x := []) 4 rfl .nil rfl rfl) ?_
     obtain rfl := Option.some.inj h
     exact JN.ret () [_, _] 0 ⟨rfl, rfl, trivial⟩ rfl
    ·
     replace h := b_ifn (n_fn hb) h
     refine JC.skip ?_
     refine JN.then_n ?_
     show JC _ _ _ _ _
     refine JC.cutE (Z := Unit) (α := Unit) (fun z23 x22 => [(1, .rep (.slice (.int .i64)) a1), (7, .eq z3)]) (fun z23 x22 => [.sl z3 98 (.ptr tquick) x2]) (fun e => e = r) h (fun e h => Option.some.inj h) (fun K hR h => ?_) (fun z23 x22 h => ?_)
     ·
      refine sr ?_
      refine mq ?_
      refine ja (o_len rfl rfl Try.underlying22) ?_
      refine JO.mc rfl ?_
      refine nt ?_
      refine JC.block ?_
      refine JC.loopB (Z := Unit) (α := Int) (fun z25 y24 => [(1, .rep (.slice (.int .i64)) a1), (7, .eq z3), (77, .rep (.slice (.int .i64)) a1), (78, .eq (.int .i64 (a1.length : Int))), (79, .eq (.int .i64 y24))]) (fun z25 y24 => [.sl z3 98 (.ptr tquick) x2]) (chg_Through_l3 k a1) k () (0 : Int) (fun _ => rfl) h (SE.fin [0] ⟨rfl, rfl, rfl, rfl, rfl, trivial⟩ rfl) (fun n z25 y24 h => ?_)
      unfold chg_Through_l3 at h
      refine sr ?_
      refine jb (o_lss rfl) ?_
      refine nt ?_
      refine JC.seq ?_
      refine JC.cond rfl (fun hb => ?_) (fun hb => ?_)
      ·
       replace h := b_if (d_t hb) h
       refine JC.skip ?_
       refine JN.then_n ?_
       show JC _ _ _ _ _
       refine JC.seq ?_
       refine JC.block ?_
       refine sr ?_
       obtain ⟨x26, ex26, h⟩ := b_bind h
       refine jb (o_index (t := (.int .i64)) rfl Try.underlying22 sz3 ex26) ?_
       refine ja (o_load_at (t := (.int .i64)) rfl sz3 rfl) ?_
       refine aq ?_
       refine nt ?_
       refine sr ?_
       refine mq ?_
       obtain ⟨r27, er27, h⟩ := b_bind h
       have cr27 := chg_outside_ok k x26 (0 : Int) (20 : Int) r27 er27
       refine jc (o_call [.tmp 83, .const (.int .i64 (0)), .const (.int .i64 (20))] rfl rfl en71 rfl cr27) ?_
       refine nt ?_
       refine JC.cond rfl (fun hb => ?_) (fun hb => ?_)
       ·
        replace h := b_if (v_t hb) h
        refine sr ?_
        refine cq ?_
        refine cq ?_
        refine nt ?_
        refine JC.ret ?_
        refine JN.blk_r ?_
        refine JN.then_r ?_
        refine JN.then_r ?_
        refine JN.blk_r ?_
        refine JN.then_r ?_
        refine JN.se (SE.ent (t := (.slice (.int .i64))) (x := []) 4 rfl .nil rfl rfl) ?_
        obtain rfl := hR _ h
        exact JN.ret () [_, _] 0 ⟨rfl, rfl, trivial⟩ rfl
       ·
        replace h := b_ifn (v_f hb) h
        refine JC.skip ?_
        refine JN.blk_n ?_
        refine JN.then_n ?_
        show JC _ _ _ _ _
        refine JC.region ?_
        obtain ⟨x28, ex28, h⟩ := b_bind h
        refine jb (o_add rfl ex28) ?_
        refine mq ?_
        refine JO.nil ?_
        refine JN.then_n ?_
        exact JN.z ((), x28) h (SE.fin [0] ⟨rfl, rfl, rfl, rfl, rfl, trivial⟩ rfl)
      ·
       replace h := b_ifn (d_f hb) h
       refine JC.exit ?_
       refine JN.then_x ?_
       refine JN.then_x ?_
       refine JN.blk_hit ?_
       refine JN.then_n ?_
       exact JN.z ((), ()) h (SE.fin [0] ⟨rfl, rfl, trivial⟩ rfl)
     ·
      refine sr ?_
      refine cq ?_
      refine nt ?_
      refine sr ?_
      refine cq ?_
      refine nt ?_
      refine JC.cutE (Z := Value) (α := (List Int)) (fun z30 x29 => [(16, .eq z30)]) (fun z30 x29 => [.sl z30 3 (.int .i64) x29]) (fun e => e = r) h (fun e h => Option.some.inj h) (fun K hR h => ?_) (fun z30 x29 h => ?_)
      ·
       refine sr ?_
       refine mq ?_
       refine ka (o_len_own rfl rfl Try.underlying128) ?_
       refine JO.mc rfl ?_
       refine nt ?_
       refine JC.block ?_
       refine JC.se (SE.nil 3 (.int .i64)) ?_
       refine JC.loopB (Z := Value) (α := (List Int) × Int × Int) (fun z32 y31 => [(1, .rep (.slice (.int .i64)) a1), (16, .eq z32), (17, .eq (.int .i64 y31.2.1)), (86, .eq z3), (87, .eq (.int .i64 (x2.length : Int))), (88, .eq (.int .i64 y31.2.2))]) (fun z32 y31 => [.sl z32 3 (.int .i64) y31.1, .sl z3 98 (.ptr tquick) x2]) (chg_Through_l4 k a1 x2) k (.slice none 0 0) (([] : (List Int)), (0 : Int), (0 : Int)) (fun _ => rfl) h (SE.fin [0, 1] ⟨rfl, rfl, rfl, rfl, rfl, rfl, trivial⟩ rfl) (fun n z32 y31 h => ?_)
       unfold chg_Through_l4 at h
       refine sr ?_
       refine jb (o_lss rfl) ?_
       refine nt ?_
       refine JC.seq ?_
       refine JC.cond rfl (fun hb => ?_) (fun hb => ?_)
       ·
        replace h := b_if (d_t hb) h
        refine JC.skip ?_
        refine JN.then_n ?_
        show JC _ _ _ _ _
        refine JC.cutE (Z := Value) (α := (List Int) × Int) (fun z34 x33 => [(1, .rep (.slice (.int .i64)) a1), (16, .eq z34), (17, .eq (.int .i64 x33.2)), (86, .eq z3), (87, .eq (.int .i64 (x2.length : Int))), (88, .eq (.int .i64 y31.2.2))]) (fun z34 x33 => [.sl z34 3 (.int .i64) x33.1, .sl z3 98 (.ptr tquick) x2]) (fun e => e = r) h (fun e h => hR e h) (fun K hR h => ?_) (fun z34 x33 h => ?_)
        ·
         refine JC.block ?_
         refine sr ?_
         refine mq ?_
         obtain ⟨x35, ex35, h⟩ := b_bind h
         refine JO.front 1 rfl ?_
         refine kb (o_index_own (t := (.ptr tquick)) rfl Try.underlying128 sz98 ex35) ?_
         refine ka (o_load_el (i := Int.toNat y31.2.2) (off := 0) rfl sz98 (fun _ => rfl) rfl (geti_some ex35).2.2 rfl) ?_
         refine aq ?_
         refine aq ?_
         refine nt ?_
         refine JC.cutB (Z := Unit) (α := Int) (fun z37 x36 => [(1, .rep (.slice (.int .i64)) a1), (16, .eq z32), (17, .eq (.int .i64 x36)), (19, .at tquick x35), (86, .eq z3), (87, .eq (.int .i64 (x2.length : Int))), (88, .eq (.int .i64 y31.2.2))]) (fun z37 x36 => [.sl z32 3 (.int .i64) y31.1, .sl z3 98 (.ptr tquick) x2]) h (fun K h => ?_) (fun z37 x36 h => ?_)
         ·
          refine sr ?_
          refine mq ?_
          refine jb (o_gtr rfl) ?_
          refine nt ?_
          refine JC.cond rfl (fun hb => ?_) (fun hb => ?_)
          ·
           replace h := b_if (d_t hb) h
           refine JC.region ?_
           iterate 3 refine mq ?_
           obtain ⟨x38, ex38, h⟩ := b_bind h
           refine jb (o_sub rfl ex38) ?_
           obtain ⟨x39, ex39, h⟩ := b_bind h
           refine jb (o_index (t := (.int .i64)) rfl Try.underlying22 sz3 ex39) ?_
           refine ja (o_load_at (t := (.int .i64)) rfl sz3 rfl) ?_
           obtain ⟨x40, ex40, h⟩ := b_bind h
           refine jb (o_add rfl ex40) ?_
           refine aq ?_
           refine JO.nil ?_
           refine JN.then_n ?_
           exact JN.z ((), x40) h (SE.fin [1, 0] ⟨rfl, rfl, rfl, rfl, rfl, rfl, rfl, trivial⟩ rfl)
          ·
           replace h := b_ifn (d_f hb) h
           refine JC.skip ?_
           refine JN.then_n ?_
           exact JN.z ((), y31.2.1) h (SE.fin [1, 0] ⟨rfl, rfl, rfl, rfl, rfl, rfl, rfl, trivial⟩ rfl)
         ·
          refine sr ?_
          refine mq ?_
          refine ja (o_nil_at rfl) ?_
          refine ja (o_field_at 4 true rfl fo120_0 rfl) ?_
          refine ja (o_field_at 1 false rfl fo28_1 rfl) ?_
          refine ja (o_load_at (t := (.slice tDresser)) rfl sz26 rfl) ?_
          obtain ⟨r41, er41, h⟩ := b_bind h
          have cr41 := slc_Clone_Dresser_ok k x35.1.2.1 r41 er41
          refine JO.s01 rfl rfl rfl (o_call [.tmp 106] rfl rfl en72 rfl cr41) ⟨rfl, trivial⟩ fun v42 => ?_
          refine aq ?_
          refine nt ?_
          refine JC.cutB (Z := Unit) (α := (List dDresser)) (fun z44 x43 => [(1, .rep (.slice (.int .i64)) a1), (16, .eq z32), (17, .eq (.int .i64 x36)), (19, .at tquick x35), (20, .eq v42), (86, .eq z3), (87, .eq (.int .i64 (x2.length : Int))), (88, .eq (.int .i64 y31.2.2))]) (fun z44 x43 => [.sl z32 3 (.int .i64) y31.1, .sl v42 53 tDresser x43, .sl z3 98 (.ptr tquick) x2]) h (fun K h => ?_) (fun z44 x43 h => ?_)
          ·
           refine sr ?_
           refine mq ?_
           refine ka (o_len_own rfl rfl Try.underlying26) ?_
           refine JO.mc rfl ?_
           refine nt ?_
           refine JC.block ?_
           refine JC.loopB (Z := Unit) (α := (List dDresser) × Int) (fun z46 y45 => [(1, .rep (.slice (.int .i64)) a1), (16, .eq z32), (17, .eq (.int .i64 x36)), (19, .at tquick x35), (20, .eq v42), (86, .eq z3), (87, .eq (.int .i64 (x2.length : Int))), (88, .eq (.int .i64 y31.2.2)), (109, .eq (.int .i64 (r41.length : Int))), (110, .eq (.int .i64 y45.2))]) (fun z46 y45 => [.sl z32 3 (.int .i64) y31.1, .sl v42 53 tDresser y45.1, .sl z3 98 (.ptr tquick) x2]) (chg_Through_l5 k x36 r41) k () (r41, (0 : Int)) (fun _ => rfl) h (SE.fin [1, 0, 2] ⟨rfl, rfl, rfl, rfl, rfl, rfl, rfl, rfl, rfl, rfl, trivial⟩ rfl) (fun n z46 y45 h => ?_)
           unfold chg_Through_l5 at h
           refine sr ?_
           refine jb (o_lss rfl) ?_
           refine nt ?_
           refine JC.seq ?_
           refine JC.cond rfl (fun hb => ?_) (fun hb => ?_)
           ·
            replace h := b_if (d_t hb) h
            refine JC.skip ?_
            refine JN.then_n ?_
            show JC _ _ _ _ _
            refine JC.seq ?_
            refine JC.block ?_
            refine sr ?_
            refine mq ?_
            refine aq ?_
            refine nt ?_
            refine JC.region ?_
            iterate 4 refine mq ?_
            obtain ⟨x47, ex47, h⟩ := b_bind h
            refine JO.front 1 rfl ?_
            refine kb (o_index_own (t := tDresser) rfl Try.underlying26 sz53 ex47) ?_
            refine ka (o_field_el rfl fo53_2 (geti_ne ex47)) ?_
            refine ka (o_load_el (i := Int.toNat y45.2) (off := 2) rfl sz3 (fun _ => rfl) rfl (geti_some ex47).2.2 rfl) ?_
            refine mq ?_
            obtain ⟨x48, ex48, h⟩ := b_bind h
            refine jb (o_sub rfl ex48) ?_
            refine jb (o_max rfl rfl) ?_
            obtain ⟨x49, ex49, h⟩ := b_bind h
            refine kb (o_index_own (t := tDresser) rfl Try.underlying26 sz53 ex49) ?_
            refine ka (o_field_el rfl fo53_2 (geti_ne ex49)) ?_
            refine JO.n11 rfl rfl (o_store_el (i := Int.toNat y45.2) (off := 2) rfl sz3 rfl (geti_some ex49).2.2 .int rfl (.agg (.right (.right .whole rfl) rfl))) ⟨rfl, rfl, trivial⟩ ?_
            refine JO.nil ?_
            refine JN.blk_n ?_
            refine JN.then_n ?_
            show JC _ _ _ _ _
            refine JC.region ?_
            obtain ⟨x50, ex50, h⟩ := b_bind h
            refine jb (o_add rfl ex50) ?_
            refine mq ?_
            refine JO.nil ?_
            refine JN.then_n ?_
            exact JN.z ((), (List.set y45.1 (Int.toNat y45.2) (x49.1, x49.2.1, imax (0 : Int) x48), x50)) h (SE.fin [1, 0, 2] ⟨rfl, rfl, rfl, rfl, rfl, rfl, rfl, rfl, rfl, rfl, trivial⟩ rfl)
           ·
            replace h := b_ifn (d_f hb) h
            refine JC.exit ?_
            refine JN.then_x ?_
            refine JN.then_x ?_
            refine JN.blk_hit ?_
            refine JN.then_n ?_
            exact JN.z ((), y45.1) h (SE.fin [0, 1, 2] ⟨rfl, rfl, rfl, rfl, rfl, rfl, rfl, rfl, trivial⟩ rfl)
          ·
           refine sr ?_
           iterate 2 refine mq ?_
           obtain ⟨r51, er51, h⟩ := b_bind h
           have cr51 := chg_quick_fewestF_ok k x35 x43 r51 er51
           refine JO.front 1 rfl ?_
           refine kb (OpT.borrow (N := [(.tmp 127, .at tquick x35), (.tmp 128, .eq v42)]) (o_call [.tmp 127, .tmp 128] rfl rfl en73 rfl cr51) (fun _ _ _ hv hn => ⟨hn.1, (lend hn.2.1 hv), trivial⟩) (fun _ => ⟨rfl, flat_nil⟩)) ?_
           refine mq ?_
           refine ja (o_extract rfl rfl) ?_
           refine ja (o_extract rfl rfl) ?_
           refine aq ?_
           refine aq ?_
           refine nt ?_
           refine JC.seq ?_
           refine sr ?_
           refine mq ?_
           refine ja (o_not rfl) ?_
           refine nt ?_
           refine JC.cond rfl (fun hb => ?_) (fun hb => ?_)
           ·
            replace h := b_if (nv_t hb) h
            refine sr ?_
            refine cq ?_
            refine cq ?_
            refine nt ?_
            refine JC.ret ?_
            refine JN.then_r ?_
            refine JN.blk_r ?_
            refine JN.then_r ?_
            refine JN.then_r ?_
            refine JN.blk_r ?_
            refine JN.then_r ?_
            refine JN.se (SE.ent (t := (.slice (.int .i64))) (x := []) 4 rfl .nil rfl rfl) ?_
            obtain rfl := hR _ h
            exact JN.ret () [_, _] 0 ⟨rfl, rfl, trivial⟩ rfl
           ·
            replace h := b_ifn (nv_fn hb) h
            refine JC.skip ?_
            refine JN.then_n ?_
            show JC _ _ _ _ _
            refine sr ?_
            iterate 2 refine mq ?_
            obtain ⟨x52, ex52, h⟩ := b_bind h
            refine jb (o_add rfl ex52) ?_
            refine aq ?_
            refine nt ?_
            refine JC.region ?_
            iterate 2 refine mq ?_
            refine ja (o_litB (t := (.int .i64)) [(.tmp 138, _)] [x52] rfl rfl sl22 (.cons rfl .int .nil) rfl rfl) ?_
            obtain ⟨u53, eu53, h⟩ := b_bind h
            refine JO.front 1 rfl ?_
            refine JO.s1x rfl rfl rfl (o_append rfl rfl sl22 (chkP_some eu53)) ⟨rfl, rfl, trivial⟩ fun v54 => ?_
            refine aq ?_
            refine JO.nil ?_
            refine JN.blk_n ?_
            refine JN.then_n ?_
            exact JN.z (v54, (y31.1 ++ [x52], x52)) h (SE.fin [0, 2] ⟨rfl, rfl, rfl, rfl, rfl, rfl, trivial⟩ rfl)
        ·
         refine JC.region ?_
         obtain ⟨x55, ex55, h⟩ := b_bind h
         refine jb (o_add rfl ex55) ?_
         refine mq ?_
         refine JO.nil ?_
         refine JN.then_n ?_
         exact JN.z (z34, (x33.1, x33.2, x55)) h (SE.fin [0, 1] ⟨rfl, rfl, rfl, rfl, rfl, rfl, trivial⟩ rfl)
       ·
        replace h := b_ifn (d_f hb) h
        refine JC.exit ?_
        refine JN.then_x ?_
        refine JN.then_x ?_
        refine JN.blk_hit ?_
        refine JN.then_n ?_
        exact JN.z (z32, y31.1) h (SE.fin [0] ⟨rfl, trivial⟩ rfl)
      ·
       refine sr ?_
       refine mq ?_
       refine aq ?_
       refine cq ?_
       refine nt ?_
       refine JC.ret ?_
       refine JN.se (SE.frz [4, 16, 142] ⟨rfl, rfl, rfl, trivial⟩) ?_
       obtain rfl := Option.some.inj h
       exact JN.ret () [_, _] 0 ⟨rfl, rfl, trivial⟩ rfl


def chg_Wearing_l1 (k : Nat) (a1 : (List dStep)) (a2 : Int) (q3 : (dChange × (List (Bool × Int)) × (List Int))) (r6 : (List Int) × (List Int)) : Nat → (Int × Int × Int) → Option (Int × Int)
 | 0, _ => none
 | n + 1, y10 =>
  if y10.2.2 < (a1.length : Int) then ((((geti a1 y10.2.2).bind fun x14 =>
  (geti q3.2.1 x14.1).bind fun x16 =>
  if ¬ (x16.1 = true) then ((geti r6.1 y10.2.2).bind fun x17 =>
  if x17 ≤ a2 then ((cond x16.1 (chg_on_thing k x16.2) (chg_off_thing k x16.2)).bind fun r18 =>
  (chg_of k [r18]).bind fun r19 =>
  some (iandn .u8 y10.1 r19, y10.2.1)) else (some (y10.1, y10.2.1))) else ((chkP (0 ≤ x14.1 ∧ x14.1 < 4)).bind fun _ =>
  (geti r6.2 x14.1).bind fun x21 =>
  if x21 ≤ a2 then ((cond x16.1 (chg_on_thing k x16.2) (chg_off_thing k x16.2)).bind fun r22 =>
  (chg_of k [r22]).bind fun r23 =>
  some (y10.1, ior .u8 y10.2.1 r23)) else (some (y10.1, y10.2.1)))) : Option (Int × Int)).bind fun x12 =>
  (ck (y10.2.2 + (1 : Int))).bind fun x24 =>
  chg_Wearing_l1 k a1 a2 q3 r6 n (x12.1, x12.2, x24)) else (some (y10.1, y10.2.1))
def chg_Wearing (k : Nat) (a0 : dChange) (a1 : (List dStep)) (a2 : Int) : Option ((List Int) × Int) :=
 (chg_asked k a0 a1).bind fun r2 =>
 casesO r2.1 (if ¬ (r2.2 = (0 : Int)) then (some ([], r2.2)) else (if a2 < (0 : Int) then (some ([], (1 : Int))) else (none))) (fun q3 => if ¬ (r2.2 = (0 : Int)) then (some ([], r2.2)) else (if a2 < (0 : Int) then (some ([], (1 : Int))) else ((chg_of k q3.1.2.2.1).bind fun r5 =>
 (chg_quick_begins k ((q3.1.1, q3.1.2.1, q3.1.2.2.1, q3.1.2.2.2), q3.2.1, q3.2.2) a1).bind fun r6 =>
 ((chg_Wearing_l1 k a1 a2 q3 r6 k (r5, (0 : Int), (0 : Int))) : Option (Int × Int)).bind fun x8 =>
 (chg_set_list k (ior .u8 x8.1 x8.2)).bind fun r25 =>
 some (r25, (0 : Int)))))

theorem chg_Wearing_ok (k : Nat) (a0 : dChange) (a1 : (List dStep)) (a2 : Int) (r : (List Int) × Int) (h : chg_Wearing k a0 a1 a2 = some r) :
 Ctr Try.prog 39 [.rep tChange a0, .rep (.slice tStep) a1, .eq (.int .i64 a2)] [] (fun _ : Unit => (resA [.rep (.slice (.int .i64)) r.1, .eq (.int .i64 r.2)], [])) := by
 unfold chg_Wearing at h
 replace h := b_top h
 refine Ctr.of 88 Try.func39 rfl Try.ntmps39 rfl fun S w0 => ?_
 refine sr ?_
 refine JO.s01 rfl rfl rfl (o_box rfl rfl) ⟨rfl, trivial⟩ fun b1 => ?_
 refine cq ?_
 refine cq ?_
 refine nt ?_
 refine sr ?_
 refine ka (o_load_obj rfl sz28 (nfn) rfl) ?_
 refine mq ?_
 obtain ⟨r2, er2, h⟩ := b_bind h
 have cr2 := chg_asked_ok k a0 a1 r2 er2
 rcases hr : r2.1 with _ | q3
 ·
  rw [hr] at h cr2; replace h := co_n h
  refine JO.stepG (Δ := []) (F := _) (fun _ _ _ => wanted_none rfl _) rfl rfl (o_call [.tmp 18, .tmp 19] rfl rfl en64 rfl cr2) ⟨rfl, rfl, trivial⟩ fun _ => ?_
  refine mq ?_
  refine ja (o_extract rfl rfl) ?_
  refine ja (o_extract rfl rfl) ?_
  refine aq ?_
  refine aq ?_
  refine nt ?_
  refine JC.seq ?_
  refine sr ?_
  refine mq ?_
  refine jb (o_neq rfl) ?_
  refine nt ?_
  refine JC.cond rfl (fun hb => ?_) (fun hb => ?_)
  ·
   replace h := b_if (n_t hb) h
   refine sr ?_
   refine mq ?_
   refine cq ?_
   refine aq ?_
   refine nt ?_
   refine JC.ret ?_
   refine JN.then_r ?_
   refine JN.se (SE.ent (t := (.slice (.int .i64))) (x := []) 6 rfl .nil rfl rfl) ?_
   obtain rfl := Option.some.inj h
   exact JN.ret () [_, _] 0 ⟨rfl, rfl, trivial⟩ rfl
  ·
   replace h := b_ifn (n_fn hb) h
   refine JC.skip ?_
   refine JN.then_n ?_
   show JC _ _ _ _ _
   refine JC.seq ?_
   refine sr ?_
   refine mq ?_
   refine jb (o_lss rfl) ?_
   refine nt ?_
   refine JC.cond rfl (fun hb => ?_) (fun hb => ?_)
   ·
    replace h := b_if (d_t hb) h
    refine sr ?_
    refine cq ?_
    refine cq ?_
    refine nt ?_
    refine JC.ret ?_
    refine JN.then_r ?_
    refine JN.se (SE.ent (t := (.slice (.int .i64))) (x := []) 6 rfl .nil rfl rfl) ?_
    obtain rfl := Option.some.inj h
    exact JN.ret () [_, _] 0 ⟨rfl, rfl, trivial⟩ rfl
   ·
    replace h := b_ifn (d_f hb) h
    refine JC.skip ?_
    refine JN.then_n ?_
    show JC _ _ _ _ _
    refine sr ?_
    refine mq ?_
    cases h
 ·
  rw [hr] at h cr2; replace h := co_s h
  refine JO.stepG (Δ := []) (F := _) (fun _ _ _ => wanted_none rfl _) rfl rfl (o_call [.tmp 18, .tmp 19] rfl rfl en64 rfl cr2) ⟨rfl, rfl, trivial⟩ fun z4 => ?_
  refine mq ?_
  refine ja (o_extract rfl rfl) ?_
  refine ja (o_extract rfl rfl) ?_
  refine aq ?_
  refine aq ?_
  refine nt ?_
  refine JC.seq ?_
  refine sr ?_
  refine mq ?_
  refine jb (o_neq rfl) ?_
  refine nt ?_
  refine JC.cond rfl (fun hb => ?_) (fun hb => ?_)
  ·
   replace h := b_if (n_t hb) h
   refine sr ?_
   refine mq ?_
   refine cq ?_
   refine aq ?_
   refine nt ?_
   refine JC.ret ?_
   refine JN.then_r ?_
   refine JN.se (SE.ent (t := (.slice (.int .i64))) (x := []) 6 rfl .nil rfl rfl) ?_
   obtain rfl := Option.some.inj h
   exact JN.ret () [_, _] 0 ⟨rfl, rfl, trivial⟩ rfl
  ·
   replace h := b_ifn (n_fn hb) h
   refine JC.skip ?_
   refine JN.then_n ?_
   show JC _ _ _ _ _
   refine JC.seq ?_
   refine sr ?_
   refine mq ?_
   refine jb (o_lss rfl) ?_
   refine nt ?_
   refine JC.cond rfl (fun hb => ?_) (fun hb => ?_)
   ·
    replace h := b_if (d_t hb) h
    refine sr ?_
    refine cq ?_
    refine cq ?_
    refine nt ?_
    refine JC.ret ?_
    refine JN.then_r ?_
    refine JN.se (SE.ent (t := (.slice (.int .i64))) (x := []) 6 rfl .nil rfl rfl) ?_
    obtain rfl := Option.some.inj h
    exact JN.ret () [_, _] 0 ⟨rfl, rfl, trivial⟩ rfl
   ·
    replace h := b_ifn (d_f hb) h
    refine JC.skip ?_
    refine JN.then_n ?_
    show JC _ _ _ _ _
    refine sr ?_
    refine mq ?_
    refine ja (o_nil_obj rfl) ?_
    refine ja (o_field_obj rfl fo120_0) ?_
    refine ja (o_field_obj rfl fo28_2) ?_
    refine ka (o_load_obj rfl sz22 (fun _ => rfl) rfl) ?_
    obtain ⟨r5, er5, h⟩ := b_bind h
    have cr5 := chg_of_ok k q3.1.2.2.1 r5 er5
    refine ja (o_call [.tmp 32] rfl rfl en81 rfl cr5) ?_
    refine aq ?_
    refine nt ?_
    refine sr ?_
    iterate 2 refine mq ?_
    obtain ⟨r6, er6, h⟩ := b_bind h
    have cr6 := chg_quick_begins_ok k ((q3.1.1, q3.1.2.1, q3.1.2.2.1, q3.1.2.2.2), q3.2.1, q3.2.2) z4.1 (.map (some z4.2)) a1 r6 er6
    refine kb (o_call [.tmp 35, .tmp 36] rfl rfl en65 rfl cr6) ?_
    refine mq ?_
    refine ja (o_extract rfl rfl) ?_
    refine ja (o_extract rfl rfl) ?_
    refine JO.s01 rfl rfl rfl (o_alloc rfl za101 al101) trivial fun b7 => ?_
    refine aq ?_
    refine JO.n11 rfl rfl (o_store rfl sz101 rfl rfl rfl) ⟨rfl, rfl, trivial⟩ ?_
    refine nt ?_
    refine sr ?_
    refine cq ?_
    refine nt ?_
    refine JC.cutB (Z := Unit) (α := Int × Int) (fun z9 x8 => [(10, .eq (.int .u8 x8.1)), (13, .eq (.int .u8 x8.2))]) (fun z9 x8 => [.raw z4.2 (.map #[] 0)]) h (fun K h => ?_) (fun z9 x8 h => ?_)
    ·
     refine sr ?_
     refine mq ?_
     refine ja (o_len rfl rfl Try.underlying30) ?_
     refine JO.mc rfl ?_
     refine nt ?_
     refine JC.block ?_
     refine JC.loopB (Z := Unit) (α := Int × Int × Int) (fun z11 y10 => [(2, .eq (.int .i64 a2)), (8, .eq (.pointer (some ⟨z4.1, 0, none⟩))), (10, .eq (.int .u8 y10.1)), (11, .rep (.slice (.int .i64)) r6.1), (12, .eq (.pointer (some ⟨b7, 0, none⟩))), (13, .eq (.int .u8 y10.2.1)), (40, .rep (.slice tStep) a1), (41, .eq (.int .i64 (a1.length : Int))), (42, .eq (.int .i64 y10.2.2))]) (fun z11 y10 => [.obj z4.1 120 (.agg (.pair (.agg (.pair (.rep (.slice tThing) q3.1.1) (.pair (.rep (.slice tDresser) q3.1.2.1) (.pair (.rep (.slice (.int .i64)) q3.1.2.2.1) (.rep (.slice (.int .i64)) q3.1.2.2.2))))) (.pair (.rep (.slice (.tag 131 133)) q3.2.1) (.pair (.rep (.arr 8 (.int .u8)) q3.2.2) (.eq (.map (some z4.2))))))), .obj b7 101 (.rep (.arr 4 (.int .i64)) r6.2), .raw z4.2 (.map #[] 0)]) (chg_Wearing_l1 k a1 a2 q3 r6) k () (r5, (0 : Int), (0 : Int)) (fun _ => rfl) h (SE.fin [1, 0, 2] ⟨rfl, rfl, rfl, rfl, rfl, rfl, rfl, rfl, rfl, trivial⟩ rfl) (fun n z11 y10 h => ?_)
     unfold chg_Wearing_l1 at h
     refine sr ?_
     refine jb (o_lss rfl) ?_
     refine nt ?_
     refine JC.seq ?_
     refine JC.cond rfl (fun hb => ?_) (fun hb => ?_)
     ·
      replace h := b_if (d_t hb) h
      refine JC.skip ?_
      refine JN.then_n ?_
      show JC _ _ _ _ _
      refine JC.cutB (Z := Unit) (α := Int × Int) (fun z13 x12 => [(2, .eq (.int .i64 a2)), (8, .eq (.pointer (some ⟨z4.1, 0, none⟩))), (10, .eq (.int .u8 x12.1)), (11, .rep (.slice (.int .i64)) r6.1), (12, .eq (.pointer (some ⟨b7, 0, none⟩))), (13, .eq (.int .u8 x12.2)), (40, .rep (.slice tStep) a1), (41, .eq (.int .i64 (a1.length : Int))), (42, .eq (.int .i64 y10.2.2))]) (fun z13 x12 => [.obj z4.1 120 (.agg (.pair (.agg (.pair (.rep (.slice tThing) q3.1.1) (.pair (.rep (.slice tDresser) q3.1.2.1) (.pair (.rep (.slice (.int .i64)) q3.1.2.2.1) (.rep (.slice (.int .i64)) q3.1.2.2.2))))) (.pair (.rep (.slice (.tag 131 133)) q3.2.1) (.pair (.rep (.arr 8 (.int .u8)) q3.2.2) (.eq (.map (some z4.2))))))), .obj b7 101 (.rep (.arr 4 (.int .i64)) r6.2), .raw z4.2 (.map #[] 0)]) h (fun K h => ?_) (fun z13 x12 h => ?_)
      ·
       refine JC.block ?_
       refine sr ?_
       refine mq ?_
       obtain ⟨x14, ex14, h⟩ := b_bind h
       refine jb (o_index (t := tStep) rfl Try.underlying30 sz43 ex14) ?_
       refine ja (o_load_at (t := tStep) rfl sz43 rfl) ?_
       refine JO.s01 rfl rfl rfl (o_alloc rfl za43 al43) trivial fun b15 => ?_
       refine aq ?_
       refine JO.n11 rfl rfl (o_store rfl sz43 rfl rfl rfl) ⟨rfl, rfl, trivial⟩ ?_
       refine nt ?_
       refine JC.seq ?_
       refine JC.drawN ?_
       refine dm ?_
       refine da (o_nil_obj rfl) ?_
       refine da (o_field_obj rfl fo120_1) ?_
       refine ea 1 (o_load_obj rfl sz116 (fun _ => rfl) rfl) ?_
       refine da (o_field_obj rfl fo43_0) ?_
       refine ea 0 (o_load_obj rfl sz3 (fun _ => rfl) rfl) ?_
       refine DN.fin (by kernel_rfl) mixed ?_
       obtain ⟨x16, ex16, h⟩ := b_bind h
       refine jb (o_index (t := (.tag 131 133)) rfl Try.underlying116 sz130 ex16) ?_
       refine ja (o_load_at (t := (.tag 131 133)) rfl sz130 rfl) ?_
       refine aq ?_
       refine nt ?_
       refine sr ?_
       refine mq ?_
       refine nt ?_
       refine JC.block ?_
       refine sr ?_
       refine JO.s rfl (o_as0 rfl ta131 (by decide)) ⟨rfl, trivial⟩ ?_
       refine ja (o_extract rfl rfl) ?_
       refine ja (o_extract rfl rfl) ?_
       refine nt ?_
       refine JC.cond rfl (fun hb => ?_) (fun hb => ?_)
       ·
        replace h := b_if (nv_t hb) h
        refine sr ?_
        iterate 2 refine mq ?_
        obtain ⟨x17, ex17, h⟩ := b_bind h
        refine jb (o_index (t := (.int .i64)) rfl Try.underlying22 sz3 ex17) ?_
        refine ja (o_load_at (t := (.int .i64)) rfl sz3 rfl) ?_
        refine mq ?_
        refine jb (o_leq rfl) ?_
        refine nt ?_
        refine JC.cond rfl (fun hb => ?_) (fun hb => ?_)
        ·
         replace h := b_if (d_t hb) h
         refine JC.region ?_
         iterate 2 refine mq ?_
         obtain ⟨r18, er18, h⟩ := b_bind h
         refine JO.s rfl (o_invoke rfl rfl mt131_thing mt133_thing (ctr_cond (fun hb => chg_off_thing_ok k x16.2 r18 (by simpa [hb] using er18)) (fun hb => chg_on_thing_ok k x16.2 r18 (by simpa [hb] using er18)))) ⟨rfl, trivial⟩ ?_
         refine ja (o_litB (t := (.int .i64)) [(.tmp 79, _)] [r18] rfl rfl sl22 (.cons rfl .int .nil) rfl rfl) ?_
         obtain ⟨r19, er19, h⟩ := b_bind h
         have cr19 := chg_of_ok k [r18] r19 er19
         refine ja (o_call [.tmp 80] rfl rfl en81 rfl cr19) ?_
         refine jb (o_andn rfl) ?_
         refine aq ?_
         refine JO.nil ?_
         refine JN.blk_n ?_
         refine JN.blk_n ?_
         refine JN.then_n ?_
         exact JN.z ((), (iandn .u8 y10.1 r19, y10.2.1)) h (SE.fin [1, 2, 3] ⟨rfl, rfl, rfl, rfl, rfl, rfl, rfl, rfl, rfl, trivial⟩ rfl)
        ·
         replace h := b_ifn (d_f hb) h
         refine JC.skip ?_
         refine JN.blk_n ?_
         refine JN.blk_n ?_
         refine JN.then_n ?_
         exact JN.z ((), (y10.1, y10.2.1)) h (SE.fin [1, 2, 3] ⟨rfl, rfl, rfl, rfl, rfl, rfl, rfl, rfl, rfl, trivial⟩ rfl)
       ·
        replace h := b_ifn (nv_fn hb) h
        refine sr ?_
        refine ja (o_field_obj rfl fo43_0) ?_
        refine ka (o_load_obj rfl sz3 (fun _ => rfl) rfl) ?_
        obtain ⟨u20, eu20, h⟩ := b_bind h
        refine jb (o_index_arr rfl Try.underlying101 sz3 (chkP_some eu20).1 (chkP_some eu20).2) ?_
        obtain ⟨x21, ex21, h⟩ := b_bind h
        refine JO.front 2 rfl ?_
        refine ka (o_load_arr (t := (.int .i64)) (off := 0) (i := x14.1) (N := 4) rfl sz3 (fun _ => rfl) rfl rfl rfl rfl ex21) ?_
        refine mq ?_
        refine jb (o_leq rfl) ?_
        refine nt ?_
        refine JC.cond rfl (fun hb => ?_) (fun hb => ?_)
        ·
         replace h := b_if (d_t hb) h
         refine JC.region ?_
         iterate 2 refine mq ?_
         obtain ⟨r22, er22, h⟩ := b_bind h
         refine JO.s rfl (o_invoke rfl rfl mt131_thing mt133_thing (ctr_cond (fun hb => chg_off_thing_ok k x16.2 r22 (by simpa [hb] using er22)) (fun hb => chg_on_thing_ok k x16.2 r22 (by simpa [hb] using er22)))) ⟨rfl, trivial⟩ ?_
         refine ja (o_litB (t := (.int .i64)) [(.tmp 64, _)] [r22] rfl rfl sl22 (.cons rfl .int .nil) rfl rfl) ?_
         obtain ⟨r23, er23, h⟩ := b_bind h
         have cr23 := chg_of_ok k [r22] r23 er23
         refine ja (o_call [.tmp 65] rfl rfl en81 rfl cr23) ?_
         refine jb (o_or rfl) ?_
         refine aq ?_
         refine JO.nil ?_
         refine JN.blk_n ?_
         refine JN.blk_n ?_
         refine JN.then_n ?_
         exact JN.z ((), (y10.1, ior .u8 y10.2.1 r23)) h (SE.fin [2, 0, 3] ⟨rfl, rfl, rfl, rfl, rfl, rfl, rfl, rfl, rfl, trivial⟩ rfl)
        ·
         replace h := b_ifn (d_f hb) h
         refine JC.skip ?_
         refine JN.blk_n ?_
         refine JN.blk_n ?_
         refine JN.then_n ?_
         exact JN.z ((), (y10.1, y10.2.1)) h (SE.fin [2, 0, 3] ⟨rfl, rfl, rfl, rfl, rfl, rfl, rfl, rfl, rfl, trivial⟩ rfl)
      ·
       refine JC.region ?_
       obtain ⟨x24, ex24, h⟩ := b_bind h
       refine jb (o_add rfl ex24) ?_
       refine mq ?_
       refine JO.nil ?_
       refine JN.then_n ?_
       exact JN.z ((), (x12.1, x12.2, x24)) h (SE.fin [0, 1, 2] ⟨rfl, rfl, rfl, rfl, rfl, rfl, rfl, rfl, rfl, trivial⟩ rfl)
     ·
      replace h := b_ifn (d_f hb) h
      refine JC.exit ?_
      refine JN.then_x ?_
      refine JN.then_x ?_
      refine JN.blk_hit ?_
      refine JN.then_n ?_
      exact JN.z ((), (y10.1, y10.2.1)) h (SE.fin [2] ⟨rfl, rfl, trivial⟩ rfl)
    ·
     refine sr ?_
     iterate 2 refine mq ?_
     refine jb (o_or rfl) ?_
     obtain ⟨r25, er25, h⟩ := b_bind h
     have cr25 := chg_set_list_ok k (ior .u8 x8.1 x8.2) r25 er25
     refine ja (o_call [.tmp 86] rfl rfl en82 rfl cr25) ?_
     refine aq ?_
     refine cq ?_
     refine nt ?_
     refine JC.ret ?_
     obtain rfl := Option.some.inj h
     exact JN.ret () [_, _] 0 ⟨rfl, rfl, trivial⟩ rfl


def kit_SameInts_l1 (k : Nat) (a0 : (List Int)) (a1 : (List Int)) : Nat → Int → Option (Except Bool Unit)
 | 0, _ => none
 | n + 1, y3 =>
  if y3 < (a0.length : Int) then ((geti a0 y3).bind fun x5 =>
  (geti a1 y3).bind fun x6 =>
  if ¬ (x5 = x6) then (some (.error false)) else ((ck (y3 + (1 : Int))).bind fun x7 =>
  kit_SameInts_l1 k a0 a1 n x7)) else (some (.ok ()))
def kit_SameInts (k : Nat) (a0 : (List Int)) (a1 : (List Int)) : Option Bool :=
 if ¬ ((a0.length : Int) = (a1.length : Int)) then (some false) else (bE (α := Unit) (kit_SameInts_l1 k a0 a1 k (0 : Int)) (some) fun _ =>
 some true)

theorem kit_SameInts_ok (k : Nat) (a0 : (List Int)) (a1 : (List Int)) (r : Bool) (h : kit_SameInts k a0 a1 = some r) :
 Ctr Try.prog 40 [.rep (.slice (.int .i64)) a0, .rep (.slice (.int .i64)) a1] [] (fun _ : Unit => (resA [.eq (.bool r)], [])) := by
 unfold kit_SameInts at h
 replace h := b_top h
 refine Ctr.of 26 Try.func40 rfl Try.ntmps40 rfl fun S w0 => ?_
 refine sr ?_
 refine cq ?_
 refine nt ?_
 refine JC.seq ?_
 refine sr ?_
 refine mq ?_
 refine ja (o_len rfl rfl Try.underlying22) ?_
 refine mq ?_
 refine ja (o_len rfl rfl Try.underlying22) ?_
 refine jb (o_neq rfl) ?_
 refine nt ?_
 refine JC.cond rfl (fun hb => ?_) (fun hb => ?_)
 ·
  replace h := b_if (n_t hb) h
  refine sr ?_
  refine cq ?_
  refine nt ?_
  refine JC.ret ?_
  refine JN.then_r ?_
  obtain rfl := Option.some.inj h
  exact JN.ret () [_] 0 ⟨rfl, trivial⟩ rfl
 ·
  replace h := b_ifn (n_fn hb) h
  refine JC.skip ?_
  refine JN.then_n ?_
  show JC _ _ _ _ _
  refine JC.cutE (Z := Unit) (α := Unit) (fun z2 x1 => []) (fun z2 x1 => []) (fun e => e = r) h (fun e h => Option.some.inj h) (fun K hR h => ?_) (fun z2 x1 h => ?_)
  ·
   refine sr ?_
   refine cq ?_
   refine nt ?_
   refine JC.block ?_
   refine JC.loopB (Z := Unit) (α := Int) (fun z4 y3 => [(0, .rep (.slice (.int .i64)) a0), (1, .rep (.slice (.int .i64)) a1), (5, .eq (.int .i64 y3))]) (fun z4 y3 => []) (kit_SameInts_l1 k a0 a1) k () (0 : Int) (fun _ => rfl) h (SE.fin [] ⟨rfl, rfl, rfl, trivial⟩ rfl) (fun n z4 y3 h => ?_)
   unfold kit_SameInts_l1 at h
   refine JC.seq ?_
   refine sr ?_
   iterate 2 refine mq ?_
   refine ja (o_len rfl rfl Try.underlying22) ?_
   refine jb (o_lss rfl) ?_
   refine nt ?_
   refine JC.cond rfl (fun hb => ?_) (fun hb => ?_)
   ·
    replace h := b_if (d_t hb) h
    refine JC.skip ?_
    refine JN.then_n ?_
    show JC _ _ _ _ _
    refine JC.seq ?_
    refine JC.block ?_
    refine JC.seq ?_
    refine JC.drawN ?_
    refine dm ?_
    refine dm ?_
    obtain ⟨x5, ex5, h⟩ := b_bind h
    refine db (o_index (t := (.int .i64)) rfl Try.underlying22 sz3 ex5) ?_
    refine da (o_load_at (t := (.int .i64)) rfl sz3 rfl) ?_
    refine dm ?_
    refine dm ?_
    obtain ⟨x6, ex6, h⟩ := b_bind h
    refine db (o_index (t := (.int .i64)) rfl Try.underlying22 sz3 ex6) ?_
    refine da (o_load_at (t := (.int .i64)) rfl sz3 rfl) ?_
    refine DN.fin (by kernel_rfl) mixed ?_
    refine jb (o_neq rfl) ?_
    refine nt ?_
    refine JC.cond rfl (fun hb => ?_) (fun hb => ?_)
    ·
     replace h := b_if (n_t hb) h
     refine sr ?_
     refine cq ?_
     refine nt ?_
     refine JC.ret ?_
     refine JN.blk_r ?_
     refine JN.then_r ?_
     refine JN.then_r ?_
     refine JN.blk_r ?_
     refine JN.then_r ?_
     obtain rfl := hR _ h
     exact JN.ret () [_] 0 ⟨rfl, trivial⟩ rfl
    ·
     replace h := b_ifn (n_fn hb) h
     refine JC.skip ?_
     refine JN.blk_n ?_
     refine JN.then_n ?_
     show JC _ _ _ _ _
     refine JC.region ?_
     refine mq ?_
     obtain ⟨x7, ex7, h⟩ := b_bind h
     refine jb (o_add rfl ex7) ?_
     refine aq ?_
     refine JO.nil ?_
     refine JN.then_n ?_
     exact JN.z ((), x7) h (SE.fin [] ⟨rfl, rfl, rfl, trivial⟩ rfl)
   ·
    replace h := b_ifn (d_f hb) h
    refine JC.exit ?_
    refine JN.then_x ?_
    refine JN.then_x ?_
    refine JN.blk_hit ?_
    refine JN.then_n ?_
    exact JN.z ((), ()) h (SE.fin [] trivial rfl)
  ·
   refine sr ?_
   refine cq ?_
   refine nt ?_
   refine JC.ret ?_
   obtain rfl := Option.some.inj h
   exact JN.ret () [_] 0 ⟨rfl, trivial⟩ rfl


def kit_SameSteps_l1 (k : Nat) (a0 : (List dStep)) (a1 : (List dStep)) : Nat → Int → Option (Except Bool Unit)
 | 0, _ => none
 | n + 1, y3 =>
  if y3 < (a0.length : Int) then ((geti a0 y3).bind fun x5 =>
  (geti a1 y3).bind fun x6 =>
  if ¬ (x5 = x6) then (some (.error false)) else ((ck (y3 + (1 : Int))).bind fun x7 =>
  kit_SameSteps_l1 k a0 a1 n x7)) else (some (.ok ()))
def kit_SameSteps (k : Nat) (a0 : (List dStep)) (a1 : (List dStep)) : Option Bool :=
 if ¬ ((a0.length : Int) = (a1.length : Int)) then (some false) else (bE (α := Unit) (kit_SameSteps_l1 k a0 a1 k (0 : Int)) (some) fun _ =>
 some true)

theorem kit_SameSteps_ok (k : Nat) (a0 : (List dStep)) (a1 : (List dStep)) (r : Bool) (h : kit_SameSteps k a0 a1 = some r) :
 Ctr Try.prog 44 [.rep (.slice tStep) a0, .rep (.slice tStep) a1] [] (fun _ : Unit => (resA [.eq (.bool r)], [])) := by
 unfold kit_SameSteps at h
 replace h := b_top h
 refine Ctr.of 26 Try.func44 rfl Try.ntmps44 rfl fun S w0 => ?_
 refine sr ?_
 refine cq ?_
 refine nt ?_
 refine JC.seq ?_
 refine sr ?_
 refine mq ?_
 refine ja (o_len rfl rfl Try.underlying30) ?_
 refine mq ?_
 refine ja (o_len rfl rfl Try.underlying30) ?_
 refine jb (o_neq rfl) ?_
 refine nt ?_
 refine JC.cond rfl (fun hb => ?_) (fun hb => ?_)
 ·
  replace h := b_if (n_t hb) h
  refine sr ?_
  refine cq ?_
  refine nt ?_
  refine JC.ret ?_
  refine JN.then_r ?_
  obtain rfl := Option.some.inj h
  exact JN.ret () [_] 0 ⟨rfl, trivial⟩ rfl
 ·
  replace h := b_ifn (n_fn hb) h
  refine JC.skip ?_
  refine JN.then_n ?_
  show JC _ _ _ _ _
  refine JC.cutE (Z := Unit) (α := Unit) (fun z2 x1 => []) (fun z2 x1 => []) (fun e => e = r) h (fun e h => Option.some.inj h) (fun K hR h => ?_) (fun z2 x1 h => ?_)
  ·
   refine sr ?_
   refine cq ?_
   refine nt ?_
   refine JC.block ?_
   refine JC.loopB (Z := Unit) (α := Int) (fun z4 y3 => [(0, .rep (.slice tStep) a0), (1, .rep (.slice tStep) a1), (5, .eq (.int .i64 y3))]) (fun z4 y3 => []) (kit_SameSteps_l1 k a0 a1) k () (0 : Int) (fun _ => rfl) h (SE.fin [] ⟨rfl, rfl, rfl, trivial⟩ rfl) (fun n z4 y3 h => ?_)
   unfold kit_SameSteps_l1 at h
   refine JC.seq ?_
   refine sr ?_
   iterate 2 refine mq ?_
   refine ja (o_len rfl rfl Try.underlying30) ?_
   refine jb (o_lss rfl) ?_
   refine nt ?_
   refine JC.cond rfl (fun hb => ?_) (fun hb => ?_)
   ·
    replace h := b_if (d_t hb) h
    refine JC.skip ?_
    refine JN.then_n ?_
    show JC _ _ _ _ _
    refine JC.seq ?_
    refine JC.block ?_
    refine JC.seq ?_
    refine JC.drawN ?_
    refine dm ?_
    refine dm ?_
    obtain ⟨x5, ex5, h⟩ := b_bind h
    refine db (o_index (t := tStep) rfl Try.underlying30 sz43 ex5) ?_
    refine da (o_load_at (t := tStep) rfl sz43 rfl) ?_
    refine dm ?_
    refine dm ?_
    obtain ⟨x6, ex6, h⟩ := b_bind h
    refine db (o_index (t := tStep) rfl Try.underlying30 sz43 ex6) ?_
    refine da (o_load_at (t := tStep) rfl sz43 rfl) ?_
    refine DN.fin (by kernel_rfl) mixed ?_
    refine jb (o_neqs rfl eq43 rfl) ?_
    refine nt ?_
    refine JC.cond rfl (fun hb => ?_) (fun hb => ?_)
    ·
     replace h := b_if (n_t hb) h
     refine sr ?_
     refine cq ?_
     refine nt ?_
     refine JC.ret ?_
     refine JN.blk_r ?_
     refine JN.then_r ?_
     refine JN.then_r ?_
     refine JN.blk_r ?_
     refine JN.then_r ?_
     obtain rfl := hR _ h
     exact JN.ret () [_] 0 ⟨rfl, trivial⟩ rfl
    ·
     replace h := b_ifn (n_fn hb) h
     refine JC.skip ?_
     refine JN.blk_n ?_
     refine JN.then_n ?_
     show JC _ _ _ _ _
     refine JC.region ?_
     refine mq ?_
     obtain ⟨x7, ex7, h⟩ := b_bind h
     refine jb (o_add rfl ex7) ?_
     refine aq ?_
     refine JO.nil ?_
     refine JN.then_n ?_
     exact JN.z ((), x7) h (SE.fin [] ⟨rfl, rfl, rfl, trivial⟩ rfl)
   ·
    replace h := b_ifn (d_f hb) h
    refine JC.exit ?_
    refine JN.then_x ?_
    refine JN.then_x ?_
    refine JN.blk_hit ?_
    refine JN.then_n ?_
    exact JN.z ((), ()) h (SE.fin [] trivial rfl)
  ·
   refine sr ?_
   refine cq ?_
   refine nt ?_
   refine JC.ret ?_
   obtain rfl := Option.some.inj h
   exact JN.ret () [_] 0 ⟨rfl, trivial⟩ rfl


def law_quick (k : Nat) (a0 : Int) (a1 : Int) (a2 : (List Int)) : Option dChange :=
 some ([([(1 : Int)], (2 : Int), (2 : Int), (0 : Int), (0 : Int)), ([], (1 : Int), (1 : Int), (1 : Int), a0), ([], (1 : Int), (1 : Int), (2 : Int), (2 : Int)), ([], (3 : Int), (3 : Int), (0 : Int), (0 : Int))], [([(0 : Int), (1 : Int), (2 : Int)], (1 : Int), a1), (a2, (0 : Int), (1 : Int))], [(0 : Int), (1 : Int)], [(1 : Int), (2 : Int)])

theorem law_quick_ok (k : Nat) (a0 : Int) (a1 : Int) (a2 : (List Int)) (r : dChange) (h : law_quick k a0 a1 a2 = some r) :
 Ctr Try.prog 58 [.eq (.int .i64 a0), .eq (.int .i64 a1), .rep (.slice (.int .i64)) a2] [] (fun _ : Unit => (resA [.rep tChange r], [])) := by
 unfold law_quick at h
 replace h := b_top h
 refine Ctr.of 23 Try.func58 rfl Try.ntmps58 rfl fun S w0 => ?_
 refine sr ?_
 refine JO.s01 rfl rfl rfl (o_alloc rfl za28 al28) trivial fun b1 => ?_
 refine nt ?_
 refine sr ?_
 refine ja (o_litB (t := (.int .i64)) [(.const (.int .i64 (1)), _)] [(1 : Int)] rfl rfl sl22 (.cons rfl .int .nil) rfl rfl) ?_
 refine jc (o_buildT [(0, .tmp 7, _), (1, .const (.int .i64 (2)), _), (2, .const (.int .i64 (2)), _)] rfl pl45 za45 alb45 (stors ⟨rfl, rfl, rfl, trivial⟩) rfl) ?_
 refine mq ?_
 refine JO.s rfl (o_buildT [(1, .const (.int .i64 (1)), _), (2, .const (.int .i64 (1)), _), (3, .const (.int .i64 (1)), _), (4, .tmp 9, _)] rfl pl45 za45 alb45 (stors ⟨rfl, rfl, rfl, rfl, trivial⟩) rfl) ⟨rfl, rfl, rfl, rfl, trivial⟩ ?_
 refine JO.s rfl (o_buildT [(1, .const (.int .i64 (1)), _), (2, .const (.int .i64 (1)), _), (3, .const (.int .i64 (2)), _), (4, .const (.int .i64 (2)), _)] rfl pl45 za45 alb45 (stors ⟨rfl, rfl, rfl, rfl, trivial⟩) rfl) ⟨rfl, rfl, rfl, rfl, trivial⟩ ?_
 refine jb (o_buildT [(1, .const (.int .i64 (3)), _), (2, .const (.int .i64 (3)), _)] rfl pl45 za45 alb45 (stors ⟨rfl, rfl, trivial⟩) rfl) ?_
 refine JO.s rfl (o_litB (t := tThing) [(.tmp 8, _), (.tmp 10, _), (.tmp 11, _), (.tmp 12, _)] [([(1 : Int)], (2 : Int), (2 : Int), (0 : Int), (0 : Int)), ([], (1 : Int), (1 : Int), (1 : Int), a0), ([], (1 : Int), (1 : Int), (2 : Int), (2 : Int)), ([], (3 : Int), (3 : Int), (0 : Int), (0 : Int))] rfl rfl sl25 (.cons trivial (.agg (.pair .rep (.pair .int (.pair .int (.pair .int .int))))) (.cons trivial (.agg (.pair .nil (.pair .int (.pair .int (.pair .int .int))))) (.cons trivial (.agg (.pair .nil (.pair .int (.pair .int (.pair .int .int))))) (.cons trivial (.agg (.pair .nil (.pair .int (.pair .int (.pair .int .int))))) .nil)))) rfl rfl) ⟨rfl, rfl, rfl, rfl, trivial⟩ ?_
 refine jc (o_litB (t := (.int .i64)) [(.const (.int .i64 (0)), _), (.const (.int .i64 (1)), _), (.const (.int .i64 (2)), _)] [(0 : Int), (1 : Int), (2 : Int)] rfl rfl sl22 (.cons rfl .int (.cons rfl .int (.cons rfl .int .nil))) rfl rfl) ?_
 refine mq ?_
 refine jc (o_buildT [(0, .tmp 14, _), (1, .const (.int .i64 (1)), _), (2, .tmp 15, _)] rfl pl53 za53 alb53 (stors ⟨rfl, rfl, rfl, trivial⟩) rfl) ?_
 refine mq ?_
 refine jb (o_buildT [(0, .tmp 17, _), (2, .const (.int .i64 (1)), _)] rfl pl53 za53 alb53 (stors ⟨rfl, rfl, trivial⟩) rfl) ?_
 refine jb (o_litB (t := tDresser) [(.tmp 16, _), (.tmp 18, _)] [([(0 : Int), (1 : Int), (2 : Int)], (1 : Int), a1), (a2, (0 : Int), (1 : Int))] rfl rfl sl26 (.cons trivial (.agg (.pair .rep (.pair .int .int))) (.cons trivial (.agg (.pair .rep (.pair .int .int))) .nil)) rfl rfl) ?_
 refine jb (o_litB (t := (.int .i64)) [(.const (.int .i64 (0)), _), (.const (.int .i64 (1)), _)] [(0 : Int), (1 : Int)] rfl rfl sl22 (.cons rfl .int (.cons rfl .int .nil)) rfl rfl) ?_
 refine jb (o_litB (t := (.int .i64)) [(.const (.int .i64 (1)), _), (.const (.int .i64 (2)), _)] [(1 : Int), (2 : Int)] rfl rfl sl22 (.cons rfl .int (.cons rfl .int .nil)) rfl rfl) ?_
 refine JO.s rfl (o_buildT [(0, .tmp 13, _), (1, .tmp 19, _), (2, .tmp 20, _), (3, .tmp 21, _)] rfl pl28 za28 alb28 (stors ⟨rfl, rfl, rfl, rfl, trivial⟩) rfl) ⟨rfl, rfl, rfl, rfl, trivial⟩ ?_
 refine JO.n11 rfl rfl (o_store rfl sz28 trivial rfl rfl) ⟨rfl, rfl, trivial⟩ ?_
 refine nt ?_
 refine JC.ret ?_
 refine JN.se (SE.objE (a := .agg (.pair (.rep (.slice tThing) [([(1 : Int)], (2 : Int), (2 : Int), (0 : Int), (0 : Int)), ([], (1 : Int), (1 : Int), (1 : Int), a0), ([], (1 : Int), (1 : Int), (2 : Int), (2 : Int)), ([], (3 : Int), (3 : Int), (0 : Int), (0 : Int))]) (.pair (.rep (.slice tDresser) [([(0 : Int), (1 : Int), (2 : Int)], (1 : Int), a1), (a2, (0 : Int), (1 : Int))]) (.pair (.rep (.slice (.int .i64)) [(0 : Int), (1 : Int)]) (.rep (.slice (.int .i64)) [(1 : Int), (2 : Int)]))))) (a' := .rep tChange ([([(1 : Int)], (2 : Int), (2 : Int), (0 : Int), (0 : Int)), ([], (1 : Int), (1 : Int), (1 : Int), a0), ([], (1 : Int), (1 : Int), (2 : Int), (2 : Int)), ([], (3 : Int), (3 : Int), (0 : Int), (0 : Int))], [([(0 : Int), (1 : Int), (2 : Int)], (1 : Int), a1), (a2, (0 : Int), (1 : Int))], [(0 : Int), (1 : Int)], [(1 : Int), (2 : Int)])) (AE.ent (.agg (.pair .rep (.pair .rep (.pair .rep .rep)))))) ?_
 obtain rfl := Option.some.inj h
 exact JN.ret () [.rep tChange ([([(1 : Int)], (2 : Int), (2 : Int), (0 : Int), (0 : Int)), ([], (1 : Int), (1 : Int), (1 : Int), a0), ([], (1 : Int), (1 : Int), (2 : Int), (2 : Int)), ([], (3 : Int), (3 : Int), (0 : Int), (0 : Int))], [([(0 : Int), (1 : Int), (2 : Int)], (1 : Int), a1), (a2, (0 : Int), (1 : Int))], [(0 : Int), (1 : Int)], [(1 : Int), (2 : Int)])] 0 ⟨⟨_, _, _, _, _, rfl, (.head _), sz28, (nfn), rfl⟩, trivial⟩ rfl


def law_first (k : Nat) : Option (List dStep) :=
 some [((1 : Int), (0 : Int)), ((0 : Int), (0 : Int)), ((2 : Int), (0 : Int)), ((3 : Int), (1 : Int))]

theorem law_first_ok (k : Nat) (r : (List dStep)) (h : law_first k = some r) :
 Ctr Try.prog 59 [] [] (fun _ : Unit => (resA [.rep (.slice tStep) r], [])) := by
 unfold law_first at h
 replace h := b_top h
 refine Ctr.of 6 Try.func59 rfl Try.ntmps59 rfl fun S w0 => ?_
 refine sr ?_
 refine cq ?_
 refine nt ?_
 refine sr ?_
 refine jb (o_buildT [(0, .const (.int .i64 (1)), _), (1, .const (.int .i64 (0)), _)] rfl pl43 za43 alb43 (stors ⟨rfl, rfl, trivial⟩) rfl) ?_
 refine jb (o_buildT [(0, .const (.int .i64 (0)), _), (1, .const (.int .i64 (0)), _)] rfl pl43 za43 alb43 (stors ⟨rfl, rfl, trivial⟩) rfl) ?_
 refine jb (o_buildT [(0, .const (.int .i64 (2)), _), (1, .const (.int .i64 (0)), _)] rfl pl43 za43 alb43 (stors ⟨rfl, rfl, trivial⟩) rfl) ?_
 refine jb (o_buildT [(0, .const (.int .i64 (3)), _), (1, .const (.int .i64 (1)), _)] rfl pl43 za43 alb43 (stors ⟨rfl, rfl, trivial⟩) rfl) ?_
 refine JO.s rfl (o_litB (t := tStep) [(.tmp 1, _), (.tmp 2, _), (.tmp 3, _), (.tmp 4, _)] [((1 : Int), (0 : Int)), ((0 : Int), (0 : Int)), ((2 : Int), (0 : Int)), ((3 : Int), (1 : Int))] rfl rfl sl30 (.cons trivial (.agg (.pair .int .int)) (.cons trivial (.agg (.pair .int .int)) (.cons trivial (.agg (.pair .int .int)) (.cons trivial (.agg (.pair .int .int)) .nil)))) rfl rfl) ⟨rfl, rfl, rfl, rfl, trivial⟩ ?_
 refine aq ?_
 refine nt ?_
 refine JC.ret ?_
 obtain rfl := Option.some.inj h
 exact JN.ret () [_] 0 ⟨rfl, trivial⟩ rfl


def law_dressed (k : Nat) : Option Bool :=
 (law_quick k (0 : Int) (0 : Int) [(0 : Int), (2 : Int)]).bind fun r1 =>
 (chg_Fewest k r1).bind fun r3 =>
 (law_first k).bind fun r4 =>
 (chg_Begins k r1 r4).bind fun r5 =>
 (law_quick k (3 : Int) (0 : Int) [(0 : Int), (2 : Int)]).bind fun r6 =>
 (law_first k).bind fun r7 =>
 (chg_Late k r6 r7).bind fun r8 =>
 (chg_Spare k r1 (1 : Int)).bind fun r9 =>
 (law_first k).bind fun r10 =>
 (chg_Wearing k r1 r10 (4 : Int)).bind fun r11 =>
 (law_quick k (0 : Int) (3 : Int) [(0 : Int), (2 : Int)]).bind fun r12 =>
 (law_quick k (0 : Int) (3 : Int) [(0 : Int), (2 : Int)]).bind fun r13 =>
 (chg_Through k [r12, r13] [(0 : Int)]).bind fun r14 =>
 (law_quick k (0 : Int) (0 : Int) [(0 : Int)]).bind fun r15 =>
 (chg_Learn k r15).bind fun r16 =>
 ((if r3.2.2 = (0 : Int) then (if r5.2 = (0 : Int) then (if r8.2.2 = (0 : Int) then (if r9.2 = (0 : Int) then (if r11.2 = (0 : Int) then (if r14.2 = (0 : Int) then (if r16.2.2.2 = (0 : Int) then (if r3.2.1 = (4 : Int) then (if r8.1 = (2 : Int) then (if r8.2.1 = (3 : Int) then (if r9.1 = (3 : Int) then (if r16.1 = (1 : Int) then (if r16.2.1 = (2 : Int) then (if r16.2.2.1 = (4 : Int) then ((law_first k).bind fun r19 =>
 (kit_SameSteps k r3.1 r19).bind fun r20 =>
 if r20 = true then ((kit_SameInts k r5.1 [(0 : Int), (1 : Int), (3 : Int), (1 : Int)]).bind fun r21 =>
 if r21 = true then ((kit_SameInts k r11.1 [(1 : Int), (2 : Int)]).bind fun r22 =>
 if r22 = true then ((kit_SameInts k r14.1 [(7 : Int), (11 : Int)]).bind fun r23 =>
 some r23) else (some false)) else (some false)) else (some false)) else (some false)) else (some false)) else (some false)) else (some false)) else (some false)) else (some false)) else (some false)) else (some false)) else (some false)) else (some false)) else (some false)) else (some false)) else (some false)) else (some false)) : Option (Bool)).bind fun x17 =>
 some x17

theorem law_dressed_ok (k : Nat) (r : Bool) (h : law_dressed k = some r) :
 Ctr Try.prog 22 [] [] (fun _ : Unit => (resA [.eq (.bool r)], [])) := by
 unfold law_dressed at h
 replace h := b_top h
 refine Ctr.of 145 Try.func22 rfl Try.ntmps22 rfl fun S w0 => ?_
 refine sr ?_
 refine cq ?_
 refine nt ?_
 refine sr ?_
 refine jb (o_litB (t := (.int .i64)) [(.const (.int .i64 (0)), _), (.const (.int .i64 (2)), _)] [(0 : Int), (2 : Int)] rfl rfl sl22 (.cons rfl .int (.cons rfl .int .nil)) rfl rfl) ?_
 obtain ⟨r1, er1, h⟩ := b_bind h
 have cr1 := law_quick_ok k (0 : Int) (0 : Int) [(0 : Int), (2 : Int)] r1 er1
 refine jc (o_call [.const (.int .i64 (0)), .const (.int .i64 (0)), .tmp 20] rfl rfl en58 rfl cr1) ?_
 refine JO.s01 rfl rfl rfl (o_alloc rfl za28 al28) trivial fun b2 => ?_
 refine JO.n11 rfl rfl (o_store rfl sz28 rfl rfl rfl) ⟨rfl, rfl, trivial⟩ ?_
 refine nt ?_
 refine sr ?_
 refine ka (o_load_obj rfl sz28 (nfn) rfl) ?_
 obtain ⟨r3, er3, h⟩ := b_bind h
 have cr3 := chg_Fewest_ok k r1 r3 er3
 refine ja (o_call [.tmp 23] rfl rfl en25 rfl cr3) ?_
 refine mq ?_
 refine ja (o_extract rfl rfl) ?_
 refine ja (o_extract rfl rfl) ?_
 refine ja (o_extract rfl rfl) ?_
 refine aq ?_
 refine aq ?_
 refine aq ?_
 refine nt ?_
 refine JC.seq ?_
 refine JC.drawN ?_
 refine ea 0 (o_load_obj rfl sz28 (nfn) rfl) ?_
 obtain ⟨r4, er4, h⟩ := b_bind h
 have cr4 := law_first_ok k  r4 er4
 refine DN.s00 rfl rfl rfl (o_call [] rfl rfl en59 rfl cr4) trivial ?_
 obtain ⟨r5, er5, h⟩ := b_bind h
 have cr5 := chg_Begins_ok k r1 r4 r5 er5
 refine db (o_call [.tmp 29, .tmp 30] rfl rfl en20 rfl cr5) ?_
 refine dm ?_
 refine da (o_extract rfl rfl) ?_
 refine da (o_extract rfl rfl) ?_
 refine da (o_assign rfl) ?_
 refine DN.fin (by kernel_rfl) mixed ?_
 refine aq ?_
 refine nt ?_
 refine sr ?_
 refine jb (o_litB (t := (.int .i64)) [(.const (.int .i64 (0)), _), (.const (.int .i64 (2)), _)] [(0 : Int), (2 : Int)] rfl rfl sl22 (.cons rfl .int (.cons rfl .int .nil)) rfl rfl) ?_
 obtain ⟨r6, er6, h⟩ := b_bind h
 have cr6 := law_quick_ok k (3 : Int) (0 : Int) [(0 : Int), (2 : Int)] r6 er6
 refine jc (o_call [.const (.int .i64 (3)), .const (.int .i64 (0)), .tmp 35] rfl rfl en58 rfl cr6) ?_
 obtain ⟨r7, er7, h⟩ := b_bind h
 have cr7 := law_first_ok k  r7 er7
 refine JO.s rfl (o_call [] rfl rfl en59 rfl cr7) trivial ?_
 obtain ⟨r8, er8, h⟩ := b_bind h
 have cr8 := chg_Late_ok k r6 r7 r8 er8
 refine jb (o_call [.tmp 36, .tmp 37] rfl rfl en21 rfl cr8) ?_
 refine mq ?_
 refine ja (o_extract rfl rfl) ?_
 refine ja (o_extract rfl rfl) ?_
 refine ja (o_extract rfl rfl) ?_
 refine aq ?_
 refine aq ?_
 refine aq ?_
 refine nt ?_
 refine sr ?_
 refine ka (o_load_obj rfl sz28 (nfn) rfl) ?_
 obtain ⟨r9, er9, h⟩ := b_bind h
 have cr9 := chg_Spare_ok k r1 (1 : Int) r9 er9
 refine jb (o_call [.tmp 43, .const (.int .i64 (1))] rfl rfl en26 rfl cr9) ?_
 refine mq ?_
 refine ja (o_extract rfl rfl) ?_
 refine ja (o_extract rfl rfl) ?_
 refine aq ?_
 refine aq ?_
 refine nt ?_
 refine JC.seq ?_
 refine JC.drawN ?_
 refine ea 0 (o_load_obj rfl sz28 (nfn) rfl) ?_
 obtain ⟨r10, er10, h⟩ := b_bind h
 have cr10 := law_first_ok k  r10 er10
 refine DN.s00 rfl rfl rfl (o_call [] rfl rfl en59 rfl cr10) trivial ?_
 obtain ⟨r11, er11, h⟩ := b_bind h
 have cr11 := chg_Wearing_ok k r1 r10 (4 : Int) r11 er11
 refine dc (o_call [.tmp 48, .tmp 49, .const (.int .i64 (4))] rfl rfl en39 rfl cr11) ?_
 refine dm ?_
 refine da (o_extract rfl rfl) ?_
 refine da (o_extract rfl rfl) ?_
 refine da (o_assign rfl) ?_
 refine DN.fin (by kernel_rfl) mixed ?_
 refine aq ?_
 refine nt ?_
 refine sr ?_
 refine jb (o_litB (t := (.int .i64)) [(.const (.int .i64 (0)), _), (.const (.int .i64 (2)), _)] [(0 : Int), (2 : Int)] rfl rfl sl22 (.cons rfl .int (.cons rfl .int .nil)) rfl rfl) ?_
 obtain ⟨r12, er12, h⟩ := b_bind h
 have cr12 := law_quick_ok k (0 : Int) (3 : Int) [(0 : Int), (2 : Int)] r12 er12
 refine jc (o_call [.const (.int .i64 (0)), .const (.int .i64 (3)), .tmp 54] rfl rfl en58 rfl cr12) ?_
 refine jb (o_litB (t := (.int .i64)) [(.const (.int .i64 (0)), _), (.const (.int .i64 (2)), _)] [(0 : Int), (2 : Int)] rfl rfl sl22 (.cons rfl .int (.cons rfl .int .nil)) rfl rfl) ?_
 obtain ⟨r13, er13, h⟩ := b_bind h
 have cr13 := law_quick_ok k (0 : Int) (3 : Int) [(0 : Int), (2 : Int)] r13 er13
 refine jc (o_call [.const (.int .i64 (0)), .const (.int .i64 (3)), .tmp 56] rfl rfl en58 rfl cr13) ?_
 refine jb (o_litB (t := tChange) [(.tmp 55, _), (.tmp 57, _)] [r12, r13] rfl rfl sl62 (.cons rfl .rep (.cons rfl .rep .nil)) rfl rfl) ?_
 refine ja (o_litB (t := (.int .i64)) [(.const (.int .i64 (0)), _)] [(0 : Int)] rfl rfl sl22 (.cons rfl .int .nil) rfl rfl) ?_
 obtain ⟨r14, er14, h⟩ := b_bind h
 have cr14 := chg_Through_ok k [r12, r13] [(0 : Int)] r14 er14
 refine jb (o_call [.tmp 58, .tmp 59] rfl rfl en33 rfl cr14) ?_
 refine mq ?_
 refine ja (o_extract rfl rfl) ?_
 refine ja (o_extract rfl rfl) ?_
 refine aq ?_
 refine aq ?_
 refine nt ?_
 refine sr ?_
 refine ja (o_litB (t := (.int .i64)) [(.const (.int .i64 (0)), _)] [(0 : Int)] rfl rfl sl22 (.cons rfl .int .nil) rfl rfl) ?_
 obtain ⟨r15, er15, h⟩ := b_bind h
 have cr15 := law_quick_ok k (0 : Int) (0 : Int) [(0 : Int)] r15 er15
 refine jc (o_call [.const (.int .i64 (0)), .const (.int .i64 (0)), .tmp 64] rfl rfl en58 rfl cr15) ?_
 obtain ⟨r16, er16, h⟩ := b_bind h
 have cr16 := chg_Learn_ok k r15 r16 er16
 refine ja (o_call [.tmp 65] rfl rfl en29 rfl cr16) ?_
 refine mq ?_
 refine ja (o_extract rfl rfl) ?_
 refine ja (o_extract rfl rfl) ?_
 refine ja (o_extract rfl rfl) ?_
 refine ja (o_extract rfl rfl) ?_
 refine aq ?_
 refine aq ?_
 refine aq ?_
 refine aq ?_
 refine nt ?_
 refine JC.cutB (Z := Unit) (α := Bool) (fun z18 x17 => [(0, .eq (.bool x17))]) (fun z18 x17 => []) h (fun K h => ?_) (fun z18 x17 h => ?_)
 ·
  refine JC.region ?_
  refine mq ?_
  refine jb (o_eql rfl) ?_
  refine mq ?_
  refine JO.bool (s := 73) rfl (fun hb => ?_) (fun hb => ?_)
  ·
   replace h := b_if (d_t hb) h
   refine gm ?_
   refine gb (o_eql rfl) ?_
   refine pt ?_
   refine mq ?_
   refine JO.bool (s := 77) rfl (fun hb => ?_) (fun hb => ?_)
   ·
    replace h := b_if (d_t hb) h
    refine gm ?_
    refine gb (o_eql rfl) ?_
    refine pt ?_
    refine mq ?_
    refine JO.bool (s := 81) rfl (fun hb => ?_) (fun hb => ?_)
    ·
     replace h := b_if (d_t hb) h
     refine gm ?_
     refine gb (o_eql rfl) ?_
     refine pt ?_
     refine mq ?_
     refine JO.bool (s := 85) rfl (fun hb => ?_) (fun hb => ?_)
     ·
      replace h := b_if (d_t hb) h
      refine gm ?_
      refine gb (o_eql rfl) ?_
      refine pt ?_
      refine mq ?_
      refine JO.bool (s := 89) rfl (fun hb => ?_) (fun hb => ?_)
      ·
       replace h := b_if (d_t hb) h
       refine gm ?_
       refine gb (o_eql rfl) ?_
       refine pt ?_
       refine mq ?_
       refine JO.bool (s := 93) rfl (fun hb => ?_) (fun hb => ?_)
       ·
        replace h := b_if (d_t hb) h
        refine gm ?_
        refine gb (o_eql rfl) ?_
        refine pt ?_
        refine mq ?_
        refine JO.bool (s := 97) rfl (fun hb => ?_) (fun hb => ?_)
        ·
         replace h := b_if (d_t hb) h
         refine gm ?_
         refine gb (o_eql rfl) ?_
         refine pt ?_
         refine mq ?_
         refine JO.bool (s := 101) rfl (fun hb => ?_) (fun hb => ?_)
         ·
          replace h := b_if (d_t hb) h
          refine gm ?_
          refine gb (o_eql rfl) ?_
          refine pt ?_
          refine mq ?_
          refine JO.bool (s := 105) rfl (fun hb => ?_) (fun hb => ?_)
          ·
           replace h := b_if (d_t hb) h
           refine gm ?_
           refine gb (o_eql rfl) ?_
           refine pt ?_
           refine mq ?_
           refine JO.bool (s := 109) rfl (fun hb => ?_) (fun hb => ?_)
           ·
            replace h := b_if (d_t hb) h
            refine gm ?_
            refine gb (o_eql rfl) ?_
            refine pt ?_
            refine mq ?_
            refine JO.bool (s := 113) rfl (fun hb => ?_) (fun hb => ?_)
            ·
             replace h := b_if (d_t hb) h
             refine gm ?_
             refine gb (o_eql rfl) ?_
             refine pt ?_
             refine mq ?_
             refine JO.bool (s := 117) rfl (fun hb => ?_) (fun hb => ?_)
             ·
              replace h := b_if (d_t hb) h
              refine gm ?_
              refine gb (o_eql rfl) ?_
              refine pt ?_
              refine mq ?_
              refine JO.bool (s := 121) rfl (fun hb => ?_) (fun hb => ?_)
              ·
               replace h := b_if (d_t hb) h
               refine gm ?_
               refine gb (o_eql rfl) ?_
               refine pt ?_
               refine mq ?_
               refine JO.bool (s := 125) rfl (fun hb => ?_) (fun hb => ?_)
               ·
                replace h := b_if (d_t hb) h
                refine gm ?_
                obtain ⟨r19, er19, h⟩ := b_bind h
                have cr19 := law_first_ok k  r19 er19
                refine JO.g00 rfl rfl rfl rfl rfl rfl (o_call [] rfl rfl en59 rfl cr19) trivial ?_
                obtain ⟨r20, er20, h⟩ := b_bind h
                have cr20 := kit_SameSteps_ok k r3.1 r19 r20 er20
                refine gb (o_call [.tmp 126, .tmp 127] rfl rfl en44 rfl cr20) ?_
                refine pt ?_
                refine mq ?_
                refine JO.bool (s := 130) rfl (fun hb => ?_) (fun hb => ?_)
                ·
                 replace h := b_if (v_t hb) h
                 refine gm ?_
                 refine JO.g00 rfl rfl rfl rfl rfl rfl (o_litB (t := (.int .i64)) [(.const (.int .i64 (0)), _), (.const (.int .i64 (1)), _), (.const (.int .i64 (3)), _), (.const (.int .i64 (1)), _)] [(0 : Int), (1 : Int), (3 : Int), (1 : Int)] rfl rfl sl22 (.cons rfl .int (.cons rfl .int (.cons rfl .int (.cons rfl .int .nil)))) rfl rfl) ⟨rfl, rfl, rfl, rfl, trivial⟩ ?_
                 obtain ⟨r21, er21, h⟩ := b_bind h
                 have cr21 := kit_SameInts_ok k r5.1 [(0 : Int), (1 : Int), (3 : Int), (1 : Int)] r21 er21
                 refine gb (o_call [.tmp 131, .tmp 132] rfl rfl en40 rfl cr21) ?_
                 refine pt ?_
                 refine mq ?_
                 refine JO.bool (s := 135) rfl (fun hb => ?_) (fun hb => ?_)
                 ·
                  replace h := b_if (v_t hb) h
                  refine gm ?_
                  refine gb (o_litB (t := (.int .i64)) [(.const (.int .i64 (1)), _), (.const (.int .i64 (2)), _)] [(1 : Int), (2 : Int)] rfl rfl sl22 (.cons rfl .int (.cons rfl .int .nil)) rfl rfl) ?_
                  obtain ⟨r22, er22, h⟩ := b_bind h
                  have cr22 := kit_SameInts_ok k r11.1 [(1 : Int), (2 : Int)] r22 er22
                  refine gb (o_call [.tmp 136, .tmp 137] rfl rfl en40 rfl cr22) ?_
                  refine pt ?_
                  refine mq ?_
                  refine JO.bool (s := 140) rfl (fun hb => ?_) (fun hb => ?_)
                  ·
                   replace h := b_if (v_t hb) h
                   refine gm ?_
                   refine gb (o_litB (t := (.int .i64)) [(.const (.int .i64 (7)), _), (.const (.int .i64 (11)), _)] [(7 : Int), (11 : Int)] rfl rfl sl22 (.cons rfl .int (.cons rfl .int .nil)) rfl rfl) ?_
                   obtain ⟨r23, er23, h⟩ := b_bind h
                   have cr23 := kit_SameInts_ok k r14.1 [(7 : Int), (11 : Int)] r23 er23
                   refine gb (o_call [.tmp 141, .tmp 142] rfl rfl en40 rfl cr23) ?_
                   refine pt ?_
                   refine aq ?_
                   refine JO.nil ?_
                   refine JN.then_n ?_
                   exact JN.z ((), r23) h (SE.fin [] ⟨rfl, trivial⟩ rfl)
                  ·
                   replace h := b_ifn (v_f hb) h
                   iterate 3 refine gn ?_
                   refine pf ?_
                   refine aq ?_
                   refine JO.nil ?_
                   refine JN.then_n ?_
                   exact JN.z ((), false) h (SE.fin [] ⟨rfl, trivial⟩ rfl)
                 ·
                  replace h := b_ifn (v_f hb) h
                  iterate 3 refine gn ?_
                  refine pf ?_
                  refine mq ?_
                  iterate 3 refine gn ?_
                  refine pf ?_
                  refine aq ?_
                  refine JO.nil ?_
                  refine JN.then_n ?_
                  exact JN.z ((), false) h (SE.fin [] ⟨rfl, trivial⟩ rfl)
                ·
                 replace h := b_ifn (v_f hb) h
                 iterate 3 refine gn ?_
                 refine pf ?_
                 refine mq ?_
                 iterate 3 refine gn ?_
                 refine pf ?_
                 refine mq ?_
                 iterate 3 refine gn ?_
                 refine pf ?_
                 refine aq ?_
                 refine JO.nil ?_
                 refine JN.then_n ?_
                 exact JN.z ((), false) h (SE.fin [] ⟨rfl, trivial⟩ rfl)
               ·
                replace h := b_ifn (d_f hb) h
                iterate 3 refine gn ?_
                refine pf ?_
                refine mq ?_
                iterate 3 refine gn ?_
                refine pf ?_
                refine mq ?_
                iterate 3 refine gn ?_
                refine pf ?_
                refine mq ?_
                iterate 3 refine gn ?_
                refine pf ?_
                refine aq ?_
                refine JO.nil ?_
                refine JN.then_n ?_
                exact JN.z ((), false) h (SE.fin [] ⟨rfl, trivial⟩ rfl)
              ·
               replace h := b_ifn (d_f hb) h
               iterate 2 refine gn ?_
               refine pf ?_
               refine mq ?_
               iterate 3 refine gn ?_
               refine pf ?_
               refine mq ?_
               iterate 3 refine gn ?_
               refine pf ?_
               refine mq ?_
               iterate 3 refine gn ?_
               refine pf ?_
               refine mq ?_
               iterate 3 refine gn ?_
               refine pf ?_
               refine aq ?_
               refine JO.nil ?_
               refine JN.then_n ?_
               exact JN.z ((), false) h (SE.fin [] ⟨rfl, trivial⟩ rfl)
             ·
              replace h := b_ifn (d_f hb) h
              iterate 2 refine gn ?_
              refine pf ?_
              refine mq ?_
              iterate 2 refine gn ?_
              refine pf ?_
              refine mq ?_
              iterate 3 refine gn ?_
              refine pf ?_
              refine mq ?_
              iterate 3 refine gn ?_
              refine pf ?_
              refine mq ?_
              iterate 3 refine gn ?_
              refine pf ?_
              refine mq ?_
              iterate 3 refine gn ?_
              refine pf ?_
              refine aq ?_
              refine JO.nil ?_
              refine JN.then_n ?_
              exact JN.z ((), false) h (SE.fin [] ⟨rfl, trivial⟩ rfl)
            ·
             replace h := b_ifn (d_f hb) h
             iterate 2 refine gn ?_
             refine pf ?_
             refine mq ?_
             iterate 2 refine gn ?_
             refine pf ?_
             refine mq ?_
             iterate 2 refine gn ?_
             refine pf ?_
             refine mq ?_
             iterate 3 refine gn ?_
             refine pf ?_
             refine mq ?_
             iterate 3 refine gn ?_
             refine pf ?_
             refine mq ?_
             iterate 3 refine gn ?_
             refine pf ?_
             refine mq ?_
             iterate 3 refine gn ?_
             refine pf ?_
             refine aq ?_
             refine JO.nil ?_
             refine JN.then_n ?_
             exact JN.z ((), false) h (SE.fin [] ⟨rfl, trivial⟩ rfl)
           ·
            replace h := b_ifn (d_f hb) h
            iterate 2 refine gn ?_
            refine pf ?_
            refine mq ?_
            iterate 2 refine gn ?_
            refine pf ?_
            refine mq ?_
            iterate 2 refine gn ?_
            refine pf ?_
            refine mq ?_
            iterate 2 refine gn ?_
            refine pf ?_
            refine mq ?_
            iterate 3 refine gn ?_
            refine pf ?_
            refine mq ?_
            iterate 3 refine gn ?_
            refine pf ?_
            refine mq ?_
            iterate 3 refine gn ?_
            refine pf ?_
            refine mq ?_
            iterate 3 refine gn ?_
            refine pf ?_
            refine aq ?_
            refine JO.nil ?_
            refine JN.then_n ?_
            exact JN.z ((), false) h (SE.fin [] ⟨rfl, trivial⟩ rfl)
          ·
           replace h := b_ifn (d_f hb) h
           iterate 2 refine gn ?_
           refine pf ?_
           refine mq ?_
           iterate 2 refine gn ?_
           refine pf ?_
           refine mq ?_
           iterate 2 refine gn ?_
           refine pf ?_
           refine mq ?_
           iterate 2 refine gn ?_
           refine pf ?_
           refine mq ?_
           iterate 2 refine gn ?_
           refine pf ?_
           refine mq ?_
           iterate 3 refine gn ?_
           refine pf ?_
           refine mq ?_
           iterate 3 refine gn ?_
           refine pf ?_
           refine mq ?_
           iterate 3 refine gn ?_
           refine pf ?_
           refine mq ?_
           iterate 3 refine gn ?_
           refine pf ?_
           refine aq ?_
           refine JO.nil ?_
           refine JN.then_n ?_
           exact JN.z ((), false) h (SE.fin [] ⟨rfl, trivial⟩ rfl)
         ·
          replace h := b_ifn (d_f hb) h
          iterate 2 refine gn ?_
          refine pf ?_
          refine mq ?_
          iterate 2 refine gn ?_
          refine pf ?_
          refine mq ?_
          iterate 2 refine gn ?_
          refine pf ?_
          refine mq ?_
          iterate 2 refine gn ?_
          refine pf ?_
          refine mq ?_
          iterate 2 refine gn ?_
          refine pf ?_
          refine mq ?_
          iterate 2 refine gn ?_
          refine pf ?_
          refine mq ?_
          iterate 3 refine gn ?_
          refine pf ?_
          refine mq ?_
          iterate 3 refine gn ?_
          refine pf ?_
          refine mq ?_
          iterate 3 refine gn ?_
          refine pf ?_
          refine mq ?_
          iterate 3 refine gn ?_
          refine pf ?_
          refine aq ?_
          refine JO.nil ?_
          refine JN.then_n ?_
          exact JN.z ((), false) h (SE.fin [] ⟨rfl, trivial⟩ rfl)
        ·
         replace h := b_ifn (d_f hb) h
         iterate 2 refine gn ?_
         refine pf ?_
         refine mq ?_
         iterate 2 refine gn ?_
         refine pf ?_
         refine mq ?_
         iterate 2 refine gn ?_
         refine pf ?_
         refine mq ?_
         iterate 2 refine gn ?_
         refine pf ?_
         refine mq ?_
         iterate 2 refine gn ?_
         refine pf ?_
         refine mq ?_
         iterate 2 refine gn ?_
         refine pf ?_
         refine mq ?_
         iterate 2 refine gn ?_
         refine pf ?_
         refine mq ?_
         iterate 3 refine gn ?_
         refine pf ?_
         refine mq ?_
         iterate 3 refine gn ?_
         refine pf ?_
         refine mq ?_
         iterate 3 refine gn ?_
         refine pf ?_
         refine mq ?_
         iterate 3 refine gn ?_
         refine pf ?_
         refine aq ?_
         refine JO.nil ?_
         refine JN.then_n ?_
         exact JN.z ((), false) h (SE.fin [] ⟨rfl, trivial⟩ rfl)
       ·
        replace h := b_ifn (d_f hb) h
        iterate 2 refine gn ?_
        refine pf ?_
        refine mq ?_
        iterate 2 refine gn ?_
        refine pf ?_
        refine mq ?_
        iterate 2 refine gn ?_
        refine pf ?_
        refine mq ?_
        iterate 2 refine gn ?_
        refine pf ?_
        refine mq ?_
        iterate 2 refine gn ?_
        refine pf ?_
        refine mq ?_
        iterate 2 refine gn ?_
        refine pf ?_
        refine mq ?_
        iterate 2 refine gn ?_
        refine pf ?_
        refine mq ?_
        iterate 2 refine gn ?_
        refine pf ?_
        refine mq ?_
        iterate 3 refine gn ?_
        refine pf ?_
        refine mq ?_
        iterate 3 refine gn ?_
        refine pf ?_
        refine mq ?_
        iterate 3 refine gn ?_
        refine pf ?_
        refine mq ?_
        iterate 3 refine gn ?_
        refine pf ?_
        refine aq ?_
        refine JO.nil ?_
        refine JN.then_n ?_
        exact JN.z ((), false) h (SE.fin [] ⟨rfl, trivial⟩ rfl)
      ·
       replace h := b_ifn (d_f hb) h
       iterate 2 refine gn ?_
       refine pf ?_
       refine mq ?_
       iterate 2 refine gn ?_
       refine pf ?_
       refine mq ?_
       iterate 2 refine gn ?_
       refine pf ?_
       refine mq ?_
       iterate 2 refine gn ?_
       refine pf ?_
       refine mq ?_
       iterate 2 refine gn ?_
       refine pf ?_
       refine mq ?_
       iterate 2 refine gn ?_
       refine pf ?_
       refine mq ?_
       iterate 2 refine gn ?_
       refine pf ?_
       refine mq ?_
       iterate 2 refine gn ?_
       refine pf ?_
       refine mq ?_
       iterate 2 refine gn ?_
       refine pf ?_
       refine mq ?_
       iterate 3 refine gn ?_
       refine pf ?_
       refine mq ?_
       iterate 3 refine gn ?_
       refine pf ?_
       refine mq ?_
       iterate 3 refine gn ?_
       refine pf ?_
       refine mq ?_
       iterate 3 refine gn ?_
       refine pf ?_
       refine aq ?_
       refine JO.nil ?_
       refine JN.then_n ?_
       exact JN.z ((), false) h (SE.fin [] ⟨rfl, trivial⟩ rfl)
     ·
      replace h := b_ifn (d_f hb) h
      iterate 2 refine gn ?_
      refine pf ?_
      refine mq ?_
      iterate 2 refine gn ?_
      refine pf ?_
      refine mq ?_
      iterate 2 refine gn ?_
      refine pf ?_
      refine mq ?_
      iterate 2 refine gn ?_
      refine pf ?_
      refine mq ?_
      iterate 2 refine gn ?_
      refine pf ?_
      refine mq ?_
      iterate 2 refine gn ?_
      refine pf ?_
      refine mq ?_
      iterate 2 refine gn ?_
      refine pf ?_
      refine mq ?_
      iterate 2 refine gn ?_
      refine pf ?_
      refine mq ?_
      iterate 2 refine gn ?_
      refine pf ?_
      refine mq ?_
      iterate 2 refine gn ?_
      refine pf ?_
      refine mq ?_
      iterate 3 refine gn ?_
      refine pf ?_
      refine mq ?_
      iterate 3 refine gn ?_
      refine pf ?_
      refine mq ?_
      iterate 3 refine gn ?_
      refine pf ?_
      refine mq ?_
      iterate 3 refine gn ?_
      refine pf ?_
      refine aq ?_
      refine JO.nil ?_
      refine JN.then_n ?_
      exact JN.z ((), false) h (SE.fin [] ⟨rfl, trivial⟩ rfl)
    ·
     replace h := b_ifn (d_f hb) h
     iterate 2 refine gn ?_
     refine pf ?_
     refine mq ?_
     iterate 2 refine gn ?_
     refine pf ?_
     refine mq ?_
     iterate 2 refine gn ?_
     refine pf ?_
     refine mq ?_
     iterate 2 refine gn ?_
     refine pf ?_
     refine mq ?_
     iterate 2 refine gn ?_
     refine pf ?_
     refine mq ?_
     iterate 2 refine gn ?_
     refine pf ?_
     refine mq ?_
     iterate 2 refine gn ?_
     refine pf ?_
     refine mq ?_
     iterate 2 refine gn ?_
     refine pf ?_
     refine mq ?_
     iterate 2 refine gn ?_
     refine pf ?_
     refine mq ?_
     iterate 2 refine gn ?_
     refine pf ?_
     refine mq ?_
     iterate 2 refine gn ?_
     refine pf ?_
     refine mq ?_
     iterate 3 refine gn ?_
     refine pf ?_
     refine mq ?_
     iterate 3 refine gn ?_
     refine pf ?_
     refine mq ?_
     iterate 3 refine gn ?_
     refine pf ?_
     refine mq ?_
     iterate 3 refine gn ?_
     refine pf ?_
     refine aq ?_
     refine JO.nil ?_
     refine JN.then_n ?_
     exact JN.z ((), false) h (SE.fin [] ⟨rfl, trivial⟩ rfl)
   ·
    replace h := b_ifn (d_f hb) h
    iterate 2 refine gn ?_
    refine pf ?_
    refine mq ?_
    iterate 2 refine gn ?_
    refine pf ?_
    refine mq ?_
    iterate 2 refine gn ?_
    refine pf ?_
    refine mq ?_
    iterate 2 refine gn ?_
    refine pf ?_
    refine mq ?_
    iterate 2 refine gn ?_
    refine pf ?_
    refine mq ?_
    iterate 2 refine gn ?_
    refine pf ?_
    refine mq ?_
    iterate 2 refine gn ?_
    refine pf ?_
    refine mq ?_
    iterate 2 refine gn ?_
    refine pf ?_
    refine mq ?_
    iterate 2 refine gn ?_
    refine pf ?_
    refine mq ?_
    iterate 2 refine gn ?_
    refine pf ?_
    refine mq ?_
    iterate 2 refine gn ?_
    refine pf ?_
    refine mq ?_
    iterate 2 refine gn ?_
    refine pf ?_
    refine mq ?_
    iterate 3 refine gn ?_
    refine pf ?_
    refine mq ?_
    iterate 3 refine gn ?_
    refine pf ?_
    refine mq ?_
    iterate 3 refine gn ?_
    refine pf ?_
    refine mq ?_
    iterate 3 refine gn ?_
    refine pf ?_
    refine aq ?_
    refine JO.nil ?_
    refine JN.then_n ?_
    exact JN.z ((), false) h (SE.fin [] ⟨rfl, trivial⟩ rfl)
  ·
   replace h := b_ifn (d_f hb) h
   iterate 2 refine gn ?_
   refine pf ?_
   refine mq ?_
   iterate 2 refine gn ?_
   refine pf ?_
   refine mq ?_
   iterate 2 refine gn ?_
   refine pf ?_
   refine mq ?_
   iterate 2 refine gn ?_
   refine pf ?_
   refine mq ?_
   iterate 2 refine gn ?_
   refine pf ?_
   refine mq ?_
   iterate 2 refine gn ?_
   refine pf ?_
   refine mq ?_
   iterate 2 refine gn ?_
   refine pf ?_
   refine mq ?_
   iterate 2 refine gn ?_
   refine pf ?_
   refine mq ?_
   iterate 2 refine gn ?_
   refine pf ?_
   refine mq ?_
   iterate 2 refine gn ?_
   refine pf ?_
   refine mq ?_
   iterate 2 refine gn ?_
   refine pf ?_
   refine mq ?_
   iterate 2 refine gn ?_
   refine pf ?_
   refine mq ?_
   iterate 2 refine gn ?_
   refine pf ?_
   refine mq ?_
   iterate 3 refine gn ?_
   refine pf ?_
   refine mq ?_
   iterate 3 refine gn ?_
   refine pf ?_
   refine mq ?_
   iterate 3 refine gn ?_
   refine pf ?_
   refine mq ?_
   iterate 3 refine gn ?_
   refine pf ?_
   refine aq ?_
   refine JO.nil ?_
   refine JN.then_n ?_
   exact JN.z ((), false) h (SE.fin [] ⟨rfl, trivial⟩ rfl)
 ·
  refine JC.ret ?_
  obtain rfl := Option.some.inj h
  exact JN.ret () [_] 0 ⟨rfl, trivial⟩ rfl


def kit_CopyInts (k : Nat) (a0 : (List Int)) : Option (List Int) :=
 (chkP (okLen (List.length ([] : (List Int)) + List.length a0))).bind fun _ =>
 some (([] : (List Int)) ++ a0)

theorem kit_CopyInts_ok (k : Nat) (a0 : (List Int)) (r : (List Int)) (h : kit_CopyInts k a0 = some r) :
 Ctr Try.prog 37 [.rep (.slice (.int .i64)) a0] [] (fun z : Value => (resA [.eq z], [.sl z 3 (.int .i64) r])) := by
 unfold kit_CopyInts at h
 replace h := b_top h
 refine Ctr.of 6 Try.func37 rfl Try.ntmps37 rfl fun S w0 => ?_
 refine sr ?_
 refine cq ?_
 refine nt ?_
 refine sr ?_
 refine JO.s01 rfl rfl rfl (o_litB_own (t := (.int .i64)) [] ([] : (List Int)) rfl rfl sl22 .nil rfl rfl) trivial fun v1 => ?_
 refine mq ?_
 obtain ⟨u2, eu2, h⟩ := b_bind h
 refine JO.s1x rfl rfl rfl (o_append rfl rfl sl22 (chkP_some eu2)) ⟨rfl, rfl, trivial⟩ fun v3 => ?_
 refine aq ?_
 refine nt ?_
 refine JC.ret ?_
 obtain rfl := Option.some.inj h
 exact JN.ret v3 [.eq v3] 1 ⟨rfl, trivial⟩ rfl


def kit_CopyChange_l1 (k : Nat) (a0 : dChange) : Nat → ((List dThing) × Int) → Option (List dThing)
 | 0, _ => none
 | n + 1, y8 =>
  if y8.2 < (a0.1.length : Int) then ((geti a0.1 y8.2).bind fun x10 =>
  (kit_CopyInts k x10.1).bind fun r12 =>
  (chkP (okLen (List.length y8.1 + List.length [(r12, x10.2)]))).bind fun _ =>
  (ck (y8.2 + (1 : Int))).bind fun x18 =>
  kit_CopyChange_l1 k a0 n (y8.1 ++ [(r12, x10.2)], x18)) else (some y8.1)

def kit_CopyChange_l2 (k : Nat) (a0 : dChange) : Nat → ((List dDresser) × Int) → Option (List dDresser)
 | 0, _ => none
 | n + 1, y21 =>
  if y21.2 < (a0.2.1.length : Int) then ((geti a0.2.1 y21.2).bind fun x23 =>
  (kit_CopyInts k x23.1).bind fun r25 =>
  (chkP (okLen (List.length y21.1 + List.length [(r25, x23.2)]))).bind fun _ =>
  (ck (y21.2 + (1 : Int))).bind fun x31 =>
  kit_CopyChange_l2 k a0 n (y21.1 ++ [(r25, x23.2)], x31)) else (some y21.1)
def kit_CopyChange (k : Nat) (a0 : dChange) : Option dChange :=
 (kit_CopyInts k a0.2.2.1).bind fun r3 =>
 (kit_CopyInts k a0.2.2.2).bind fun r4 =>
 ((kit_CopyChange_l1 k a0 k (([] : (List dThing)), (0 : Int))) : Option ((List dThing))).bind fun x6 =>
 ((kit_CopyChange_l2 k a0 k (([] : (List dDresser)), (0 : Int))) : Option ((List dDresser))).bind fun x19 =>
 some (x6, x19, r3, r4)

theorem kit_CopyChange_ok (k : Nat) (a0 : dChange) (r : dChange) (h : kit_CopyChange k a0 = some r) :
 Ctr Try.prog 27 [.rep tChange a0] [] (fun z : Value × Value => (resA [.agg (.pair (.eq z.1) (.pair (.eq z.2) (.pair (.rep (.slice (.int .i64)) r.2.2.1) (.rep (.slice (.int .i64)) r.2.2.2))))], [.sl z.1 45 tThing r.1, .sl z.2 53 tDresser r.2.1])) := by
 unfold kit_CopyChange at h
 replace h := b_top h
 refine Ctr.of 60 Try.func27 rfl Try.ntmps27 rfl fun S w0 => ?_
 refine sr ?_
 refine JO.s01 rfl rfl rfl (o_box rfl rfl) ⟨rfl, trivial⟩ fun b1 => ?_
 refine JO.s01 rfl rfl rfl (o_alloc rfl za28 al28) trivial fun b2 => ?_
 refine nt ?_
 refine JC.seq ?_
 refine JC.drawW ?_
 refine DW.t00 rfl rfl rfl (o_field_obj rfl fo28_2) ⟨rfl, trivial⟩ ?_
 refine DW.t11 1 rfl rfl rfl rfl (o_load_obj rfl sz22 (fun _ => rfl) rfl) ⟨rfl, trivial⟩ ?_
 obtain ⟨r3, er3, h⟩ := b_bind h
 have cr3 := kit_CopyInts_ok k a0.2.2.1 r3 er3
 refine DW.t00 rfl rfl rfl (OpT.frz (o_call [.tmp 9] rfl rfl en37 rfl cr3)) ⟨rfl, trivial⟩ ?_
 refine DW.t00 rfl rfl rfl (o_field_obj rfl fo28_3) ⟨rfl, trivial⟩ ?_
 refine DW.t11 1 rfl rfl rfl rfl (o_load_obj rfl sz22 (fun _ => rfl) rfl) ⟨rfl, trivial⟩ ?_
 obtain ⟨r4, er4, h⟩ := b_bind h
 have cr4 := kit_CopyInts_ok k a0.2.2.2 r4 er4
 refine DW.t00 rfl rfl rfl (OpT.frz (o_call [.tmp 12] rfl rfl en37 rfl cr4)) ⟨rfl, trivial⟩ ?_
 refine DW.t00 rfl rfl rfl (o_buildT [(2, .tmp 10, _), (3, .tmp 13, _)] rfl pl28 za28 alb28 (stors ⟨rfl, rfl, trivial⟩) rfl) ⟨rfl, rfl, trivial⟩ ?_
 refine DW.tNew (ptrD 28 (.agg (.pair (.eq (.slice none 0 0)) (.pair (.eq (.slice none 0 0)) (.pair (.eq (.slice none 0 0)) (.eq (.slice none 0 0))))))) (fun _ => rfl) rfl rfl rfl (o_alloc rfl za28 al28) trivial ?_
 refine DW.fin 8 [true, true, true, true, true, true, true, true] [] [] [] rfl (by kernel_rfl) (by kernel_rfl) (by kernel_rfl) mixed (fun vs hv hB => ?_)
 obtain ⟨w0, vs1, rfl, hv1⟩ := len_cons hv
 obtain ⟨w1, vs2, rfl, hv2⟩ := len_cons hv1
 obtain ⟨w2, vs3, rfl, hv3⟩ := len_cons hv2
 obtain ⟨w3, vs4, rfl, hv4⟩ := len_cons hv3
 obtain ⟨w4, vs5, rfl, hv5⟩ := len_cons hv4
 obtain ⟨w5, vs6, rfl, hv6⟩ := len_cons hv5
 obtain ⟨w6, vs7, rfl, hv7⟩ := len_cons hv6
 obtain ⟨w7, vs8, rfl, hv8⟩ := len_cons hv7
 obtain rfl := len_nil hv8
 obtain ⟨b5, rfl⟩ := ptr_of hB.2.2.2.2.2.2.2.1
 refine ⟨[0, 1, 2], [.obj b2 28 (.agg (.pair (.eq (.slice none 0 0)) (.pair (.eq (.slice none 0 0)) (.pair (.eq (.slice none 0 0)) (.eq (.slice none 0 0)))))), .obj b1 28 (.rep tChange a0), .obj b5 28 (.agg (.pair (.eq (.slice none 0 0)) (.pair (.eq (.slice none 0 0)) (.pair (.eq (.slice none 0 0)) (.eq (.slice none 0 0))))))], by kernel_rfl, by decide, ?_⟩
 refine JT.front 2 rfl ?_
 refine JT.n11 rfl rfl (o_store rfl sz28 trivial rfl rfl) ⟨rfl, rfl, trivial⟩ (by kernel_rfl) ?_
 refine JT.nil ?_
 refine JN.se (SE.fin (Γ' := [(1, .eq (.pointer (some ⟨b1, 0, none⟩))), (2, .eq (.pointer (some ⟨b2, 0, none⟩))), (3, .eq (.pointer (some ⟨b5, 0, none⟩)))]) (Δ' := [.obj b5 28 (.agg (.pair (.eq (.slice none 0 0)) (.pair (.eq (.slice none 0 0)) (.pair (.rep (.slice (.int .i64)) r3) (.rep (.slice (.int .i64)) r4))))), .obj b2 28 (.agg (.pair (.eq (.slice none 0 0)) (.pair (.eq (.slice none 0 0)) (.pair (.eq (.slice none 0 0)) (.eq (.slice none 0 0)))))), .obj b1 28 (.rep tChange a0)]) [0, 1, 2] ⟨rfl, rfl, rfl, trivial⟩ rfl) ?_
 refine JN.then_n ?_
 show JC _ _ _ _ _
 refine JC.cutB (Z := Value) (α := (List dThing)) (fun z7 x6 => [(1, .eq (.pointer (some ⟨b1, 0, none⟩))), (2, .eq (.pointer (some ⟨b2, 0, none⟩))), (3, .eq (.pointer (some ⟨b5, 0, none⟩)))]) (fun z7 x6 => [.obj b1 28 (.rep tChange a0), .obj b2 28 (.agg (.pair (.eq (.slice none 0 0)) (.pair (.eq (.slice none 0 0)) (.pair (.eq (.slice none 0 0)) (.eq (.slice none 0 0)))))), .obj b5 28 (.agg (.pair (.eq z7) (.pair (.eq (.slice none 0 0)) (.pair (.rep (.slice (.int .i64)) r3) (.rep (.slice (.int .i64)) r4))))), .sl z7 45 tThing x6]) h (fun K h => ?_) (fun z7 x6 h => ?_)
 ·
  refine sr ?_
  refine cq ?_
  refine nt ?_
  refine JC.block ?_
  refine JC.se (SE.nil 45 tThing) ?_
  refine JC.loopB (Z := Value) (α := (List dThing) × Int) (fun z9 y8 => [(1, .eq (.pointer (some ⟨b1, 0, none⟩))), (2, .eq (.pointer (some ⟨b2, 0, none⟩))), (3, .eq (.pointer (some ⟨b5, 0, none⟩))), (4, .eq (.int .i64 y8.2))]) (fun z9 y8 => [.obj b1 28 (.rep tChange a0), .obj b2 28 (.agg (.pair (.eq (.slice none 0 0)) (.pair (.eq (.slice none 0 0)) (.pair (.eq (.slice none 0 0)) (.eq (.slice none 0 0)))))), .obj b5 28 (.agg (.pair (.eq z9) (.pair (.eq (.slice none 0 0)) (.pair (.rep (.slice (.int .i64)) r3) (.rep (.slice (.int .i64)) r4))))), .sl z9 45 tThing y8.1]) (kit_CopyChange_l1 k a0) k (.slice none 0 0) (([] : (List dThing)), (0 : Int)) (fun _ => rfl) h (SE.fin [3, 2, 1, 0] ⟨rfl, rfl, rfl, rfl, trivial⟩ rfl) (fun n z9 y8 h => ?_)
  unfold kit_CopyChange_l1 at h
  refine JC.seq ?_
  refine sr ?_
  refine mq ?_
  refine ja (o_field_obj rfl fo28_0) ?_
  refine ka (o_load_obj rfl sz25 (fun _ => rfl) rfl) ?_
  refine ja (o_len rfl rfl Try.underlying25) ?_
  refine jb (o_lss rfl) ?_
  refine nt ?_
  refine JC.cond rfl (fun hb => ?_) (fun hb => ?_)
  ·
   replace h := b_if (d_t hb) h
   refine JC.skip ?_
   refine JN.then_n ?_
   show JC _ _ _ _ _
   refine JC.seq ?_
   refine JC.block ?_
   refine sr ?_
   refine ja (o_field_obj rfl fo28_0) ?_
   refine ka (o_load_obj rfl sz25 (fun _ => rfl) rfl) ?_
   refine mq ?_
   obtain ⟨x10, ex10, h⟩ := b_bind h
   refine jb (o_index (t := tThing) rfl Try.underlying25 sz45 ex10) ?_
   refine ja (o_load_at (t := tThing) rfl sz45 rfl) ?_
   refine JO.s01 rfl rfl rfl (o_alloc rfl za45 al45) trivial fun b11 => ?_
   refine JO.n11 rfl rfl (o_store rfl sz45 rfl rfl rfl) ⟨rfl, rfl, trivial⟩ ?_
   refine nt ?_
   refine sr ?_
   refine ja (o_field_obj rfl fo45_0) ?_
   refine ka (o_load_obj rfl sz22 (fun _ => rfl) rfl) ?_
   obtain ⟨r12, er12, h⟩ := b_bind h
   have cr12 := kit_CopyInts_ok k x10.1 r12 er12
   refine JO.s01 rfl rfl rfl (o_call [.tmp 28] rfl rfl en37 rfl cr12) ⟨rfl, trivial⟩ fun v13 => ?_
   refine ja (o_field_obj rfl fo45_0) ?_
   refine JO.one fun o14 => ?_
   refine JO.front 1 rfl ?_
   refine JO.n11 rfl rfl (o_store rfl sz22 o14 rfl rfl) ⟨rfl, rfl, trivial⟩ ?_
   refine nt ?_
   refine JC.region ?_
   refine ja (o_field_obj rfl fo28_0) ?_
   refine JO.front 4 rfl ?_
   refine ka (o_load_obj rfl sz25 (fun _ => rfl) rfl) ?_
   refine JO.front 1 rfl ?_
   refine JO.front 2 rfl ?_
   refine JO.se (SE.frzBoth (off := 0) [29] ⟨rfl, trivial⟩ rfl rfl) ?_
   refine ka (o_load_obj rfl sz45 (nfn) rfl) ?_
   refine ja (o_litB (t := tThing) [(.tmp 33, _)] [(r12, x10.2)] rfl rfl sl25 (.cons trivial (.agg (.pair .rep .rep)) .nil) rfl rfl) ?_
   obtain ⟨u15, eu15, h⟩ := b_bind h
   refine JO.front 4 rfl ?_
   refine JO.s1x rfl rfl rfl (o_append rfl rfl sl25 (chkP_some eu15)) ⟨rfl, rfl, trivial⟩ fun v16 => ?_
   refine ja (o_field_obj rfl fo28_0) ?_
   refine JO.one fun o17 => ?_
   refine JO.front 2 rfl ?_
   refine JO.n11 rfl rfl (o_store rfl sz25 o17 rfl rfl) ⟨rfl, rfl, trivial⟩ ?_
   refine JO.nil ?_
   refine JN.blk_n ?_
   refine JN.then_n ?_
   show JC _ _ _ _ _
   refine JC.region ?_
   refine mq ?_
   obtain ⟨x18, ex18, h⟩ := b_bind h
   refine jb (o_add rfl ex18) ?_
   refine aq ?_
   refine JO.nil ?_
   refine JN.then_n ?_
   exact JN.z (v16, (y8.1 ++ [(r12, x10.2)], x18)) h (SE.fin [3, 4, 0, 1] ⟨rfl, rfl, rfl, rfl, trivial⟩ rfl)
  ·
   replace h := b_ifn (d_f hb) h
   refine JC.exit ?_
   refine JN.then_x ?_
   refine JN.then_x ?_
   refine JN.blk_hit ?_
   refine JN.then_n ?_
   exact JN.z (z9, y8.1) h (SE.fin [0, 1, 2, 3] ⟨rfl, rfl, rfl, trivial⟩ rfl)
 ·
  refine JC.cutB (Z := Value) (α := (List dDresser)) (fun z20 x19 => [(2, .eq (.pointer (some ⟨b2, 0, none⟩))), (3, .eq (.pointer (some ⟨b5, 0, none⟩)))]) (fun z20 x19 => [.obj b2 28 (.agg (.pair (.eq (.slice none 0 0)) (.pair (.eq (.slice none 0 0)) (.pair (.eq (.slice none 0 0)) (.eq (.slice none 0 0)))))), .obj b5 28 (.agg (.pair (.eq z7) (.pair (.eq z20) (.pair (.rep (.slice (.int .i64)) r3) (.rep (.slice (.int .i64)) r4))))), .sl z7 45 tThing x6, .sl z20 53 tDresser x19]) h (fun K h => ?_) (fun z20 x19 h => ?_)
  ·
   refine sr ?_
   refine cq ?_
   refine nt ?_
   refine JC.block ?_
   refine JC.se (SE.nil 53 tDresser) ?_
   refine JC.loopB (Z := Value) (α := (List dDresser) × Int) (fun z22 y21 => [(1, .eq (.pointer (some ⟨b1, 0, none⟩))), (2, .eq (.pointer (some ⟨b2, 0, none⟩))), (3, .eq (.pointer (some ⟨b5, 0, none⟩))), (6, .eq (.int .i64 y21.2))]) (fun z22 y21 => [.obj b1 28 (.rep tChange a0), .obj b2 28 (.agg (.pair (.eq (.slice none 0 0)) (.pair (.eq (.slice none 0 0)) (.pair (.eq (.slice none 0 0)) (.eq (.slice none 0 0)))))), .obj b5 28 (.agg (.pair (.eq z7) (.pair (.eq z22) (.pair (.rep (.slice (.int .i64)) r3) (.rep (.slice (.int .i64)) r4))))), .sl z7 45 tThing x6, .sl z22 53 tDresser y21.1]) (kit_CopyChange_l2 k a0) k (.slice none 0 0) (([] : (List dDresser)), (0 : Int)) (fun _ => rfl) h (SE.fin [1, 2, 3, 4, 0] ⟨rfl, rfl, rfl, rfl, trivial⟩ rfl) (fun n z22 y21 h => ?_)
   unfold kit_CopyChange_l2 at h
   refine JC.seq ?_
   refine sr ?_
   refine mq ?_
   refine ja (o_field_obj rfl fo28_1) ?_
   refine ka (o_load_obj rfl sz26 (fun _ => rfl) rfl) ?_
   refine ja (o_len rfl rfl Try.underlying26) ?_
   refine jb (o_lss rfl) ?_
   refine nt ?_
   refine JC.cond rfl (fun hb => ?_) (fun hb => ?_)
   ·
    replace h := b_if (d_t hb) h
    refine JC.skip ?_
    refine JN.then_n ?_
    show JC _ _ _ _ _
    refine JC.seq ?_
    refine JC.block ?_
    refine sr ?_
    refine ja (o_field_obj rfl fo28_1) ?_
    refine ka (o_load_obj rfl sz26 (fun _ => rfl) rfl) ?_
    refine mq ?_
    obtain ⟨x23, ex23, h⟩ := b_bind h
    refine jb (o_index (t := tDresser) rfl Try.underlying26 sz53 ex23) ?_
    refine ja (o_load_at (t := tDresser) rfl sz53 rfl) ?_
    refine JO.s01 rfl rfl rfl (o_alloc rfl za53 al53) trivial fun b24 => ?_
    refine JO.n11 rfl rfl (o_store rfl sz53 rfl rfl rfl) ⟨rfl, rfl, trivial⟩ ?_
    refine nt ?_
    refine sr ?_
    refine ja (o_field_obj rfl fo53_0) ?_
    refine ka (o_load_obj rfl sz22 (fun _ => rfl) rfl) ?_
    obtain ⟨r25, er25, h⟩ := b_bind h
    have cr25 := kit_CopyInts_ok k x23.1 r25 er25
    refine JO.s01 rfl rfl rfl (o_call [.tmp 50] rfl rfl en37 rfl cr25) ⟨rfl, trivial⟩ fun v26 => ?_
    refine ja (o_field_obj rfl fo53_0) ?_
    refine JO.one fun o27 => ?_
    refine JO.front 1 rfl ?_
    refine JO.n11 rfl rfl (o_store rfl sz22 o27 rfl rfl) ⟨rfl, rfl, trivial⟩ ?_
    refine nt ?_
    refine JC.region ?_
    refine ja (o_field_obj rfl fo28_1) ?_
    refine JO.front 4 rfl ?_
    refine ka (o_load_obj rfl sz26 (fun _ => rfl) rfl) ?_
    refine JO.front 1 rfl ?_
    refine JO.front 2 rfl ?_
    refine JO.se (SE.frzBoth (off := 0) [51] ⟨rfl, trivial⟩ rfl rfl) ?_
    refine ka (o_load_obj rfl sz53 (nfn) rfl) ?_
    refine ja (o_litB (t := tDresser) [(.tmp 55, _)] [(r25, x23.2)] rfl rfl sl26 (.cons trivial (.agg (.pair .rep .rep)) .nil) rfl rfl) ?_
    obtain ⟨u28, eu28, h⟩ := b_bind h
    refine JO.front 5 rfl ?_
    refine JO.s1x rfl rfl rfl (o_append rfl rfl sl26 (chkP_some eu28)) ⟨rfl, rfl, trivial⟩ fun v29 => ?_
    refine ja (o_field_obj rfl fo28_1) ?_
    refine JO.one fun o30 => ?_
    refine JO.front 2 rfl ?_
    refine JO.n11 rfl rfl (o_store rfl sz26 o30 rfl rfl) ⟨rfl, rfl, trivial⟩ ?_
    refine JO.nil ?_
    refine JN.blk_n ?_
    refine JN.then_n ?_
    show JC _ _ _ _ _
    refine JC.region ?_
    refine mq ?_
    obtain ⟨x31, ex31, h⟩ := b_bind h
    refine jb (o_add rfl ex31) ?_
    refine aq ?_
    refine JO.nil ?_
    refine JN.then_n ?_
    exact JN.z (v29, (y21.1 ++ [(r25, x23.2)], x31)) h (SE.fin [3, 4, 0, 5, 1] ⟨rfl, rfl, rfl, rfl, trivial⟩ rfl)
   ·
    replace h := b_ifn (d_f hb) h
    refine JC.exit ?_
    refine JN.then_x ?_
    refine JN.then_x ?_
    refine JN.blk_hit ?_
    refine JN.then_n ?_
    exact JN.z (z22, y21.1) h (SE.fin [1, 2, 3, 4] ⟨rfl, rfl, trivial⟩ rfl)
  ·
   refine sr ?_
   refine JO.front 1 rfl ?_
   refine ka (o_load_obj rfl sz28 (nfn) rfl) ?_
   refine JO.front 1 rfl ?_
   refine JO.n11 rfl rfl (o_store rfl sz28 trivial rfl rfl) ⟨rfl, rfl, trivial⟩ ?_
   refine nt ?_
   refine JC.ret ?_
   refine JN.se (SE.fin (Γ' := [(2, _)]) [2, 3, 0, 1] ⟨rfl, trivial⟩ rfl) ?_
   obtain rfl := Option.some.inj h
   exact JN.ret (z7, z20) [.agg (.pair (.eq z7) (.pair (.eq z20) (.pair (.rep (.slice (.int .i64)) r3) (.rep (.slice (.int .i64)) r4))))] 2 ⟨⟨_, _, _, _, _, rfl, (.tail _ (.tail _ (.head _))), sz28, (nfn), rfl⟩, trivial⟩ rfl


def kit_CopyChangeF_l1 (k : Nat) (a0 : dChange) : Nat → ((List dThing) × Int) → Option (List dThing)
 | 0, _ => none
 | n + 1, y8 =>
  if y8.2 < (a0.1.length : Int) then ((geti a0.1 y8.2).bind fun x10 =>
  (kit_CopyInts k x10.1).bind fun r12 =>
  (chkP (okLen (List.length y8.1 + List.length [(r12, x10.2)]))).bind fun _ =>
  (ck (y8.2 + (1 : Int))).bind fun x18 =>
  kit_CopyChangeF_l1 k a0 n (y8.1 ++ [(r12, x10.2)], x18)) else (some y8.1)

def kit_CopyChangeF_l2 (k : Nat) (a0 : dChange) : Nat → ((List dDresser) × Int) → Option (List dDresser)
 | 0, _ => none
 | n + 1, y21 =>
  if y21.2 < (a0.2.1.length : Int) then ((geti a0.2.1 y21.2).bind fun x23 =>
  (kit_CopyInts k x23.1).bind fun r25 =>
  (chkP (okLen (List.length y21.1 + List.length [(r25, x23.2)]))).bind fun _ =>
  (ck (y21.2 + (1 : Int))).bind fun x31 =>
  kit_CopyChangeF_l2 k a0 n (y21.1 ++ [(r25, x23.2)], x31)) else (some y21.1)
def kit_CopyChangeF (k : Nat) (a0 : dChange) : Option dChange :=
 (kit_CopyInts k a0.2.2.1).bind fun r3 =>
 (kit_CopyInts k a0.2.2.2).bind fun r4 =>
 ((kit_CopyChangeF_l1 k a0 k (([] : (List dThing)), (0 : Int))) : Option ((List dThing))).bind fun x6 =>
 ((kit_CopyChangeF_l2 k a0 k (([] : (List dDresser)), (0 : Int))) : Option ((List dDresser))).bind fun x19 =>
 some (x6, x19, r3, r4)

theorem kit_CopyChangeF_ok (k : Nat) (a0 : dChange) (r : dChange) (h : kit_CopyChangeF k a0 = some r) :
 Ctr Try.prog 27 [.rep tChange a0] [] (fun _ : Unit => (resA [.rep tChange r], [])) := by
 unfold kit_CopyChangeF at h
 replace h := b_top h
 refine Ctr.of 60 Try.func27 rfl Try.ntmps27 rfl fun S w0 => ?_
 refine sr ?_
 refine JO.s01 rfl rfl rfl (o_box rfl rfl) ⟨rfl, trivial⟩ fun b1 => ?_
 refine JO.s01 rfl rfl rfl (o_alloc rfl za28 al28) trivial fun b2 => ?_
 refine nt ?_
 refine JC.seq ?_
 refine JC.drawW ?_
 refine DW.t00 rfl rfl rfl (o_field_obj rfl fo28_2) ⟨rfl, trivial⟩ ?_
 refine DW.t11 1 rfl rfl rfl rfl (o_load_obj rfl sz22 (fun _ => rfl) rfl) ⟨rfl, trivial⟩ ?_
 obtain ⟨r3, er3, h⟩ := b_bind h
 have cr3 := kit_CopyInts_ok k a0.2.2.1 r3 er3
 refine DW.t00 rfl rfl rfl (OpT.frz (o_call [.tmp 9] rfl rfl en37 rfl cr3)) ⟨rfl, trivial⟩ ?_
 refine DW.t00 rfl rfl rfl (o_field_obj rfl fo28_3) ⟨rfl, trivial⟩ ?_
 refine DW.t11 1 rfl rfl rfl rfl (o_load_obj rfl sz22 (fun _ => rfl) rfl) ⟨rfl, trivial⟩ ?_
 obtain ⟨r4, er4, h⟩ := b_bind h
 have cr4 := kit_CopyInts_ok k a0.2.2.2 r4 er4
 refine DW.t00 rfl rfl rfl (OpT.frz (o_call [.tmp 12] rfl rfl en37 rfl cr4)) ⟨rfl, trivial⟩ ?_
 refine DW.t00 rfl rfl rfl (o_buildT [(2, .tmp 10, _), (3, .tmp 13, _)] rfl pl28 za28 alb28 (stors ⟨rfl, rfl, trivial⟩) rfl) ⟨rfl, rfl, trivial⟩ ?_
 refine DW.tNew (ptrD 28 (.agg (.pair (.eq (.slice none 0 0)) (.pair (.eq (.slice none 0 0)) (.pair (.eq (.slice none 0 0)) (.eq (.slice none 0 0))))))) (fun _ => rfl) rfl rfl rfl (o_alloc rfl za28 al28) trivial ?_
 refine DW.fin 8 [true, true, true, true, true, true, true, true] [] [] [] rfl (by kernel_rfl) (by kernel_rfl) (by kernel_rfl) mixed (fun vs hv hB => ?_)
 obtain ⟨w0, vs1, rfl, hv1⟩ := len_cons hv
 obtain ⟨w1, vs2, rfl, hv2⟩ := len_cons hv1
 obtain ⟨w2, vs3, rfl, hv3⟩ := len_cons hv2
 obtain ⟨w3, vs4, rfl, hv4⟩ := len_cons hv3
 obtain ⟨w4, vs5, rfl, hv5⟩ := len_cons hv4
 obtain ⟨w5, vs6, rfl, hv6⟩ := len_cons hv5
 obtain ⟨w6, vs7, rfl, hv7⟩ := len_cons hv6
 obtain ⟨w7, vs8, rfl, hv8⟩ := len_cons hv7
 obtain rfl := len_nil hv8
 obtain ⟨b5, rfl⟩ := ptr_of hB.2.2.2.2.2.2.2.1
 refine ⟨[0, 1, 2], [.obj b2 28 (.agg (.pair (.eq (.slice none 0 0)) (.pair (.eq (.slice none 0 0)) (.pair (.eq (.slice none 0 0)) (.eq (.slice none 0 0)))))), .obj b1 28 (.rep tChange a0), .obj b5 28 (.agg (.pair (.eq (.slice none 0 0)) (.pair (.eq (.slice none 0 0)) (.pair (.eq (.slice none 0 0)) (.eq (.slice none 0 0))))))], by kernel_rfl, by decide, ?_⟩
 refine JT.front 2 rfl ?_
 refine JT.n11 rfl rfl (o_store rfl sz28 trivial rfl rfl) ⟨rfl, rfl, trivial⟩ (by kernel_rfl) ?_
 refine JT.nil ?_
 refine JN.se (SE.fin (Γ' := [(1, .eq (.pointer (some ⟨b1, 0, none⟩))), (2, .eq (.pointer (some ⟨b2, 0, none⟩))), (3, .eq (.pointer (some ⟨b5, 0, none⟩)))]) (Δ' := [.obj b5 28 (.agg (.pair (.eq (.slice none 0 0)) (.pair (.eq (.slice none 0 0)) (.pair (.rep (.slice (.int .i64)) r3) (.rep (.slice (.int .i64)) r4))))), .obj b2 28 (.agg (.pair (.eq (.slice none 0 0)) (.pair (.eq (.slice none 0 0)) (.pair (.eq (.slice none 0 0)) (.eq (.slice none 0 0)))))), .obj b1 28 (.rep tChange a0)]) [0, 1, 2] ⟨rfl, rfl, rfl, trivial⟩ rfl) ?_
 refine JN.then_n ?_
 show JC _ _ _ _ _
 refine JC.cutB (Z := Value) (α := (List dThing)) (fun z7 x6 => [(1, .eq (.pointer (some ⟨b1, 0, none⟩))), (2, .eq (.pointer (some ⟨b2, 0, none⟩))), (3, .eq (.pointer (some ⟨b5, 0, none⟩)))]) (fun z7 x6 => [.obj b1 28 (.rep tChange a0), .obj b2 28 (.agg (.pair (.eq (.slice none 0 0)) (.pair (.eq (.slice none 0 0)) (.pair (.eq (.slice none 0 0)) (.eq (.slice none 0 0)))))), .obj b5 28 (.agg (.pair (.eq z7) (.pair (.eq (.slice none 0 0)) (.pair (.rep (.slice (.int .i64)) r3) (.rep (.slice (.int .i64)) r4))))), .sl z7 45 tThing x6]) h (fun K h => ?_) (fun z7 x6 h => ?_)
 ·
  refine sr ?_
  refine cq ?_
  refine nt ?_
  refine JC.block ?_
  refine JC.se (SE.nil 45 tThing) ?_
  refine JC.loopB (Z := Value) (α := (List dThing) × Int) (fun z9 y8 => [(1, .eq (.pointer (some ⟨b1, 0, none⟩))), (2, .eq (.pointer (some ⟨b2, 0, none⟩))), (3, .eq (.pointer (some ⟨b5, 0, none⟩))), (4, .eq (.int .i64 y8.2))]) (fun z9 y8 => [.obj b1 28 (.rep tChange a0), .obj b2 28 (.agg (.pair (.eq (.slice none 0 0)) (.pair (.eq (.slice none 0 0)) (.pair (.eq (.slice none 0 0)) (.eq (.slice none 0 0)))))), .obj b5 28 (.agg (.pair (.eq z9) (.pair (.eq (.slice none 0 0)) (.pair (.rep (.slice (.int .i64)) r3) (.rep (.slice (.int .i64)) r4))))), .sl z9 45 tThing y8.1]) (kit_CopyChangeF_l1 k a0) k (.slice none 0 0) (([] : (List dThing)), (0 : Int)) (fun _ => rfl) h (SE.fin [3, 2, 1, 0] ⟨rfl, rfl, rfl, rfl, trivial⟩ rfl) (fun n z9 y8 h => ?_)
  unfold kit_CopyChangeF_l1 at h
  refine JC.seq ?_
  refine sr ?_
  refine mq ?_
  refine ja (o_field_obj rfl fo28_0) ?_
  refine ka (o_load_obj rfl sz25 (fun _ => rfl) rfl) ?_
  refine ja (o_len rfl rfl Try.underlying25) ?_
  refine jb (o_lss rfl) ?_
  refine nt ?_
  refine JC.cond rfl (fun hb => ?_) (fun hb => ?_)
  ·
   replace h := b_if (d_t hb) h
   refine JC.skip ?_
   refine JN.then_n ?_
   show JC _ _ _ _ _
   refine JC.seq ?_
   refine JC.block ?_
   refine sr ?_
   refine ja (o_field_obj rfl fo28_0) ?_
   refine ka (o_load_obj rfl sz25 (fun _ => rfl) rfl) ?_
   refine mq ?_
   obtain ⟨x10, ex10, h⟩ := b_bind h
   refine jb (o_index (t := tThing) rfl Try.underlying25 sz45 ex10) ?_
   refine ja (o_load_at (t := tThing) rfl sz45 rfl) ?_
   refine JO.s01 rfl rfl rfl (o_alloc rfl za45 al45) trivial fun b11 => ?_
   refine JO.n11 rfl rfl (o_store rfl sz45 rfl rfl rfl) ⟨rfl, rfl, trivial⟩ ?_
   refine nt ?_
   refine sr ?_
   refine ja (o_field_obj rfl fo45_0) ?_
   refine ka (o_load_obj rfl sz22 (fun _ => rfl) rfl) ?_
   obtain ⟨r12, er12, h⟩ := b_bind h
   have cr12 := kit_CopyInts_ok k x10.1 r12 er12
   refine JO.s01 rfl rfl rfl (o_call [.tmp 28] rfl rfl en37 rfl cr12) ⟨rfl, trivial⟩ fun v13 => ?_
   refine ja (o_field_obj rfl fo45_0) ?_
   refine JO.one fun o14 => ?_
   refine JO.front 1 rfl ?_
   refine JO.n11 rfl rfl (o_store rfl sz22 o14 rfl rfl) ⟨rfl, rfl, trivial⟩ ?_
   refine nt ?_
   refine JC.region ?_
   refine ja (o_field_obj rfl fo28_0) ?_
   refine JO.front 4 rfl ?_
   refine ka (o_load_obj rfl sz25 (fun _ => rfl) rfl) ?_
   refine JO.front 1 rfl ?_
   refine JO.front 2 rfl ?_
   refine JO.se (SE.frzBoth (off := 0) [29] ⟨rfl, trivial⟩ rfl rfl) ?_
   refine ka (o_load_obj rfl sz45 (nfn) rfl) ?_
   refine ja (o_litB (t := tThing) [(.tmp 33, _)] [(r12, x10.2)] rfl rfl sl25 (.cons trivial (.agg (.pair .rep .rep)) .nil) rfl rfl) ?_
   obtain ⟨u15, eu15, h⟩ := b_bind h
   refine JO.front 4 rfl ?_
   refine JO.s1x rfl rfl rfl (o_append rfl rfl sl25 (chkP_some eu15)) ⟨rfl, rfl, trivial⟩ fun v16 => ?_
   refine ja (o_field_obj rfl fo28_0) ?_
   refine JO.one fun o17 => ?_
   refine JO.front 2 rfl ?_
   refine JO.n11 rfl rfl (o_store rfl sz25 o17 rfl rfl) ⟨rfl, rfl, trivial⟩ ?_
   refine JO.nil ?_
   refine JN.blk_n ?_
   refine JN.then_n ?_
   show JC _ _ _ _ _
   refine JC.region ?_
   refine mq ?_
   obtain ⟨x18, ex18, h⟩ := b_bind h
   refine jb (o_add rfl ex18) ?_
   refine aq ?_
   refine JO.nil ?_
   refine JN.then_n ?_
   exact JN.z (v16, (y8.1 ++ [(r12, x10.2)], x18)) h (SE.fin [3, 4, 0, 1] ⟨rfl, rfl, rfl, rfl, trivial⟩ rfl)
  ·
   replace h := b_ifn (d_f hb) h
   refine JC.exit ?_
   refine JN.then_x ?_
   refine JN.then_x ?_
   refine JN.blk_hit ?_
   refine JN.then_n ?_
   exact JN.z (z9, y8.1) h (SE.fin [0, 1, 2, 3] ⟨rfl, rfl, rfl, trivial⟩ rfl)
 ·
  refine JC.cutB (Z := Value) (α := (List dDresser)) (fun z20 x19 => [(2, .eq (.pointer (some ⟨b2, 0, none⟩))), (3, .eq (.pointer (some ⟨b5, 0, none⟩)))]) (fun z20 x19 => [.obj b2 28 (.agg (.pair (.eq (.slice none 0 0)) (.pair (.eq (.slice none 0 0)) (.pair (.eq (.slice none 0 0)) (.eq (.slice none 0 0)))))), .obj b5 28 (.agg (.pair (.eq z7) (.pair (.eq z20) (.pair (.rep (.slice (.int .i64)) r3) (.rep (.slice (.int .i64)) r4))))), .sl z7 45 tThing x6, .sl z20 53 tDresser x19]) h (fun K h => ?_) (fun z20 x19 h => ?_)
  ·
   refine sr ?_
   refine cq ?_
   refine nt ?_
   refine JC.block ?_
   refine JC.se (SE.nil 53 tDresser) ?_
   refine JC.loopB (Z := Value) (α := (List dDresser) × Int) (fun z22 y21 => [(1, .eq (.pointer (some ⟨b1, 0, none⟩))), (2, .eq (.pointer (some ⟨b2, 0, none⟩))), (3, .eq (.pointer (some ⟨b5, 0, none⟩))), (6, .eq (.int .i64 y21.2))]) (fun z22 y21 => [.obj b1 28 (.rep tChange a0), .obj b2 28 (.agg (.pair (.eq (.slice none 0 0)) (.pair (.eq (.slice none 0 0)) (.pair (.eq (.slice none 0 0)) (.eq (.slice none 0 0)))))), .obj b5 28 (.agg (.pair (.eq z7) (.pair (.eq z22) (.pair (.rep (.slice (.int .i64)) r3) (.rep (.slice (.int .i64)) r4))))), .sl z7 45 tThing x6, .sl z22 53 tDresser y21.1]) (kit_CopyChangeF_l2 k a0) k (.slice none 0 0) (([] : (List dDresser)), (0 : Int)) (fun _ => rfl) h (SE.fin [1, 2, 3, 4, 0] ⟨rfl, rfl, rfl, rfl, trivial⟩ rfl) (fun n z22 y21 h => ?_)
   unfold kit_CopyChangeF_l2 at h
   refine JC.seq ?_
   refine sr ?_
   refine mq ?_
   refine ja (o_field_obj rfl fo28_1) ?_
   refine ka (o_load_obj rfl sz26 (fun _ => rfl) rfl) ?_
   refine ja (o_len rfl rfl Try.underlying26) ?_
   refine jb (o_lss rfl) ?_
   refine nt ?_
   refine JC.cond rfl (fun hb => ?_) (fun hb => ?_)
   ·
    replace h := b_if (d_t hb) h
    refine JC.skip ?_
    refine JN.then_n ?_
    show JC _ _ _ _ _
    refine JC.seq ?_
    refine JC.block ?_
    refine sr ?_
    refine ja (o_field_obj rfl fo28_1) ?_
    refine ka (o_load_obj rfl sz26 (fun _ => rfl) rfl) ?_
    refine mq ?_
    obtain ⟨x23, ex23, h⟩ := b_bind h
    refine jb (o_index (t := tDresser) rfl Try.underlying26 sz53 ex23) ?_
    refine ja (o_load_at (t := tDresser) rfl sz53 rfl) ?_
    refine JO.s01 rfl rfl rfl (o_alloc rfl za53 al53) trivial fun b24 => ?_
    refine JO.n11 rfl rfl (o_store rfl sz53 rfl rfl rfl) ⟨rfl, rfl, trivial⟩ ?_
    refine nt ?_
    refine sr ?_
    refine ja (o_field_obj rfl fo53_0) ?_
    refine ka (o_load_obj rfl sz22 (fun _ => rfl) rfl) ?_
    obtain ⟨r25, er25, h⟩ := b_bind h
    have cr25 := kit_CopyInts_ok k x23.1 r25 er25
    refine JO.s01 rfl rfl rfl (o_call [.tmp 50] rfl rfl en37 rfl cr25) ⟨rfl, trivial⟩ fun v26 => ?_
    refine ja (o_field_obj rfl fo53_0) ?_
    refine JO.one fun o27 => ?_
    refine JO.front 1 rfl ?_
    refine JO.n11 rfl rfl (o_store rfl sz22 o27 rfl rfl) ⟨rfl, rfl, trivial⟩ ?_
    refine nt ?_
    refine JC.region ?_
    refine ja (o_field_obj rfl fo28_1) ?_
    refine JO.front 4 rfl ?_
    refine ka (o_load_obj rfl sz26 (fun _ => rfl) rfl) ?_
    refine JO.front 1 rfl ?_
    refine JO.front 2 rfl ?_
    refine JO.se (SE.frzBoth (off := 0) [51] ⟨rfl, trivial⟩ rfl rfl) ?_
    refine ka (o_load_obj rfl sz53 (nfn) rfl) ?_
    refine ja (o_litB (t := tDresser) [(.tmp 55, _)] [(r25, x23.2)] rfl rfl sl26 (.cons trivial (.agg (.pair .rep .rep)) .nil) rfl rfl) ?_
    obtain ⟨u28, eu28, h⟩ := b_bind h
    refine JO.front 5 rfl ?_
    refine JO.s1x rfl rfl rfl (o_append rfl rfl sl26 (chkP_some eu28)) ⟨rfl, rfl, trivial⟩ fun v29 => ?_
    refine ja (o_field_obj rfl fo28_1) ?_
    refine JO.one fun o30 => ?_
    refine JO.front 2 rfl ?_
    refine JO.n11 rfl rfl (o_store rfl sz26 o30 rfl rfl) ⟨rfl, rfl, trivial⟩ ?_
    refine JO.nil ?_
    refine JN.blk_n ?_
    refine JN.then_n ?_
    show JC _ _ _ _ _
    refine JC.region ?_
    refine mq ?_
    obtain ⟨x31, ex31, h⟩ := b_bind h
    refine jb (o_add rfl ex31) ?_
    refine aq ?_
    refine JO.nil ?_
    refine JN.then_n ?_
    exact JN.z (v29, (y21.1 ++ [(r25, x23.2)], x31)) h (SE.fin [3, 4, 0, 5, 1] ⟨rfl, rfl, rfl, rfl, trivial⟩ rfl)
   ·
    replace h := b_ifn (d_f hb) h
    refine JC.exit ?_
    refine JN.then_x ?_
    refine JN.then_x ?_
    refine JN.blk_hit ?_
    refine JN.then_n ?_
    exact JN.z (z22, y21.1) h (SE.fin [1, 2, 3, 4] ⟨rfl, rfl, trivial⟩ rfl)
  ·
   refine sr ?_
   refine JO.front 1 rfl ?_
   refine JO.front 2 rfl ?_
   refine JO.se (SE.frzBoth (off := 0) [] trivial rfl rfl) ?_
   refine JO.front 2 rfl ?_
   refine JO.se (SE.frzBoth (off := 1) [] trivial rfl rfl) ?_
   refine ka (o_load_obj rfl sz28 (nfn) rfl) ?_
   refine JO.front 1 rfl ?_
   refine JO.n11 rfl rfl (o_store rfl sz28 trivial rfl rfl) ⟨rfl, rfl, trivial⟩ ?_
   refine nt ?_
   refine JC.ret ?_
   refine JN.se (SE.objE (a := .agg (.pair (.rep (.slice tThing) x6) (.pair (.rep (.slice tDresser) x19) (.pair (.rep (.slice (.int .i64)) r3) (.rep (.slice (.int .i64)) r4))))) (a' := .rep tChange (x6, x19, r3, r4)) (AE.ent (.agg (.pair .rep (.pair .rep (.pair .rep .rep)))))) ?_
   obtain rfl := Option.some.inj h
   exact JN.ret () [.rep tChange (x6, x19, r3, r4)] 0 ⟨⟨_, _, _, _, _, rfl, (.head _), sz28, (nfn), rfl⟩, trivial⟩ rfl


end Go.Proofs.Ytfhdclhbdmhnmaa
