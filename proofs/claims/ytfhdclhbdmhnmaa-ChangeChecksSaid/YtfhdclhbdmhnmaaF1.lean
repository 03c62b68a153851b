/- The program's functions, part 3: what each computes, and that the code computes it. Printed by a program of this proof's own. -/
import Derived.Test.YtfhdclhbdmhnmaaP2
set_option linter.unusedVariables false
set_option maxRecDepth 4000
namespace Go.Proofs.Ytfhdclhbdmhnmaa
open K Go Go.Proofs
def chg_Tasks_l1 (k : Nat) (q3 : (dChange × (List (Bool × Int)) × (List Int))) : Nat → ((List dTask) × Int) → Option (List dTask)
 | 0, _ => none
 | n + 1, y9 =>
  if y9.2 < (q3.2.1.length : Int) then ((((geti q3.2.1 y9.2).bind fun x13 =>
  if ¬ (x13.1 = true) then ((chg_off_thing k (cond x13.1 (0 : Int) x13.2)).bind fun r14 =>
  (chkP (okLen (List.length y9.1 + List.length [(r14, false)]))).bind fun _ =>
  some (y9.1 ++ [(r14, false)])) else (if x13.1 = true then ((chg_on_thing k (cond x13.1 x13.2 (0 : Int))).bind fun r17 =>
  (chkP (okLen (List.length y9.1 + List.length [(r17, true)]))).bind fun _ =>
  some (y9.1 ++ [(r17, true)])) else (some y9.1))) : Option ((List dTask))).bind fun x11 =>
  (ck (y9.2 + (1 : Int))).bind fun x20 =>
  chg_Tasks_l1 k q3 n (x11, x20)) else (some y9.1)
def chg_Tasks (k : Nat) (a0 : dChange) : Option ((List dTask) × Int) :=
 (chg_begin k a0).bind fun r2 =>
 casesO r2.1 (if ¬ (r2.2 = (0 : Int)) then (some ([], r2.2)) else (none)) (fun q3 => if ¬ (r2.2 = (0 : Int)) then (some ([], r2.2)) else (((chg_Tasks_l1 k q3 k (([] : (List dTask)), (0 : Int))) : Option ((List dTask))).bind fun x7 =>
 some (x7, (0 : Int))))

theorem chg_Tasks_ok (k : Nat) (a0 : dChange) (r : (List dTask) × Int) (h : chg_Tasks k a0 = some r) :
 Ctr Try.prog 34 [.rep tChange a0] [] (fun _ : Unit => (resA [.rep (.slice tTask) r.1, .eq (.int .i64 r.2)], [])) := by
 unfold chg_Tasks at h
 replace h := b_top h
 refine Ctr.of 49 Try.func34 rfl Try.ntmps34 rfl fun S w0 => ?_
 refine sr ?_
 refine JO.s01 rfl rfl rfl (o_box rfl rfl) ⟨rfl, trivial⟩ fun b1 => ?_
 refine cq ?_
 refine cq ?_
 refine nt ?_
 refine sr ?_
 refine ka (o_load_obj rfl sz28 (nfn) rfl) ?_
 obtain ⟨r2, er2, h⟩ := b_bind h
 have cr2 := chg_begin_ok k a0 r2 er2
 rcases hr : r2.1 with _ | q3
 ·
  rw [hr] at h cr2; replace h := co_n h
  refine JO.stepG (Δ := []) (F := _) (fun _ _ _ => wanted_none rfl _) rfl rfl (o_call [.tmp 12] rfl rfl en67 rfl cr2) ⟨rfl, trivial⟩ fun _ => ?_
  refine mq ?_
  refine ja (o_extract rfl rfl) ?_
  refine ja (o_extract rfl rfl) ?_
  refine aq ?_
  refine aq ?_
  refine nt ?_
  refine JC.seq ?_
  refine sr ?_
  refine mq ?_
  refine jb (o_neq rfl) ?_
  refine nt ?_
  refine JC.cond rfl (fun hb => ?_) (fun hb => ?_)
  ·
   replace h := b_if (n_t hb) h
   refine sr ?_
   refine mq ?_
   refine cq ?_
   refine aq ?_
   refine nt ?_
   refine JC.ret ?_
   refine JN.then_r ?_
   refine JN.se (SE.ent (t := (.slice tTask)) (x := []) 2 rfl .nil rfl rfl) ?_
   obtain rfl := Option.some.inj h
   exact JN.ret () [_, _] 0 ⟨rfl, rfl, trivial⟩ rfl
  ·
   replace h := b_ifn (n_fn hb) h
   refine JC.skip ?_
   refine JN.then_n ?_
   show JC _ _ _ _ _
   refine sr ?_
   refine cq ?_
   refine nt ?_
   refine JC.seq ?_
   refine sr ?_
   refine mq ?_
   cases h
 ·
  rw [hr] at h cr2; replace h := co_s h
  refine JO.stepG (Δ := []) (F := _) (fun _ _ _ => wanted_none rfl _) rfl rfl (o_call [.tmp 12] rfl rfl en67 rfl cr2) ⟨rfl, trivial⟩ fun z6 => ?_
  refine mq ?_
  refine ja (o_extract rfl rfl) ?_
  refine ja (o_extract rfl rfl) ?_
  refine aq ?_
  refine aq ?_
  refine nt ?_
  refine JC.seq ?_
  refine sr ?_
  refine mq ?_
  refine jb (o_neq rfl) ?_
  refine nt ?_
  refine JC.cond rfl (fun hb => ?_) (fun hb => ?_)
  ·
   replace h := b_if (n_t hb) h
   refine sr ?_
   refine mq ?_
   refine cq ?_
   refine aq ?_
   refine nt ?_
   refine JC.ret ?_
   refine JN.then_r ?_
   refine JN.se (SE.ent (t := (.slice tTask)) (x := []) 2 rfl .nil rfl rfl) ?_
   obtain rfl := Option.some.inj h
   exact JN.ret () [_, _] 0 ⟨rfl, rfl, trivial⟩ rfl
  ·
   replace h := b_ifn (n_fn hb) h
   refine JC.skip ?_
   refine JN.then_n ?_
   show JC _ _ _ _ _
   refine sr ?_
   refine cq ?_
   refine nt ?_
   refine JC.cutB (Z := Value) (α := (List dTask)) (fun z8 x7 => [(6, .eq z8)]) (fun z8 x7 => [.sl z8 41 tTask x7, .raw z6.2 (.map #[] 0)]) h (fun K h => ?_) (fun z8 x7 h => ?_)
   ·
    refine sr ?_
    refine mq ?_
    refine ja (o_nil_obj rfl) ?_
    refine ja (o_field_obj rfl fo120_1) ?_
    refine ka (o_load_obj rfl sz116 (fun _ => rfl) rfl) ?_
    refine ja (o_len rfl rfl Try.underlying116) ?_
    refine JO.mc rfl ?_
    refine nt ?_
    refine JC.block ?_
    refine JC.se (SE.nil 41 tTask) ?_
    refine JC.loopB (Z := Value) (α := (List dTask) × Int) (fun z10 y9 => [(6, .eq z10), (22, .rep (.slice (.tag 131 133)) q3.2.1), (23, .eq (.int .i64 (q3.2.1.length : Int))), (24, .eq (.int .i64 y9.2))]) (fun z10 y9 => [.sl z10 41 tTask y9.1, .raw z6.2 (.map #[] 0)]) (chg_Tasks_l1 k q3) k (.slice none 0 0) (([] : (List dTask)), (0 : Int)) (fun _ => rfl) h (SE.fin [0, 2] ⟨rfl, rfl, rfl, rfl, trivial⟩ rfl) (fun n z10 y9 h => ?_)
    unfold chg_Tasks_l1 at h
    refine sr ?_
    refine jb (o_lss rfl) ?_
    refine nt ?_
    refine JC.seq ?_
    refine JC.cond rfl (fun hb => ?_) (fun hb => ?_)
    ·
     replace h := b_if (d_t hb) h
     refine JC.skip ?_
     refine JN.then_n ?_
     show JC _ _ _ _ _
     refine JC.cutB (Z := Value) (α := (List dTask)) (fun z12 x11 => [(6, .eq z12), (22, .rep (.slice (.tag 131 133)) q3.2.1), (23, .eq (.int .i64 (q3.2.1.length : Int))), (24, .eq (.int .i64 y9.2))]) (fun z12 x11 => [.sl z12 41 tTask x11, .raw z6.2 (.map #[] 0)]) h (fun K h => ?_) (fun z12 x11 h => ?_)
     ·
      refine JC.block ?_
      refine sr ?_
      obtain ⟨x13, ex13, h⟩ := b_bind h
      refine jb (o_index (t := (.tag 131 133)) rfl Try.underlying116 sz130 ex13) ?_
      refine ja (o_load_at (t := (.tag 131 133)) rfl sz130 rfl) ?_
      refine aq ?_
      refine nt ?_
      refine sr ?_
      refine mq ?_
      refine nt ?_
      refine JC.block ?_
      refine sr ?_
      refine JO.s rfl (o_as0 rfl ta131 (by decide)) ⟨rfl, trivial⟩ ?_
      refine ja (o_extract rfl rfl) ?_
      refine ja (o_extract rfl rfl) ?_
      refine nt ?_
      refine JC.cond rfl (fun hb => ?_) (fun hb => ?_)
      ·
       replace h := b_if (nv_t hb) h
       refine sr ?_
       refine aq ?_
       refine nt ?_
       refine JC.region ?_
       iterate 2 refine mq ?_
       obtain ⟨r14, er14, h⟩ := b_bind h
       have cr14 := chg_off_thing_ok k (cond x13.1 (0 : Int) x13.2) r14 er14
       refine ja (o_call [.tmp 33] rfl rfl en79 rfl cr14) ?_
       refine ja (o_buildT [(0, .tmp 34, _)] rfl pl41 za41 alb41 (stors ⟨rfl, trivial⟩) rfl) ?_
       refine ja (o_litB (t := tTask) [(.tmp 35, _)] [(r14, false)] rfl rfl sl38 (.cons trivial (.agg (.pair .int .bool)) .nil) rfl rfl) ?_
       obtain ⟨u15, eu15, h⟩ := b_bind h
       refine JO.s1x rfl rfl rfl (o_append rfl rfl sl38 (chkP_some eu15)) ⟨rfl, rfl, trivial⟩ fun v16 => ?_
       refine aq ?_
       refine JO.nil ?_
       refine JN.blk_n ?_
       refine JN.blk_n ?_
       refine JN.then_n ?_
       exact JN.z (v16, y9.1 ++ [(r14, false)]) h (SE.fin [0, 1] ⟨rfl, rfl, rfl, rfl, trivial⟩ rfl)
      ·
       replace h := b_ifn (nv_fn hb) h
       refine sr ?_
       refine JO.s rfl (o_as1 rfl ta133 (by decide)) ⟨rfl, trivial⟩ ?_
       refine ja (o_extract rfl rfl) ?_
       refine ja (o_extract rfl rfl) ?_
       refine nt ?_
       refine JC.cond rfl (fun hb => ?_) (fun hb => ?_)
       ·
        replace h := b_if (v_t hb) h
        refine sr ?_
        refine aq ?_
        refine nt ?_
        refine JC.region ?_
        iterate 2 refine mq ?_
        obtain ⟨r17, er17, h⟩ := b_bind h
        have cr17 := chg_on_thing_ok k (cond x13.1 x13.2 (0 : Int)) r17 er17
        refine ja (o_call [.tmp 42] rfl rfl en80 rfl cr17) ?_
        refine jb (o_buildT [(0, .tmp 43, _), (1, .const (.bool true), _)] rfl pl41 za41 alb41 (stors ⟨rfl, rfl, trivial⟩) rfl) ?_
        refine ja (o_litB (t := tTask) [(.tmp 44, _)] [(r17, true)] rfl rfl sl38 (.cons trivial (.agg (.pair .int .bool)) .nil) rfl rfl) ?_
        obtain ⟨u18, eu18, h⟩ := b_bind h
        refine JO.s1x rfl rfl rfl (o_append rfl rfl sl38 (chkP_some eu18)) ⟨rfl, rfl, trivial⟩ fun v19 => ?_
        refine aq ?_
        refine JO.nil ?_
        refine JN.blk_n ?_
        refine JN.blk_n ?_
        refine JN.then_n ?_
        exact JN.z (v19, y9.1 ++ [(r17, true)]) h (SE.fin [0, 1] ⟨rfl, rfl, rfl, rfl, trivial⟩ rfl)
       ·
        replace h := b_ifn (v_f hb) h
        refine JC.skip ?_
        refine JN.blk_n ?_
        refine JN.blk_n ?_
        refine JN.then_n ?_
        exact JN.z (z10, y9.1) h (SE.fin [0, 1] ⟨rfl, rfl, rfl, rfl, trivial⟩ rfl)
     ·
      refine JC.region ?_
      obtain ⟨x20, ex20, h⟩ := b_bind h
      refine jb (o_add rfl ex20) ?_
      refine mq ?_
      refine JO.nil ?_
      refine JN.then_n ?_
      exact JN.z (z12, (x11, x20)) h (SE.fin [0, 1] ⟨rfl, rfl, rfl, rfl, trivial⟩ rfl)
    ·
     replace h := b_ifn (d_f hb) h
     refine JC.exit ?_
     refine JN.then_x ?_
     refine JN.then_x ?_
     refine JN.blk_hit ?_
     refine JN.then_n ?_
     exact JN.z (z10, y9.1) h (SE.fin [0, 1] ⟨rfl, trivial⟩ rfl)
   ·
    refine sr ?_
    refine mq ?_
    refine aq ?_
    refine cq ?_
    refine nt ?_
    refine JC.ret ?_
    refine JN.se (SE.frz [2, 6, 48] ⟨rfl, rfl, rfl, trivial⟩) ?_
    obtain rfl := Option.some.inj h
    exact JN.ret () [_, _] 0 ⟨rfl, rfl, trivial⟩ rfl


def kit_SameTasks_l1 (k : Nat) (a0 : (List dTask)) (a1 : (List dTask)) : Nat → Int → Option (Except Bool Unit)
 | 0, _ => none
 | n + 1, y3 =>
  if y3 < (a0.length : Int) then ((geti a0 y3).bind fun x5 =>
  (geti a1 y3).bind fun x6 =>
  if ¬ (x5 = x6) then (some (.error false)) else ((ck (y3 + (1 : Int))).bind fun x7 =>
  kit_SameTasks_l1 k a0 a1 n x7)) else (some (.ok ()))
def kit_SameTasks (k : Nat) (a0 : (List dTask)) (a1 : (List dTask)) : Option Bool :=
 if ¬ ((a0.length : Int) = (a1.length : Int)) then (some false) else (bE (α := Unit) (kit_SameTasks_l1 k a0 a1 k (0 : Int)) (some) fun _ =>
 some true)

theorem kit_SameTasks_ok (k : Nat) (a0 : (List dTask)) (a1 : (List dTask)) (r : Bool) (h : kit_SameTasks k a0 a1 = some r) :
 Ctr Try.prog 35 [.rep (.slice tTask) a0, .rep (.slice tTask) a1] [] (fun _ : Unit => (resA [.eq (.bool r)], [])) := by
 unfold kit_SameTasks at h
 replace h := b_top h
 refine Ctr.of 26 Try.func35 rfl Try.ntmps35 rfl fun S w0 => ?_
 refine sr ?_
 refine cq ?_
 refine nt ?_
 refine JC.seq ?_
 refine sr ?_
 refine mq ?_
 refine ja (o_len rfl rfl Try.underlying38) ?_
 refine mq ?_
 refine ja (o_len rfl rfl Try.underlying38) ?_
 refine jb (o_neq rfl) ?_
 refine nt ?_
 refine JC.cond rfl (fun hb => ?_) (fun hb => ?_)
 ·
  replace h := b_if (n_t hb) h
  refine sr ?_
  refine cq ?_
  refine nt ?_
  refine JC.ret ?_
  refine JN.then_r ?_
  obtain rfl := Option.some.inj h
  exact JN.ret () [_] 0 ⟨rfl, trivial⟩ rfl
 ·
  replace h := b_ifn (n_fn hb) h
  refine JC.skip ?_
  refine JN.then_n ?_
  show JC _ _ _ _ _
  refine JC.cutE (Z := Unit) (α := Unit) (fun z2 x1 => []) (fun z2 x1 => []) (fun e => e = r) h (fun e h => Option.some.inj h) (fun K hR h => ?_) (fun z2 x1 h => ?_)
  ·
   refine sr ?_
   refine cq ?_
   refine nt ?_
   refine JC.block ?_
   refine JC.loopB (Z := Unit) (α := Int) (fun z4 y3 => [(0, .rep (.slice tTask) a0), (1, .rep (.slice tTask) a1), (5, .eq (.int .i64 y3))]) (fun z4 y3 => []) (kit_SameTasks_l1 k a0 a1) k () (0 : Int) (fun _ => rfl) h (SE.fin [] ⟨rfl, rfl, rfl, trivial⟩ rfl) (fun n z4 y3 h => ?_)
   unfold kit_SameTasks_l1 at h
   refine JC.seq ?_
   refine sr ?_
   iterate 2 refine mq ?_
   refine ja (o_len rfl rfl Try.underlying38) ?_
   refine jb (o_lss rfl) ?_
   refine nt ?_
   refine JC.cond rfl (fun hb => ?_) (fun hb => ?_)
   ·
    replace h := b_if (d_t hb) h
    refine JC.skip ?_
    refine JN.then_n ?_
    show JC _ _ _ _ _
    refine JC.seq ?_
    refine JC.block ?_
    refine JC.seq ?_
    refine JC.drawN ?_
    refine dm ?_
    refine dm ?_
    obtain ⟨x5, ex5, h⟩ := b_bind h
    refine db (o_index (t := tTask) rfl Try.underlying38 sz41 ex5) ?_
    refine da (o_load_at (t := tTask) rfl sz41 rfl) ?_
    refine dm ?_
    refine dm ?_
    obtain ⟨x6, ex6, h⟩ := b_bind h
    refine db (o_index (t := tTask) rfl Try.underlying38 sz41 ex6) ?_
    refine da (o_load_at (t := tTask) rfl sz41 rfl) ?_
    refine DN.fin (by kernel_rfl) mixed ?_
    refine jb (o_neqs rfl eq41 rfl) ?_
    refine nt ?_
    refine JC.cond rfl (fun hb => ?_) (fun hb => ?_)
    ·
     replace h := b_if (n_t hb) h
     refine sr ?_
     refine cq ?_
     refine nt ?_
     refine JC.ret ?_
     refine JN.blk_r ?_
     refine JN.then_r ?_
     refine JN.then_r ?_
     refine JN.blk_r ?_
     refine JN.then_r ?_
     obtain rfl := hR _ h
     exact JN.ret () [_] 0 ⟨rfl, trivial⟩ rfl
    ·
     replace h := b_ifn (n_fn hb) h
     refine JC.skip ?_
     refine JN.blk_n ?_
     refine JN.then_n ?_
     show JC _ _ _ _ _
     refine JC.region ?_
     refine mq ?_
     obtain ⟨x7, ex7, h⟩ := b_bind h
     refine jb (o_add rfl ex7) ?_
     refine aq ?_
     refine JO.nil ?_
     refine JN.then_n ?_
     exact JN.z ((), x7) h (SE.fin [] ⟨rfl, rfl, rfl, trivial⟩ rfl)
   ·
    replace h := b_ifn (d_f hb) h
    refine JC.exit ?_
    refine JN.then_x ?_
    refine JN.then_x ?_
    refine JN.blk_hit ?_
    refine JN.then_n ?_
    exact JN.z ((), ()) h (SE.fin [] trivial rfl)
  ·
   refine sr ?_
   refine cq ?_
   refine nt ?_
   refine JC.ret ?_
   obtain rfl := Option.some.inj h
   exact JN.ret () [_] 0 ⟨rfl, trivial⟩ rfl


def law_long_l1 (k : Nat) (a0 : dChange) : Nat → Int → Option (Except Bool Unit)
 | 0, _ => none
 | n + 1, y6 =>
  if y6 < (a0.1.length : Int) then ((geti a0.1 y6).bind fun x8 =>
  if (20 : Int) < (x8.1.length : Int) then (some (.error true)) else ((ck (y6 + (1 : Int))).bind fun x9 =>
  law_long_l1 k a0 n x9)) else (some (.ok ()))

def law_long_l2 (k : Nat) (a0 : dChange) : Nat → Int → Option (Except Bool Unit)
 | 0, _ => none
 | n + 1, y12 =>
  if y12 < (a0.2.1.length : Int) then ((geti a0.2.1 y12).bind fun x14 =>
  if (20 : Int) < (x14.1.length : Int) then (some (.error true)) else ((ck (y12 + (1 : Int))).bind fun x15 =>
  law_long_l2 k a0 n x15)) else (some (.ok ()))
def law_long (k : Nat) (a0 : dChange) : Option Bool :=
 ((if (20 : Int) < (a0.1.length : Int) then (some true) else (if (20 : Int) < (a0.2.1.length : Int) then (some true) else (if (20 : Int) < (a0.2.2.1.length : Int) then (some true) else (some (decide ((20 : Int) < (a0.2.2.2.length : Int))))))) : Option (Bool)).bind fun x2 =>
 if x2 = true then (some true) else (bE (α := Unit) (law_long_l1 k a0 k (0 : Int)) (some) fun _ =>
 bE (α := Unit) (law_long_l2 k a0 k (0 : Int)) (some) fun _ =>
 some false)

theorem law_long_ok (k : Nat) (a0 : dChange) (r : Bool) (h : law_long k a0 = some r) :
 Ctr Try.prog 45 [.rep tChange a0] [] (fun _ : Unit => (resA [.eq (.bool r)], [])) := by
 unfold law_long at h
 replace h := b_top h
 refine Ctr.of 57 Try.func45 rfl Try.ntmps45 rfl fun S w0 => ?_
 refine sr ?_
 refine JO.s01 rfl rfl rfl (o_box rfl rfl) ⟨rfl, trivial⟩ fun b1 => ?_
 refine cq ?_
 refine nt ?_
 refine JC.seq ?_
 refine JC.cutB (Z := Unit) (α := Bool) (fun z3 x2 => [(1, .eq (.pointer (some ⟨b1, 0, none⟩))), (26, .eq (.bool x2))]) (fun z3 x2 => [.obj b1 28 (.rep tChange a0)]) h (fun K h => ?_) (fun z3 x2 h => ?_)
 ·
  refine JC.region ?_
  refine ja (o_field_obj rfl fo28_0) ?_
  refine ka (o_load_obj rfl sz25 (fun _ => rfl) rfl) ?_
  refine ja (o_len rfl rfl Try.underlying25) ?_
  refine jb (o_gtr rfl) ?_
  refine mq ?_
  refine JO.bool (s := 9) rfl (fun hb => ?_) (fun hb => ?_)
  ·
   replace h := b_if (d_t hb) h
   iterate 4 refine gn ?_
   refine pt ?_
   refine mq ?_
   iterate 4 refine gn ?_
   refine pt ?_
   refine mq ?_
   iterate 4 refine gn ?_
   refine pt ?_
   refine JO.nil ?_
   refine JN.then_n ?_
   exact JN.z ((), true) h (SE.fin [0] ⟨rfl, rfl, trivial⟩ rfl)
  ·
   replace h := b_ifn (d_f hb) h
   refine ga (o_field_obj rfl fo28_1) ?_
   refine JO.g11 rfl rfl rfl rfl rfl rfl (o_load_obj rfl sz26 (fun _ => rfl) rfl) ⟨rfl, trivial⟩ ?_
   refine ga (o_len rfl rfl Try.underlying26) ?_
   refine gb (o_gtr rfl) ?_
   refine pf ?_
   refine mq ?_
   refine JO.bool (s := 15) rfl (fun hb => ?_) (fun hb => ?_)
   ·
    replace h := b_if (d_t hb) h
    iterate 4 refine gn ?_
    refine pt ?_
    refine mq ?_
    iterate 4 refine gn ?_
    refine pt ?_
    refine JO.nil ?_
    refine JN.then_n ?_
    exact JN.z ((), true) h (SE.fin [0] ⟨rfl, rfl, trivial⟩ rfl)
   ·
    replace h := b_ifn (d_f hb) h
    refine ga (o_field_obj rfl fo28_2) ?_
    refine JO.g11 rfl rfl rfl rfl rfl rfl (o_load_obj rfl sz22 (fun _ => rfl) rfl) ⟨rfl, trivial⟩ ?_
    refine ga (o_len rfl rfl Try.underlying22) ?_
    refine gb (o_gtr rfl) ?_
    refine pf ?_
    refine mq ?_
    refine JO.bool (s := 21) rfl (fun hb => ?_) (fun hb => ?_)
    ·
     replace h := b_if (d_t hb) h
     iterate 4 refine gn ?_
     refine pt ?_
     refine JO.nil ?_
     refine JN.then_n ?_
     exact JN.z ((), true) h (SE.fin [0] ⟨rfl, rfl, trivial⟩ rfl)
    ·
     replace h := b_ifn (d_f hb) h
     refine ga (o_field_obj rfl fo28_3) ?_
     refine JO.g11 rfl rfl rfl rfl rfl rfl (o_load_obj rfl sz22 (fun _ => rfl) rfl) ⟨rfl, trivial⟩ ?_
     refine ga (o_len rfl rfl Try.underlying22) ?_
     refine gb (o_gtr rfl) ?_
     refine pf ?_
     refine JO.nil ?_
     refine JN.then_n ?_
     exact JN.z ((), decide ((20 : Int) < (a0.2.2.2.length : Int))) h (SE.fin [0] ⟨rfl, rfl, trivial⟩ rfl)
 ·
  refine JC.cond rfl (fun hb => ?_) (fun hb => ?_)
  ·
   replace h := b_if (v_t hb) h
   refine sr ?_
   refine cq ?_
   refine nt ?_
   refine JC.ret ?_
   refine JN.then_r ?_
   obtain rfl := Option.some.inj h
   exact JN.ret () [_] 0 ⟨rfl, trivial⟩ rfl
  ·
   replace h := b_ifn (v_f hb) h
   refine JC.skip ?_
   refine JN.then_n ?_
   show JC _ _ _ _ _
   refine JC.cutE (Z := Unit) (α := Unit) (fun z5 x4 => [(1, .eq (.pointer (some ⟨b1, 0, none⟩)))]) (fun z5 x4 => [.obj b1 28 (.rep tChange a0)]) (fun e => e = r) h (fun e h => Option.some.inj h) (fun K hR h => ?_) (fun z5 x4 h => ?_)
   ·
    refine sr ?_
    refine cq ?_
    refine nt ?_
    refine JC.block ?_
    refine JC.loopB (Z := Unit) (α := Int) (fun z7 y6 => [(1, .eq (.pointer (some ⟨b1, 0, none⟩))), (3, .eq (.int .i64 y6))]) (fun z7 y6 => [.obj b1 28 (.rep tChange a0)]) (law_long_l1 k a0) k () (0 : Int) (fun _ => rfl) h (SE.fin [0] ⟨rfl, rfl, trivial⟩ rfl) (fun n z7 y6 h => ?_)
    unfold law_long_l1 at h
    refine JC.seq ?_
    refine sr ?_
    refine mq ?_
    refine ja (o_field_obj rfl fo28_0) ?_
    refine ka (o_load_obj rfl sz25 (fun _ => rfl) rfl) ?_
    refine ja (o_len rfl rfl Try.underlying25) ?_
    refine jb (o_lss rfl) ?_
    refine nt ?_
    refine JC.cond rfl (fun hb => ?_) (fun hb => ?_)
    ·
     replace h := b_if (d_t hb) h
     refine JC.skip ?_
     refine JN.then_n ?_
     show JC _ _ _ _ _
     refine JC.seq ?_
     refine JC.block ?_
     refine sr ?_
     refine ja (o_field_obj rfl fo28_0) ?_
     refine ka (o_load_obj rfl sz25 (fun _ => rfl) rfl) ?_
     refine mq ?_
     obtain ⟨x8, ex8, h⟩ := b_bind h
     refine jb (o_index (t := tThing) rfl Try.underlying25 sz45 ex8) ?_
     refine ja (o_field_at 1 false rfl fo45_0 rfl) ?_
     refine ja (o_load_at (t := (.slice (.int .i64))) rfl sz22 rfl) ?_
     refine ja (o_len rfl rfl Try.underlying22) ?_
     refine jb (o_gtr rfl) ?_
     refine nt ?_
     refine JC.cond rfl (fun hb => ?_) (fun hb => ?_)
     ·
      replace h := b_if (d_t hb) h
      refine sr ?_
      refine cq ?_
      refine nt ?_
      refine JC.ret ?_
      refine JN.blk_r ?_
      refine JN.then_r ?_
      refine JN.then_r ?_
      refine JN.blk_r ?_
      refine JN.then_r ?_
      obtain rfl := hR _ h
      exact JN.ret () [_] 0 ⟨rfl, trivial⟩ rfl
     ·
      replace h := b_ifn (d_f hb) h
      refine JC.skip ?_
      refine JN.blk_n ?_
      refine JN.then_n ?_
      show JC _ _ _ _ _
      refine JC.region ?_
      refine mq ?_
      obtain ⟨x9, ex9, h⟩ := b_bind h
      refine jb (o_add rfl ex9) ?_
      refine aq ?_
      refine JO.nil ?_
      refine JN.then_n ?_
      exact JN.z ((), x9) h (SE.fin [0] ⟨rfl, rfl, trivial⟩ rfl)
    ·
     replace h := b_ifn (d_f hb) h
     refine JC.exit ?_
     refine JN.then_x ?_
     refine JN.then_x ?_
     refine JN.blk_hit ?_
     refine JN.then_n ?_
     exact JN.z ((), ()) h (SE.fin [0] ⟨rfl, trivial⟩ rfl)
   ·
    refine JC.cutE (Z := Unit) (α := Unit) (fun z11 x10 => []) (fun z11 x10 => []) (fun e => e = r) h (fun e h => Option.some.inj h) (fun K hR h => ?_) (fun z11 x10 h => ?_)
    ·
     refine sr ?_
     refine cq ?_
     refine nt ?_
     refine JC.block ?_
     refine JC.loopB (Z := Unit) (α := Int) (fun z13 y12 => [(1, .eq (.pointer (some ⟨b1, 0, none⟩))), (4, .eq (.int .i64 y12))]) (fun z13 y12 => [.obj b1 28 (.rep tChange a0)]) (law_long_l2 k a0) k () (0 : Int) (fun _ => rfl) h (SE.fin [0] ⟨rfl, rfl, trivial⟩ rfl) (fun n z13 y12 h => ?_)
     unfold law_long_l2 at h
     refine JC.seq ?_
     refine sr ?_
     refine mq ?_
     refine ja (o_field_obj rfl fo28_1) ?_
     refine ka (o_load_obj rfl sz26 (fun _ => rfl) rfl) ?_
     refine ja (o_len rfl rfl Try.underlying26) ?_
     refine jb (o_lss rfl) ?_
     refine nt ?_
     refine JC.cond rfl (fun hb => ?_) (fun hb => ?_)
     ·
      replace h := b_if (d_t hb) h
      refine JC.skip ?_
      refine JN.then_n ?_
      show JC _ _ _ _ _
      refine JC.seq ?_
      refine JC.block ?_
      refine sr ?_
      refine ja (o_field_obj rfl fo28_1) ?_
      refine ka (o_load_obj rfl sz26 (fun _ => rfl) rfl) ?_
      refine mq ?_
      obtain ⟨x14, ex14, h⟩ := b_bind h
      refine jb (o_index (t := tDresser) rfl Try.underlying26 sz53 ex14) ?_
      refine ja (o_field_at 1 false rfl fo53_0 rfl) ?_
      refine ja (o_load_at (t := (.slice (.int .i64))) rfl sz22 rfl) ?_
      refine ja (o_len rfl rfl Try.underlying22) ?_
      refine jb (o_gtr rfl) ?_
      refine nt ?_
      refine JC.cond rfl (fun hb => ?_) (fun hb => ?_)
      ·
       replace h := b_if (d_t hb) h
       refine sr ?_
       refine cq ?_
       refine nt ?_
       refine JC.ret ?_
       refine JN.blk_r ?_
       refine JN.then_r ?_
       refine JN.then_r ?_
       refine JN.blk_r ?_
       refine JN.then_r ?_
       obtain rfl := hR _ h
       exact JN.ret () [_] 0 ⟨rfl, trivial⟩ rfl
      ·
       replace h := b_ifn (d_f hb) h
       refine JC.skip ?_
       refine JN.blk_n ?_
       refine JN.then_n ?_
       show JC _ _ _ _ _
       refine JC.region ?_
       refine mq ?_
       obtain ⟨x15, ex15, h⟩ := b_bind h
       refine jb (o_add rfl ex15) ?_
       refine aq ?_
       refine JO.nil ?_
       refine JN.then_n ?_
       exact JN.z ((), x15) h (SE.fin [0] ⟨rfl, rfl, trivial⟩ rfl)
     ·
      replace h := b_ifn (d_f hb) h
      refine JC.exit ?_
      refine JN.then_x ?_
      refine JN.then_x ?_
      refine JN.blk_hit ?_
      refine JN.then_n ?_
      exact JN.z ((), ()) h (SE.fin [] trivial rfl)
    ·
     refine sr ?_
     refine cq ?_
     refine nt ?_
     refine JC.ret ?_
     obtain rfl := Option.some.inj h
     exact JN.ret () [_] 0 ⟨rfl, trivial⟩ rfl


def law_sets (k : Nat) (a0 : dChange) (a1 : dLots) : Option ((List dChange) × dLots) :=
 (kit_ChangeOf k (a1.1, a1.2.1, a1.2.2)).bind fun r2 =>
 (kit_CopyChange k r2.1).bind fun r4 =>
 (((kit_Lots_Upto k (r2.2.1, r2.2.2.1, r2.2.2.2) (2 : Int)).bind fun r9 =>
 if r9.1 = (0 : Int) then ((kit_CopyInts k a0.2.2.2).bind fun r10 =>
 some (r4.1, r4.2.1, r10, r9.2.1, r9.2.2.1, r9.2.2.2)) else (if r9.1 = (1 : Int) then (if (0 : Int) < (a0.1.length : Int) then ((ck ((r4.1.length : Int) - (1 : Int))).bind fun x13 =>
 (kit_Lots_Upto k (r9.2.1, r9.2.2.1, r9.2.2.2) x13).bind fun r14 =>
 (kit_CopyChangeF k a0).bind fun r15 =>
 (geti r15.1 (0 : Int)).bind fun x16 =>
 (geti r4.1 r14.1).bind fun x17 =>
 some (List.set r4.1 (Int.toNat r14.1) x16, r4.2.1, r4.2.2.2, r14.2.1, r14.2.2.1, r14.2.2.2)) else (some (r4.1, r4.2.1, r4.2.2.2, r9.2.1, r9.2.2.1, r9.2.2.2))) else (if r9.1 = (2 : Int) then (if (0 : Int) < (a0.2.1.length : Int) then ((ck ((r4.2.1.length : Int) - (1 : Int))).bind fun x18 =>
 (kit_Lots_Upto k (r9.2.1, r9.2.2.1, r9.2.2.2) x18).bind fun r19 =>
 (kit_CopyChangeF k a0).bind fun r20 =>
 (geti r20.2.1 (0 : Int)).bind fun x21 =>
 (geti r4.2.1 r19.1).bind fun x22 =>
 some (r4.1, List.set r4.2.1 (Int.toNat r19.1) x21, r4.2.2.2, r19.2.1, r19.2.2.1, r19.2.2.2)) else (some (r4.1, r4.2.1, r4.2.2.2, r9.2.1, r9.2.2.1, r9.2.2.2))) else (some (r4.1, r4.2.1, r4.2.2.2, r9.2.1, r9.2.2.1, r9.2.2.2))))) : Option ((List dThing) × (List dDresser) × (List Int) × (List Int) × Int × Int)).bind fun x7 =>
 some ([a0, r2.1, (x7.1, x7.2.1, r4.2.2.1, x7.2.2.1), r2.1], (x7.2.2.2.1, x7.2.2.2.2.1, x7.2.2.2.2.2))

theorem law_sets_ok (k : Nat) (a0 : dChange) (a1 : dLots) (b_a1 : Nat) (r : (List dChange) × dLots) (h : law_sets k a0 a1 = some r) :
 Ctr Try.prog 46 [.rep tChange a0, .eq (.pointer (some ⟨b_a1, 0, none⟩))] [.obj b_a1 93 (.agg (.pair (.rep (.slice (.int .i64)) a1.1) (.pair (.eq (.int .i64 a1.2.1)) (.eq (.int .u64 a1.2.2)))))] (fun _ : Unit => (resA [.rep (.slice tChange) r.1], [.obj b_a1 93 (.agg (.pair (.rep (.slice (.int .i64)) r.2.1) (.pair (.eq (.int .i64 r.2.2.1)) (.eq (.int .u64 r.2.2.2)))))])) := by
 unfold law_sets at h
 replace h := b_top h
 refine Ctr.of 64 Try.func46 rfl Try.ntmps46 rfl fun S w0 => ?_
 refine sr ?_
 refine JO.s01 rfl rfl rfl (o_box rfl rfl) ⟨rfl, trivial⟩ fun b1 => ?_
 refine cq ?_
 refine nt ?_
 refine sr ?_
 refine mq ?_
 obtain ⟨r2, er2, h⟩ := b_bind h
 have cr2 := kit_ChangeOf_ok k (a1.1, a1.2.1, a1.2.2) b_a1 r2 er2
 refine JO.front 1 rfl ?_
 refine ka (o_call [.tmp 7] rfl rfl en18 rfl cr2) ?_
 refine JO.s01 rfl rfl rfl (o_alloc rfl za28 al28) trivial fun b3 => ?_
 refine JO.n11 rfl rfl (o_store rfl sz28 rfl rfl rfl) ⟨rfl, rfl, trivial⟩ ?_
 refine nt ?_
 refine sr ?_
 refine ka (o_load_obj rfl sz28 (nfn) rfl) ?_
 obtain ⟨r4, er4, h⟩ := b_bind h
 have cr4 := kit_CopyChange_ok k r2.1 r4 er4
 refine JO.stepG (Δ := []) (F := _) (fun _ _ _ => wanted_none rfl _) rfl rfl (o_call [.tmp 9] rfl rfl en27 rfl cr4) ⟨rfl, trivial⟩ fun z5 => ?_
 refine JO.s01 rfl rfl rfl (o_alloc rfl za28 al28) trivial fun b6 => ?_
 refine JO.n11 rfl rfl (o_store rfl sz28 trivial rfl rfl) ⟨rfl, rfl, trivial⟩ ?_
 refine nt ?_
 refine JC.cutB (Z := Unit) (α := (List dThing) × (List dDresser) × (List Int) × (List Int) × Int × Int) (fun z8 x7 => [(2, .eq (.pointer (some ⟨b1, 0, none⟩))), (5, .eq (.pointer (some ⟨b3, 0, none⟩))), (6, .eq (.pointer (some ⟨b6, 0, none⟩)))]) (fun z8 x7 => [.obj b1 28 (.rep tChange a0), .obj b3 28 (.rep tChange r2.1), .obj b6 28 (.agg (.pair (.eq z5.1) (.pair (.eq z5.2) (.pair (.rep (.slice (.int .i64)) r4.2.2.1) (.rep (.slice (.int .i64)) x7.2.2.1))))), .sl z5.1 45 tThing x7.1, .sl z5.2 53 tDresser x7.2.1, .obj b_a1 93 (.agg (.pair (.rep (.slice (.int .i64)) x7.2.2.2.1) (.pair (.eq (.int .i64 x7.2.2.2.2.1)) (.eq (.int .u64 x7.2.2.2.2.2)))))]) h (fun K h => ?_) (fun z8 x7 h => ?_)
 ·
  refine sr ?_
  refine mq ?_
  obtain ⟨r9, er9, h⟩ := b_bind h
  have cr9 := kit_Lots_Upto_ok k (r2.2.1, r2.2.2.1, r2.2.2.2) b_a1 (2 : Int) r9 er9
  refine JO.front 4 rfl ?_
  refine kb (o_call [.tmp 11, .const (.int .i64 (2))] rfl rfl en32 rfl cr9) ?_
  refine nt ?_
  refine JC.block ?_
  refine sr ?_
  refine jb (o_eql rfl) ?_
  refine aq ?_
  refine nt ?_
  refine JC.cond rfl (fun hb => ?_) (fun hb => ?_)
  ·
   replace h := b_if (d_t hb) h
   refine JC.region ?_
   refine ja (o_field_obj rfl fo28_3) ?_
   refine JO.front 5 rfl ?_
   refine ka (o_load_obj rfl sz22 (fun _ => rfl) rfl) ?_
   obtain ⟨r10, er10, h⟩ := b_bind h
   have cr10 := kit_CopyInts_ok k a0.2.2.2 r10 er10
   refine JO.s01 rfl rfl rfl (o_call [.tmp 16] rfl rfl en37 rfl cr10) ⟨rfl, trivial⟩ fun v11 => ?_
   refine ja (o_field_obj rfl fo28_3) ?_
   refine JO.one fun o12 => ?_
   refine JO.front 3 rfl ?_
   refine JO.n11 rfl rfl (o_store rfl sz22 o12 rfl rfl) ⟨rfl, rfl, trivial⟩ ?_
   refine JO.nil ?_
   refine JN.blk_n ?_
   refine JN.then_n ?_
   refine JN.front 1 rfl ?_
   refine JN.se (SE.frzBoth (off := 3) [17] ⟨rfl, trivial⟩ rfl rfl) ?_
   exact JN.z ((), (r4.1, r4.2.1, r10, r9.2.1, r9.2.2.1, r9.2.2.2)) h (SE.fin [1, 5, 0, 3, 4, 2] ⟨rfl, rfl, rfl, trivial⟩ rfl)
  ·
   replace h := b_ifn (d_f hb) h
   refine sr ?_
   refine jb (o_eql rfl) ?_
   refine aq ?_
   refine nt ?_
   refine JC.cond rfl (fun hb => ?_) (fun hb => ?_)
   ·
    replace h := b_if (d_t hb) h
    refine sr ?_
    refine ja (o_field_obj rfl fo28_0) ?_
    refine JO.front 5 rfl ?_
    refine ka (o_load_obj rfl sz25 (fun _ => rfl) rfl) ?_
    refine ja (o_len rfl rfl Try.underlying25) ?_
    refine jb (o_gtr rfl) ?_
    refine nt ?_
    refine JC.cond rfl (fun hb => ?_) (fun hb => ?_)
    ·
     replace h := b_if (d_t hb) h
     refine JC.drawN ?_
     refine da (o_field_obj rfl fo28_0) ?_
     refine ea 2 (o_load_obj rfl sz25 (fun _ => rfl) rfl) ?_
     refine dm ?_
     refine da (o_field_obj rfl fo28_0) ?_
     refine ea 2 (o_load_obj rfl sz25 (fun _ => rfl) rfl) ?_
     refine ea 3 (o_len_own rfl rfl Try.underlying25) ?_
     obtain ⟨x13, ex13, h⟩ := b_bind h
     refine db (o_sub rfl ex13) ?_
     obtain ⟨r14, er14, h⟩ := b_bind h
     have cr14 := kit_Lots_Upto_ok k (r9.2.1, r9.2.2.1, r9.2.2.2) b_a1 x13 r14 er14
     refine DN.sMod 1 rfl rfl rfl rfl (o_call [.tmp 27, .tmp 31] rfl rfl en32 rfl cr14) ⟨rfl, rfl, trivial⟩ ?_
     refine ea 0 (o_load_obj rfl sz28 (nfn) rfl) ?_
     obtain ⟨r15, er15, h⟩ := b_bind h
     have cr15 := kit_CopyChangeF_ok k a0 r15 er15
     refine da (o_call [.tmp 33] rfl rfl en27 rfl cr15) ?_
     refine da (o_field rfl Try.underlying28 rfl sz25 (fun _ => rfl) rfl rfl rfl) ?_
     obtain ⟨x16, ex16, h⟩ := b_bind h
     refine db (o_index (t := tThing) rfl Try.underlying25 sz45 ex16) ?_
     refine da (o_load_at (t := tThing) rfl sz45 rfl) ?_
     refine DN.finE (Δ' := [.obj b1 28 (.rep tChange a0), .obj b6 28 (.agg (.pair (.eq z5.1) (.pair (.eq z5.2) (.pair (.rep (.slice (.int .i64)) r4.2.2.1) (.rep (.slice (.int .i64)) r4.2.2.2))))), .sl z5.1 45 tThing r4.1, .sl z5.2 53 tDresser r4.2.1, .obj b3 28 (.rep tChange r2.1), .obj b_a1 93 (.agg (.pair (.rep (.slice (.int .i64)) r14.2.1) (.pair (.eq (.int .i64 r14.2.2.1)) (.eq (.int .u64 r14.2.2.2)))))]) (by kernel_rfl) mixed (by kernel_rfl) ?_
     obtain ⟨x17, ex17, h⟩ := b_bind h
     refine JO.front 2 rfl ?_
     refine kb (o_index_own (t := tThing) rfl Try.underlying25 sz45 ex17) ?_
     refine JO.n11 rfl rfl (o_store_elW (i := Int.toNat r14.1) rfl sz45 rfl (geti_lt ex17) rfl .rep rfl) ⟨rfl, rfl, trivial⟩ ?_
     refine JO.nil ?_
     refine JN.blk_n ?_
     refine JN.then_n ?_
     exact JN.z ((), (List.set r4.1 (Int.toNat r14.1) x16, r4.2.1, r4.2.2.2, r14.2.1, r14.2.2.1, r14.2.2.2)) h (SE.fin [1, 4, 2, 0, 3, 5] ⟨rfl, rfl, rfl, trivial⟩ rfl)
    ·
     replace h := b_ifn (d_f hb) h
     refine JC.skip ?_
     refine JN.blk_n ?_
     refine JN.then_n ?_
     exact JN.z ((), (r4.1, r4.2.1, r4.2.2.2, r9.2.1, r9.2.2.1, r9.2.2.2)) h (SE.fin [0, 5, 2, 3, 4, 1] ⟨rfl, rfl, rfl, trivial⟩ rfl)
   ·
    replace h := b_ifn (d_f hb) h
    refine sr ?_
    refine jb (o_eql rfl) ?_
    refine aq ?_
    refine nt ?_
    refine JC.cond rfl (fun hb => ?_) (fun hb => ?_)
    ·
     replace h := b_if (d_t hb) h
     refine sr ?_
     refine ja (o_field_obj rfl fo28_1) ?_
     refine JO.front 5 rfl ?_
     refine ka (o_load_obj rfl sz26 (fun _ => rfl) rfl) ?_
     refine ja (o_len rfl rfl Try.underlying26) ?_
     refine jb (o_gtr rfl) ?_
     refine nt ?_
     refine JC.cond rfl (fun hb => ?_) (fun hb => ?_)
     ·
      replace h := b_if (d_t hb) h
      refine JC.drawN ?_
      refine da (o_field_obj rfl fo28_1) ?_
      refine ea 2 (o_load_obj rfl sz26 (fun _ => rfl) rfl) ?_
      refine dm ?_
      refine da (o_field_obj rfl fo28_1) ?_
      refine ea 2 (o_load_obj rfl sz26 (fun _ => rfl) rfl) ?_
      refine ea 4 (o_len_own rfl rfl Try.underlying26) ?_
      obtain ⟨x18, ex18, h⟩ := b_bind h
      refine db (o_sub rfl ex18) ?_
      obtain ⟨r19, er19, h⟩ := b_bind h
      have cr19 := kit_Lots_Upto_ok k (r9.2.1, r9.2.2.1, r9.2.2.2) b_a1 x18 r19 er19
      refine DN.sMod 1 rfl rfl rfl rfl (o_call [.tmp 47, .tmp 51] rfl rfl en32 rfl cr19) ⟨rfl, rfl, trivial⟩ ?_
      refine ea 0 (o_load_obj rfl sz28 (nfn) rfl) ?_
      obtain ⟨r20, er20, h⟩ := b_bind h
      have cr20 := kit_CopyChangeF_ok k a0 r20 er20
      refine da (o_call [.tmp 53] rfl rfl en27 rfl cr20) ?_
      refine da (o_field rfl Try.underlying28 rfl sz26 (fun _ => rfl) rfl rfl rfl) ?_
      obtain ⟨x21, ex21, h⟩ := b_bind h
      refine db (o_index (t := tDresser) rfl Try.underlying26 sz53 ex21) ?_
      refine da (o_load_at (t := tDresser) rfl sz53 rfl) ?_
      refine DN.finE (Δ' := [.obj b1 28 (.rep tChange a0), .obj b6 28 (.agg (.pair (.eq z5.1) (.pair (.eq z5.2) (.pair (.rep (.slice (.int .i64)) r4.2.2.1) (.rep (.slice (.int .i64)) r4.2.2.2))))), .sl z5.1 45 tThing r4.1, .sl z5.2 53 tDresser r4.2.1, .obj b3 28 (.rep tChange r2.1), .obj b_a1 93 (.agg (.pair (.rep (.slice (.int .i64)) r19.2.1) (.pair (.eq (.int .i64 r19.2.2.1)) (.eq (.int .u64 r19.2.2.2)))))]) (by kernel_rfl) mixed (by kernel_rfl) ?_
      obtain ⟨x22, ex22, h⟩ := b_bind h
      refine JO.front 3 rfl ?_
      refine kb (o_index_own (t := tDresser) rfl Try.underlying26 sz53 ex22) ?_
      refine JO.n11 rfl rfl (o_store_elW (i := Int.toNat r19.1) rfl sz53 rfl (geti_lt ex22) rfl .rep rfl) ⟨rfl, rfl, trivial⟩ ?_
      refine JO.nil ?_
      refine JN.blk_n ?_
      refine JN.then_n ?_
      exact JN.z ((), (r4.1, List.set r4.2.1 (Int.toNat r19.1) x21, r4.2.2.2, r19.2.1, r19.2.2.1, r19.2.2.2)) h (SE.fin [1, 4, 2, 3, 0, 5] ⟨rfl, rfl, rfl, trivial⟩ rfl)
     ·
      replace h := b_ifn (d_f hb) h
      refine JC.skip ?_
      refine JN.blk_n ?_
      refine JN.then_n ?_
      exact JN.z ((), (r4.1, r4.2.1, r4.2.2.2, r9.2.1, r9.2.2.1, r9.2.2.2)) h (SE.fin [0, 5, 2, 3, 4, 1] ⟨rfl, rfl, rfl, trivial⟩ rfl)
    ·
     replace h := b_ifn (d_f hb) h
     refine JC.skip ?_
     refine JN.blk_n ?_
     refine JN.then_n ?_
     exact JN.z ((), (r4.1, r4.2.1, r4.2.2.2, r9.2.1, r9.2.2.1, r9.2.2.2)) h (SE.fin [5, 4, 1, 2, 3, 0] ⟨rfl, rfl, rfl, trivial⟩ rfl)
 ·
  refine sr ?_
  refine ka (o_load_obj rfl sz28 (nfn) rfl) ?_
  refine JO.front 1 rfl ?_
  refine ka (o_load_obj rfl sz28 (nfn) rfl) ?_
  refine JO.front 2 rfl ?_
  refine JO.front 3 rfl ?_
  refine JO.se (SE.frzBoth (off := 0) [] trivial rfl rfl) ?_
  refine JO.front 3 rfl ?_
  refine JO.se (SE.frzBoth (off := 1) [] trivial rfl rfl) ?_
  refine ka (o_load_obj rfl sz28 (nfn) rfl) ?_
  refine JO.front 1 rfl ?_
  refine ka (o_load_obj rfl sz28 (nfn) rfl) ?_
  refine JO.s rfl (o_litB (t := tChange) [(.tmp 59, _), (.tmp 60, _), (.tmp 61, _), (.tmp 62, _)] [a0, r2.1, (x7.1, x7.2.1, r4.2.2.1, x7.2.2.1), r2.1] rfl rfl sl62 (.cons rfl .rep (.cons rfl .rep (.cons trivial (.agg (.pair .rep (.pair .rep (.pair .rep .rep)))) (.cons rfl .rep .nil)))) rfl rfl) ⟨rfl, rfl, rfl, rfl, trivial⟩ ?_
  refine aq ?_
  refine nt ?_
  refine JC.ret ?_
  refine JN.se (SE.fin (Γ' := [(4, _)]) [3, 0, 1, 2] ⟨rfl, trivial⟩ rfl) ?_
  obtain rfl := Option.some.inj h
  exact JN.ret () [_] 1 ⟨rfl, trivial⟩ rfl


def ref_sized (k : Nat) (a0 : Int) (a1 : Int) : Option Int :=
 if a0 = (0 : Int) then (some (7 : Int)) else (if a1 < a0 then (some (6 : Int)) else (some (0 : Int)))

theorem ref_sized_ok (k : Nat) (a0 : Int) (a1 : Int) (r : Int) (h : ref_sized k a0 a1 = some r) :
 Ctr Try.prog 92 [.eq (.int .i64 a0), .eq (.int .i64 a1)] [] (fun _ : Unit => (resA [.eq (.int .i64 r)], [])) := by
 unfold ref_sized at h
 replace h := b_top h
 refine Ctr.of 10 Try.func92 rfl Try.ntmps92 rfl fun S w0 => ?_
 refine sr ?_
 refine cq ?_
 refine nt ?_
 refine JC.seq ?_
 refine sr ?_
 refine mq ?_
 refine jb (o_eql rfl) ?_
 refine nt ?_
 refine JC.cond rfl (fun hb => ?_) (fun hb => ?_)
 ·
  replace h := b_if (d_t hb) h
  refine sr ?_
  refine cq ?_
  refine nt ?_
  refine JC.ret ?_
  refine JN.then_r ?_
  obtain rfl := Option.some.inj h
  exact JN.ret () [_] 0 ⟨rfl, trivial⟩ rfl
 ·
  replace h := b_ifn (d_f hb) h
  refine JC.skip ?_
  refine JN.then_n ?_
  show JC _ _ _ _ _
  refine JC.seq ?_
  refine sr ?_
  iterate 2 refine mq ?_
  refine jb (o_gtr rfl) ?_
  refine nt ?_
  refine JC.cond rfl (fun hb => ?_) (fun hb => ?_)
  ·
   replace h := b_if (d_t hb) h
   refine sr ?_
   refine cq ?_
   refine nt ?_
   refine JC.ret ?_
   refine JN.then_r ?_
   obtain rfl := Option.some.inj h
   exact JN.ret () [_] 0 ⟨rfl, trivial⟩ rfl
  ·
   replace h := b_ifn (d_f hb) h
   refine JC.skip ?_
   refine JN.then_n ?_
   show JC _ _ _ _ _
   refine sr ?_
   refine cq ?_
   refine nt ?_
   refine JC.ret ?_
   obtain rfl := Option.some.inj h
   exact JN.ret () [_] 0 ⟨rfl, trivial⟩ rfl


def ref_inside (k : Nat) (a0 : Int) (a1 : Int) (a2 : Int) : Option Bool :=
 ((if a1 ≤ a0 then (some (decide (a0 ≤ a2))) else (some false)) : Option (Bool)).bind fun x1 =>
 some x1

theorem ref_inside_ok (k : Nat) (a0 : Int) (a1 : Int) (a2 : Int) (r : Bool) (h : ref_inside k a0 a1 a2 = some r) :
 Ctr Try.prog 94 [.eq (.int .i64 a0), .eq (.int .i64 a1), .eq (.int .i64 a2)] [] (fun _ : Unit => (resA [.eq (.bool r)], [])) := by
 unfold ref_inside at h
 replace h := b_top h
 refine Ctr.of 15 Try.func94 rfl Try.ntmps94 rfl fun S w0 => ?_
 refine sr ?_
 refine cq ?_
 refine nt ?_
 refine JC.cutB (Z := Unit) (α := Bool) (fun z2 x1 => [(6, .eq (.bool x1))]) (fun z2 x1 => []) h (fun K h => ?_) (fun z2 x1 h => ?_)
 ·
  refine JC.region ?_
  iterate 2 refine mq ?_
  refine jb (o_geq rfl) ?_
  refine mq ?_
  refine JO.bool (s := 10) rfl (fun hb => ?_) (fun hb => ?_)
  ·
   replace h := b_if (d_t hb) h
   refine gm ?_
   refine gm ?_
   refine gb (o_leq rfl) ?_
   refine pt ?_
   refine aq ?_
   refine JO.nil ?_
   refine JN.then_n ?_
   exact JN.z ((), decide (a0 ≤ a2)) h (SE.fin [] ⟨rfl, trivial⟩ rfl)
  ·
   replace h := b_ifn (d_f hb) h
   iterate 3 refine gn ?_
   refine pf ?_
   refine aq ?_
   refine JO.nil ?_
   refine JN.then_n ?_
   exact JN.z ((), false) h (SE.fin [] ⟨rfl, trivial⟩ rfl)
 ·
  refine JC.ret ?_
  obtain rfl := Option.some.inj h
  exact JN.ret () [_] 0 ⟨rfl, trivial⟩ rfl


def ref_things_l1 (k : Nat) (a0 : dChange) (a1 : (List Int)) (a2 : Int) : Nat → Int → Option (Except Int Unit)
 | 0, _ => none
 | n + 1, y4 =>
  if y4 < (a1.length : Int) then ((((geti a1 y4).bind fun x8 =>
  (ck ((a0.1.length : Int) - (1 : Int))).bind fun x9 =>
  (ref_inside k x8 (0 : Int) x9).bind fun r10 =>
  if ¬ (r10 = true) then (some true) else ((geti a1 y4).bind fun x11 =>
  some (decide (x11 = a2)))) : Option (Bool)).bind fun x6 =>
  if x6 = true then (some (.error (3 : Int))) else (((if (0 : Int) < y4 then ((geti a1 y4).bind fun x14 =>
  (ck (y4 - (1 : Int))).bind fun x15 =>
  (geti a1 x15).bind fun x16 =>
  some (decide (x14 ≤ x16))) else (some false)) : Option (Bool)).bind fun x12 =>
  if x12 = true then (some (.error (5 : Int))) else ((ck (y4 + (1 : Int))).bind fun x17 =>
  ref_things_l1 k a0 a1 a2 n x17))) else (some (.ok ()))
def ref_things (k : Nat) (a0 : dChange) (a1 : (List Int)) (a2 : Int) : Option Int :=
 bE (α := Unit) (ref_things_l1 k a0 a1 a2 k (0 : Int)) (some) fun _ =>
 some (0 : Int)

theorem ref_things_ok (k : Nat) (a0 : dChange) (a1 : (List Int)) (a2 : Int) (r : Int) (h : ref_things k a0 a1 a2 = some r) :
 Ctr Try.prog 93 [.rep tChange a0, .rep (.slice (.int .i64)) a1, .eq (.int .i64 a2)] [] (fun _ : Unit => (resA [.eq (.int .i64 r)], [])) := by
 unfold ref_things at h
 replace h := b_top h
 refine Ctr.of 46 Try.func93 rfl Try.ntmps93 rfl fun S w0 => ?_
 refine sr ?_
 refine JO.s01 rfl rfl rfl (o_box rfl rfl) ⟨rfl, trivial⟩ fun b1 => ?_
 refine cq ?_
 refine nt ?_
 refine JC.cutE (Z := Unit) (α := Unit) (fun z3 x2 => []) (fun z3 x2 => []) (fun e => e = r) h (fun e h => Option.some.inj h) (fun K hR h => ?_) (fun z3 x2 h => ?_)
 ·
  refine sr ?_
  refine cq ?_
  refine nt ?_
  refine JC.block ?_
  refine JC.loopB (Z := Unit) (α := Int) (fun z5 y4 => [(1, .rep (.slice (.int .i64)) a1), (2, .eq (.int .i64 a2)), (3, .eq (.pointer (some ⟨b1, 0, none⟩))), (7, .eq (.int .i64 y4))]) (fun z5 y4 => [.obj b1 28 (.rep tChange a0)]) (ref_things_l1 k a0 a1 a2) k () (0 : Int) (fun _ => rfl) h (SE.fin [0] ⟨rfl, rfl, rfl, rfl, trivial⟩ rfl) (fun n z5 y4 h => ?_)
  unfold ref_things_l1 at h
  refine JC.seq ?_
  refine sr ?_
  iterate 2 refine mq ?_
  refine ja (o_len rfl rfl Try.underlying22) ?_
  refine jb (o_lss rfl) ?_
  refine nt ?_
  refine JC.cond rfl (fun hb => ?_) (fun hb => ?_)
  ·
   replace h := b_if (d_t hb) h
   refine JC.skip ?_
   refine JN.then_n ?_
   show JC _ _ _ _ _
   refine JC.seq ?_
   refine JC.block ?_
   refine JC.seq ?_
   refine JC.cutB (Z := Unit) (α := Bool) (fun z7 x6 => [(1, .rep (.slice (.int .i64)) a1), (2, .eq (.int .i64 a2)), (3, .eq (.pointer (some ⟨b1, 0, none⟩))), (7, .eq (.int .i64 y4)), (31, .eq (.bool x6))]) (fun z7 x6 => [.obj b1 28 (.rep tChange a0)]) h (fun K h => ?_) (fun z7 x6 h => ?_)
   ·
    refine JC.drawN ?_
    refine dm ?_
    refine dm ?_
    obtain ⟨x8, ex8, h⟩ := b_bind h
    refine db (o_index (t := (.int .i64)) rfl Try.underlying22 sz3 ex8) ?_
    refine da (o_load_at (t := (.int .i64)) rfl sz3 rfl) ?_
    refine da (o_field_obj rfl fo28_0) ?_
    refine ea 0 (o_load_obj rfl sz25 (fun _ => rfl) rfl) ?_
    refine da (o_len rfl rfl Try.underlying25) ?_
    obtain ⟨x9, ex9, h⟩ := b_bind h
    refine db (o_sub rfl ex9) ?_
    obtain ⟨r10, er10, h⟩ := b_bind h
    have cr10 := ref_inside_ok k x8 (0 : Int) x9 r10 er10
    refine dc (o_call [.tmp 17, .const (.int .i64 (0)), .tmp 21] rfl rfl en94 rfl cr10) ?_
    refine da (o_not rfl) ?_
    refine DN.fork rfl rfl rfl (o_move rfl) ⟨rfl, trivial⟩ (fun hb => ?_) (fun hb => ?_)
    ·
     replace h := b_if (nv_t hb) h
     iterate 5 refine dg ?_
     refine DN.fin (by kernel_rfl) mixed ?_
     refine gn ?_
     refine pt ?_
     refine JO.nil ?_
     refine JN.then_n ?_
     exact JN.z ((), true) h (SE.fin [0] ⟨rfl, rfl, rfl, rfl, rfl, trivial⟩ rfl)
    ·
     replace h := b_ifn (nv_fn hb) h
     refine DN.sg00 rfl rfl rfl rfl rfl (o_move rfl) ⟨rfl, rfl, trivial⟩ ?_
     refine DN.sg00 rfl rfl rfl rfl rfl (o_move rfl) ⟨rfl, rfl, trivial⟩ ?_
     obtain ⟨x11, ex11, h⟩ := b_bind h
     refine DN.sg00 rfl rfl rfl rfl rfl (o_index (t := (.int .i64)) rfl Try.underlying22 sz3 ex11) ⟨rfl, rfl, rfl, trivial⟩ ?_
     refine DN.sg00 rfl rfl rfl rfl rfl (o_load_at (t := (.int .i64)) rfl sz3 rfl) ⟨rfl, rfl, trivial⟩ ?_
     refine DN.sg00 rfl rfl rfl rfl rfl (o_move rfl) ⟨rfl, rfl, trivial⟩ ?_
     refine DN.fin (by kernel_rfl) mixed ?_
     refine gb (o_eql rfl) ?_
     refine pf ?_
     refine JO.nil ?_
     refine JN.then_n ?_
     exact JN.z ((), decide (x11 = a2)) h (SE.fin [0] ⟨rfl, rfl, rfl, rfl, rfl, trivial⟩ rfl)
   ·
    refine JC.cond rfl (fun hb => ?_) (fun hb => ?_)
    ·
     replace h := b_if (v_t hb) h
     refine sr ?_
     refine cq ?_
     refine nt ?_
     refine JC.ret ?_
     refine JN.then_r ?_
     refine JN.blk_r ?_
     refine JN.then_r ?_
     refine JN.then_r ?_
     refine JN.blk_r ?_
     refine JN.then_r ?_
     obtain rfl := hR _ h
     exact JN.ret () [_] 0 ⟨rfl, trivial⟩ rfl
    ·
     replace h := b_ifn (v_f hb) h
     refine JC.skip ?_
     refine JN.then_n ?_
     show JC _ _ _ _ _
     refine JC.cutB (Z := Unit) (α := Bool) (fun z13 x12 => [(1, .rep (.slice (.int .i64)) a1), (2, .eq (.int .i64 a2)), (3, .eq (.pointer (some ⟨b1, 0, none⟩))), (7, .eq (.int .i64 y4)), (45, .eq (.bool x12))]) (fun z13 x12 => [.obj b1 28 (.rep tChange a0)]) h (fun K h => ?_) (fun z13 x12 h => ?_)
     ·
      refine JC.drawN ?_
      refine dm ?_
      refine db (o_gtr rfl) ?_
      refine DN.fork rfl rfl rfl (o_move rfl) ⟨rfl, trivial⟩ (fun hb => ?_) (fun hb => ?_)
      ·
       replace h := b_if (d_t hb) h
       refine DN.sg00 rfl rfl rfl rfl rfl (o_move rfl) ⟨rfl, rfl, trivial⟩ ?_
       refine DN.sg00 rfl rfl rfl rfl rfl (o_move rfl) ⟨rfl, rfl, trivial⟩ ?_
       obtain ⟨x14, ex14, h⟩ := b_bind h
       refine DN.sg00 rfl rfl rfl rfl rfl (o_index (t := (.int .i64)) rfl Try.underlying22 sz3 ex14) ⟨rfl, rfl, rfl, trivial⟩ ?_
       refine DN.sg00 rfl rfl rfl rfl rfl (o_load_at (t := (.int .i64)) rfl sz3 rfl) ⟨rfl, rfl, trivial⟩ ?_
       refine DN.sg00 rfl rfl rfl rfl rfl (o_move rfl) ⟨rfl, rfl, trivial⟩ ?_
       refine DN.sg00 rfl rfl rfl rfl rfl (o_move rfl) ⟨rfl, rfl, trivial⟩ ?_
       obtain ⟨x15, ex15, h⟩ := b_bind h
       refine DN.sg00 rfl rfl rfl rfl rfl (o_sub rfl ex15) ⟨rfl, rfl, rfl, trivial⟩ ?_
       obtain ⟨x16, ex16, h⟩ := b_bind h
       refine DN.sg00 rfl rfl rfl rfl rfl (o_index (t := (.int .i64)) rfl Try.underlying22 sz3 ex16) ⟨rfl, rfl, rfl, trivial⟩ ?_
       refine DN.sg00 rfl rfl rfl rfl rfl (o_load_at (t := (.int .i64)) rfl sz3 rfl) ⟨rfl, rfl, trivial⟩ ?_
       refine DN.fin (by kernel_rfl) mixed ?_
       refine gb (o_leq rfl) ?_
       refine pt ?_
       refine JO.nil ?_
       refine JN.then_n ?_
       exact JN.z ((), decide (x14 ≤ x16)) h (SE.fin [0] ⟨rfl, rfl, rfl, rfl, rfl, trivial⟩ rfl)
      ·
       replace h := b_ifn (d_f hb) h
       iterate 9 refine dg ?_
       refine DN.fin (by kernel_rfl) mixed ?_
       refine gn ?_
       refine pf ?_
       refine JO.nil ?_
       refine JN.then_n ?_
       exact JN.z ((), false) h (SE.fin [0] ⟨rfl, rfl, rfl, rfl, rfl, trivial⟩ rfl)
     ·
      refine JC.cond rfl (fun hb => ?_) (fun hb => ?_)
      ·
       replace h := b_if (v_t hb) h
       refine sr ?_
       refine cq ?_
       refine nt ?_
       refine JC.ret ?_
       refine JN.blk_r ?_
       refine JN.then_r ?_
       refine JN.then_r ?_
       refine JN.blk_r ?_
       refine JN.then_r ?_
       obtain rfl := hR _ h
       exact JN.ret () [_] 0 ⟨rfl, trivial⟩ rfl
      ·
       replace h := b_ifn (v_f hb) h
       refine JC.skip ?_
       refine JN.blk_n ?_
       refine JN.then_n ?_
       show JC _ _ _ _ _
       refine JC.region ?_
       refine mq ?_
       obtain ⟨x17, ex17, h⟩ := b_bind h
       refine jb (o_add rfl ex17) ?_
       refine aq ?_
       refine JO.nil ?_
       refine JN.then_n ?_
       exact JN.z ((), x17) h (SE.fin [0] ⟨rfl, rfl, rfl, rfl, trivial⟩ rfl)
  ·
   replace h := b_ifn (d_f hb) h
   refine JC.exit ?_
   refine JN.then_x ?_
   refine JN.then_x ?_
   refine JN.blk_hit ?_
   refine JN.then_n ?_
   exact JN.z ((), ()) h (SE.fin [] trivial rfl)
 ·
  refine sr ?_
  refine cq ?_
  refine nt ?_
  refine JC.ret ?_
  obtain rfl := Option.some.inj h
  exact JN.ret () [_] 0 ⟨rfl, trivial⟩ rfl


def ref_ring_l3 (k : Nat) (a0 : dChange) (y10 : (List Bool) × Int) : Nat → ((List Bool) × Int) → Option (List Bool)
 | 0, _ => none
 | n + 1, y17 =>
  (geti a0.1 y10.2).bind fun x19 =>
  if y17.2 < (x19.1.length : Int) then ((geti a0.1 y10.2).bind fun x20 =>
  (geti x20.1 y17.2).bind fun x21 =>
  (geti y17.1 x21).bind fun x22 =>
  (ck (y17.2 + (1 : Int))).bind fun x23 =>
  ref_ring_l3 k a0 y10 n (List.set y17.1 (Int.toNat x21) true, x23)) else (some y17.1)

def ref_ring_l2 (k : Nat) (a0 : dChange) (a1 : Int) : Nat → ((List Bool) × Int) → Option (List Bool)
 | 0, _ => none
 | n + 1, y10 =>
  if y10.2 < (a0.1.length : Int) then (((((if ¬ (y10.2 = a1) then ((geti y10.1 y10.2).bind fun x16 =>
  some (!x16)) else (some false)) : Option (Bool)).bind fun x14 =>
  if x14 = true then (some y10.1) else (ref_ring_l3 k a0 y10 k (y10.1, (0 : Int)))) : Option ((List Bool))).bind fun x12 =>
  (ck (y10.2 + (1 : Int))).bind fun x24 =>
  ref_ring_l2 k a0 a1 n (x12, x24)) else (some y10.1)

def ref_ring_l1 (k : Nat) (a0 : dChange) (a1 : Int) : Nat → ((List Bool) × Int) → Option (List Bool)
 | 0, _ => none
 | n + 1, y6 =>
  if y6.2 < (a0.1.length : Int) then (((ref_ring_l2 k a0 a1 k (y6.1, (0 : Int))) : Option ((List Bool))).bind fun x8 =>
  (ck (y6.2 + (1 : Int))).bind fun x25 =>
  ref_ring_l1 k a0 a1 n (x8, x25)) else (some y6.1)
def ref_ring (k : Nat) (a0 : dChange) (a1 : Int) : Option Bool :=
 (chkP (0 ≤ (a0.1.length : Int) ∧ okLen (Int.toNat (a0.1.length : Int)))).bind fun _ =>
 ((ref_ring_l1 k a0 a1 k (List.replicate (Int.toNat (a0.1.length : Int)) false, (0 : Int))) : Option ((List Bool))).bind fun x4 =>
 (geti x4 a1).bind fun x26 =>
 some x26

theorem ref_ring_ok (k : Nat) (a0 : dChange) (a1 : Int) (r : Bool) (h : ref_ring k a0 a1 = some r) :
 Ctr Try.prog 95 [.rep tChange a0, .eq (.int .i64 a1)] [] (fun _ : Unit => (resA [.eq (.bool r)], [])) := by
 unfold ref_ring at h
 replace h := b_top h
 refine Ctr.of 63 Try.func95 rfl Try.ntmps95 rfl fun S w0 => ?_
 refine sr ?_
 refine JO.s01 rfl rfl rfl (o_box rfl rfl) ⟨rfl, trivial⟩ fun b1 => ?_
 refine cq ?_
 refine nt ?_
 refine sr ?_
 refine ja (o_field_obj rfl fo28_0) ?_
 refine ka (o_load_obj rfl sz25 (fun _ => rfl) rfl) ?_
 refine ja (o_len rfl rfl Try.underlying25) ?_
 obtain ⟨u2, eu2, h⟩ := b_bind h
 refine JO.s01 rfl rfl rfl (o_make (t := .bool) (d := false) rfl sl107 zr4 (chkP_some eu2).1 (chkP_some eu2).2) ⟨rfl, rfl, trivial⟩ fun v3 => ?_
 refine aq ?_
 refine nt ?_
 refine JC.cutB (Z := Unit) (α := (List Bool)) (fun z5 x4 => [(1, .eq (.int .i64 a1)), (5, .eq v3)]) (fun z5 x4 => [.sl v3 4 .bool x4]) h (fun K h => ?_) (fun z5 x4 h => ?_)
 ·
  refine sr ?_
  refine cq ?_
  refine nt ?_
  refine JC.block ?_
  refine JC.loopB (Z := Unit) (α := (List Bool) × Int) (fun z7 y6 => [(1, .eq (.int .i64 a1)), (2, .eq (.pointer (some ⟨b1, 0, none⟩))), (5, .eq v3), (6, .eq (.int .i64 y6.2))]) (fun z7 y6 => [.obj b1 28 (.rep tChange a0), .sl v3 4 .bool y6.1]) (ref_ring_l1 k a0 a1) k () (List.replicate (Int.toNat (a0.1.length : Int)) false, (0 : Int)) (fun _ => rfl) h (SE.fin [1, 0] ⟨rfl, rfl, rfl, rfl, trivial⟩ rfl) (fun n z7 y6 h => ?_)
  unfold ref_ring_l1 at h
  refine JC.seq ?_
  refine sr ?_
  refine mq ?_
  refine ja (o_field_obj rfl fo28_0) ?_
  refine ka (o_load_obj rfl sz25 (fun _ => rfl) rfl) ?_
  refine ja (o_len rfl rfl Try.underlying25) ?_
  refine jb (o_lss rfl) ?_
  refine nt ?_
  refine JC.cond rfl (fun hb => ?_) (fun hb => ?_)
  ·
   replace h := b_if (d_t hb) h
   refine JC.skip ?_
   refine JN.then_n ?_
   show JC _ _ _ _ _
   refine JC.cutB (Z := Unit) (α := (List Bool)) (fun z9 x8 => [(1, .eq (.int .i64 a1)), (2, .eq (.pointer (some ⟨b1, 0, none⟩))), (5, .eq v3), (6, .eq (.int .i64 y6.2))]) (fun z9 x8 => [.obj b1 28 (.rep tChange a0), .sl v3 4 .bool x8]) h (fun K h => ?_) (fun z9 x8 h => ?_)
   ·
    refine JC.block ?_
    refine sr ?_
    refine cq ?_
    refine nt ?_
    refine JC.block ?_
    refine JC.loopB (Z := Unit) (α := (List Bool) × Int) (fun z11 y10 => [(1, .eq (.int .i64 a1)), (2, .eq (.pointer (some ⟨b1, 0, none⟩))), (5, .eq v3), (6, .eq (.int .i64 y6.2)), (7, .eq (.int .i64 y10.2))]) (fun z11 y10 => [.obj b1 28 (.rep tChange a0), .sl v3 4 .bool y10.1]) (ref_ring_l2 k a0 a1) k () (y6.1, (0 : Int)) (fun _ => rfl) h (SE.fin [0, 1] ⟨rfl, rfl, rfl, rfl, rfl, trivial⟩ rfl) (fun n z11 y10 h => ?_)
    unfold ref_ring_l2 at h
    refine JC.seq ?_
    refine sr ?_
    refine mq ?_
    refine ja (o_field_obj rfl fo28_0) ?_
    refine ka (o_load_obj rfl sz25 (fun _ => rfl) rfl) ?_
    refine ja (o_len rfl rfl Try.underlying25) ?_
    refine jb (o_lss rfl) ?_
    refine nt ?_
    refine JC.cond rfl (fun hb => ?_) (fun hb => ?_)
    ·
     replace h := b_if (d_t hb) h
     refine JC.skip ?_
     refine JN.then_n ?_
     show JC _ _ _ _ _
     refine JC.cutB (Z := Unit) (α := (List Bool)) (fun z13 x12 => [(1, .eq (.int .i64 a1)), (2, .eq (.pointer (some ⟨b1, 0, none⟩))), (5, .eq v3), (6, .eq (.int .i64 y6.2)), (7, .eq (.int .i64 y10.2))]) (fun z13 x12 => [.obj b1 28 (.rep tChange a0), .sl v3 4 .bool x12]) h (fun K h => ?_) (fun z13 x12 h => ?_)
     ·
      refine JC.block ?_
      refine JC.seq ?_
      refine JC.cutB (Z := Unit) (α := Bool) (fun z15 x14 => [(1, .eq (.int .i64 a1)), (2, .eq (.pointer (some ⟨b1, 0, none⟩))), (5, .eq v3), (6, .eq (.int .i64 y6.2)), (7, .eq (.int .i64 y10.2)), (36, .eq (.bool x14))]) (fun z15 x14 => [.obj b1 28 (.rep tChange a0), .sl v3 4 .bool y10.1]) h (fun K h => ?_) (fun z15 x14 h => ?_)
      ·
       refine JC.region ?_
       iterate 2 refine mq ?_
       refine jb (o_neq rfl) ?_
       refine mq ?_
       refine JO.bool (s := 30) rfl (fun hb => ?_) (fun hb => ?_)
       ·
        replace h := b_if (n_t hb) h
        refine gm ?_
        refine gm ?_
        obtain ⟨x16, ex16, h⟩ := b_bind h
        refine JO.front 1 rfl ?_
        refine JO.g11 rfl rfl rfl rfl rfl rfl (o_index_own (t := .bool) rfl Try.underlying107 sz4 ex16) ⟨rfl, rfl, trivial⟩ ?_
        refine JO.g11 rfl rfl rfl rfl rfl rfl (o_load_el (i := Int.toNat y10.2) (off := 0) rfl sz4 (fun _ => rfl) rfl (geti_some ex16).2.2 rfl) ⟨rfl, trivial⟩ ?_
        refine ga (o_not rfl) ?_
        refine pt ?_
        refine JO.nil ?_
        refine JN.then_n ?_
        exact JN.z ((), !x16) h (SE.fin [1, 0] ⟨rfl, rfl, rfl, rfl, rfl, rfl, trivial⟩ rfl)
       ·
        replace h := b_ifn (n_fn hb) h
        iterate 5 refine gn ?_
        refine pf ?_
        refine JO.nil ?_
        refine JN.then_n ?_
        exact JN.z ((), false) h (SE.fin [0, 1] ⟨rfl, rfl, rfl, rfl, rfl, rfl, trivial⟩ rfl)
      ·
       refine JC.cond rfl (fun hb => ?_) (fun hb => ?_)
       ·
        replace h := b_if (v_t hb) h
        refine JC.exit ?_
        refine JN.then_x ?_
        refine JN.blk_hit ?_
        refine JN.then_n ?_
        exact JN.z ((), y10.1) h (SE.fin [0, 1] ⟨rfl, rfl, rfl, rfl, rfl, trivial⟩ rfl)
       ·
        replace h := b_ifn (v_f hb) h
        refine JC.skip ?_
        refine JN.then_n ?_
        show JC _ _ _ _ _
        refine sr ?_
        refine cq ?_
        refine nt ?_
        refine JC.block ?_
        refine JC.loopB (Z := Unit) (α := (List Bool) × Int) (fun z18 y17 => [(1, .eq (.int .i64 a1)), (2, .eq (.pointer (some ⟨b1, 0, none⟩))), (5, .eq v3), (6, .eq (.int .i64 y6.2)), (7, .eq (.int .i64 y10.2)), (8, .eq (.int .i64 y17.2))]) (fun z18 y17 => [.obj b1 28 (.rep tChange a0), .sl v3 4 .bool y17.1]) (ref_ring_l3 k a0 y10) k () (y10.1, (0 : Int)) (fun _ => rfl) h (SE.fin [0, 1] ⟨rfl, rfl, rfl, rfl, rfl, rfl, trivial⟩ rfl) (fun n z18 y17 h => ?_)
        unfold ref_ring_l3 at h
        refine JC.seq ?_
        refine sr ?_
        refine mq ?_
        refine ja (o_field_obj rfl fo28_0) ?_
        refine ka (o_load_obj rfl sz25 (fun _ => rfl) rfl) ?_
        refine mq ?_
        obtain ⟨x19, ex19, h⟩ := b_bind h
        refine jb (o_index (t := tThing) rfl Try.underlying25 sz45 ex19) ?_
        refine ja (o_field_at 1 false rfl fo45_0 rfl) ?_
        refine ja (o_load_at (t := (.slice (.int .i64))) rfl sz22 rfl) ?_
        refine ja (o_len rfl rfl Try.underlying22) ?_
        refine jb (o_lss rfl) ?_
        refine nt ?_
        refine JC.cond rfl (fun hb => ?_) (fun hb => ?_)
        ·
         replace h := b_if (d_t hb) h
         refine JC.skip ?_
         refine JN.then_n ?_
         show JC _ _ _ _ _
         refine JC.seq ?_
         refine JC.block ?_
         refine JC.region ?_
         refine mq ?_
         refine ja (o_field_obj rfl fo28_0) ?_
         refine ka (o_load_obj rfl sz25 (fun _ => rfl) rfl) ?_
         refine mq ?_
         obtain ⟨x20, ex20, h⟩ := b_bind h
         refine jb (o_index (t := tThing) rfl Try.underlying25 sz45 ex20) ?_
         refine ja (o_field_at 1 false rfl fo45_0 rfl) ?_
         refine ja (o_load_at (t := (.slice (.int .i64))) rfl sz22 rfl) ?_
         refine mq ?_
         obtain ⟨x21, ex21, h⟩ := b_bind h
         refine jb (o_index (t := (.int .i64)) rfl Try.underlying22 sz3 ex21) ?_
         refine ja (o_load_at (t := (.int .i64)) rfl sz3 rfl) ?_
         obtain ⟨x22, ex22, h⟩ := b_bind h
         refine JO.front 1 rfl ?_
         refine kb (o_index_own (t := .bool) rfl Try.underlying107 sz4 ex22) ?_
         refine JO.n11 rfl rfl (o_store_elW (i := Int.toNat x21) rfl sz4 rfl (geti_lt ex22) rfl .bool rfl) ⟨rfl, rfl, trivial⟩ ?_
         refine JO.nil ?_
         refine JN.blk_n ?_
         refine JN.then_n ?_
         show JC _ _ _ _ _
         refine JC.region ?_
         refine mq ?_
         obtain ⟨x23, ex23, h⟩ := b_bind h
         refine jb (o_add rfl ex23) ?_
         refine aq ?_
         refine JO.nil ?_
         refine JN.then_n ?_
         exact JN.z ((), (List.set y17.1 (Int.toNat x21) true, x23)) h (SE.fin [1, 0] ⟨rfl, rfl, rfl, rfl, rfl, rfl, trivial⟩ rfl)
        ·
         replace h := b_ifn (d_f hb) h
         refine JC.exit ?_
         refine JN.then_x ?_
         refine JN.then_x ?_
         refine JN.blk_hit ?_
         refine JN.blk_n ?_
         refine JN.then_n ?_
         exact JN.z ((), y17.1) h (SE.fin [0, 1] ⟨rfl, rfl, rfl, rfl, rfl, trivial⟩ rfl)
     ·
      refine JC.region ?_
      refine mq ?_
      obtain ⟨x24, ex24, h⟩ := b_bind h
      refine jb (o_add rfl ex24) ?_
      refine aq ?_
      refine JO.nil ?_
      refine JN.then_n ?_
      exact JN.z ((), (x12, x24)) h (SE.fin [0, 1] ⟨rfl, rfl, rfl, rfl, rfl, trivial⟩ rfl)
    ·
     replace h := b_ifn (d_f hb) h
     refine JC.exit ?_
     refine JN.then_x ?_
     refine JN.then_x ?_
     refine JN.blk_hit ?_
     refine JN.blk_n ?_
     refine JN.then_n ?_
     exact JN.z ((), y10.1) h (SE.fin [0, 1] ⟨rfl, rfl, rfl, rfl, trivial⟩ rfl)
   ·
    refine JC.region ?_
    refine mq ?_
    obtain ⟨x25, ex25, h⟩ := b_bind h
    refine jb (o_add rfl ex25) ?_
    refine aq ?_
    refine JO.nil ?_
    refine JN.then_n ?_
    exact JN.z ((), (x8, x25)) h (SE.fin [0, 1] ⟨rfl, rfl, rfl, rfl, trivial⟩ rfl)
  ·
   replace h := b_ifn (d_f hb) h
   refine JC.exit ?_
   refine JN.then_x ?_
   refine JN.then_x ?_
   refine JN.blk_hit ?_
   refine JN.then_n ?_
   exact JN.z ((), y6.1) h (SE.fin [1] ⟨rfl, rfl, trivial⟩ rfl)
 ·
  refine sr ?_
  iterate 2 refine mq ?_
  obtain ⟨x26, ex26, h⟩ := b_bind h
  refine kb (o_index_own (t := .bool) rfl Try.underlying107 sz4 ex26) ?_
  refine ka (o_load_el (i := Int.toNat a1) (off := 0) rfl sz4 (fun _ => rfl) rfl (geti_some ex26).2.2 rfl) ?_
  refine aq ?_
  refine nt ?_
  refine JC.ret ?_
  obtain rfl := Option.some.inj h
  exact JN.ret () [_] 0 ⟨rfl, trivial⟩ rfl


def ref_Check_l1 (k : Nat) (a0 : dChange) : Nat → Int → Option (Except Int Unit)
 | 0, _ => none
 | n + 1, y5 =>
  if y5 < (a0.1.length : Int) then ((geti a0.1 y5).bind fun x7 =>
  (ref_things k a0 x7.1 y5).bind fun r9 =>
  if ¬ (r9 = (0 : Int)) then (some (.error r9)) else ((((ref_inside k x7.2.1 (1 : Int) (4 : Int)).bind fun r12 =>
  if ¬ (r12 = true) then (some true) else ((ref_inside k x7.2.2.1 (1 : Int) (4 : Int)).bind fun r13 =>
  some (!r13))) : Option (Bool)).bind fun x10 =>
  if x10 = true then (some (.error (1 : Int))) else ((ref_inside k x7.2.2.2.1 (0 : Int) (2 : Int)).bind fun r14 =>
  if ¬ (r14 = true) then (some (.error (8 : Int))) else ((ref_inside k x7.2.2.2.2 (0 : Int) (30 : Int)).bind fun r15 =>
  if ¬ (r15 = true) then (some (.error (1 : Int))) else ((ck (y5 + (1 : Int))).bind fun x16 =>
  ref_Check_l1 k a0 n x16))))) else (some (.ok ()))

def ref_Check_l2 (k : Nat) (a0 : dChange) : Nat → Int → Option (Except Int Unit)
 | 0, _ => none
 | n + 1, y19 =>
  if y19 < (a0.1.length : Int) then ((ref_ring k a0 y19).bind fun r21 =>
  if r21 = true then (some (.error (9 : Int))) else ((ck (y19 + (1 : Int))).bind fun x22 =>
  ref_Check_l2 k a0 n x22)) else (some (.ok ()))

def ref_Check_l3 (k : Nat) (a0 : dChange) : Nat → Int → Option (Except Int Unit)
 | 0, _ => none
 | n + 1, y26 =>
  if y26 < (a0.2.1.length : Int) then ((geti a0.2.1 y26).bind fun x28 =>
  (ref_things k a0 x28.1 (-1 : Int)).bind fun r30 =>
  if ¬ (r30 = (0 : Int)) then (some (.error r30)) else ((ref_inside k x28.2.1 (0 : Int) (2 : Int)).bind fun r31 =>
  if ¬ (r31 = true) then (some (.error (8 : Int))) else ((ref_inside k x28.2.2 (0 : Int) (9 : Int)).bind fun r32 =>
  if ¬ (r32 = true) then (some (.error (1 : Int))) else ((ck (y26 + (1 : Int))).bind fun x33 =>
  ref_Check_l3 k a0 n x33)))) else (some (.ok ()))
def ref_Check (k : Nat) (a0 : dChange) : Option Int :=
 (ref_sized k (a0.1.length : Int) (4 : Int)).bind fun r2 =>
 if ¬ (r2 = (0 : Int)) then (some r2) else (bE (α := Unit) (ref_Check_l1 k a0 k (0 : Int)) (some) fun _ =>
 bE (α := Unit) (ref_Check_l2 k a0 k (0 : Int)) (some) fun _ =>
 (ref_sized k (a0.2.1.length : Int) (3 : Int)).bind fun r23 =>
 if ¬ (r23 = (0 : Int)) then (some r23) else (bE (α := Unit) (ref_Check_l3 k a0 k (0 : Int)) (some) fun _ =>
 (ref_things k a0 a0.2.2.1 (-1 : Int)).bind fun r34 =>
 if ¬ (r34 = (0 : Int)) then (some r34) else ((ref_things k a0 a0.2.2.2 (-1 : Int)).bind fun r35 =>
 some r35)))

theorem ref_Check_ok (k : Nat) (a0 : dChange) (r : Int) (h : ref_Check k a0 = some r) :
 Ctr Try.prog 51 [.rep tChange a0] [] (fun _ : Unit => (resA [.eq (.int .i64 r)], [])) := by
 unfold ref_Check at h
 replace h := b_top h
 refine Ctr.of 113 Try.func51 rfl Try.ntmps51 rfl fun S w0 => ?_
 refine sr ?_
 refine JO.s01 rfl rfl rfl (o_box rfl rfl) ⟨rfl, trivial⟩ fun b1 => ?_
 refine cq ?_
 refine nt ?_
 refine JC.seq ?_
 refine sr ?_
 refine ja (o_field_obj rfl fo28_0) ?_
 refine ka (o_load_obj rfl sz25 (fun _ => rfl) rfl) ?_
 refine ja (o_len rfl rfl Try.underlying25) ?_
 obtain ⟨r2, er2, h⟩ := b_bind h
 have cr2 := ref_sized_ok k (a0.1.length : Int) (4 : Int) r2 er2
 refine jb (o_call [.tmp 15, .const (.int .i64 (4))] rfl rfl en92 rfl cr2) ?_
 refine aq ?_
 refine nt ?_
 refine sr ?_
 refine mq ?_
 refine jb (o_neq rfl) ?_
 refine nt ?_
 refine JC.cond rfl (fun hb => ?_) (fun hb => ?_)
 ·
  replace h := b_if (n_t hb) h
  refine sr ?_
  refine mq ?_
  refine aq ?_
  refine nt ?_
  refine JC.ret ?_
  refine JN.then_r ?_
  obtain rfl := Option.some.inj h
  exact JN.ret () [_] 0 ⟨rfl, trivial⟩ rfl
 ·
  replace h := b_ifn (n_fn hb) h
  refine JC.skip ?_
  refine JN.then_n ?_
  show JC _ _ _ _ _
  refine JC.cutE (Z := Unit) (α := Unit) (fun z4 x3 => [(1, .eq (.pointer (some ⟨b1, 0, none⟩)))]) (fun z4 x3 => [.obj b1 28 (.rep tChange a0)]) (fun e => e = r) h (fun e h => Option.some.inj h) (fun K hR h => ?_) (fun z4 x3 h => ?_)
  ·
   refine sr ?_
   refine cq ?_
   refine nt ?_
   refine JC.block ?_
   refine JC.loopB (Z := Unit) (α := Int) (fun z6 y5 => [(1, .eq (.pointer (some ⟨b1, 0, none⟩))), (4, .eq (.int .i64 y5))]) (fun z6 y5 => [.obj b1 28 (.rep tChange a0)]) (ref_Check_l1 k a0) k () (0 : Int) (fun _ => rfl) h (SE.fin [0] ⟨rfl, rfl, trivial⟩ rfl) (fun n z6 y5 h => ?_)
   unfold ref_Check_l1 at h
   refine JC.seq ?_
   refine sr ?_
   refine mq ?_
   refine ja (o_field_obj rfl fo28_0) ?_
   refine ka (o_load_obj rfl sz25 (fun _ => rfl) rfl) ?_
   refine ja (o_len rfl rfl Try.underlying25) ?_
   refine jb (o_lss rfl) ?_
   refine nt ?_
   refine JC.cond rfl (fun hb => ?_) (fun hb => ?_)
   ·
    replace h := b_if (d_t hb) h
    refine JC.skip ?_
    refine JN.then_n ?_
    show JC _ _ _ _ _
    refine JC.seq ?_
    refine JC.block ?_
    refine sr ?_
    refine ja (o_field_obj rfl fo28_0) ?_
    refine ka (o_load_obj rfl sz25 (fun _ => rfl) rfl) ?_
    refine mq ?_
    obtain ⟨x7, ex7, h⟩ := b_bind h
    refine jb (o_index (t := tThing) rfl Try.underlying25 sz45 ex7) ?_
    refine ja (o_load_at (t := tThing) rfl sz45 rfl) ?_
    refine JO.s01 rfl rfl rfl (o_alloc rfl za45 al45) trivial fun b8 => ?_
    refine JO.n11 rfl rfl (o_store rfl sz45 rfl rfl rfl) ⟨rfl, rfl, trivial⟩ ?_
    refine nt ?_
    refine JC.seq ?_
    refine sr ?_
    refine JO.front 1 rfl ?_
    refine ka (o_load_obj rfl sz28 (nfn) rfl) ?_
    refine ja (o_field_obj rfl fo45_0) ?_
    refine JO.front 1 rfl ?_
    refine ka (o_load_obj rfl sz22 (fun _ => rfl) rfl) ?_
    refine mq ?_
    obtain ⟨r9, er9, h⟩ := b_bind h
    have cr9 := ref_things_ok k a0 x7.1 y5 r9 er9
    refine jc (o_call [.tmp 32, .tmp 34, .tmp 35] rfl rfl en93 rfl cr9) ?_
    refine aq ?_
    refine nt ?_
    refine sr ?_
    refine mq ?_
    refine jb (o_neq rfl) ?_
    refine nt ?_
    refine JC.cond rfl (fun hb => ?_) (fun hb => ?_)
    ·
     replace h := b_if (n_t hb) h
     refine sr ?_
     refine mq ?_
     refine aq ?_
     refine nt ?_
     refine JC.ret ?_
     refine JN.then_r ?_
     refine JN.blk_r ?_
     refine JN.then_r ?_
     refine JN.then_r ?_
     refine JN.blk_r ?_
     refine JN.then_r ?_
     obtain rfl := hR _ h
     exact JN.ret () [_] 0 ⟨rfl, trivial⟩ rfl
    ·
     replace h := b_ifn (n_fn hb) h
     refine JC.skip ?_
     refine JN.then_n ?_
     show JC _ _ _ _ _
     refine JC.seq ?_
     refine JC.cutB (Z := Unit) (α := Bool) (fun z11 x10 => [(1, .eq (.pointer (some ⟨b1, 0, none⟩))), (4, .eq (.int .i64 y5)), (5, .eq (.pointer (some ⟨b8, 0, none⟩))), (49, .eq (.bool x10))]) (fun z11 x10 => [.obj b1 28 (.rep tChange a0), .obj b8 45 (.rep tThing x7)]) h (fun K h => ?_) (fun z11 x10 h => ?_)
     ·
      refine JC.region ?_
      refine ja (o_field_obj rfl fo45_1) ?_
      refine ka (o_load_obj rfl sz3 (fun _ => rfl) rfl) ?_
      obtain ⟨r12, er12, h⟩ := b_bind h
      have cr12 := ref_inside_ok k x7.2.1 (1 : Int) (4 : Int) r12 er12
      refine jc (o_call [.tmp 41, .const (.int .i64 (1)), .const (.int .i64 (4))] rfl rfl en94 rfl cr12) ?_
      refine ja (o_not rfl) ?_
      refine mq ?_
      refine JO.bool (s := 44) rfl (fun hb => ?_) (fun hb => ?_)
      ·
       replace h := b_if (nv_t hb) h
       iterate 4 refine gn ?_
       refine pt ?_
       refine JO.nil ?_
       refine JN.then_n ?_
       exact JN.z ((), true) h (SE.fin [1, 0] ⟨rfl, rfl, rfl, rfl, trivial⟩ rfl)
      ·
       replace h := b_ifn (nv_fn hb) h
       refine ga (o_field_obj rfl fo45_2) ?_
       refine JO.g11 rfl rfl rfl rfl rfl rfl (o_load_obj rfl sz3 (fun _ => rfl) rfl) ⟨rfl, trivial⟩ ?_
       obtain ⟨r13, er13, h⟩ := b_bind h
       have cr13 := ref_inside_ok k x7.2.2.1 (1 : Int) (4 : Int) r13 er13
       refine gc (o_call [.tmp 46, .const (.int .i64 (1)), .const (.int .i64 (4))] rfl rfl en94 rfl cr13) ?_
       refine ga (o_not rfl) ?_
       refine pf ?_
       refine JO.nil ?_
       refine JN.then_n ?_
       exact JN.z ((), !r13) h (SE.fin [1, 0] ⟨rfl, rfl, rfl, rfl, trivial⟩ rfl)
     ·
      refine JC.cond rfl (fun hb => ?_) (fun hb => ?_)
      ·
       replace h := b_if (v_t hb) h
       refine sr ?_
       refine cq ?_
       refine nt ?_
       refine JC.ret ?_
       refine JN.then_r ?_
       refine JN.blk_r ?_
       refine JN.then_r ?_
       refine JN.then_r ?_
       refine JN.blk_r ?_
       refine JN.then_r ?_
       obtain rfl := hR _ h
       exact JN.ret () [_] 0 ⟨rfl, trivial⟩ rfl
      ·
       replace h := b_ifn (v_f hb) h
       refine JC.skip ?_
       refine JN.then_n ?_
       show JC _ _ _ _ _
       refine JC.seq ?_
       refine sr ?_
       refine ja (o_field_obj rfl fo45_3) ?_
       refine JO.front 1 rfl ?_
       refine ka (o_load_obj rfl sz3 (fun _ => rfl) rfl) ?_
       obtain ⟨r14, er14, h⟩ := b_bind h
       have cr14 := ref_inside_ok k x7.2.2.2.1 (0 : Int) (2 : Int) r14 er14
       refine jc (o_call [.tmp 51, .const (.int .i64 (0)), .const (.int .i64 (2))] rfl rfl en94 rfl cr14) ?_
       refine ja (o_not rfl) ?_
       refine nt ?_
       refine JC.cond rfl (fun hb => ?_) (fun hb => ?_)
       ·
        replace h := b_if (nv_t hb) h
        refine sr ?_
        refine cq ?_
        refine nt ?_
        refine JC.ret ?_
        refine JN.then_r ?_
        refine JN.blk_r ?_
        refine JN.then_r ?_
        refine JN.then_r ?_
        refine JN.blk_r ?_
        refine JN.then_r ?_
        obtain rfl := hR _ h
        exact JN.ret () [_] 0 ⟨rfl, trivial⟩ rfl
       ·
        replace h := b_ifn (nv_fn hb) h
        refine JC.skip ?_
        refine JN.then_n ?_
        show JC _ _ _ _ _
        refine sr ?_
        refine ja (o_field_obj rfl fo45_4) ?_
        refine ka (o_load_obj rfl sz3 (fun _ => rfl) rfl) ?_
        obtain ⟨r15, er15, h⟩ := b_bind h
        have cr15 := ref_inside_ok k x7.2.2.2.2 (0 : Int) (30 : Int) r15 er15
        refine jc (o_call [.tmp 55, .const (.int .i64 (0)), .const (.int .i64 (30))] rfl rfl en94 rfl cr15) ?_
        refine ja (o_not rfl) ?_
        refine nt ?_
        refine JC.cond rfl (fun hb => ?_) (fun hb => ?_)
        ·
         replace h := b_if (nv_t hb) h
         refine sr ?_
         refine cq ?_
         refine nt ?_
         refine JC.ret ?_
         refine JN.blk_r ?_
         refine JN.then_r ?_
         refine JN.then_r ?_
         refine JN.blk_r ?_
         refine JN.then_r ?_
         obtain rfl := hR _ h
         exact JN.ret () [_] 0 ⟨rfl, trivial⟩ rfl
        ·
         replace h := b_ifn (nv_fn hb) h
         refine JC.skip ?_
         refine JN.blk_n ?_
         refine JN.then_n ?_
         show JC _ _ _ _ _
         refine JC.region ?_
         refine mq ?_
         obtain ⟨x16, ex16, h⟩ := b_bind h
         refine jb (o_add rfl ex16) ?_
         refine aq ?_
         refine JO.nil ?_
         refine JN.then_n ?_
         exact JN.z ((), x16) h (SE.fin [1] ⟨rfl, rfl, trivial⟩ rfl)
   ·
    replace h := b_ifn (d_f hb) h
    refine JC.exit ?_
    refine JN.then_x ?_
    refine JN.then_x ?_
    refine JN.blk_hit ?_
    refine JN.then_n ?_
    exact JN.z ((), ()) h (SE.fin [0] ⟨rfl, trivial⟩ rfl)
  ·
   refine JC.cutE (Z := Unit) (α := Unit) (fun z18 x17 => [(1, .eq (.pointer (some ⟨b1, 0, none⟩)))]) (fun z18 x17 => [.obj b1 28 (.rep tChange a0)]) (fun e => e = r) h (fun e h => Option.some.inj h) (fun K hR h => ?_) (fun z18 x17 h => ?_)
   ·
    refine sr ?_
    refine cq ?_
    refine nt ?_
    refine JC.block ?_
    refine JC.loopB (Z := Unit) (α := Int) (fun z20 y19 => [(1, .eq (.pointer (some ⟨b1, 0, none⟩))), (7, .eq (.int .i64 y19))]) (fun z20 y19 => [.obj b1 28 (.rep tChange a0)]) (ref_Check_l2 k a0) k () (0 : Int) (fun _ => rfl) h (SE.fin [0] ⟨rfl, rfl, trivial⟩ rfl) (fun n z20 y19 h => ?_)
    unfold ref_Check_l2 at h
    refine JC.seq ?_
    refine sr ?_
    refine mq ?_
    refine ja (o_field_obj rfl fo28_0) ?_
    refine ka (o_load_obj rfl sz25 (fun _ => rfl) rfl) ?_
    refine ja (o_len rfl rfl Try.underlying25) ?_
    refine jb (o_lss rfl) ?_
    refine nt ?_
    refine JC.cond rfl (fun hb => ?_) (fun hb => ?_)
    ·
     replace h := b_if (d_t hb) h
     refine JC.skip ?_
     refine JN.then_n ?_
     show JC _ _ _ _ _
     refine JC.seq ?_
     refine JC.block ?_
     refine sr ?_
     refine ka (o_load_obj rfl sz28 (nfn) rfl) ?_
     refine mq ?_
     obtain ⟨r21, er21, h⟩ := b_bind h
     have cr21 := ref_ring_ok k a0 y19 r21 er21
     refine jb (o_call [.tmp 65, .tmp 66] rfl rfl en95 rfl cr21) ?_
     refine nt ?_
     refine JC.cond rfl (fun hb => ?_) (fun hb => ?_)
     ·
      replace h := b_if (v_t hb) h
      refine sr ?_
      refine cq ?_
      refine nt ?_
      refine JC.ret ?_
      refine JN.blk_r ?_
      refine JN.then_r ?_
      refine JN.then_r ?_
      refine JN.blk_r ?_
      refine JN.then_r ?_
      obtain rfl := hR _ h
      exact JN.ret () [_] 0 ⟨rfl, trivial⟩ rfl
     ·
      replace h := b_ifn (v_f hb) h
      refine JC.skip ?_
      refine JN.blk_n ?_
      refine JN.then_n ?_
      show JC _ _ _ _ _
      refine JC.region ?_
      refine mq ?_
      obtain ⟨x22, ex22, h⟩ := b_bind h
      refine jb (o_add rfl ex22) ?_
      refine aq ?_
      refine JO.nil ?_
      refine JN.then_n ?_
      exact JN.z ((), x22) h (SE.fin [0] ⟨rfl, rfl, trivial⟩ rfl)
    ·
     replace h := b_ifn (d_f hb) h
     refine JC.exit ?_
     refine JN.then_x ?_
     refine JN.then_x ?_
     refine JN.blk_hit ?_
     refine JN.then_n ?_
     exact JN.z ((), ()) h (SE.fin [0] ⟨rfl, trivial⟩ rfl)
   ·
    refine JC.seq ?_
    refine sr ?_
    refine ja (o_field_obj rfl fo28_1) ?_
    refine ka (o_load_obj rfl sz26 (fun _ => rfl) rfl) ?_
    refine ja (o_len rfl rfl Try.underlying26) ?_
    obtain ⟨r23, er23, h⟩ := b_bind h
    have cr23 := ref_sized_ok k (a0.2.1.length : Int) (3 : Int) r23 er23
    refine jb (o_call [.tmp 70, .const (.int .i64 (3))] rfl rfl en92 rfl cr23) ?_
    refine aq ?_
    refine nt ?_
    refine sr ?_
    refine mq ?_
    refine jb (o_neq rfl) ?_
    refine nt ?_
    refine JC.cond rfl (fun hb => ?_) (fun hb => ?_)
    ·
     replace h := b_if (n_t hb) h
     refine sr ?_
     refine mq ?_
     refine aq ?_
     refine nt ?_
     refine JC.ret ?_
     refine JN.then_r ?_
     obtain rfl := Option.some.inj h
     exact JN.ret () [_] 0 ⟨rfl, trivial⟩ rfl
    ·
     replace h := b_ifn (n_fn hb) h
     refine JC.skip ?_
     refine JN.then_n ?_
     show JC _ _ _ _ _
     refine JC.cutE (Z := Unit) (α := Unit) (fun z25 x24 => [(1, .eq (.pointer (some ⟨b1, 0, none⟩)))]) (fun z25 x24 => [.obj b1 28 (.rep tChange a0)]) (fun e => e = r) h (fun e h => Option.some.inj h) (fun K hR h => ?_) (fun z25 x24 h => ?_)
     ·
      refine sr ?_
      refine cq ?_
      refine nt ?_
      refine JC.block ?_
      refine JC.loopB (Z := Unit) (α := Int) (fun z27 y26 => [(1, .eq (.pointer (some ⟨b1, 0, none⟩))), (9, .eq (.int .i64 y26))]) (fun z27 y26 => [.obj b1 28 (.rep tChange a0)]) (ref_Check_l3 k a0) k () (0 : Int) (fun _ => rfl) h (SE.fin [0] ⟨rfl, rfl, trivial⟩ rfl) (fun n z27 y26 h => ?_)
      unfold ref_Check_l3 at h
      refine JC.seq ?_
      refine sr ?_
      refine mq ?_
      refine ja (o_field_obj rfl fo28_1) ?_
      refine ka (o_load_obj rfl sz26 (fun _ => rfl) rfl) ?_
      refine ja (o_len rfl rfl Try.underlying26) ?_
      refine jb (o_lss rfl) ?_
      refine nt ?_
      refine JC.cond rfl (fun hb => ?_) (fun hb => ?_)
      ·
       replace h := b_if (d_t hb) h
       refine JC.skip ?_
       refine JN.then_n ?_
       show JC _ _ _ _ _
       refine JC.seq ?_
       refine JC.block ?_
       refine sr ?_
       refine ja (o_field_obj rfl fo28_1) ?_
       refine ka (o_load_obj rfl sz26 (fun _ => rfl) rfl) ?_
       refine mq ?_
       obtain ⟨x28, ex28, h⟩ := b_bind h
       refine jb (o_index (t := tDresser) rfl Try.underlying26 sz53 ex28) ?_
       refine ja (o_load_at (t := tDresser) rfl sz53 rfl) ?_
       refine JO.s01 rfl rfl rfl (o_alloc rfl za53 al53) trivial fun b29 => ?_
       refine JO.n11 rfl rfl (o_store rfl sz53 rfl rfl rfl) ⟨rfl, rfl, trivial⟩ ?_
       refine nt ?_
       refine JC.seq ?_
       refine sr ?_
       refine JO.front 1 rfl ?_
       refine ka (o_load_obj rfl sz28 (nfn) rfl) ?_
       refine ja (o_field_obj rfl fo53_0) ?_
       refine JO.front 1 rfl ?_
       refine ka (o_load_obj rfl sz22 (fun _ => rfl) rfl) ?_
       obtain ⟨r30, er30, h⟩ := b_bind h
       have cr30 := ref_things_ok k a0 x28.1 (-1 : Int) r30 er30
       refine jc (o_call [.tmp 87, .tmp 89, .const (.int .i64 (-1))] rfl rfl en93 rfl cr30) ?_
       refine aq ?_
       refine nt ?_
       refine sr ?_
       refine mq ?_
       refine jb (o_neq rfl) ?_
       refine nt ?_
       refine JC.cond rfl (fun hb => ?_) (fun hb => ?_)
       ·
        replace h := b_if (n_t hb) h
        refine sr ?_
        refine mq ?_
        refine aq ?_
        refine nt ?_
        refine JC.ret ?_
        refine JN.then_r ?_
        refine JN.blk_r ?_
        refine JN.then_r ?_
        refine JN.then_r ?_
        refine JN.blk_r ?_
        refine JN.then_r ?_
        obtain rfl := hR _ h
        exact JN.ret () [_] 0 ⟨rfl, trivial⟩ rfl
       ·
        replace h := b_ifn (n_fn hb) h
        refine JC.skip ?_
        refine JN.then_n ?_
        show JC _ _ _ _ _
        refine JC.seq ?_
        refine sr ?_
        refine ja (o_field_obj rfl fo53_1) ?_
        refine ka (o_load_obj rfl sz3 (fun _ => rfl) rfl) ?_
        obtain ⟨r31, er31, h⟩ := b_bind h
        have cr31 := ref_inside_ok k x28.2.1 (0 : Int) (2 : Int) r31 er31
        refine jc (o_call [.tmp 95, .const (.int .i64 (0)), .const (.int .i64 (2))] rfl rfl en94 rfl cr31) ?_
        refine ja (o_not rfl) ?_
        refine nt ?_
        refine JC.cond rfl (fun hb => ?_) (fun hb => ?_)
        ·
         replace h := b_if (nv_t hb) h
         refine sr ?_
         refine cq ?_
         refine nt ?_
         refine JC.ret ?_
         refine JN.then_r ?_
         refine JN.blk_r ?_
         refine JN.then_r ?_
         refine JN.then_r ?_
         refine JN.blk_r ?_
         refine JN.then_r ?_
         obtain rfl := hR _ h
         exact JN.ret () [_] 0 ⟨rfl, trivial⟩ rfl
        ·
         replace h := b_ifn (nv_fn hb) h
         refine JC.skip ?_
         refine JN.then_n ?_
         show JC _ _ _ _ _
         refine sr ?_
         refine ja (o_field_obj rfl fo53_2) ?_
         refine ka (o_load_obj rfl sz3 (fun _ => rfl) rfl) ?_
         obtain ⟨r32, er32, h⟩ := b_bind h
         have cr32 := ref_inside_ok k x28.2.2 (0 : Int) (9 : Int) r32 er32
         refine jc (o_call [.tmp 99, .const (.int .i64 (0)), .const (.int .i64 (9))] rfl rfl en94 rfl cr32) ?_
         refine ja (o_not rfl) ?_
         refine nt ?_
         refine JC.cond rfl (fun hb => ?_) (fun hb => ?_)
         ·
          replace h := b_if (nv_t hb) h
          refine sr ?_
          refine cq ?_
          refine nt ?_
          refine JC.ret ?_
          refine JN.blk_r ?_
          refine JN.then_r ?_
          refine JN.then_r ?_
          refine JN.blk_r ?_
          refine JN.then_r ?_
          obtain rfl := hR _ h
          exact JN.ret () [_] 0 ⟨rfl, trivial⟩ rfl
         ·
          replace h := b_ifn (nv_fn hb) h
          refine JC.skip ?_
          refine JN.blk_n ?_
          refine JN.then_n ?_
          show JC _ _ _ _ _
          refine JC.region ?_
          refine mq ?_
          obtain ⟨x33, ex33, h⟩ := b_bind h
          refine jb (o_add rfl ex33) ?_
          refine aq ?_
          refine JO.nil ?_
          refine JN.then_n ?_
          exact JN.z ((), x33) h (SE.fin [1] ⟨rfl, rfl, trivial⟩ rfl)
      ·
       replace h := b_ifn (d_f hb) h
       refine JC.exit ?_
       refine JN.then_x ?_
       refine JN.then_x ?_
       refine JN.blk_hit ?_
       refine JN.then_n ?_
       exact JN.z ((), ()) h (SE.fin [0] ⟨rfl, trivial⟩ rfl)
     ·
      refine JC.seq ?_
      refine sr ?_
      refine ka (o_load_obj rfl sz28 (nfn) rfl) ?_
      refine ja (o_field_obj rfl fo28_2) ?_
      refine ka (o_load_obj rfl sz22 (fun _ => rfl) rfl) ?_
      obtain ⟨r34, er34, h⟩ := b_bind h
      have cr34 := ref_things_ok k a0 a0.2.2.1 (-1 : Int) r34 er34
      refine jc (o_call [.tmp 102, .tmp 104, .const (.int .i64 (-1))] rfl rfl en93 rfl cr34) ?_
      refine aq ?_
      refine nt ?_
      refine sr ?_
      refine mq ?_
      refine jb (o_neq rfl) ?_
      refine nt ?_
      refine JC.cond rfl (fun hb => ?_) (fun hb => ?_)
      ·
       replace h := b_if (n_t hb) h
       refine sr ?_
       refine mq ?_
       refine aq ?_
       refine nt ?_
       refine JC.ret ?_
       refine JN.then_r ?_
       obtain rfl := Option.some.inj h
       exact JN.ret () [_] 0 ⟨rfl, trivial⟩ rfl
      ·
       replace h := b_ifn (n_fn hb) h
       refine JC.skip ?_
       refine JN.then_n ?_
       show JC _ _ _ _ _
       refine sr ?_
       refine ka (o_load_obj rfl sz28 (nfn) rfl) ?_
       refine ja (o_field_obj rfl fo28_3) ?_
       refine ka (o_load_obj rfl sz22 (fun _ => rfl) rfl) ?_
       obtain ⟨r35, er35, h⟩ := b_bind h
       have cr35 := ref_things_ok k a0 a0.2.2.2 (-1 : Int) r35 er35
       refine jc (o_call [.tmp 109, .tmp 111, .const (.int .i64 (-1))] rfl rfl en93 rfl cr35) ?_
       refine aq ?_
       refine nt ?_
       refine JC.ret ?_
       obtain rfl := Option.some.inj h
       exact JN.ret () [_] 0 ⟨rfl, trivial⟩ rfl


def ref_has_l1 (k : Nat) (a0 : (List Int)) (a1 : Int) : Nat → Int → Option (Except Bool Unit)
 | 0, _ => none
 | n + 1, y3 =>
  if y3 < (a0.length : Int) then ((geti a0 y3).bind fun x5 =>
  if x5 = a1 then (some (.error true)) else ((ck (y3 + (1 : Int))).bind fun x6 =>
  ref_has_l1 k a0 a1 n x6)) else (some (.ok ()))
def ref_has (k : Nat) (a0 : (List Int)) (a1 : Int) : Option Bool :=
 bE (α := Unit) (ref_has_l1 k a0 a1 k (0 : Int)) (some) fun _ =>
 some false

theorem ref_has_ok (k : Nat) (a0 : (List Int)) (a1 : Int) (r : Bool) (h : ref_has k a0 a1 = some r) :
 Ctr Try.prog 114 [.rep (.slice (.int .i64)) a0, .eq (.int .i64 a1)] [] (fun _ : Unit => (resA [.eq (.bool r)], [])) := by
 unfold ref_has at h
 replace h := b_top h
 refine Ctr.of 18 Try.func114 rfl Try.ntmps114 rfl fun S w0 => ?_
 refine sr ?_
 refine cq ?_
 refine nt ?_
 refine JC.cutE (Z := Unit) (α := Unit) (fun z2 x1 => []) (fun z2 x1 => []) (fun e => e = r) h (fun e h => Option.some.inj h) (fun K hR h => ?_) (fun z2 x1 h => ?_)
 ·
  refine sr ?_
  refine cq ?_
  refine nt ?_
  refine JC.block ?_
  refine JC.loopB (Z := Unit) (α := Int) (fun z4 y3 => [(0, .rep (.slice (.int .i64)) a0), (1, .eq (.int .i64 a1)), (5, .eq (.int .i64 y3))]) (fun z4 y3 => []) (ref_has_l1 k a0 a1) k () (0 : Int) (fun _ => rfl) h (SE.fin [] ⟨rfl, rfl, rfl, trivial⟩ rfl) (fun n z4 y3 h => ?_)
  unfold ref_has_l1 at h
  refine JC.seq ?_
  refine sr ?_
  iterate 2 refine mq ?_
  refine ja (o_len rfl rfl Try.underlying22) ?_
  refine jb (o_lss rfl) ?_
  refine nt ?_
  refine JC.cond rfl (fun hb => ?_) (fun hb => ?_)
  ·
   replace h := b_if (d_t hb) h
   refine JC.skip ?_
   refine JN.then_n ?_
   show JC _ _ _ _ _
   refine JC.seq ?_
   refine JC.block ?_
   refine sr ?_
   iterate 2 refine mq ?_
   obtain ⟨x5, ex5, h⟩ := b_bind h
   refine jb (o_index (t := (.int .i64)) rfl Try.underlying22 sz3 ex5) ?_
   refine ja (o_load_at (t := (.int .i64)) rfl sz3 rfl) ?_
   refine mq ?_
   refine jb (o_eql rfl) ?_
   refine nt ?_
   refine JC.cond rfl (fun hb => ?_) (fun hb => ?_)
   ·
    replace h := b_if (d_t hb) h
    refine sr ?_
    refine cq ?_
    refine nt ?_
    refine JC.ret ?_
    refine JN.blk_r ?_
    refine JN.then_r ?_
    refine JN.then_r ?_
    refine JN.blk_r ?_
    refine JN.then_r ?_
    obtain rfl := hR _ h
    exact JN.ret () [_] 0 ⟨rfl, trivial⟩ rfl
   ·
    replace h := b_ifn (d_f hb) h
    refine JC.skip ?_
    refine JN.blk_n ?_
    refine JN.then_n ?_
    show JC _ _ _ _ _
    refine JC.region ?_
    refine mq ?_
    obtain ⟨x6, ex6, h⟩ := b_bind h
    refine jb (o_add rfl ex6) ?_
    refine aq ?_
    refine JO.nil ?_
    refine JN.then_n ?_
    exact JN.z ((), x6) h (SE.fin [] ⟨rfl, rfl, rfl, trivial⟩ rfl)
  ·
   replace h := b_ifn (d_f hb) h
   refine JC.exit ?_
   refine JN.then_x ?_
   refine JN.then_x ?_
   refine JN.blk_hit ?_
   refine JN.then_n ?_
   exact JN.z ((), ()) h (SE.fin [] trivial rfl)
 ·
  refine sr ?_
  refine cq ?_
  refine nt ?_
  refine JC.ret ?_
  obtain rfl := Option.some.inj h
  exact JN.ret () [_] 0 ⟨rfl, trivial⟩ rfl


def ref_changed_l3 (k : Nat) (a0 : dChange) (y10 : (List Bool) × Int) (r14 : Bool) (r15 : Bool) : Nat → ((List Bool) × Int) → Option (List Bool)
 | 0, _ => none
 | n + 1, y19 =>
  ((if y19.2 < (a0.1.length : Int) then (if r14 = true then (some r15) else (some false)) else (some false)) : Option (Bool)).bind fun x21 =>
  if x21 = true then ((((((geti y19.1 y19.2).bind fun x27 =>
  if x27 = true then ((geti a0.1 y19.2).bind fun x28 =>
  (ref_has k x28.1 y10.2).bind fun r29 =>
  some r29) else (some false)) : Option (Bool)).bind fun x25 =>
  if x25 = true then ((geti y19.1 y10.2).bind fun x30 =>
  some (List.set y19.1 (Int.toNat y10.2) true)) else (some y19.1)) : Option ((List Bool))).bind fun x23 =>
  (ck (y19.2 + (1 : Int))).bind fun x31 =>
  ref_changed_l3 k a0 y10 r14 r15 n (x23, x31)) else (some y19.1)

def ref_changed_l2 (k : Nat) (a0 : dChange) : Nat → ((List Bool) × Int) → Option (List Bool)
 | 0, _ => none
 | n + 1, y10 =>
  if y10.2 < (a0.1.length : Int) then ((((ref_has k a0.2.2.1 y10.2).bind fun r14 =>
  (ref_has k a0.2.2.2 y10.2).bind fun r15 =>
  ((if ¬ (r14 = r15) then ((geti y10.1 y10.2).bind fun x18 =>
  some (List.set y10.1 (Int.toNat y10.2) true)) else (some y10.1)) : Option ((List Bool))).bind fun x16 =>
  ref_changed_l3 k a0 y10 r14 r15 k (x16, (0 : Int))) : Option ((List Bool))).bind fun x12 =>
  (ck (y10.2 + (1 : Int))).bind fun x32 =>
  ref_changed_l2 k a0 n (x12, x32)) else (some y10.1)

def ref_changed_l1 (k : Nat) (a0 : dChange) : Nat → ((List Bool) × Int) → Option (List Bool)
 | 0, _ => none
 | n + 1, y6 =>
  if y6.2 ≤ (a0.1.length : Int) then (((ref_changed_l2 k a0 k (y6.1, (0 : Int))) : Option ((List Bool))).bind fun x8 =>
  (ck (y6.2 + (1 : Int))).bind fun x33 =>
  ref_changed_l1 k a0 n (x8, x33)) else (some y6.1)
def ref_changed (k : Nat) (a0 : dChange) : Option (List Bool) :=
 (chkP (0 ≤ (a0.1.length : Int) ∧ okLen (Int.toNat (a0.1.length : Int)))).bind fun _ =>
 ((ref_changed_l1 k a0 k (List.replicate (Int.toNat (a0.1.length : Int)) false, (0 : Int))) : Option ((List Bool))).bind fun x4 =>
 some x4

theorem ref_changed_ok (k : Nat) (a0 : dChange) (r : (List Bool)) (h : ref_changed k a0 = some r) :
 Ctr Try.prog 113 [.rep tChange a0] [] (fun _ : Unit => (resA [.rep (.slice .bool) r], [])) := by
 unfold ref_changed at h
 replace h := b_top h
 refine Ctr.of 72 Try.func113 rfl Try.ntmps113 rfl fun S w0 => ?_
 refine sr ?_
 refine JO.s01 rfl rfl rfl (o_box rfl rfl) ⟨rfl, trivial⟩ fun b1 => ?_
 refine cq ?_
 refine nt ?_
 refine sr ?_
 refine ja (o_field_obj rfl fo28_0) ?_
 refine ka (o_load_obj rfl sz25 (fun _ => rfl) rfl) ?_
 refine ja (o_len rfl rfl Try.underlying25) ?_
 obtain ⟨u2, eu2, h⟩ := b_bind h
 refine JO.s01 rfl rfl rfl (o_make (t := .bool) (d := false) rfl sl107 zr4 (chkP_some eu2).1 (chkP_some eu2).2) ⟨rfl, rfl, trivial⟩ fun v3 => ?_
 refine aq ?_
 refine nt ?_
 refine JC.cutB (Z := Unit) (α := (List Bool)) (fun z5 x4 => [(3, .eq v3)]) (fun z5 x4 => [.sl v3 4 .bool x4]) h (fun K h => ?_) (fun z5 x4 h => ?_)
 ·
  refine sr ?_
  refine cq ?_
  refine nt ?_
  refine JC.block ?_
  refine JC.loopB (Z := Unit) (α := (List Bool) × Int) (fun z7 y6 => [(1, .eq (.pointer (some ⟨b1, 0, none⟩))), (3, .eq v3), (4, .eq (.int .i64 y6.2))]) (fun z7 y6 => [.obj b1 28 (.rep tChange a0), .sl v3 4 .bool y6.1]) (ref_changed_l1 k a0) k () (List.replicate (Int.toNat (a0.1.length : Int)) false, (0 : Int)) (fun _ => rfl) h (SE.fin [1, 0] ⟨rfl, rfl, rfl, trivial⟩ rfl) (fun n z7 y6 h => ?_)
  unfold ref_changed_l1 at h
  refine JC.seq ?_
  refine sr ?_
  refine mq ?_
  refine ja (o_field_obj rfl fo28_0) ?_
  refine ka (o_load_obj rfl sz25 (fun _ => rfl) rfl) ?_
  refine ja (o_len rfl rfl Try.underlying25) ?_
  refine jb (o_leq rfl) ?_
  refine nt ?_
  refine JC.cond rfl (fun hb => ?_) (fun hb => ?_)
  ·
   replace h := b_if (d_t hb) h
   refine JC.skip ?_
   refine JN.then_n ?_
   show JC _ _ _ _ _
   refine JC.cutB (Z := Unit) (α := (List Bool)) (fun z9 x8 => [(1, .eq (.pointer (some ⟨b1, 0, none⟩))), (3, .eq v3), (4, .eq (.int .i64 y6.2))]) (fun z9 x8 => [.obj b1 28 (.rep tChange a0), .sl v3 4 .bool x8]) h (fun K h => ?_) (fun z9 x8 h => ?_)
   ·
    refine JC.block ?_
    refine sr ?_
    refine cq ?_
    refine nt ?_
    refine JC.block ?_
    refine JC.loopB (Z := Unit) (α := (List Bool) × Int) (fun z11 y10 => [(1, .eq (.pointer (some ⟨b1, 0, none⟩))), (3, .eq v3), (4, .eq (.int .i64 y6.2)), (5, .eq (.int .i64 y10.2))]) (fun z11 y10 => [.obj b1 28 (.rep tChange a0), .sl v3 4 .bool y10.1]) (ref_changed_l2 k a0) k () (y6.1, (0 : Int)) (fun _ => rfl) h (SE.fin [0, 1] ⟨rfl, rfl, rfl, rfl, trivial⟩ rfl) (fun n z11 y10 h => ?_)
    unfold ref_changed_l2 at h
    refine JC.seq ?_
    refine sr ?_
    refine mq ?_
    refine ja (o_field_obj rfl fo28_0) ?_
    refine ka (o_load_obj rfl sz25 (fun _ => rfl) rfl) ?_
    refine ja (o_len rfl rfl Try.underlying25) ?_
    refine jb (o_lss rfl) ?_
    refine nt ?_
    refine JC.cond rfl (fun hb => ?_) (fun hb => ?_)
    ·
     replace h := b_if (d_t hb) h
     refine JC.skip ?_
     refine JN.then_n ?_
     show JC _ _ _ _ _
     refine JC.cutB (Z := Unit) (α := (List Bool)) (fun z13 x12 => [(1, .eq (.pointer (some ⟨b1, 0, none⟩))), (3, .eq v3), (4, .eq (.int .i64 y6.2)), (5, .eq (.int .i64 y10.2))]) (fun z13 x12 => [.obj b1 28 (.rep tChange a0), .sl v3 4 .bool x12]) h (fun K h => ?_) (fun z13 x12 h => ?_)
     ·
      refine JC.block ?_
      refine JC.seq ?_
      refine JC.drawN ?_
      refine da (o_field_obj rfl fo28_2) ?_
      refine ea 0 (o_load_obj rfl sz22 (fun _ => rfl) rfl) ?_
      refine dm ?_
      obtain ⟨r14, er14, h⟩ := b_bind h
      have cr14 := ref_has_ok k a0.2.2.1 y10.2 r14 er14
      refine db (o_call [.tmp 28, .tmp 29] rfl rfl en114 rfl cr14) ?_
      refine da (o_field_obj rfl fo28_3) ?_
      refine ea 0 (o_load_obj rfl sz22 (fun _ => rfl) rfl) ?_
      refine dm ?_
      refine DN.fin (by kernel_rfl) mixed ?_
      obtain ⟨r15, er15, h⟩ := b_bind h
      have cr15 := ref_has_ok k a0.2.2.2 y10.2 r15 er15
      refine jb (o_call [.tmp 32, .tmp 33] rfl rfl en114 rfl cr15) ?_
      refine aq ?_
      refine aq ?_
      refine nt ?_
      refine JC.cutB (Z := Unit) (α := (List Bool)) (fun z17 x16 => [(1, .eq (.pointer (some ⟨b1, 0, none⟩))), (3, .eq v3), (4, .eq (.int .i64 y6.2)), (5, .eq (.int .i64 y10.2)), (6, .eq (.bool r14)), (7, .eq (.bool r15))]) (fun z17 x16 => [.obj b1 28 (.rep tChange a0), .sl v3 4 .bool x16]) h (fun K h => ?_) (fun z17 x16 h => ?_)
      ·
       refine sr ?_
       iterate 2 refine mq ?_
       refine jb (o_neqb rfl Try.underlying4) ?_
       refine nt ?_
       refine JC.cond rfl (fun hb => ?_) (fun hb => ?_)
       ·
        replace h := b_if (n_t hb) h
        refine JC.region ?_
        iterate 2 refine mq ?_
        obtain ⟨x18, ex18, h⟩ := b_bind h
        refine JO.front 1 rfl ?_
        refine kb (o_index_own (t := .bool) rfl Try.underlying107 sz4 ex18) ?_
        refine JO.n11 rfl rfl (o_store_elW (i := Int.toNat y10.2) rfl sz4 rfl (geti_lt ex18) rfl .bool rfl) ⟨rfl, rfl, trivial⟩ ?_
        refine JO.nil ?_
        refine JN.then_n ?_
        exact JN.z ((), List.set y10.1 (Int.toNat y10.2) true) h (SE.fin [1, 0] ⟨rfl, rfl, rfl, rfl, rfl, rfl, trivial⟩ rfl)
       ·
        replace h := b_ifn (n_fn hb) h
        refine JC.skip ?_
        refine JN.then_n ?_
        exact JN.z ((), y10.1) h (SE.fin [0, 1] ⟨rfl, rfl, rfl, rfl, rfl, rfl, trivial⟩ rfl)
      ·
       refine sr ?_
       refine cq ?_
       refine nt ?_
       refine JC.block ?_
       refine JC.loopB (Z := Unit) (α := (List Bool) × Int) (fun z20 y19 => [(1, .eq (.pointer (some ⟨b1, 0, none⟩))), (3, .eq v3), (4, .eq (.int .i64 y6.2)), (5, .eq (.int .i64 y10.2)), (6, .eq (.bool r14)), (7, .eq (.bool r15)), (8, .eq (.int .i64 y19.2))]) (fun z20 y19 => [.obj b1 28 (.rep tChange a0), .sl v3 4 .bool y19.1]) (ref_changed_l3 k a0 y10 r14 r15) k () (x16, (0 : Int)) (fun _ => rfl) h (SE.fin [0, 1] ⟨rfl, rfl, rfl, rfl, rfl, rfl, rfl, trivial⟩ rfl) (fun n z20 y19 h => ?_)
       unfold ref_changed_l3 at h
       refine JC.seq ?_
       refine JC.cutB (Z := Unit) (α := Bool) (fun z22 x21 => [(1, .eq (.pointer (some ⟨b1, 0, none⟩))), (3, .eq v3), (4, .eq (.int .i64 y6.2)), (5, .eq (.int .i64 y10.2)), (6, .eq (.bool r14)), (7, .eq (.bool r15)), (8, .eq (.int .i64 y19.2)), (51, .eq (.bool x21))]) (fun z22 x21 => [.obj b1 28 (.rep tChange a0), .sl v3 4 .bool y19.1]) h (fun K h => ?_) (fun z22 x21 h => ?_)
       ·
        refine JC.region ?_
        refine mq ?_
        refine ja (o_field_obj rfl fo28_0) ?_
        refine ka (o_load_obj rfl sz25 (fun _ => rfl) rfl) ?_
        refine ja (o_len rfl rfl Try.underlying25) ?_
        refine jb (o_lss rfl) ?_
        refine mq ?_
        refine JO.bool (s := 46) rfl (fun hb => ?_) (fun hb => ?_)
        ·
         replace h := b_if (d_t hb) h
         refine gm ?_
         refine pt ?_
         refine mq ?_
         refine JO.bool (s := 49) rfl (fun hb => ?_) (fun hb => ?_)
         ·
          replace h := b_if (v_t hb) h
          refine gm ?_
          refine pt ?_
          refine JO.nil ?_
          refine JN.then_n ?_
          exact JN.z ((), r15) h (SE.fin [0, 1] ⟨rfl, rfl, rfl, rfl, rfl, rfl, rfl, rfl, trivial⟩ rfl)
         ·
          replace h := b_ifn (v_f hb) h
          refine gn ?_
          refine pf ?_
          refine JO.nil ?_
          refine JN.then_n ?_
          exact JN.z ((), false) h (SE.fin [0, 1] ⟨rfl, rfl, rfl, rfl, rfl, rfl, rfl, rfl, trivial⟩ rfl)
        ·
         replace h := b_ifn (d_f hb) h
         refine gn ?_
         refine pf ?_
         refine mq ?_
         refine gn ?_
         refine pf ?_
         refine JO.nil ?_
         refine JN.then_n ?_
         exact JN.z ((), false) h (SE.fin [0, 1] ⟨rfl, rfl, rfl, rfl, rfl, rfl, rfl, rfl, trivial⟩ rfl)
       ·
        refine JC.cond rfl (fun hb => ?_) (fun hb => ?_)
        ·
         replace h := b_if (v_t hb) h
         refine JC.skip ?_
         refine JN.then_n ?_
         show JC _ _ _ _ _
         refine JC.cutB (Z := Unit) (α := (List Bool)) (fun z24 x23 => [(1, .eq (.pointer (some ⟨b1, 0, none⟩))), (3, .eq v3), (4, .eq (.int .i64 y6.2)), (5, .eq (.int .i64 y10.2)), (6, .eq (.bool r14)), (7, .eq (.bool r15)), (8, .eq (.int .i64 y19.2))]) (fun z24 x23 => [.obj b1 28 (.rep tChange a0), .sl v3 4 .bool x23]) h (fun K h => ?_) (fun z24 x23 h => ?_)
         ·
          refine JC.block ?_
          refine JC.cutB (Z := Unit) (α := Bool) (fun z26 x25 => [(1, .eq (.pointer (some ⟨b1, 0, none⟩))), (3, .eq v3), (4, .eq (.int .i64 y6.2)), (5, .eq (.int .i64 y10.2)), (6, .eq (.bool r14)), (7, .eq (.bool r15)), (8, .eq (.int .i64 y19.2)), (67, .eq (.bool x25))]) (fun z26 x25 => [.obj b1 28 (.rep tChange a0), .sl v3 4 .bool y19.1]) h (fun K h => ?_) (fun z26 x25 h => ?_)
          ·
           refine JC.region ?_
           iterate 2 refine mq ?_
           obtain ⟨x27, ex27, h⟩ := b_bind h
           refine JO.front 1 rfl ?_
           refine kb (o_index_own (t := .bool) rfl Try.underlying107 sz4 ex27) ?_
           refine ka (o_load_el (i := Int.toNat y19.2) (off := 0) rfl sz4 (fun _ => rfl) rfl (geti_some ex27).2.2 rfl) ?_
           refine mq ?_
           refine JO.bool (s := 58) rfl (fun hb => ?_) (fun hb => ?_)
           ·
            replace h := b_if (v_t hb) h
            refine ga (o_field_obj rfl fo28_0) ?_
            refine JO.front 1 rfl ?_
            refine JO.g11 rfl rfl rfl rfl rfl rfl (o_load_obj rfl sz25 (fun _ => rfl) rfl) ⟨rfl, trivial⟩ ?_
            refine gm ?_
            obtain ⟨x28, ex28, h⟩ := b_bind h
            refine gb (o_index (t := tThing) rfl Try.underlying25 sz45 ex28) ?_
            refine ga (o_field_at 1 false rfl fo45_0 rfl) ?_
            refine ga (o_load_at (t := (.slice (.int .i64))) rfl sz22 rfl) ?_
            refine gm ?_
            obtain ⟨r29, er29, h⟩ := b_bind h
            have cr29 := ref_has_ok k x28.1 y10.2 r29 er29
            refine gb (o_call [.tmp 64, .tmp 65] rfl rfl en114 rfl cr29) ?_
            refine pt ?_
            refine JO.nil ?_
            refine JN.then_n ?_
            exact JN.z ((), r29) h (SE.fin [0, 1] ⟨rfl, rfl, rfl, rfl, rfl, rfl, rfl, rfl, trivial⟩ rfl)
           ·
            replace h := b_ifn (v_f hb) h
            iterate 8 refine gn ?_
            refine pf ?_
            refine JO.nil ?_
            refine JN.then_n ?_
            exact JN.z ((), false) h (SE.fin [1, 0] ⟨rfl, rfl, rfl, rfl, rfl, rfl, rfl, rfl, trivial⟩ rfl)
          ·
           refine JC.cond rfl (fun hb => ?_) (fun hb => ?_)
           ·
            replace h := b_if (v_t hb) h
            refine JC.region ?_
            iterate 2 refine mq ?_
            obtain ⟨x30, ex30, h⟩ := b_bind h
            refine JO.front 1 rfl ?_
            refine kb (o_index_own (t := .bool) rfl Try.underlying107 sz4 ex30) ?_
            refine JO.n11 rfl rfl (o_store_elW (i := Int.toNat y10.2) rfl sz4 rfl (geti_lt ex30) rfl .bool rfl) ⟨rfl, rfl, trivial⟩ ?_
            refine JO.nil ?_
            refine JN.blk_n ?_
            refine JN.then_n ?_
            exact JN.z ((), List.set y19.1 (Int.toNat y10.2) true) h (SE.fin [1, 0] ⟨rfl, rfl, rfl, rfl, rfl, rfl, rfl, trivial⟩ rfl)
           ·
            replace h := b_ifn (v_f hb) h
            refine JC.skip ?_
            refine JN.blk_n ?_
            refine JN.then_n ?_
            exact JN.z ((), y19.1) h (SE.fin [0, 1] ⟨rfl, rfl, rfl, rfl, rfl, rfl, rfl, trivial⟩ rfl)
         ·
          refine JC.region ?_
          refine mq ?_
          obtain ⟨x31, ex31, h⟩ := b_bind h
          refine jb (o_add rfl ex31) ?_
          refine aq ?_
          refine JO.nil ?_
          refine JN.then_n ?_
          exact JN.z ((), (x23, x31)) h (SE.fin [0, 1] ⟨rfl, rfl, rfl, rfl, rfl, rfl, rfl, trivial⟩ rfl)
        ·
         replace h := b_ifn (v_f hb) h
         refine JC.exit ?_
         refine JN.then_x ?_
         refine JN.then_x ?_
         refine JN.blk_hit ?_
         refine JN.blk_n ?_
         refine JN.then_n ?_
         exact JN.z ((), y19.1) h (SE.fin [0, 1] ⟨rfl, rfl, rfl, rfl, trivial⟩ rfl)
     ·
      refine JC.region ?_
      refine mq ?_
      obtain ⟨x32, ex32, h⟩ := b_bind h
      refine jb (o_add rfl ex32) ?_
      refine aq ?_
      refine JO.nil ?_
      refine JN.then_n ?_
      exact JN.z ((), (x12, x32)) h (SE.fin [0, 1] ⟨rfl, rfl, rfl, rfl, trivial⟩ rfl)
    ·
     replace h := b_ifn (d_f hb) h
     refine JC.exit ?_
     refine JN.then_x ?_
     refine JN.then_x ?_
     refine JN.blk_hit ?_
     refine JN.blk_n ?_
     refine JN.then_n ?_
     exact JN.z ((), y10.1) h (SE.fin [0, 1] ⟨rfl, rfl, rfl, trivial⟩ rfl)
   ·
    refine JC.region ?_
    refine mq ?_
    obtain ⟨x33, ex33, h⟩ := b_bind h
    refine jb (o_add rfl ex33) ?_
    refine aq ?_
    refine JO.nil ?_
    refine JN.then_n ?_
    exact JN.z ((), (x8, x33)) h (SE.fin [0, 1] ⟨rfl, rfl, rfl, trivial⟩ rfl)
  ·
   replace h := b_ifn (d_f hb) h
   refine JC.exit ?_
   refine JN.then_x ?_
   refine JN.then_x ?_
   refine JN.blk_hit ?_
   refine JN.then_n ?_
   exact JN.z ((), y6.1) h (SE.fin [1] ⟨rfl, trivial⟩ rfl)
 ·
  refine sr ?_
  refine mq ?_
  refine aq ?_
  refine nt ?_
  refine JC.ret ?_
  refine JN.se (SE.frz [2, 3, 71] ⟨rfl, rfl, rfl, trivial⟩) ?_
  obtain rfl := Option.some.inj h
  exact JN.ret () [_] 0 ⟨rfl, trivial⟩ rfl


def ref_tasks_l1 (k : Nat) (a0 : dChange) (r2 : (List Bool)) : Nat → ((List dTask) × Int) → Option (List dTask)
 | 0, _ => none
 | n + 1, y5 =>
  if y5.2 < (r2.length : Int) then ((((((geti r2 y5.2).bind fun x11 =>
  if x11 = true then ((ref_has k a0.2.2.1 y5.2).bind fun r12 =>
  some r12) else (some false)) : Option (Bool)).bind fun x9 =>
  if x9 = true then ((chkP (okLen (List.length y5.1 + List.length [(y5.2, false)]))).bind fun _ =>
  some (y5.1 ++ [(y5.2, false)])) else (some y5.1)) : Option ((List dTask))).bind fun x7 =>
  (ck (y5.2 + (1 : Int))).bind fun x15 =>
  ref_tasks_l1 k a0 r2 n (x7, x15)) else (some y5.1)

def ref_tasks_l2 (k : Nat) (a0 : dChange) (r2 : (List Bool)) : Nat → ((List dTask) × Int) → Option (List dTask)
 | 0, _ => none
 | n + 1, y18 =>
  if y18.2 < (r2.length : Int) then ((((((geti r2 y18.2).bind fun x24 =>
  if x24 = true then ((ref_has k a0.2.2.2 y18.2).bind fun r25 =>
  some r25) else (some false)) : Option (Bool)).bind fun x22 =>
  if x22 = true then ((chkP (okLen (List.length y18.1 + List.length [(y18.2, true)]))).bind fun _ =>
  some (y18.1 ++ [(y18.2, true)])) else (some y18.1)) : Option ((List dTask))).bind fun x20 =>
  (ck (y18.2 + (1 : Int))).bind fun x28 =>
  ref_tasks_l2 k a0 r2 n (x20, x28)) else (some y18.1)
def ref_tasks (k : Nat) (a0 : dChange) : Option (List dTask) :=
 (ref_changed k a0).bind fun r2 =>
 ((ref_tasks_l1 k a0 r2 k (([] : (List dTask)), (0 : Int))) : Option ((List dTask))).bind fun x3 =>
 ((ref_tasks_l2 k a0 r2 k (x3, (0 : Int))) : Option ((List dTask))).bind fun x16 =>
 some x16

theorem ref_tasks_ok (k : Nat) (a0 : dChange) (r : (List dTask)) (h : ref_tasks k a0 = some r) :
 Ctr Try.prog 87 [.rep tChange a0] [] (fun _ : Unit => (resA [.rep (.slice tTask) r], [])) := by
 unfold ref_tasks at h
 replace h := b_top h
 refine Ctr.of 52 Try.func87 rfl Try.ntmps87 rfl fun S w0 => ?_
 refine sr ?_
 refine JO.s01 rfl rfl rfl (o_box rfl rfl) ⟨rfl, trivial⟩ fun b1 => ?_
 refine cq ?_
 refine nt ?_
 refine sr ?_
 refine cq ?_
 refine nt ?_
 refine sr ?_
 refine ka (o_load_obj rfl sz28 (nfn) rfl) ?_
 obtain ⟨r2, er2, h⟩ := b_bind h
 have cr2 := ref_changed_ok k a0 r2 er2
 refine ja (o_call [.tmp 7] rfl rfl en113 rfl cr2) ?_
 refine aq ?_
 refine nt ?_
 refine JC.cutB (Z := Value) (α := (List dTask)) (fun z4 x3 => [(1, .eq (.pointer (some ⟨b1, 0, none⟩))), (3, .eq z4), (4, .rep (.slice .bool) r2)]) (fun z4 x3 => [.obj b1 28 (.rep tChange a0), .sl z4 41 tTask x3]) h (fun K h => ?_) (fun z4 x3 h => ?_)
 ·
  refine sr ?_
  refine cq ?_
  refine nt ?_
  refine JC.block ?_
  refine JC.se (SE.nil 41 tTask) ?_
  refine JC.loopB (Z := Value) (α := (List dTask) × Int) (fun z6 y5 => [(1, .eq (.pointer (some ⟨b1, 0, none⟩))), (3, .eq z6), (4, .rep (.slice .bool) r2), (5, .eq (.int .i64 y5.2))]) (fun z6 y5 => [.obj b1 28 (.rep tChange a0), .sl z6 41 tTask y5.1]) (ref_tasks_l1 k a0 r2) k (.slice none 0 0) (([] : (List dTask)), (0 : Int)) (fun _ => rfl) h (SE.fin [1, 0] ⟨rfl, rfl, rfl, rfl, trivial⟩ rfl) (fun n z6 y5 h => ?_)
  unfold ref_tasks_l1 at h
  refine JC.seq ?_
  refine sr ?_
  iterate 2 refine mq ?_
  refine ja (o_len rfl rfl Try.underlying107) ?_
  refine jb (o_lss rfl) ?_
  refine nt ?_
  refine JC.cond rfl (fun hb => ?_) (fun hb => ?_)
  ·
   replace h := b_if (d_t hb) h
   refine JC.skip ?_
   refine JN.then_n ?_
   show JC _ _ _ _ _
   refine JC.cutB (Z := Value) (α := (List dTask)) (fun z8 x7 => [(1, .eq (.pointer (some ⟨b1, 0, none⟩))), (3, .eq z8), (4, .rep (.slice .bool) r2), (5, .eq (.int .i64 y5.2))]) (fun z8 x7 => [.obj b1 28 (.rep tChange a0), .sl z8 41 tTask x7]) h (fun K h => ?_) (fun z8 x7 h => ?_)
   ·
    refine JC.block ?_
    refine JC.cutB (Z := Unit) (α := Bool) (fun z10 x9 => [(1, .eq (.pointer (some ⟨b1, 0, none⟩))), (3, .eq z6), (4, .rep (.slice .bool) r2), (5, .eq (.int .i64 y5.2)), (24, .eq (.bool x9))]) (fun z10 x9 => [.obj b1 28 (.rep tChange a0), .sl z6 41 tTask y5.1]) h (fun K h => ?_) (fun z10 x9 h => ?_)
    ·
     refine JC.region ?_
     iterate 2 refine mq ?_
     obtain ⟨x11, ex11, h⟩ := b_bind h
     refine jb (o_index (t := .bool) rfl Try.underlying107 sz4 ex11) ?_
     refine ja (o_load_at (t := .bool) rfl sz4 rfl) ?_
     refine mq ?_
     refine JO.bool (s := 19) rfl (fun hb => ?_) (fun hb => ?_)
     ·
      replace h := b_if (v_t hb) h
      refine ga (o_field_obj rfl fo28_2) ?_
      refine JO.g11 rfl rfl rfl rfl rfl rfl (o_load_obj rfl sz22 (fun _ => rfl) rfl) ⟨rfl, trivial⟩ ?_
      refine gm ?_
      obtain ⟨r12, er12, h⟩ := b_bind h
      have cr12 := ref_has_ok k a0.2.2.1 y5.2 r12 er12
      refine gb (o_call [.tmp 21, .tmp 22] rfl rfl en114 rfl cr12) ?_
      refine pt ?_
      refine JO.nil ?_
      refine JN.then_n ?_
      exact JN.z ((), r12) h (SE.fin [0, 1] ⟨rfl, rfl, rfl, rfl, rfl, trivial⟩ rfl)
     ·
      replace h := b_ifn (v_f hb) h
      iterate 4 refine gn ?_
      refine pf ?_
      refine JO.nil ?_
      refine JN.then_n ?_
      exact JN.z ((), false) h (SE.fin [0, 1] ⟨rfl, rfl, rfl, rfl, rfl, trivial⟩ rfl)
    ·
     refine JC.cond rfl (fun hb => ?_) (fun hb => ?_)
     ·
      replace h := b_if (v_t hb) h
      refine JC.region ?_
      iterate 2 refine mq ?_
      refine ja (o_buildT [(0, .tmp 26, _)] rfl pl41 za41 alb41 (stors ⟨rfl, trivial⟩) rfl) ?_
      refine ja (o_litB (t := tTask) [(.tmp 27, _)] [(y5.2, false)] rfl rfl sl38 (.cons trivial (.agg (.pair .int .bool)) .nil) rfl rfl) ?_
      obtain ⟨u13, eu13, h⟩ := b_bind h
      refine JO.front 1 rfl ?_
      refine JO.s1x rfl rfl rfl (o_append rfl rfl sl38 (chkP_some eu13)) ⟨rfl, rfl, trivial⟩ fun v14 => ?_
      refine aq ?_
      refine JO.nil ?_
      refine JN.blk_n ?_
      refine JN.then_n ?_
      exact JN.z (v14, y5.1 ++ [(y5.2, false)]) h (SE.fin [1, 0] ⟨rfl, rfl, rfl, rfl, trivial⟩ rfl)
     ·
      replace h := b_ifn (v_f hb) h
      refine JC.skip ?_
      refine JN.blk_n ?_
      refine JN.then_n ?_
      exact JN.z (z6, y5.1) h (SE.fin [0, 1] ⟨rfl, rfl, rfl, rfl, trivial⟩ rfl)
   ·
    refine JC.region ?_
    refine mq ?_
    obtain ⟨x15, ex15, h⟩ := b_bind h
    refine jb (o_add rfl ex15) ?_
    refine aq ?_
    refine JO.nil ?_
    refine JN.then_n ?_
    exact JN.z (z8, (x7, x15)) h (SE.fin [0, 1] ⟨rfl, rfl, rfl, rfl, trivial⟩ rfl)
  ·
   replace h := b_ifn (d_f hb) h
   refine JC.exit ?_
   refine JN.then_x ?_
   refine JN.then_x ?_
   refine JN.blk_hit ?_
   refine JN.then_n ?_
   exact JN.z (z6, y5.1) h (SE.fin [0, 1] ⟨rfl, rfl, rfl, trivial⟩ rfl)
 ·
  refine JC.cutB (Z := Value) (α := (List dTask)) (fun z17 x16 => [(3, .eq z17)]) (fun z17 x16 => [.sl z17 41 tTask x16]) h (fun K h => ?_) (fun z17 x16 h => ?_)
  ·
   refine sr ?_
   refine cq ?_
   refine nt ?_
   refine JC.block ?_
   refine JC.loopB (Z := Value) (α := (List dTask) × Int) (fun z19 y18 => [(1, .eq (.pointer (some ⟨b1, 0, none⟩))), (3, .eq z19), (4, .rep (.slice .bool) r2), (6, .eq (.int .i64 y18.2))]) (fun z19 y18 => [.obj b1 28 (.rep tChange a0), .sl z19 41 tTask y18.1]) (ref_tasks_l2 k a0 r2) k z4 (x3, (0 : Int)) (fun _ => rfl) h (SE.fin [0, 1] ⟨rfl, rfl, rfl, rfl, trivial⟩ rfl) (fun n z19 y18 h => ?_)
   unfold ref_tasks_l2 at h
   refine JC.seq ?_
   refine sr ?_
   iterate 2 refine mq ?_
   refine ja (o_len rfl rfl Try.underlying107) ?_
   refine jb (o_lss rfl) ?_
   refine nt ?_
   refine JC.cond rfl (fun hb => ?_) (fun hb => ?_)
   ·
    replace h := b_if (d_t hb) h
    refine JC.skip ?_
    refine JN.then_n ?_
    show JC _ _ _ _ _
    refine JC.cutB (Z := Value) (α := (List dTask)) (fun z21 x20 => [(1, .eq (.pointer (some ⟨b1, 0, none⟩))), (3, .eq z21), (4, .rep (.slice .bool) r2), (6, .eq (.int .i64 y18.2))]) (fun z21 x20 => [.obj b1 28 (.rep tChange a0), .sl z21 41 tTask x20]) h (fun K h => ?_) (fun z21 x20 h => ?_)
    ·
     refine JC.block ?_
     refine JC.cutB (Z := Unit) (α := Bool) (fun z23 x22 => [(1, .eq (.pointer (some ⟨b1, 0, none⟩))), (3, .eq z19), (4, .rep (.slice .bool) r2), (6, .eq (.int .i64 y18.2)), (45, .eq (.bool x22))]) (fun z23 x22 => [.obj b1 28 (.rep tChange a0), .sl z19 41 tTask y18.1]) h (fun K h => ?_) (fun z23 x22 h => ?_)
     ·
      refine JC.region ?_
      iterate 2 refine mq ?_
      obtain ⟨x24, ex24, h⟩ := b_bind h
      refine jb (o_index (t := .bool) rfl Try.underlying107 sz4 ex24) ?_
      refine ja (o_load_at (t := .bool) rfl sz4 rfl) ?_
      refine mq ?_
      refine JO.bool (s := 40) rfl (fun hb => ?_) (fun hb => ?_)
      ·
       replace h := b_if (v_t hb) h
       refine ga (o_field_obj rfl fo28_3) ?_
       refine JO.g11 rfl rfl rfl rfl rfl rfl (o_load_obj rfl sz22 (fun _ => rfl) rfl) ⟨rfl, trivial⟩ ?_
       refine gm ?_
       obtain ⟨r25, er25, h⟩ := b_bind h
       have cr25 := ref_has_ok k a0.2.2.2 y18.2 r25 er25
       refine gb (o_call [.tmp 42, .tmp 43] rfl rfl en114 rfl cr25) ?_
       refine pt ?_
       refine JO.nil ?_
       refine JN.then_n ?_
       exact JN.z ((), r25) h (SE.fin [0, 1] ⟨rfl, rfl, rfl, rfl, rfl, trivial⟩ rfl)
      ·
       replace h := b_ifn (v_f hb) h
       iterate 4 refine gn ?_
       refine pf ?_
       refine JO.nil ?_
       refine JN.then_n ?_
       exact JN.z ((), false) h (SE.fin [0, 1] ⟨rfl, rfl, rfl, rfl, rfl, trivial⟩ rfl)
     ·
      refine JC.cond rfl (fun hb => ?_) (fun hb => ?_)
      ·
       replace h := b_if (v_t hb) h
       refine JC.region ?_
       iterate 2 refine mq ?_
       refine jb (o_buildT [(0, .tmp 47, _), (1, .const (.bool true), _)] rfl pl41 za41 alb41 (stors ⟨rfl, rfl, trivial⟩) rfl) ?_
       refine ja (o_litB (t := tTask) [(.tmp 48, _)] [(y18.2, true)] rfl rfl sl38 (.cons trivial (.agg (.pair .int .bool)) .nil) rfl rfl) ?_
       obtain ⟨u26, eu26, h⟩ := b_bind h
       refine JO.front 1 rfl ?_
       refine JO.s1x rfl rfl rfl (o_append rfl rfl sl38 (chkP_some eu26)) ⟨rfl, rfl, trivial⟩ fun v27 => ?_
       refine aq ?_
       refine JO.nil ?_
       refine JN.blk_n ?_
       refine JN.then_n ?_
       exact JN.z (v27, y18.1 ++ [(y18.2, true)]) h (SE.fin [1, 0] ⟨rfl, rfl, rfl, rfl, trivial⟩ rfl)
      ·
       replace h := b_ifn (v_f hb) h
       refine JC.skip ?_
       refine JN.blk_n ?_
       refine JN.then_n ?_
       exact JN.z (z19, y18.1) h (SE.fin [0, 1] ⟨rfl, rfl, rfl, rfl, trivial⟩ rfl)
    ·
     refine JC.region ?_
     refine mq ?_
     obtain ⟨x28, ex28, h⟩ := b_bind h
     refine jb (o_add rfl ex28) ?_
     refine aq ?_
     refine JO.nil ?_
     refine JN.then_n ?_
     exact JN.z (z21, (x20, x28)) h (SE.fin [0, 1] ⟨rfl, rfl, rfl, rfl, trivial⟩ rfl)
   ·
    replace h := b_ifn (d_f hb) h
    refine JC.exit ?_
    refine JN.then_x ?_
    refine JN.then_x ?_
    refine JN.blk_hit ?_
    refine JN.then_n ?_
    exact JN.z (z19, y18.1) h (SE.fin [1] ⟨rfl, trivial⟩ rfl)
  ·
   refine sr ?_
   refine mq ?_
   refine aq ?_
   refine nt ?_
   refine JC.ret ?_
   refine JN.se (SE.frz [2, 3, 51] ⟨rfl, rfl, rfl, trivial⟩) ?_
   obtain rfl := Option.some.inj h
   exact JN.ret () [_] 0 ⟨rfl, trivial⟩ rfl


def ref_asked (k : Nat) (a0 : dChange) : Option Int :=
 (ref_Check k a0).bind fun r2 =>
 if ¬ (r2 = (0 : Int)) then (some r2) else ((ref_tasks k a0).bind fun r3 =>
 if (4 : Int) < (r3.length : Int) then (some (6 : Int)) else (some (0 : Int)))

theorem ref_asked_ok (k : Nat) (a0 : dChange) (r : Int) (h : ref_asked k a0 = some r) :
 Ctr Try.prog 86 [.rep tChange a0] [] (fun _ : Unit => (resA [.eq (.int .i64 r)], [])) := by
 unfold ref_asked at h
 replace h := b_top h
 refine Ctr.of 13 Try.func86 rfl Try.ntmps86 rfl fun S w0 => ?_
 refine sr ?_
 refine JO.s01 rfl rfl rfl (o_box rfl rfl) ⟨rfl, trivial⟩ fun b1 => ?_
 refine cq ?_
 refine nt ?_
 refine JC.seq ?_
 refine sr ?_
 refine ka (o_load_obj rfl sz28 (nfn) rfl) ?_
 obtain ⟨r2, er2, h⟩ := b_bind h
 have cr2 := ref_Check_ok k a0 r2 er2
 refine ja (o_call [.tmp 4] rfl rfl en51 rfl cr2) ?_
 refine aq ?_
 refine nt ?_
 refine sr ?_
 refine mq ?_
 refine jb (o_neq rfl) ?_
 refine nt ?_
 refine JC.cond rfl (fun hb => ?_) (fun hb => ?_)
 ·
  replace h := b_if (n_t hb) h
  refine sr ?_
  refine mq ?_
  refine aq ?_
  refine nt ?_
  refine JC.ret ?_
  refine JN.then_r ?_
  obtain rfl := Option.some.inj h
  exact JN.ret () [_] 0 ⟨rfl, trivial⟩ rfl
 ·
  replace h := b_ifn (n_fn hb) h
  refine JC.skip ?_
  refine JN.then_n ?_
  show JC _ _ _ _ _
  refine JC.seq ?_
  refine sr ?_
  refine ka (o_load_obj rfl sz28 (nfn) rfl) ?_
  obtain ⟨r3, er3, h⟩ := b_bind h
  have cr3 := ref_tasks_ok k a0 r3 er3
  refine ja (o_call [.tmp 9] rfl rfl en87 rfl cr3) ?_
  refine ja (o_len rfl rfl Try.underlying38) ?_
  refine jb (o_gtr rfl) ?_
  refine nt ?_
  refine JC.cond rfl (fun hb => ?_) (fun hb => ?_)
  ·
   replace h := b_if (d_t hb) h
   refine sr ?_
   refine cq ?_
   refine nt ?_
   refine JC.ret ?_
   refine JN.then_r ?_
   obtain rfl := Option.some.inj h
   exact JN.ret () [_] 0 ⟨rfl, trivial⟩ rfl
  ·
   replace h := b_ifn (d_f hb) h
   refine JC.skip ?_
   refine JN.then_n ?_
   show JC _ _ _ _ _
   refine sr ?_
   refine cq ?_
   refine nt ?_
   refine JC.ret ?_
   obtain rfl := Option.some.inj h
   exact JN.ret () [_] 0 ⟨rfl, trivial⟩ rfl


def ref_Tasks (k : Nat) (a0 : dChange) : Option ((List dTask) × Int) :=
 (ref_asked k a0).bind fun r2 =>
 if ¬ (r2 = (0 : Int)) then (some ([], r2)) else ((ref_tasks k a0).bind fun r3 =>
 some (r3, (0 : Int)))

theorem ref_Tasks_ok (k : Nat) (a0 : dChange) (r : (List dTask) × Int) (h : ref_Tasks k a0 = some r) :
 Ctr Try.prog 47 [.rep tChange a0] [] (fun _ : Unit => (resA [.rep (.slice tTask) r.1, .eq (.int .i64 r.2)], [])) := by
 unfold ref_Tasks at h
 replace h := b_top h
 refine Ctr.of 12 Try.func47 rfl Try.ntmps47 rfl fun S w0 => ?_
 refine sr ?_
 refine JO.s01 rfl rfl rfl (o_box rfl rfl) ⟨rfl, trivial⟩ fun b1 => ?_
 refine cq ?_
 refine cq ?_
 refine nt ?_
 refine JC.seq ?_
 refine sr ?_
 refine ka (o_load_obj rfl sz28 (nfn) rfl) ?_
 obtain ⟨r2, er2, h⟩ := b_bind h
 have cr2 := ref_asked_ok k a0 r2 er2
 refine ja (o_call [.tmp 5] rfl rfl en86 rfl cr2) ?_
 refine aq ?_
 refine nt ?_
 refine sr ?_
 refine mq ?_
 refine jb (o_neq rfl) ?_
 refine nt ?_
 refine JC.cond rfl (fun hb => ?_) (fun hb => ?_)
 ·
  replace h := b_if (n_t hb) h
  refine sr ?_
  refine mq ?_
  refine cq ?_
  refine aq ?_
  refine nt ?_
  refine JC.ret ?_
  refine JN.then_r ?_
  refine JN.se (SE.ent (t := (.slice tTask)) (x := []) 2 rfl .nil rfl rfl) ?_
  obtain rfl := Option.some.inj h
  exact JN.ret () [_, _] 0 ⟨rfl, rfl, trivial⟩ rfl
 ·
  replace h := b_ifn (n_fn hb) h
  refine JC.skip ?_
  refine JN.then_n ?_
  show JC _ _ _ _ _
  refine sr ?_
  refine ka (o_load_obj rfl sz28 (nfn) rfl) ?_
  obtain ⟨r3, er3, h⟩ := b_bind h
  have cr3 := ref_tasks_ok k a0 r3 er3
  refine ja (o_call [.tmp 10] rfl rfl en87 rfl cr3) ?_
  refine aq ?_
  refine cq ?_
  refine nt ?_
  refine JC.ret ?_
  obtain rfl := Option.some.inj h
  exact JN.ret () [_, _] 0 ⟨rfl, rfl, trivial⟩ rfl


def chg_Firsts_l2 (k : Nat) (q3 : (dChange × (List (Bool × Int)) × (List Int))) (y9 : (List (List Int)) × Int) : Nat → ((List (List Int)) × Int) → Option (List (List Int))
 | 0, _ => none
 | n + 1, y13 =>
  if y13.2 < (q3.2.1.length : Int) then ((((chkP (0 ≤ y13.2 ∧ y13.2 < 8)).bind fun _ =>
  (geti q3.2.2 y13.2).bind fun x18 =>
  (chg_set_has k x18 y9.2).bind fun r19 =>
  if r19 = true then ((chkP (okLen (List.length y13.1 + List.length [[y9.2, y13.2]]))).bind fun _ =>
  some (y13.1 ++ [[y9.2, y13.2]])) else (some y13.1)) : Option ((List (List Int)))).bind fun x15 =>
  (ck (y13.2 + (1 : Int))).bind fun x22 =>
  chg_Firsts_l2 k q3 y9 n (x15, x22)) else (some y13.1)

def chg_Firsts_l1 (k : Nat) (q3 : (dChange × (List (Bool × Int)) × (List Int))) : Nat → ((List (List Int)) × Int) → Option (List (List Int))
 | 0, _ => none
 | n + 1, y9 =>
  if y9.2 < (q3.2.1.length : Int) then (((chg_Firsts_l2 k q3 y9 k (y9.1, (0 : Int))) : Option ((List (List Int)))).bind fun x11 =>
  (ck (y9.2 + (1 : Int))).bind fun x23 =>
  chg_Firsts_l1 k q3 n (x11, x23)) else (some y9.1)
def chg_Firsts (k : Nat) (a0 : dChange) : Option ((List (List Int)) × Int) :=
 (chg_begin k a0).bind fun r2 =>
 casesO r2.1 (if ¬ (r2.2 = (0 : Int)) then (some ([], r2.2)) else (none)) (fun q3 => if ¬ (r2.2 = (0 : Int)) then (some ([], r2.2)) else (((chg_Firsts_l1 k q3 k (([] : (List (List Int))), (0 : Int))) : Option ((List (List Int)))).bind fun x7 =>
 some (x7, (0 : Int))))

theorem chg_Firsts_ok (k : Nat) (a0 : dChange) (r : (List (List Int)) × Int) (h : chg_Firsts k a0 = some r) :
 Ctr Try.prog 48 [.rep tChange a0] [] (fun _ : Unit => (resA [.rep (.slice (.slice (.int .i64))) r.1, .eq (.int .i64 r.2)], [])) := by
 unfold chg_Firsts at h
 replace h := b_top h
 refine Ctr.of 50 Try.func48 rfl Try.ntmps48 rfl fun S w0 => ?_
 refine sr ?_
 refine JO.s01 rfl rfl rfl (o_box rfl rfl) ⟨rfl, trivial⟩ fun b1 => ?_
 refine cq ?_
 refine cq ?_
 refine nt ?_
 refine sr ?_
 refine ka (o_load_obj rfl sz28 (nfn) rfl) ?_
 obtain ⟨r2, er2, h⟩ := b_bind h
 have cr2 := chg_begin_ok k a0 r2 er2
 rcases hr : r2.1 with _ | q3
 ·
  rw [hr] at h cr2; replace h := co_n h
  refine JO.stepG (Δ := []) (F := _) (fun _ _ _ => wanted_none rfl _) rfl rfl (o_call [.tmp 10] rfl rfl en67 rfl cr2) ⟨rfl, trivial⟩ fun _ => ?_
  refine mq ?_
  refine ja (o_extract rfl rfl) ?_
  refine ja (o_extract rfl rfl) ?_
  refine aq ?_
  refine aq ?_
  refine nt ?_
  refine JC.seq ?_
  refine sr ?_
  refine mq ?_
  refine jb (o_neq rfl) ?_
  refine nt ?_
  refine JC.cond rfl (fun hb => ?_) (fun hb => ?_)
  ·
   replace h := b_if (n_t hb) h
   refine sr ?_
   refine mq ?_
   refine cq ?_
   refine aq ?_
   refine nt ?_
   refine JC.ret ?_
   refine JN.then_r ?_
   refine JN.se (SE.ent (t := (.slice (.slice (.int .i64)))) (x := []) 2 rfl .nil rfl rfl) ?_
   obtain rfl := Option.some.inj h
   exact JN.ret () [_, _] 0 ⟨rfl, rfl, trivial⟩ rfl
  ·
   replace h := b_ifn (n_fn hb) h
   refine JC.skip ?_
   refine JN.then_n ?_
   show JC _ _ _ _ _
   refine sr ?_
   refine cq ?_
   refine nt ?_
   refine JC.seq ?_
   refine sr ?_
   refine mq ?_
   cases h
 ·
  rw [hr] at h cr2; replace h := co_s h
  refine JO.stepG (Δ := []) (F := _) (fun _ _ _ => wanted_none rfl _) rfl rfl (o_call [.tmp 10] rfl rfl en67 rfl cr2) ⟨rfl, trivial⟩ fun z6 => ?_
  refine mq ?_
  refine ja (o_extract rfl rfl) ?_
  refine ja (o_extract rfl rfl) ?_
  refine aq ?_
  refine aq ?_
  refine nt ?_
  refine JC.seq ?_
  refine sr ?_
  refine mq ?_
  refine jb (o_neq rfl) ?_
  refine nt ?_
  refine JC.cond rfl (fun hb => ?_) (fun hb => ?_)
  ·
   replace h := b_if (n_t hb) h
   refine sr ?_
   refine mq ?_
   refine cq ?_
   refine aq ?_
   refine nt ?_
   refine JC.ret ?_
   refine JN.then_r ?_
   refine JN.se (SE.ent (t := (.slice (.slice (.int .i64)))) (x := []) 2 rfl .nil rfl rfl) ?_
   obtain rfl := Option.some.inj h
   exact JN.ret () [_, _] 0 ⟨rfl, rfl, trivial⟩ rfl
  ·
   replace h := b_ifn (n_fn hb) h
   refine JC.skip ?_
   refine JN.then_n ?_
   show JC _ _ _ _ _
   refine sr ?_
   refine cq ?_
   refine nt ?_
   refine JC.cutB (Z := Value) (α := (List (List Int))) (fun z8 x7 => [(6, .eq z8)]) (fun z8 x7 => [.sl z8 22 (.slice (.int .i64)) x7, .raw z6.2 (.map #[] 0)]) h (fun K h => ?_) (fun z8 x7 h => ?_)
   ·
    refine sr ?_
    refine mq ?_
    refine ja (o_nil_obj rfl) ?_
    refine ja (o_field_obj rfl fo120_1) ?_
    refine ka (o_load_obj rfl sz116 (fun _ => rfl) rfl) ?_
    refine ja (o_len rfl rfl Try.underlying116) ?_
    refine JO.mc rfl ?_
    refine nt ?_
    refine JC.block ?_
    refine JC.se (SE.nil 22 (.slice (.int .i64))) ?_
    refine JC.loopB (Z := Value) (α := (List (List Int)) × Int) (fun z10 y9 => [(4, .eq (.pointer (some ⟨z6.1, 0, none⟩))), (6, .eq z10), (21, .eq (.int .i64 (q3.2.1.length : Int))), (22, .eq (.int .i64 y9.2))]) (fun z10 y9 => [.obj z6.1 120 (.agg (.pair (.agg (.pair (.rep (.slice tThing) q3.1.1) (.pair (.rep (.slice tDresser) q3.1.2.1) (.pair (.rep (.slice (.int .i64)) q3.1.2.2.1) (.rep (.slice (.int .i64)) q3.1.2.2.2))))) (.pair (.rep (.slice (.tag 131 133)) q3.2.1) (.pair (.rep (.arr 8 (.int .u8)) q3.2.2) (.eq (.map (some z6.2))))))), .sl z10 22 (.slice (.int .i64)) y9.1, .raw z6.2 (.map #[] 0)]) (chg_Firsts_l1 k q3) k (.slice none 0 0) (([] : (List (List Int))), (0 : Int)) (fun _ => rfl) h (SE.fin [1, 0, 2] ⟨rfl, rfl, rfl, rfl, trivial⟩ rfl) (fun n z10 y9 h => ?_)
    unfold chg_Firsts_l1 at h
    refine sr ?_
    refine jb (o_lss rfl) ?_
    refine nt ?_
    refine JC.seq ?_
    refine JC.cond rfl (fun hb => ?_) (fun hb => ?_)
    ·
     replace h := b_if (d_t hb) h
     refine JC.skip ?_
     refine JN.then_n ?_
     show JC _ _ _ _ _
     refine JC.cutB (Z := Value) (α := (List (List Int))) (fun z12 x11 => [(4, .eq (.pointer (some ⟨z6.1, 0, none⟩))), (6, .eq z12), (21, .eq (.int .i64 (q3.2.1.length : Int))), (22, .eq (.int .i64 y9.2))]) (fun z12 x11 => [.obj z6.1 120 (.agg (.pair (.agg (.pair (.rep (.slice tThing) q3.1.1) (.pair (.rep (.slice tDresser) q3.1.2.1) (.pair (.rep (.slice (.int .i64)) q3.1.2.2.1) (.rep (.slice (.int .i64)) q3.1.2.2.2))))) (.pair (.rep (.slice (.tag 131 133)) q3.2.1) (.pair (.rep (.arr 8 (.int .u8)) q3.2.2) (.eq (.map (some z6.2))))))), .sl z12 22 (.slice (.int .i64)) x11, .raw z6.2 (.map #[] 0)]) h (fun K h => ?_) (fun z12 x11 h => ?_)
     ·
      refine JC.block ?_
      refine sr ?_
      refine mq ?_
      refine aq ?_
      refine nt ?_
      refine sr ?_
      refine mq ?_
      refine ja (o_nil_obj rfl) ?_
      refine ja (o_field_obj rfl fo120_1) ?_
      refine ka (o_load_obj rfl sz116 (fun _ => rfl) rfl) ?_
      refine ja (o_len rfl rfl Try.underlying116) ?_
      refine JO.mc rfl ?_
      refine nt ?_
      refine JC.block ?_
      refine JC.loopB (Z := Value) (α := (List (List Int)) × Int) (fun z14 y13 => [(4, .eq (.pointer (some ⟨z6.1, 0, none⟩))), (6, .eq z14), (7, .eq (.int .i64 y9.2)), (21, .eq (.int .i64 (q3.2.1.length : Int))), (22, .eq (.int .i64 y9.2)), (29, .eq (.int .i64 (q3.2.1.length : Int))), (30, .eq (.int .i64 y13.2))]) (fun z14 y13 => [.obj z6.1 120 (.agg (.pair (.agg (.pair (.rep (.slice tThing) q3.1.1) (.pair (.rep (.slice tDresser) q3.1.2.1) (.pair (.rep (.slice (.int .i64)) q3.1.2.2.1) (.rep (.slice (.int .i64)) q3.1.2.2.2))))) (.pair (.rep (.slice (.tag 131 133)) q3.2.1) (.pair (.rep (.arr 8 (.int .u8)) q3.2.2) (.eq (.map (some z6.2))))))), .sl z14 22 (.slice (.int .i64)) y13.1, .raw z6.2 (.map #[] 0)]) (chg_Firsts_l2 k q3 y9) k z10 (y9.1, (0 : Int)) (fun _ => rfl) h (SE.fin [0, 1, 2] ⟨rfl, rfl, rfl, rfl, rfl, rfl, rfl, trivial⟩ rfl) (fun n z14 y13 h => ?_)
      unfold chg_Firsts_l2 at h
      refine sr ?_
      refine jb (o_lss rfl) ?_
      refine nt ?_
      refine JC.seq ?_
      refine JC.cond rfl (fun hb => ?_) (fun hb => ?_)
      ·
       replace h := b_if (d_t hb) h
       refine JC.skip ?_
       refine JN.then_n ?_
       show JC _ _ _ _ _
       refine JC.cutB (Z := Value) (α := (List (List Int))) (fun z16 x15 => [(4, .eq (.pointer (some ⟨z6.1, 0, none⟩))), (6, .eq z16), (7, .eq (.int .i64 y9.2)), (21, .eq (.int .i64 (q3.2.1.length : Int))), (22, .eq (.int .i64 y9.2)), (29, .eq (.int .i64 (q3.2.1.length : Int))), (30, .eq (.int .i64 y13.2))]) (fun z16 x15 => [.obj z6.1 120 (.agg (.pair (.agg (.pair (.rep (.slice tThing) q3.1.1) (.pair (.rep (.slice tDresser) q3.1.2.1) (.pair (.rep (.slice (.int .i64)) q3.1.2.2.1) (.rep (.slice (.int .i64)) q3.1.2.2.2))))) (.pair (.rep (.slice (.tag 131 133)) q3.2.1) (.pair (.rep (.arr 8 (.int .u8)) q3.2.2) (.eq (.map (some z6.2))))))), .sl z16 22 (.slice (.int .i64)) x15, .raw z6.2 (.map #[] 0)]) h (fun K h => ?_) (fun z16 x15 h => ?_)
       ·
        refine JC.block ?_
        refine sr ?_
        refine mq ?_
        refine aq ?_
        refine nt ?_
        refine sr ?_
        iterate 2 refine mq ?_
        refine ja (o_nil_obj rfl) ?_
        refine ja (o_field_obj rfl fo120_2) ?_
        obtain ⟨u17, eu17, h⟩ := b_bind h
        refine jb (o_index_arr rfl Try.underlying117 sz106 (chkP_some eu17).1 (chkP_some eu17).2) ?_
        obtain ⟨x18, ex18, h⟩ := b_bind h
        refine ka (o_load_arr (t := (.int .u8)) (off := 5) (i := y13.2) (N := 8) rfl sz106 (fun _ => rfl) rfl rfl rfl rfl ex18) ?_
        refine mq ?_
        obtain ⟨r19, er19, h⟩ := b_bind h
        have cr19 := chg_set_has_ok k x18 y9.2 r19 er19
        refine jb (o_call [.tmp 38, .tmp 39] rfl rfl en88 rfl cr19) ?_
        refine nt ?_
        refine JC.cond rfl (fun hb => ?_) (fun hb => ?_)
        ·
         replace h := b_if (v_t hb) h
         refine JC.region ?_
         iterate 3 refine mq ?_
         refine jb (o_litB (t := (.int .i64)) [(.tmp 42, _), (.tmp 43, _)] [y9.2, y13.2] rfl rfl sl22 (.cons rfl .int (.cons rfl .int .nil)) rfl rfl) ?_
         refine ja (o_litB (t := (.slice (.int .i64))) [(.tmp 44, _)] [[y9.2, y13.2]] rfl rfl sl78 (.cons rfl .rep .nil) rfl rfl) ?_
         obtain ⟨u20, eu20, h⟩ := b_bind h
         refine JO.front 1 rfl ?_
         refine JO.s1x rfl rfl rfl (o_append rfl rfl sl78 (chkP_some eu20)) ⟨rfl, rfl, trivial⟩ fun v21 => ?_
         refine aq ?_
         refine JO.nil ?_
         refine JN.blk_n ?_
         refine JN.then_n ?_
         exact JN.z (v21, y13.1 ++ [[y9.2, y13.2]]) h (SE.fin [1, 0, 2] ⟨rfl, rfl, rfl, rfl, rfl, rfl, rfl, trivial⟩ rfl)
        ·
         replace h := b_ifn (v_f hb) h
         refine JC.skip ?_
         refine JN.blk_n ?_
         refine JN.then_n ?_
         exact JN.z (z14, y13.1) h (SE.fin [0, 1, 2] ⟨rfl, rfl, rfl, rfl, rfl, rfl, rfl, trivial⟩ rfl)
       ·
        refine JC.region ?_
        obtain ⟨x22, ex22, h⟩ := b_bind h
        refine jb (o_add rfl ex22) ?_
        refine mq ?_
        refine JO.nil ?_
        refine JN.then_n ?_
        exact JN.z (z16, (x15, x22)) h (SE.fin [0, 1, 2] ⟨rfl, rfl, rfl, rfl, rfl, rfl, rfl, trivial⟩ rfl)
      ·
       replace h := b_ifn (d_f hb) h
       refine JC.exit ?_
       refine JN.then_x ?_
       refine JN.then_x ?_
       refine JN.blk_hit ?_
       refine JN.blk_n ?_
       refine JN.then_n ?_
       exact JN.z (z14, y13.1) h (SE.fin [0, 1, 2] ⟨rfl, rfl, rfl, rfl, trivial⟩ rfl)
     ·
      refine JC.region ?_
      obtain ⟨x23, ex23, h⟩ := b_bind h
      refine jb (o_add rfl ex23) ?_
      refine mq ?_
      refine JO.nil ?_
      refine JN.then_n ?_
      exact JN.z (z12, (x11, x23)) h (SE.fin [0, 1, 2] ⟨rfl, rfl, rfl, rfl, trivial⟩ rfl)
    ·
     replace h := b_ifn (d_f hb) h
     refine JC.exit ?_
     refine JN.then_x ?_
     refine JN.then_x ?_
     refine JN.blk_hit ?_
     refine JN.then_n ?_
     exact JN.z (z10, y9.1) h (SE.fin [1, 2] ⟨rfl, trivial⟩ rfl)
   ·
    refine sr ?_
    refine mq ?_
    refine aq ?_
    refine cq ?_
    refine nt ?_
    refine JC.ret ?_
    refine JN.se (SE.frz [2, 6, 49] ⟨rfl, rfl, rfl, trivial⟩) ?_
    obtain rfl := Option.some.inj h
    exact JN.ret () [_, _] 0 ⟨rfl, rfl, trivial⟩ rfl


def ref_before (k : Nat) (a0 : dChange) (a1 : dTask) (a2 : dTask) : Option Bool :=
 if a1.1 = a2.1 then (((if ¬ (a1.2 = true) then (some a2.2) else (some false)) : Option (Bool)).bind fun x4 =>
 some x4) else ((geti a0.1 a2.1).bind fun x6 =>
 (ref_has k x6.1 a1.1).bind fun r7 =>
 (geti a0.1 a1.1).bind fun x8 =>
 (ref_has k x8.1 a2.1).bind fun r9 =>
 if ¬ (a1.2 = true) then (((if r7 = true then (some true) else (if r9 = true then (some a2.2) else (some false))) : Option (Bool)).bind fun x10 =>
 some x10) else (((if r9 = true then (some a2.2) else (some false)) : Option (Bool)).bind fun x12 =>
 some x12))

theorem ref_before_ok (k : Nat) (a0 : dChange) (a1 : dTask) (a2 : dTask) (r : Bool) (h : ref_before k a0 a1 a2 = some r) :
 Ctr Try.prog 89 [.rep tChange a0, .rep tTask a1, .rep tTask a2] [] (fun _ : Unit => (resA [.eq (.bool r)], [])) := by
 unfold ref_before at h
 replace h := b_top h
 refine Ctr.of 57 Try.func89 rfl Try.ntmps89 rfl fun S w0 => ?_
 refine sr ?_
 refine JO.s01 rfl rfl rfl (o_box rfl rfl) ⟨rfl, trivial⟩ fun b1 => ?_
 refine JO.s01 rfl rfl rfl (o_box rfl rfl) ⟨rfl, trivial⟩ fun b2 => ?_
 refine JO.s01 rfl rfl rfl (o_box rfl rfl) ⟨rfl, trivial⟩ fun b3 => ?_
 refine cq ?_
 refine nt ?_
 refine JC.seq ?_
 refine sr ?_
 refine ja (o_field_obj rfl fo41_0) ?_
 refine JO.front 1 rfl ?_
 refine ka (o_load_obj rfl sz3 (fun _ => rfl) rfl) ?_
 refine ja (o_field_obj rfl fo41_0) ?_
 refine JO.front 1 rfl ?_
 refine ka (o_load_obj rfl sz3 (fun _ => rfl) rfl) ?_
 refine jb (o_eql rfl) ?_
 refine nt ?_
 refine JC.cond rfl (fun hb => ?_) (fun hb => ?_)
 ·
  replace h := b_if (d_t hb) h
  refine JC.cutB (Z := Unit) (α := Bool) (fun z5 x4 => [(6, .eq (.bool x4))]) (fun z5 x4 => []) h (fun K h => ?_) (fun z5 x4 h => ?_)
  ·
   refine JC.region ?_
   refine ja (o_field_obj rfl fo41_1) ?_
   refine JO.front 1 rfl ?_
   refine ka (o_load_obj rfl sz4 (fun _ => rfl) rfl) ?_
   refine ja (o_not rfl) ?_
   refine mq ?_
   refine JO.bool (s := 17) rfl (fun hb => ?_) (fun hb => ?_)
   ·
    replace h := b_if (nv_t hb) h
    refine ga (o_field_obj rfl fo41_1) ?_
    refine JO.front 1 rfl ?_
    refine JO.g11 rfl rfl rfl rfl rfl rfl (o_load_obj rfl sz4 (fun _ => rfl) rfl) ⟨rfl, trivial⟩ ?_
    refine pt ?_
    refine aq ?_
    refine JO.nil ?_
    refine JN.then_n ?_
    exact JN.z ((), a2.2) h (SE.fin [] ⟨rfl, trivial⟩ rfl)
   ·
    replace h := b_ifn (nv_fn hb) h
    iterate 2 refine gn ?_
    refine pf ?_
    refine aq ?_
    refine JO.nil ?_
    refine JN.then_n ?_
    exact JN.z ((), false) h (SE.fin [] ⟨rfl, trivial⟩ rfl)
  ·
   refine JC.ret ?_
   refine JN.then_r ?_
   obtain rfl := Option.some.inj h
   exact JN.ret () [_] 0 ⟨rfl, trivial⟩ rfl
 ·
  replace h := b_ifn (d_f hb) h
  refine JC.skip ?_
  refine JN.then_n ?_
  show JC _ _ _ _ _
  refine JC.seq ?_
  refine JC.drawN ?_
  refine da (o_field_obj rfl fo28_0) ?_
  refine ea 2 (o_load_obj rfl sz25 (fun _ => rfl) rfl) ?_
  refine da (o_field_obj rfl fo41_0) ?_
  refine ea 0 (o_load_obj rfl sz3 (fun _ => rfl) rfl) ?_
  obtain ⟨x6, ex6, h⟩ := b_bind h
  refine db (o_index (t := tThing) rfl Try.underlying25 sz45 ex6) ?_
  refine da (o_field_at 1 false rfl fo45_0 rfl) ?_
  refine da (o_load_at (t := (.slice (.int .i64))) rfl sz22 rfl) ?_
  refine da (o_field_obj rfl fo41_0) ?_
  refine ea 1 (o_load_obj rfl sz3 (fun _ => rfl) rfl) ?_
  obtain ⟨r7, er7, h⟩ := b_bind h
  have cr7 := ref_has_ok k x6.1 a1.1 r7 er7
  refine db (o_call [.tmp 27, .tmp 29] rfl rfl en114 rfl cr7) ?_
  refine da (o_field_obj rfl fo28_0) ?_
  refine ea 2 (o_load_obj rfl sz25 (fun _ => rfl) rfl) ?_
  refine da (o_field_obj rfl fo41_0) ?_
  refine ea 1 (o_load_obj rfl sz3 (fun _ => rfl) rfl) ?_
  obtain ⟨x8, ex8, h⟩ := b_bind h
  refine db (o_index (t := tThing) rfl Try.underlying25 sz45 ex8) ?_
  refine da (o_field_at 1 false rfl fo45_0 rfl) ?_
  refine da (o_load_at (t := (.slice (.int .i64))) rfl sz22 rfl) ?_
  refine da (o_field_obj rfl fo41_0) ?_
  refine ea 0 (o_load_obj rfl sz3 (fun _ => rfl) rfl) ?_
  refine DN.fin (by kernel_rfl) mixed ?_
  obtain ⟨r9, er9, h⟩ := b_bind h
  have cr9 := ref_has_ok k x8.1 a2.1 r9 er9
  refine jb (o_call [.tmp 37, .tmp 39] rfl rfl en114 rfl cr9) ?_
  refine aq ?_
  refine aq ?_
  refine nt ?_
  refine JC.seq ?_
  refine sr ?_
  refine ja (o_field_obj rfl fo41_1) ?_
  refine JO.front 1 rfl ?_
  refine ka (o_load_obj rfl sz4 (fun _ => rfl) rfl) ?_
  refine ja (o_not rfl) ?_
  refine nt ?_
  refine JC.cond rfl (fun hb => ?_) (fun hb => ?_)
  ·
   replace h := b_if (nv_t hb) h
   refine JC.cutB (Z := Unit) (α := Bool) (fun z11 x10 => [(6, .eq (.bool x10))]) (fun z11 x10 => []) h (fun K h => ?_) (fun z11 x10 h => ?_)
   ·
    refine JC.region ?_
    iterate 2 refine mq ?_
    refine JO.bool (s := 45) rfl (fun hb => ?_) (fun hb => ?_)
    ·
     replace h := b_if (v_t hb) h
     iterate 2 refine gn ?_
     refine JO.gnou rfl rfl rfl rfl rfl rfl ?_
     refine JO.gnou rfl rfl rfl rfl rfl rfl ?_
     refine gn ?_
     refine pt ?_
     refine aq ?_
     refine JO.nil ?_
     refine JN.then_n ?_
     exact JN.z ((), true) h (SE.fin [] ⟨rfl, trivial⟩ rfl)
    ·
     replace h := b_ifn (v_f hb) h
     refine gm ?_
     refine gm ?_
     refine JO.bool (s := 47) rfl (fun hb => ?_) (fun hb => ?_)
     ·
      replace h := b_if (v_t hb) h
      refine ga (o_field_obj rfl fo41_1) ?_
      refine JO.front 1 rfl ?_
      refine JO.g11 rfl rfl rfl rfl rfl rfl (o_load_obj rfl sz4 (fun _ => rfl) rfl) ⟨rfl, trivial⟩ ?_
      refine gb (o_pick_t rfl) ?_
      refine pf ?_
      refine aq ?_
      refine JO.nil ?_
      refine JN.then_n ?_
      exact JN.z ((), a2.2) h (SE.fin [] ⟨rfl, trivial⟩ rfl)
     ·
      replace h := b_ifn (v_f hb) h
      iterate 2 refine gn ?_
      refine gb (o_pick_f rfl) ?_
      refine pf ?_
      refine aq ?_
      refine JO.nil ?_
      refine JN.then_n ?_
      exact JN.z ((), false) h (SE.fin [] ⟨rfl, trivial⟩ rfl)
   ·
    refine JC.ret ?_
    refine JN.then_r ?_
    obtain rfl := Option.some.inj h
    exact JN.ret () [_] 0 ⟨rfl, trivial⟩ rfl
  ·
   replace h := b_ifn (nv_fn hb) h
   refine JC.skip ?_
   refine JN.then_n ?_
   show JC _ _ _ _ _
   refine JC.cutB (Z := Unit) (α := Bool) (fun z13 x12 => [(6, .eq (.bool x12))]) (fun z13 x12 => []) h (fun K h => ?_) (fun z13 x12 h => ?_)
   ·
    refine JC.region ?_
    iterate 2 refine mq ?_
    refine JO.bool (s := 53) rfl (fun hb => ?_) (fun hb => ?_)
    ·
     replace h := b_if (v_t hb) h
     refine ga (o_field_obj rfl fo41_1) ?_
     refine JO.front 1 rfl ?_
     refine JO.g11 rfl rfl rfl rfl rfl rfl (o_load_obj rfl sz4 (fun _ => rfl) rfl) ⟨rfl, trivial⟩ ?_
     refine pt ?_
     refine aq ?_
     refine JO.nil ?_
     refine JN.then_n ?_
     exact JN.z ((), a2.2) h (SE.fin [] ⟨rfl, trivial⟩ rfl)
    ·
     replace h := b_ifn (v_f hb) h
     iterate 2 refine gn ?_
     refine pf ?_
     refine aq ?_
     refine JO.nil ?_
     refine JN.then_n ?_
     exact JN.z ((), false) h (SE.fin [] ⟨rfl, trivial⟩ rfl)
   ·
    refine JC.ret ?_
    obtain rfl := Option.some.inj h
    exact JN.ret () [_] 0 ⟨rfl, trivial⟩ rfl


def ref_Firsts_l2 (k : Nat) (a0 : dChange) (r3 : (List dTask)) (y6 : (List (List Int)) × Int) : Nat → ((List (List Int)) × Int) → Option (List (List Int))
 | 0, _ => none
 | n + 1, y10 =>
  if y10.2 < (r3.length : Int) then ((((geti r3 y6.2).bind fun x14 =>
  (geti r3 y10.2).bind fun x15 =>
  (ref_before k a0 x14 x15).bind fun r16 =>
  if r16 = true then ((chkP (okLen (List.length y10.1 + List.length [[y6.2, y10.2]]))).bind fun _ =>
  some (y10.1 ++ [[y6.2, y10.2]])) else (some y10.1)) : Option ((List (List Int)))).bind fun x12 =>
  (ck (y10.2 + (1 : Int))).bind fun x19 =>
  ref_Firsts_l2 k a0 r3 y6 n (x12, x19)) else (some y10.1)

def ref_Firsts_l1 (k : Nat) (a0 : dChange) (r3 : (List dTask)) : Nat → ((List (List Int)) × Int) → Option (List (List Int))
 | 0, _ => none
 | n + 1, y6 =>
  if y6.2 < (r3.length : Int) then (((ref_Firsts_l2 k a0 r3 y6 k (y6.1, (0 : Int))) : Option ((List (List Int)))).bind fun x8 =>
  (ck (y6.2 + (1 : Int))).bind fun x20 =>
  ref_Firsts_l1 k a0 r3 n (x8, x20)) else (some y6.1)
def ref_Firsts (k : Nat) (a0 : dChange) : Option ((List (List Int)) × Int) :=
 (ref_asked k a0).bind fun r2 =>
 if ¬ (r2 = (0 : Int)) then (some ([], r2)) else ((ref_tasks k a0).bind fun r3 =>
 ((ref_Firsts_l1 k a0 r3 k (([] : (List (List Int))), (0 : Int))) : Option ((List (List Int)))).bind fun x4 =>
 some (x4, (0 : Int)))

theorem ref_Firsts_ok (k : Nat) (a0 : dChange) (r : (List (List Int)) × Int) (h : ref_Firsts k a0 = some r) :
 Ctr Try.prog 49 [.rep tChange a0] [] (fun _ : Unit => (resA [.rep (.slice (.slice (.int .i64))) r.1, .eq (.int .i64 r.2)], [])) := by
 unfold ref_Firsts at h
 replace h := b_top h
 refine Ctr.of 45 Try.func49 rfl Try.ntmps49 rfl fun S w0 => ?_
 refine sr ?_
 refine JO.s01 rfl rfl rfl (o_box rfl rfl) ⟨rfl, trivial⟩ fun b1 => ?_
 refine cq ?_
 refine cq ?_
 refine nt ?_
 refine JC.seq ?_
 refine sr ?_
 refine ka (o_load_obj rfl sz28 (nfn) rfl) ?_
 obtain ⟨r2, er2, h⟩ := b_bind h
 have cr2 := ref_asked_ok k a0 r2 er2
 refine ja (o_call [.tmp 9] rfl rfl en86 rfl cr2) ?_
 refine aq ?_
 refine nt ?_
 refine sr ?_
 refine mq ?_
 refine jb (o_neq rfl) ?_
 refine nt ?_
 refine JC.cond rfl (fun hb => ?_) (fun hb => ?_)
 ·
  replace h := b_if (n_t hb) h
  refine sr ?_
  refine mq ?_
  refine cq ?_
  refine aq ?_
  refine nt ?_
  refine JC.ret ?_
  refine JN.then_r ?_
  refine JN.se (SE.ent (t := (.slice (.slice (.int .i64)))) (x := []) 2 rfl .nil rfl rfl) ?_
  obtain rfl := Option.some.inj h
  exact JN.ret () [_, _] 0 ⟨rfl, rfl, trivial⟩ rfl
 ·
  replace h := b_ifn (n_fn hb) h
  refine JC.skip ?_
  refine JN.then_n ?_
  show JC _ _ _ _ _
  refine sr ?_
  refine cq ?_
  refine nt ?_
  refine sr ?_
  refine ka (o_load_obj rfl sz28 (nfn) rfl) ?_
  obtain ⟨r3, er3, h⟩ := b_bind h
  have cr3 := ref_tasks_ok k a0 r3 er3
  refine ja (o_call [.tmp 14] rfl rfl en87 rfl cr3) ?_
  refine aq ?_
  refine nt ?_
  refine JC.cutB (Z := Value) (α := (List (List Int))) (fun z5 x4 => [(5, .eq z5)]) (fun z5 x4 => [.sl z5 22 (.slice (.int .i64)) x4]) h (fun K h => ?_) (fun z5 x4 h => ?_)
  ·
   refine sr ?_
   refine cq ?_
   refine nt ?_
   refine JC.block ?_
   refine JC.se (SE.nil 22 (.slice (.int .i64))) ?_
   refine JC.loopB (Z := Value) (α := (List (List Int)) × Int) (fun z7 y6 => [(1, .eq (.pointer (some ⟨b1, 0, none⟩))), (5, .eq z7), (6, .rep (.slice tTask) r3), (7, .eq (.int .i64 y6.2))]) (fun z7 y6 => [.obj b1 28 (.rep tChange a0), .sl z7 22 (.slice (.int .i64)) y6.1]) (ref_Firsts_l1 k a0 r3) k (.slice none 0 0) (([] : (List (List Int))), (0 : Int)) (fun _ => rfl) h (SE.fin [1, 0] ⟨rfl, rfl, rfl, rfl, trivial⟩ rfl) (fun n z7 y6 h => ?_)
   unfold ref_Firsts_l1 at h
   refine JC.seq ?_
   refine sr ?_
   iterate 2 refine mq ?_
   refine ja (o_len rfl rfl Try.underlying38) ?_
   refine jb (o_lss rfl) ?_
   refine nt ?_
   refine JC.cond rfl (fun hb => ?_) (fun hb => ?_)
   ·
    replace h := b_if (d_t hb) h
    refine JC.skip ?_
    refine JN.then_n ?_
    show JC _ _ _ _ _
    refine JC.cutB (Z := Value) (α := (List (List Int))) (fun z9 x8 => [(1, .eq (.pointer (some ⟨b1, 0, none⟩))), (5, .eq z9), (6, .rep (.slice tTask) r3), (7, .eq (.int .i64 y6.2))]) (fun z9 x8 => [.obj b1 28 (.rep tChange a0), .sl z9 22 (.slice (.int .i64)) x8]) h (fun K h => ?_) (fun z9 x8 h => ?_)
    ·
     refine JC.block ?_
     refine sr ?_
     refine cq ?_
     refine nt ?_
     refine JC.block ?_
     refine JC.loopB (Z := Value) (α := (List (List Int)) × Int) (fun z11 y10 => [(1, .eq (.pointer (some ⟨b1, 0, none⟩))), (5, .eq z11), (6, .rep (.slice tTask) r3), (7, .eq (.int .i64 y6.2)), (8, .eq (.int .i64 y10.2))]) (fun z11 y10 => [.obj b1 28 (.rep tChange a0), .sl z11 22 (.slice (.int .i64)) y10.1]) (ref_Firsts_l2 k a0 r3 y6) k z7 (y6.1, (0 : Int)) (fun _ => rfl) h (SE.fin [0, 1] ⟨rfl, rfl, rfl, rfl, rfl, trivial⟩ rfl) (fun n z11 y10 h => ?_)
     unfold ref_Firsts_l2 at h
     refine JC.seq ?_
     refine sr ?_
     iterate 2 refine mq ?_
     refine ja (o_len rfl rfl Try.underlying38) ?_
     refine jb (o_lss rfl) ?_
     refine nt ?_
     refine JC.cond rfl (fun hb => ?_) (fun hb => ?_)
     ·
      replace h := b_if (d_t hb) h
      refine JC.skip ?_
      refine JN.then_n ?_
      show JC _ _ _ _ _
      refine JC.cutB (Z := Value) (α := (List (List Int))) (fun z13 x12 => [(1, .eq (.pointer (some ⟨b1, 0, none⟩))), (5, .eq z13), (6, .rep (.slice tTask) r3), (7, .eq (.int .i64 y6.2)), (8, .eq (.int .i64 y10.2))]) (fun z13 x12 => [.obj b1 28 (.rep tChange a0), .sl z13 22 (.slice (.int .i64)) x12]) h (fun K h => ?_) (fun z13 x12 h => ?_)
      ·
       refine JC.block ?_
       refine JC.seq ?_
       refine JC.drawN ?_
       refine ea 0 (o_load_obj rfl sz28 (nfn) rfl) ?_
       refine dm ?_
       refine dm ?_
       obtain ⟨x14, ex14, h⟩ := b_bind h
       refine db (o_index (t := tTask) rfl Try.underlying38 sz41 ex14) ?_
       refine da (o_load_at (t := tTask) rfl sz41 rfl) ?_
       refine dm ?_
       refine dm ?_
       obtain ⟨x15, ex15, h⟩ := b_bind h
       refine db (o_index (t := tTask) rfl Try.underlying38 sz41 ex15) ?_
       refine da (o_load_at (t := tTask) rfl sz41 rfl) ?_
       refine DN.fin (by kernel_rfl) mixed ?_
       obtain ⟨r16, er16, h⟩ := b_bind h
       have cr16 := ref_before_ok k a0 x14 x15 r16 er16
       refine jc (o_call [.tmp 28, .tmp 32, .tmp 36] rfl rfl en89 rfl cr16) ?_
       refine nt ?_
       refine JC.cond rfl (fun hb => ?_) (fun hb => ?_)
       ·
        replace h := b_if (v_t hb) h
        refine JC.region ?_
        iterate 3 refine mq ?_
        refine jb (o_litB (t := (.int .i64)) [(.tmp 39, _), (.tmp 40, _)] [y6.2, y10.2] rfl rfl sl22 (.cons rfl .int (.cons rfl .int .nil)) rfl rfl) ?_
        refine ja (o_litB (t := (.slice (.int .i64))) [(.tmp 41, _)] [[y6.2, y10.2]] rfl rfl sl78 (.cons rfl .rep .nil) rfl rfl) ?_
        obtain ⟨u17, eu17, h⟩ := b_bind h
        refine JO.front 1 rfl ?_
        refine JO.s1x rfl rfl rfl (o_append rfl rfl sl78 (chkP_some eu17)) ⟨rfl, rfl, trivial⟩ fun v18 => ?_
        refine aq ?_
        refine JO.nil ?_
        refine JN.blk_n ?_
        refine JN.then_n ?_
        exact JN.z (v18, y10.1 ++ [[y6.2, y10.2]]) h (SE.fin [1, 0] ⟨rfl, rfl, rfl, rfl, rfl, trivial⟩ rfl)
       ·
        replace h := b_ifn (v_f hb) h
        refine JC.skip ?_
        refine JN.blk_n ?_
        refine JN.then_n ?_
        exact JN.z (z11, y10.1) h (SE.fin [0, 1] ⟨rfl, rfl, rfl, rfl, rfl, trivial⟩ rfl)
      ·
       refine JC.region ?_
       refine mq ?_
       obtain ⟨x19, ex19, h⟩ := b_bind h
       refine jb (o_add rfl ex19) ?_
       refine aq ?_
       refine JO.nil ?_
       refine JN.then_n ?_
       exact JN.z (z13, (x12, x19)) h (SE.fin [0, 1] ⟨rfl, rfl, rfl, rfl, rfl, trivial⟩ rfl)
     ·
      replace h := b_ifn (d_f hb) h
      refine JC.exit ?_
      refine JN.then_x ?_
      refine JN.then_x ?_
      refine JN.blk_hit ?_
      refine JN.blk_n ?_
      refine JN.then_n ?_
      exact JN.z (z11, y10.1) h (SE.fin [0, 1] ⟨rfl, rfl, rfl, rfl, trivial⟩ rfl)
    ·
     refine JC.region ?_
     refine mq ?_
     obtain ⟨x20, ex20, h⟩ := b_bind h
     refine jb (o_add rfl ex20) ?_
     refine aq ?_
     refine JO.nil ?_
     refine JN.then_n ?_
     exact JN.z (z9, (x8, x20)) h (SE.fin [0, 1] ⟨rfl, rfl, rfl, rfl, trivial⟩ rfl)
   ·
    replace h := b_ifn (d_f hb) h
    refine JC.exit ?_
    refine JN.then_x ?_
    refine JN.then_x ?_
    refine JN.blk_hit ?_
    refine JN.then_n ?_
    exact JN.z (z7, y6.1) h (SE.fin [1] ⟨rfl, trivial⟩ rfl)
  ·
   refine sr ?_
   refine mq ?_
   refine aq ?_
   refine cq ?_
   refine nt ?_
   refine JC.ret ?_
   refine JN.se (SE.frz [2, 5, 44] ⟨rfl, rfl, rfl, trivial⟩) ?_
   obtain rfl := Option.some.inj h
   exact JN.ret () [_, _] 0 ⟨rfl, rfl, trivial⟩ rfl


def kit_SameLists_l1 (k : Nat) (a0 : (List (List Int))) (a1 : (List (List Int))) : Nat → Int → Option (Except Bool Unit)
 | 0, _ => none
 | n + 1, y3 =>
  if y3 < (a0.length : Int) then ((geti a0 y3).bind fun x5 =>
  (geti a1 y3).bind fun x6 =>
  (kit_SameInts k x5 x6).bind fun r7 =>
  if ¬ (r7 = true) then (some (.error false)) else ((ck (y3 + (1 : Int))).bind fun x8 =>
  kit_SameLists_l1 k a0 a1 n x8)) else (some (.ok ()))
def kit_SameLists (k : Nat) (a0 : (List (List Int))) (a1 : (List (List Int))) : Option Bool :=
 if ¬ ((a0.length : Int) = (a1.length : Int)) then (some false) else (bE (α := Unit) (kit_SameLists_l1 k a0 a1 k (0 : Int)) (some) fun _ =>
 some true)

theorem kit_SameLists_ok (k : Nat) (a0 : (List (List Int))) (a1 : (List (List Int))) (r : Bool) (h : kit_SameLists k a0 a1 = some r) :
 Ctr Try.prog 52 [.rep (.slice (.slice (.int .i64))) a0, .rep (.slice (.slice (.int .i64))) a1] [] (fun _ : Unit => (resA [.eq (.bool r)], [])) := by
 unfold kit_SameLists at h
 replace h := b_top h
 refine Ctr.of 27 Try.func52 rfl Try.ntmps52 rfl fun S w0 => ?_
 refine sr ?_
 refine cq ?_
 refine nt ?_
 refine JC.seq ?_
 refine sr ?_
 refine mq ?_
 refine ja (o_len rfl rfl Try.underlying78) ?_
 refine mq ?_
 refine ja (o_len rfl rfl Try.underlying78) ?_
 refine jb (o_neq rfl) ?_
 refine nt ?_
 refine JC.cond rfl (fun hb => ?_) (fun hb => ?_)
 ·
  replace h := b_if (n_t hb) h
  refine sr ?_
  refine cq ?_
  refine nt ?_
  refine JC.ret ?_
  refine JN.then_r ?_
  obtain rfl := Option.some.inj h
  exact JN.ret () [_] 0 ⟨rfl, trivial⟩ rfl
 ·
  replace h := b_ifn (n_fn hb) h
  refine JC.skip ?_
  refine JN.then_n ?_
  show JC _ _ _ _ _
  refine JC.cutE (Z := Unit) (α := Unit) (fun z2 x1 => []) (fun z2 x1 => []) (fun e => e = r) h (fun e h => Option.some.inj h) (fun K hR h => ?_) (fun z2 x1 h => ?_)
  ·
   refine sr ?_
   refine cq ?_
   refine nt ?_
   refine JC.block ?_
   refine JC.loopB (Z := Unit) (α := Int) (fun z4 y3 => [(0, .rep (.slice (.slice (.int .i64))) a0), (1, .rep (.slice (.slice (.int .i64))) a1), (5, .eq (.int .i64 y3))]) (fun z4 y3 => []) (kit_SameLists_l1 k a0 a1) k () (0 : Int) (fun _ => rfl) h (SE.fin [] ⟨rfl, rfl, rfl, trivial⟩ rfl) (fun n z4 y3 h => ?_)
   unfold kit_SameLists_l1 at h
   refine JC.seq ?_
   refine sr ?_
   iterate 2 refine mq ?_
   refine ja (o_len rfl rfl Try.underlying78) ?_
   refine jb (o_lss rfl) ?_
   refine nt ?_
   refine JC.cond rfl (fun hb => ?_) (fun hb => ?_)
   ·
    replace h := b_if (d_t hb) h
    refine JC.skip ?_
    refine JN.then_n ?_
    show JC _ _ _ _ _
    refine JC.seq ?_
    refine JC.block ?_
    refine JC.seq ?_
    refine JC.drawN ?_
    refine dm ?_
    refine dm ?_
    obtain ⟨x5, ex5, h⟩ := b_bind h
    refine db (o_index (t := (.slice (.int .i64))) rfl Try.underlying78 sz22 ex5) ?_
    refine da (o_load_at (t := (.slice (.int .i64))) rfl sz22 rfl) ?_
    refine dm ?_
    refine dm ?_
    obtain ⟨x6, ex6, h⟩ := b_bind h
    refine db (o_index (t := (.slice (.int .i64))) rfl Try.underlying78 sz22 ex6) ?_
    refine da (o_load_at (t := (.slice (.int .i64))) rfl sz22 rfl) ?_
    refine DN.fin (by kernel_rfl) mixed ?_
    obtain ⟨r7, er7, h⟩ := b_bind h
    have cr7 := kit_SameInts_ok k x5 x6 r7 er7
    refine jb (o_call [.tmp 20, .tmp 24] rfl rfl en40 rfl cr7) ?_
    refine ja (o_not rfl) ?_
    refine nt ?_
    refine JC.cond rfl (fun hb => ?_) (fun hb => ?_)
    ·
     replace h := b_if (nv_t hb) h
     refine sr ?_
     refine cq ?_
     refine nt ?_
     refine JC.ret ?_
     refine JN.blk_r ?_
     refine JN.then_r ?_
     refine JN.then_r ?_
     refine JN.blk_r ?_
     refine JN.then_r ?_
     obtain rfl := hR _ h
     exact JN.ret () [_] 0 ⟨rfl, trivial⟩ rfl
    ·
     replace h := b_ifn (nv_fn hb) h
     refine JC.skip ?_
     refine JN.blk_n ?_
     refine JN.then_n ?_
     show JC _ _ _ _ _
     refine JC.region ?_
     refine mq ?_
     obtain ⟨x8, ex8, h⟩ := b_bind h
     refine jb (o_add rfl ex8) ?_
     refine aq ?_
     refine JO.nil ?_
     refine JN.then_n ?_
     exact JN.z ((), x8) h (SE.fin [] ⟨rfl, rfl, rfl, trivial⟩ rfl)
   ·
    replace h := b_ifn (d_f hb) h
    refine JC.exit ?_
    refine JN.then_x ?_
    refine JN.then_x ?_
    refine JN.blk_hit ?_
    refine JN.then_n ?_
    exact JN.z ((), ()) h (SE.fin [] trivial rfl)
  ·
   refine sr ?_
   refine cq ?_
   refine nt ?_
   refine JC.ret ?_
   obtain rfl := Option.some.inj h
   exact JN.ret () [_] 0 ⟨rfl, trivial⟩ rfl


def kit_SameChanges_l1 (k : Nat) (a0 : dChange) (a1 : dChange) : Nat → Int → Option (Except Bool Unit)
 | 0, _ => none
 | n + 1, y9 =>
  if y9 < (a0.1.length : Int) then ((geti a0.1 y9).bind fun x11 =>
  (geti a1.1 y9).bind fun x12 =>
  (((kit_SameInts k x11.1 x12.1).bind fun r17 =>
  if ¬ (r17 = true) then (some true) else (if ¬ (x11.2.1 = x12.2.1) then (some true) else (if ¬ (x11.2.2.1 = x12.2.2.1) then (some true) else (if ¬ (x11.2.2.2.1 = x12.2.2.2.1) then (some true) else (some (!decide (x11.2.2.2.2 = x12.2.2.2.2))))))) : Option (Bool)).bind fun x15 =>
  if x15 = true then (some (.error false)) else ((ck (y9 + (1 : Int))).bind fun x18 =>
  kit_SameChanges_l1 k a0 a1 n x18)) else (some (.ok ()))

def kit_SameChanges_l2 (k : Nat) (a0 : dChange) (a1 : dChange) : Nat → Int → Option (Except Bool Unit)
 | 0, _ => none
 | n + 1, y21 =>
  if y21 < (a0.2.1.length : Int) then ((geti a0.2.1 y21).bind fun x23 =>
  (geti a1.2.1 y21).bind fun x24 =>
  (((kit_SameInts k x23.1 x24.1).bind fun r29 =>
  if ¬ (r29 = true) then (some true) else (if ¬ (x23.2.1 = x24.2.1) then (some true) else (some (!decide (x23.2.2 = x24.2.2))))) : Option (Bool)).bind fun x27 =>
  if x27 = true then (some (.error false)) else ((ck (y21 + (1 : Int))).bind fun x30 =>
  kit_SameChanges_l2 k a0 a1 n x30)) else (some (.ok ()))
def kit_SameChanges (k : Nat) (a0 : dChange) (a1 : dChange) : Option Bool :=
 (((kit_SameInts k a0.2.2.1 a1.2.2.1).bind fun r5 =>
 if ¬ (r5 = true) then (some true) else ((kit_SameInts k a0.2.2.2 a1.2.2.2).bind fun r6 =>
 if ¬ (r6 = true) then (some true) else (if ¬ ((a0.1.length : Int) = (a1.1.length : Int)) then (some true) else (some (!decide ((a0.2.1.length : Int) = (a1.2.1.length : Int))))))) : Option (Bool)).bind fun x3 =>
 if x3 = true then (some false) else (bE (α := Unit) (kit_SameChanges_l1 k a0 a1 k (0 : Int)) (some) fun _ =>
 bE (α := Unit) (kit_SameChanges_l2 k a0 a1 k (0 : Int)) (some) fun _ =>
 some true)

theorem kit_SameChanges_ok (k : Nat) (a0 : dChange) (a1 : dChange) (r : Bool) (h : kit_SameChanges k a0 a1 = some r) :
 Ctr Try.prog 53 [.rep tChange a0, .rep tChange a1] [] (fun _ : Unit => (resA [.eq (.bool r)], [])) := by
 unfold kit_SameChanges at h
 replace h := b_top h
 refine Ctr.of 131 Try.func53 rfl Try.ntmps53 rfl fun S w0 => ?_
 refine sr ?_
 refine JO.s01 rfl rfl rfl (o_box rfl rfl) ⟨rfl, trivial⟩ fun b1 => ?_
 refine JO.s01 rfl rfl rfl (o_box rfl rfl) ⟨rfl, trivial⟩ fun b2 => ?_
 refine cq ?_
 refine nt ?_
 refine JC.seq ?_
 refine JC.cutB (Z := Unit) (α := Bool) (fun z4 x3 => [(2, .eq (.pointer (some ⟨b1, 0, none⟩))), (3, .eq (.pointer (some ⟨b2, 0, none⟩))), (42, .eq (.bool x3))]) (fun z4 x3 => [.obj b1 28 (.rep tChange a0), .obj b2 28 (.rep tChange a1)]) h (fun K h => ?_) (fun z4 x3 h => ?_)
 ·
  refine JC.region ?_
  refine ja (o_field_obj rfl fo28_2) ?_
  refine JO.front 1 rfl ?_
  refine ka (o_load_obj rfl sz22 (fun _ => rfl) rfl) ?_
  refine ja (o_field_obj rfl fo28_2) ?_
  refine JO.front 1 rfl ?_
  refine ka (o_load_obj rfl sz22 (fun _ => rfl) rfl) ?_
  obtain ⟨r5, er5, h⟩ := b_bind h
  have cr5 := kit_SameInts_ok k a0.2.2.1 a1.2.2.1 r5 er5
  refine jb (o_call [.tmp 12, .tmp 14] rfl rfl en40 rfl cr5) ?_
  refine ja (o_not rfl) ?_
  refine mq ?_
  refine JO.bool (s := 17) rfl (fun hb => ?_) (fun hb => ?_)
  ·
   replace h := b_if (nv_t hb) h
   iterate 6 refine gn ?_
   refine pt ?_
   refine mq ?_
   iterate 7 refine gn ?_
   refine pt ?_
   refine mq ?_
   iterate 7 refine gn ?_
   refine pt ?_
   refine JO.nil ?_
   refine JN.then_n ?_
   exact JN.z ((), true) h (SE.fin [1, 0] ⟨rfl, rfl, rfl, trivial⟩ rfl)
  ·
   replace h := b_ifn (nv_fn hb) h
   refine ga (o_field_obj rfl fo28_3) ?_
   refine JO.front 1 rfl ?_
   refine JO.g11 rfl rfl rfl rfl rfl rfl (o_load_obj rfl sz22 (fun _ => rfl) rfl) ⟨rfl, trivial⟩ ?_
   refine ga (o_field_obj rfl fo28_3) ?_
   refine JO.front 1 rfl ?_
   refine JO.g11 rfl rfl rfl rfl rfl rfl (o_load_obj rfl sz22 (fun _ => rfl) rfl) ⟨rfl, trivial⟩ ?_
   obtain ⟨r6, er6, h⟩ := b_bind h
   have cr6 := kit_SameInts_ok k a0.2.2.2 a1.2.2.2 r6 er6
   refine gb (o_call [.tmp 19, .tmp 21] rfl rfl en40 rfl cr6) ?_
   refine ga (o_not rfl) ?_
   refine pf ?_
   refine mq ?_
   refine JO.bool (s := 25) rfl (fun hb => ?_) (fun hb => ?_)
   ·
    replace h := b_if (nv_t hb) h
    iterate 7 refine gn ?_
    refine pt ?_
    refine mq ?_
    iterate 7 refine gn ?_
    refine pt ?_
    refine JO.nil ?_
    refine JN.then_n ?_
    exact JN.z ((), true) h (SE.fin [1, 0] ⟨rfl, rfl, rfl, trivial⟩ rfl)
   ·
    replace h := b_ifn (nv_fn hb) h
    refine ga (o_field_obj rfl fo28_0) ?_
    refine JO.front 1 rfl ?_
    refine JO.g11 rfl rfl rfl rfl rfl rfl (o_load_obj rfl sz25 (fun _ => rfl) rfl) ⟨rfl, trivial⟩ ?_
    refine ga (o_len rfl rfl Try.underlying25) ?_
    refine ga (o_field_obj rfl fo28_0) ?_
    refine JO.front 1 rfl ?_
    refine JO.g11 rfl rfl rfl rfl rfl rfl (o_load_obj rfl sz25 (fun _ => rfl) rfl) ⟨rfl, trivial⟩ ?_
    refine ga (o_len rfl rfl Try.underlying25) ?_
    refine gb (o_neq rfl) ?_
    refine pf ?_
    refine mq ?_
    refine JO.bool (s := 34) rfl (fun hb => ?_) (fun hb => ?_)
    ·
     replace h := b_if (n_t hb) h
     iterate 7 refine gn ?_
     refine pt ?_
     refine JO.nil ?_
     refine JN.then_n ?_
     exact JN.z ((), true) h (SE.fin [1, 0] ⟨rfl, rfl, rfl, trivial⟩ rfl)
    ·
     replace h := b_ifn (n_fn hb) h
     refine ga (o_field_obj rfl fo28_1) ?_
     refine JO.front 1 rfl ?_
     refine JO.g11 rfl rfl rfl rfl rfl rfl (o_load_obj rfl sz26 (fun _ => rfl) rfl) ⟨rfl, trivial⟩ ?_
     refine ga (o_len rfl rfl Try.underlying26) ?_
     refine ga (o_field_obj rfl fo28_1) ?_
     refine JO.front 1 rfl ?_
     refine JO.g11 rfl rfl rfl rfl rfl rfl (o_load_obj rfl sz26 (fun _ => rfl) rfl) ⟨rfl, trivial⟩ ?_
     refine ga (o_len rfl rfl Try.underlying26) ?_
     refine gb (o_neq rfl) ?_
     refine pf ?_
     refine JO.nil ?_
     refine JN.then_n ?_
     exact JN.z ((), !decide ((a0.2.1.length : Int) = (a1.2.1.length : Int))) h (SE.fin [1, 0] ⟨rfl, rfl, rfl, trivial⟩ rfl)
 ·
  refine JC.cond rfl (fun hb => ?_) (fun hb => ?_)
  ·
   replace h := b_if (v_t hb) h
   refine sr ?_
   refine cq ?_
   refine nt ?_
   refine JC.ret ?_
   refine JN.then_r ?_
   obtain rfl := Option.some.inj h
   exact JN.ret () [_] 0 ⟨rfl, trivial⟩ rfl
  ·
   replace h := b_ifn (v_f hb) h
   refine JC.skip ?_
   refine JN.then_n ?_
   show JC _ _ _ _ _
   refine JC.cutE (Z := Unit) (α := Unit) (fun z8 x7 => [(2, .eq (.pointer (some ⟨b1, 0, none⟩))), (3, .eq (.pointer (some ⟨b2, 0, none⟩)))]) (fun z8 x7 => [.obj b1 28 (.rep tChange a0), .obj b2 28 (.rep tChange a1)]) (fun e => e = r) h (fun e h => Option.some.inj h) (fun K hR h => ?_) (fun z8 x7 h => ?_)
   ·
    refine sr ?_
    refine cq ?_
    refine nt ?_
    refine JC.block ?_
    refine JC.loopB (Z := Unit) (α := Int) (fun z10 y9 => [(2, .eq (.pointer (some ⟨b1, 0, none⟩))), (3, .eq (.pointer (some ⟨b2, 0, none⟩))), (5, .eq (.int .i64 y9))]) (fun z10 y9 => [.obj b1 28 (.rep tChange a0), .obj b2 28 (.rep tChange a1)]) (kit_SameChanges_l1 k a0 a1) k () (0 : Int) (fun _ => rfl) h (SE.fin [0, 1] ⟨rfl, rfl, rfl, trivial⟩ rfl) (fun n z10 y9 h => ?_)
    unfold kit_SameChanges_l1 at h
    refine JC.seq ?_
    refine sr ?_
    refine mq ?_
    refine ja (o_field_obj rfl fo28_0) ?_
    refine ka (o_load_obj rfl sz25 (fun _ => rfl) rfl) ?_
    refine ja (o_len rfl rfl Try.underlying25) ?_
    refine jb (o_lss rfl) ?_
    refine nt ?_
    refine JC.cond rfl (fun hb => ?_) (fun hb => ?_)
    ·
     replace h := b_if (d_t hb) h
     refine JC.skip ?_
     refine JN.then_n ?_
     show JC _ _ _ _ _
     refine JC.seq ?_
     refine JC.block ?_
     refine JC.seq ?_
     refine JC.drawW ?_
     refine DW.t00 rfl rfl rfl (o_field_obj rfl fo28_0) ⟨rfl, trivial⟩ ?_
     refine DW.t11 0 rfl rfl rfl rfl (o_load_obj rfl sz25 (fun _ => rfl) rfl) ⟨rfl, trivial⟩ ?_
     refine DW.t00 rfl rfl rfl (o_move rfl) ⟨rfl, trivial⟩ ?_
     obtain ⟨x11, ex11, h⟩ := b_bind h
     refine DW.t00 rfl rfl rfl (o_index (t := tThing) rfl Try.underlying25 sz45 ex11) ⟨rfl, rfl, trivial⟩ ?_
     refine DW.t00 rfl rfl rfl (o_load_at (t := tThing) rfl sz45 rfl) ⟨rfl, trivial⟩ ?_
     refine DW.t00 rfl rfl rfl (o_field_obj rfl fo28_0) ⟨rfl, trivial⟩ ?_
     refine DW.t11 1 rfl rfl rfl rfl (o_load_obj rfl sz25 (fun _ => rfl) rfl) ⟨rfl, trivial⟩ ?_
     refine DW.t00 rfl rfl rfl (o_move rfl) ⟨rfl, trivial⟩ ?_
     obtain ⟨x12, ex12, h⟩ := b_bind h
     refine DW.t00 rfl rfl rfl (o_index (t := tThing) rfl Try.underlying25 sz45 ex12) ⟨rfl, rfl, trivial⟩ ?_
     refine DW.t00 rfl rfl rfl (o_load_at (t := tThing) rfl sz45 rfl) ⟨rfl, trivial⟩ ?_
     refine DW.tNew (ptrD 45 (.agg (.pair (.eq (.slice none 0 0)) (.pair (.eq (.int .i64 (0 : Int))) (.pair (.eq (.int .i64 (0 : Int))) (.pair (.eq (.int .i64 (0 : Int))) (.eq (.int .i64 (0 : Int))))))))) (fun _ => rfl) rfl rfl rfl (o_alloc rfl za45 al45) trivial ?_
     refine DW.tNew (ptrD 45 (.agg (.pair (.eq (.slice none 0 0)) (.pair (.eq (.int .i64 (0 : Int))) (.pair (.eq (.int .i64 (0 : Int))) (.pair (.eq (.int .i64 (0 : Int))) (.eq (.int .i64 (0 : Int))))))))) (fun _ => rfl) rfl rfl rfl (o_alloc rfl za45 al45) trivial ?_
     refine DW.fin 12 [true, true, true, true, true, false, false, false, false, false, true, true] [] [1] [.obj b2 28 (.rep tChange a1)] rfl (by kernel_rfl) (by kernel_rfl) (by kernel_rfl) mixed (fun vs hv hB => ?_)
     obtain ⟨w0, vs1, rfl, hv1⟩ := len_cons hv
     obtain ⟨w1, vs2, rfl, hv2⟩ := len_cons hv1
     obtain ⟨w2, vs3, rfl, hv3⟩ := len_cons hv2
     obtain ⟨w3, vs4, rfl, hv4⟩ := len_cons hv3
     obtain ⟨w4, vs5, rfl, hv5⟩ := len_cons hv4
     obtain ⟨w5, vs6, rfl, hv6⟩ := len_cons hv5
     obtain ⟨w6, vs7, rfl, hv7⟩ := len_cons hv6
     obtain ⟨w7, vs8, rfl, hv8⟩ := len_cons hv7
     obtain ⟨w8, vs9, rfl, hv9⟩ := len_cons hv8
     obtain ⟨w9, vs10, rfl, hv10⟩ := len_cons hv9
     obtain ⟨w10, vs11, rfl, hv11⟩ := len_cons hv10
     obtain ⟨w11, vs12, rfl, hv12⟩ := len_cons hv11
     obtain rfl := len_nil hv12
     obtain ⟨b13, rfl⟩ := ptr_of hB.2.2.2.2.2.2.2.2.2.2.1
     obtain ⟨b14, rfl⟩ := ptr_of hB.2.2.2.2.2.2.2.2.2.2.2.1
     refine ⟨[1, 0, 2, 3], [.obj b1 28 (.rep tChange a0), .obj b13 45 (.agg (.pair (.eq (.slice none 0 0)) (.pair (.eq (.int .i64 (0 : Int))) (.pair (.eq (.int .i64 (0 : Int))) (.pair (.eq (.int .i64 (0 : Int))) (.eq (.int .i64 (0 : Int)))))))), .obj b14 45 (.agg (.pair (.eq (.slice none 0 0)) (.pair (.eq (.int .i64 (0 : Int))) (.pair (.eq (.int .i64 (0 : Int))) (.pair (.eq (.int .i64 (0 : Int))) (.eq (.int .i64 (0 : Int))))))))], by kernel_rfl, by decide, ?_⟩
     refine JT.front 1 rfl ?_
     refine JT.n11 rfl rfl (o_store rfl sz45 rfl rfl rfl) ⟨rfl, rfl, trivial⟩ (by kernel_rfl) ?_
     refine JT.all (by kernel_rfl) ?_
     refine JO.front 3 rfl ?_
     refine JO.n11 rfl rfl (o_store rfl sz45 rfl rfl rfl) ⟨rfl, rfl, trivial⟩ ?_
     refine nt ?_
     refine JC.cutB (Z := Unit) (α := Bool) (fun z16 x15 => [(2, .eq (.pointer (some ⟨b1, 0, none⟩))), (3, .eq (.pointer (some ⟨b2, 0, none⟩))), (5, .eq (.int .i64 y9)), (93, .eq (.bool x15))]) (fun z16 x15 => [.obj b1 28 (.rep tChange a0), .obj b2 28 (.rep tChange a1)]) h (fun K h => ?_) (fun z16 x15 h => ?_)
     ·
      refine JC.region ?_
      refine ja (o_field_obj rfl fo45_0) ?_
      refine JO.front 2 rfl ?_
      refine ka (o_load_obj rfl sz22 (fun _ => rfl) rfl) ?_
      refine ja (o_field_obj rfl fo45_0) ?_
      refine JO.front 1 rfl ?_
      refine ka (o_load_obj rfl sz22 (fun _ => rfl) rfl) ?_
      obtain ⟨r17, er17, h⟩ := b_bind h
      have cr17 := kit_SameInts_ok k x11.1 x12.1 r17 er17
      refine jb (o_call [.tmp 61, .tmp 63] rfl rfl en40 rfl cr17) ?_
      refine ja (o_not rfl) ?_
      refine mq ?_
      refine JO.bool (s := 66) rfl (fun hb => ?_) (fun hb => ?_)
      ·
       replace h := b_if (nv_t hb) h
       iterate 5 refine gn ?_
       refine pt ?_
       refine mq ?_
       iterate 5 refine gn ?_
       refine pt ?_
       refine mq ?_
       iterate 5 refine gn ?_
       refine pt ?_
       refine mq ?_
       iterate 5 refine gn ?_
       refine pt ?_
       refine JO.nil ?_
       refine JN.then_n ?_
       exact JN.z ((), true) h (SE.fin [3, 2] ⟨rfl, rfl, rfl, rfl, trivial⟩ rfl)
      ·
       replace h := b_ifn (nv_fn hb) h
       refine ga (o_field_obj rfl fo45_1) ?_
       refine JO.front 1 rfl ?_
       refine JO.g11 rfl rfl rfl rfl rfl rfl (o_load_obj rfl sz3 (fun _ => rfl) rfl) ⟨rfl, trivial⟩ ?_
       refine ga (o_field_obj rfl fo45_1) ?_
       refine JO.front 1 rfl ?_
       refine JO.g11 rfl rfl rfl rfl rfl rfl (o_load_obj rfl sz3 (fun _ => rfl) rfl) ⟨rfl, trivial⟩ ?_
       refine gb (o_neq rfl) ?_
       refine pf ?_
       refine mq ?_
       refine JO.bool (s := 73) rfl (fun hb => ?_) (fun hb => ?_)
       ·
        replace h := b_if (n_t hb) h
        iterate 5 refine gn ?_
        refine pt ?_
        refine mq ?_
        iterate 5 refine gn ?_
        refine pt ?_
        refine mq ?_
        iterate 5 refine gn ?_
        refine pt ?_
        refine JO.nil ?_
        refine JN.then_n ?_
        exact JN.z ((), true) h (SE.fin [3, 2] ⟨rfl, rfl, rfl, rfl, trivial⟩ rfl)
       ·
        replace h := b_ifn (n_fn hb) h
        refine ga (o_field_obj rfl fo45_2) ?_
        refine JO.front 1 rfl ?_
        refine JO.g11 rfl rfl rfl rfl rfl rfl (o_load_obj rfl sz3 (fun _ => rfl) rfl) ⟨rfl, trivial⟩ ?_
        refine ga (o_field_obj rfl fo45_2) ?_
        refine JO.front 1 rfl ?_
        refine JO.g11 rfl rfl rfl rfl rfl rfl (o_load_obj rfl sz3 (fun _ => rfl) rfl) ⟨rfl, trivial⟩ ?_
        refine gb (o_neq rfl) ?_
        refine pf ?_
        refine mq ?_
        refine JO.bool (s := 80) rfl (fun hb => ?_) (fun hb => ?_)
        ·
         replace h := b_if (n_t hb) h
         iterate 5 refine gn ?_
         refine pt ?_
         refine mq ?_
         iterate 5 refine gn ?_
         refine pt ?_
         refine JO.nil ?_
         refine JN.then_n ?_
         exact JN.z ((), true) h (SE.fin [3, 2] ⟨rfl, rfl, rfl, rfl, trivial⟩ rfl)
        ·
         replace h := b_ifn (n_fn hb) h
         refine ga (o_field_obj rfl fo45_3) ?_
         refine JO.front 1 rfl ?_
         refine JO.g11 rfl rfl rfl rfl rfl rfl (o_load_obj rfl sz3 (fun _ => rfl) rfl) ⟨rfl, trivial⟩ ?_
         refine ga (o_field_obj rfl fo45_3) ?_
         refine JO.front 1 rfl ?_
         refine JO.g11 rfl rfl rfl rfl rfl rfl (o_load_obj rfl sz3 (fun _ => rfl) rfl) ⟨rfl, trivial⟩ ?_
         refine gb (o_neq rfl) ?_
         refine pf ?_
         refine mq ?_
         refine JO.bool (s := 87) rfl (fun hb => ?_) (fun hb => ?_)
         ·
          replace h := b_if (n_t hb) h
          iterate 5 refine gn ?_
          refine pt ?_
          refine JO.nil ?_
          refine JN.then_n ?_
          exact JN.z ((), true) h (SE.fin [3, 2] ⟨rfl, rfl, rfl, rfl, trivial⟩ rfl)
         ·
          replace h := b_ifn (n_fn hb) h
          refine ga (o_field_obj rfl fo45_4) ?_
          refine JO.front 1 rfl ?_
          refine JO.g11 rfl rfl rfl rfl rfl rfl (o_load_obj rfl sz3 (fun _ => rfl) rfl) ⟨rfl, trivial⟩ ?_
          refine ga (o_field_obj rfl fo45_4) ?_
          refine JO.front 1 rfl ?_
          refine JO.g11 rfl rfl rfl rfl rfl rfl (o_load_obj rfl sz3 (fun _ => rfl) rfl) ⟨rfl, trivial⟩ ?_
          refine gb (o_neq rfl) ?_
          refine pf ?_
          refine JO.nil ?_
          refine JN.then_n ?_
          exact JN.z ((), !decide (x11.2.2.2.2 = x12.2.2.2.2)) h (SE.fin [3, 2] ⟨rfl, rfl, rfl, rfl, trivial⟩ rfl)
     ·
      refine JC.cond rfl (fun hb => ?_) (fun hb => ?_)
      ·
       replace h := b_if (v_t hb) h
       refine sr ?_
       refine cq ?_
       refine nt ?_
       refine JC.ret ?_
       refine JN.blk_r ?_
       refine JN.then_r ?_
       refine JN.then_r ?_
       refine JN.blk_r ?_
       refine JN.then_r ?_
       obtain rfl := hR _ h
       exact JN.ret () [_] 0 ⟨rfl, trivial⟩ rfl
      ·
       replace h := b_ifn (v_f hb) h
       refine JC.skip ?_
       refine JN.blk_n ?_
       refine JN.then_n ?_
       show JC _ _ _ _ _
       refine JC.region ?_
       refine mq ?_
       obtain ⟨x18, ex18, h⟩ := b_bind h
       refine jb (o_add rfl ex18) ?_
       refine aq ?_
       refine JO.nil ?_
       refine JN.then_n ?_
       exact JN.z ((), x18) h (SE.fin [0, 1] ⟨rfl, rfl, rfl, trivial⟩ rfl)
    ·
     replace h := b_ifn (d_f hb) h
     refine JC.exit ?_
     refine JN.then_x ?_
     refine JN.then_x ?_
     refine JN.blk_hit ?_
     refine JN.then_n ?_
     exact JN.z ((), ()) h (SE.fin [0, 1] ⟨rfl, rfl, trivial⟩ rfl)
   ·
    refine JC.cutE (Z := Unit) (α := Unit) (fun z20 x19 => []) (fun z20 x19 => []) (fun e => e = r) h (fun e h => Option.some.inj h) (fun K hR h => ?_) (fun z20 x19 h => ?_)
    ·
     refine sr ?_
     refine cq ?_
     refine nt ?_
     refine JC.block ?_
     refine JC.loopB (Z := Unit) (α := Int) (fun z22 y21 => [(2, .eq (.pointer (some ⟨b1, 0, none⟩))), (3, .eq (.pointer (some ⟨b2, 0, none⟩))), (8, .eq (.int .i64 y21))]) (fun z22 y21 => [.obj b1 28 (.rep tChange a0), .obj b2 28 (.rep tChange a1)]) (kit_SameChanges_l2 k a0 a1) k () (0 : Int) (fun _ => rfl) h (SE.fin [0, 1] ⟨rfl, rfl, rfl, trivial⟩ rfl) (fun n z22 y21 h => ?_)
     unfold kit_SameChanges_l2 at h
     refine JC.seq ?_
     refine sr ?_
     refine mq ?_
     refine ja (o_field_obj rfl fo28_1) ?_
     refine ka (o_load_obj rfl sz26 (fun _ => rfl) rfl) ?_
     refine ja (o_len rfl rfl Try.underlying26) ?_
     refine jb (o_lss rfl) ?_
     refine nt ?_
     refine JC.cond rfl (fun hb => ?_) (fun hb => ?_)
     ·
      replace h := b_if (d_t hb) h
      refine JC.skip ?_
      refine JN.then_n ?_
      show JC _ _ _ _ _
      refine JC.seq ?_
      refine JC.block ?_
      refine JC.seq ?_
      refine JC.drawW ?_
      refine DW.t00 rfl rfl rfl (o_field_obj rfl fo28_1) ⟨rfl, trivial⟩ ?_
      refine DW.t11 0 rfl rfl rfl rfl (o_load_obj rfl sz26 (fun _ => rfl) rfl) ⟨rfl, trivial⟩ ?_
      refine DW.t00 rfl rfl rfl (o_move rfl) ⟨rfl, trivial⟩ ?_
      obtain ⟨x23, ex23, h⟩ := b_bind h
      refine DW.t00 rfl rfl rfl (o_index (t := tDresser) rfl Try.underlying26 sz53 ex23) ⟨rfl, rfl, trivial⟩ ?_
      refine DW.t00 rfl rfl rfl (o_load_at (t := tDresser) rfl sz53 rfl) ⟨rfl, trivial⟩ ?_
      refine DW.t00 rfl rfl rfl (o_field_obj rfl fo28_1) ⟨rfl, trivial⟩ ?_
      refine DW.t11 1 rfl rfl rfl rfl (o_load_obj rfl sz26 (fun _ => rfl) rfl) ⟨rfl, trivial⟩ ?_
      refine DW.t00 rfl rfl rfl (o_move rfl) ⟨rfl, trivial⟩ ?_
      obtain ⟨x24, ex24, h⟩ := b_bind h
      refine DW.t00 rfl rfl rfl (o_index (t := tDresser) rfl Try.underlying26 sz53 ex24) ⟨rfl, rfl, trivial⟩ ?_
      refine DW.t00 rfl rfl rfl (o_load_at (t := tDresser) rfl sz53 rfl) ⟨rfl, trivial⟩ ?_
      refine DW.tNew (ptrD 53 (.agg (.pair (.eq (.slice none 0 0)) (.pair (.eq (.int .i64 (0 : Int))) (.eq (.int .i64 (0 : Int))))))) (fun _ => rfl) rfl rfl rfl (o_alloc rfl za53 al53) trivial ?_
      refine DW.tNew (ptrD 53 (.agg (.pair (.eq (.slice none 0 0)) (.pair (.eq (.int .i64 (0 : Int))) (.eq (.int .i64 (0 : Int))))))) (fun _ => rfl) rfl rfl rfl (o_alloc rfl za53 al53) trivial ?_
      refine DW.fin 12 [true, true, true, true, true, false, false, false, false, false, true, true] [] [1] [.obj b2 28 (.rep tChange a1)] rfl (by kernel_rfl) (by kernel_rfl) (by kernel_rfl) mixed (fun vs hv hB => ?_)
      obtain ⟨w0, vs1, rfl, hv1⟩ := len_cons hv
      obtain ⟨w1, vs2, rfl, hv2⟩ := len_cons hv1
      obtain ⟨w2, vs3, rfl, hv3⟩ := len_cons hv2
      obtain ⟨w3, vs4, rfl, hv4⟩ := len_cons hv3
      obtain ⟨w4, vs5, rfl, hv5⟩ := len_cons hv4
      obtain ⟨w5, vs6, rfl, hv6⟩ := len_cons hv5
      obtain ⟨w6, vs7, rfl, hv7⟩ := len_cons hv6
      obtain ⟨w7, vs8, rfl, hv8⟩ := len_cons hv7
      obtain ⟨w8, vs9, rfl, hv9⟩ := len_cons hv8
      obtain ⟨w9, vs10, rfl, hv10⟩ := len_cons hv9
      obtain ⟨w10, vs11, rfl, hv11⟩ := len_cons hv10
      obtain ⟨w11, vs12, rfl, hv12⟩ := len_cons hv11
      obtain rfl := len_nil hv12
      obtain ⟨b25, rfl⟩ := ptr_of hB.2.2.2.2.2.2.2.2.2.2.1
      obtain ⟨b26, rfl⟩ := ptr_of hB.2.2.2.2.2.2.2.2.2.2.2.1
      refine ⟨[1, 0, 2, 3], [.obj b1 28 (.rep tChange a0), .obj b25 53 (.agg (.pair (.eq (.slice none 0 0)) (.pair (.eq (.int .i64 (0 : Int))) (.eq (.int .i64 (0 : Int)))))), .obj b26 53 (.agg (.pair (.eq (.slice none 0 0)) (.pair (.eq (.int .i64 (0 : Int))) (.eq (.int .i64 (0 : Int))))))], by kernel_rfl, by decide, ?_⟩
      refine JT.front 1 rfl ?_
      refine JT.n11 rfl rfl (o_store rfl sz53 rfl rfl rfl) ⟨rfl, rfl, trivial⟩ (by kernel_rfl) ?_
      refine JT.all (by kernel_rfl) ?_
      refine JO.front 3 rfl ?_
      refine JO.n11 rfl rfl (o_store rfl sz53 rfl rfl rfl) ⟨rfl, rfl, trivial⟩ ?_
      refine nt ?_
      refine JC.cutB (Z := Unit) (α := Bool) (fun z28 x27 => [(2, .eq (.pointer (some ⟨b1, 0, none⟩))), (3, .eq (.pointer (some ⟨b2, 0, none⟩))), (8, .eq (.int .i64 y21)), (130, .eq (.bool x27))]) (fun z28 x27 => [.obj b1 28 (.rep tChange a0), .obj b2 28 (.rep tChange a1)]) h (fun K h => ?_) (fun z28 x27 h => ?_)
      ·
       refine JC.region ?_
       refine ja (o_field_obj rfl fo53_0) ?_
       refine JO.front 2 rfl ?_
       refine ka (o_load_obj rfl sz22 (fun _ => rfl) rfl) ?_
       refine ja (o_field_obj rfl fo53_0) ?_
       refine JO.front 1 rfl ?_
       refine ka (o_load_obj rfl sz22 (fun _ => rfl) rfl) ?_
       obtain ⟨r29, er29, h⟩ := b_bind h
       have cr29 := kit_SameInts_ok k x23.1 x24.1 r29 er29
       refine jb (o_call [.tmp 112, .tmp 114] rfl rfl en40 rfl cr29) ?_
       refine ja (o_not rfl) ?_
       refine mq ?_
       refine JO.bool (s := 117) rfl (fun hb => ?_) (fun hb => ?_)
       ·
        replace h := b_if (nv_t hb) h
        iterate 5 refine gn ?_
        refine pt ?_
        refine mq ?_
        iterate 5 refine gn ?_
        refine pt ?_
        refine JO.nil ?_
        refine JN.then_n ?_
        exact JN.z ((), true) h (SE.fin [3, 2] ⟨rfl, rfl, rfl, rfl, trivial⟩ rfl)
       ·
        replace h := b_ifn (nv_fn hb) h
        refine ga (o_field_obj rfl fo53_1) ?_
        refine JO.front 1 rfl ?_
        refine JO.g11 rfl rfl rfl rfl rfl rfl (o_load_obj rfl sz3 (fun _ => rfl) rfl) ⟨rfl, trivial⟩ ?_
        refine ga (o_field_obj rfl fo53_1) ?_
        refine JO.front 1 rfl ?_
        refine JO.g11 rfl rfl rfl rfl rfl rfl (o_load_obj rfl sz3 (fun _ => rfl) rfl) ⟨rfl, trivial⟩ ?_
        refine gb (o_neq rfl) ?_
        refine pf ?_
        refine mq ?_
        refine JO.bool (s := 124) rfl (fun hb => ?_) (fun hb => ?_)
        ·
         replace h := b_if (n_t hb) h
         iterate 5 refine gn ?_
         refine pt ?_
         refine JO.nil ?_
         refine JN.then_n ?_
         exact JN.z ((), true) h (SE.fin [3, 2] ⟨rfl, rfl, rfl, rfl, trivial⟩ rfl)
        ·
         replace h := b_ifn (n_fn hb) h
         refine ga (o_field_obj rfl fo53_2) ?_
         refine JO.front 1 rfl ?_
         refine JO.g11 rfl rfl rfl rfl rfl rfl (o_load_obj rfl sz3 (fun _ => rfl) rfl) ⟨rfl, trivial⟩ ?_
         refine ga (o_field_obj rfl fo53_2) ?_
         refine JO.front 1 rfl ?_
         refine JO.g11 rfl rfl rfl rfl rfl rfl (o_load_obj rfl sz3 (fun _ => rfl) rfl) ⟨rfl, trivial⟩ ?_
         refine gb (o_neq rfl) ?_
         refine pf ?_
         refine JO.nil ?_
         refine JN.then_n ?_
         exact JN.z ((), !decide (x23.2.2 = x24.2.2)) h (SE.fin [3, 2] ⟨rfl, rfl, rfl, rfl, trivial⟩ rfl)
      ·
       refine JC.cond rfl (fun hb => ?_) (fun hb => ?_)
       ·
        replace h := b_if (v_t hb) h
        refine sr ?_
        refine cq ?_
        refine nt ?_
        refine JC.ret ?_
        refine JN.blk_r ?_
        refine JN.then_r ?_
        refine JN.then_r ?_
        refine JN.blk_r ?_
        refine JN.then_r ?_
        obtain rfl := hR _ h
        exact JN.ret () [_] 0 ⟨rfl, trivial⟩ rfl
       ·
        replace h := b_ifn (v_f hb) h
        refine JC.skip ?_
        refine JN.blk_n ?_
        refine JN.then_n ?_
        show JC _ _ _ _ _
        refine JC.region ?_
        refine mq ?_
        obtain ⟨x30, ex30, h⟩ := b_bind h
        refine jb (o_add rfl ex30) ?_
        refine aq ?_
        refine JO.nil ?_
        refine JN.then_n ?_
        exact JN.z ((), x30) h (SE.fin [0, 1] ⟨rfl, rfl, rfl, trivial⟩ rfl)
     ·
      replace h := b_ifn (d_f hb) h
      refine JC.exit ?_
      refine JN.then_x ?_
      refine JN.then_x ?_
      refine JN.blk_hit ?_
      refine JN.then_n ?_
      exact JN.z ((), ()) h (SE.fin [] trivial rfl)
    ·
     refine sr ?_
     refine cq ?_
     refine nt ?_
     refine JC.ret ?_
     obtain rfl := Option.some.inj h
     exact JN.ret () [_] 0 ⟨rfl, trivial⟩ rfl


def law_ChangeChecks_l1 (k : Nat) (r6 : (List dChange) × dLots) : Nat → Int → Option (Except Bool Unit)
 | 0, _ => none
 | n + 1, y9 =>
  if y9 < (r6.1.length : Int) then ((geti r6.1 y9).bind fun x11 =>
  (kit_CopyChange k x11).bind fun r12 =>
  (chg_Tasks k (r12.1, r12.2.1, r12.2.2.1, r12.2.2.2)).bind fun r15 =>
  (geti r6.1 y9).bind fun x16 =>
  (ref_Tasks k x16).bind fun r17 =>
  (chg_Firsts k (r12.1, r12.2.1, r12.2.2.1, r12.2.2.2)).bind fun r18 =>
  (geti r6.1 y9).bind fun x19 =>
  (ref_Firsts k x19).bind fun r20 =>
  (((chg_Check k (r12.1, r12.2.1, r12.2.2.1, r12.2.2.2)).bind fun r23 =>
  (geti r6.1 y9).bind fun x24 =>
  (ref_Check k x24).bind fun r25 =>
  if ¬ (r23 = r25) then (some true) else (if ¬ (r15.2 = r17.2) then (some true) else (if ¬ (r18.2 = r20.2) then (some true) else ((kit_SameTasks k r15.1 r17.1).bind fun r26 =>
  if ¬ (r26 = true) then (some true) else ((kit_SameLists k r18.1 r20.1).bind fun r27 =>
  if ¬ (r27 = true) then (some true) else ((geti r6.1 y9).bind fun x28 =>
  (kit_SameChanges k (r12.1, r12.2.1, r12.2.2.1, r12.2.2.2) x28).bind fun r29 =>
  some (!r29))))))) : Option (Bool)).bind fun x21 =>
  if x21 = true then (some (.error false)) else ((ck (y9 + (1 : Int))).bind fun x30 =>
  law_ChangeChecks_l1 k r6 n x30)) else (some (.ok ()))
def law_ChangeChecks (k : Nat) (a0 : dChange) (a1 : (List Int)) : Option Bool :=
 (law_long k a0).bind fun r2 =>
 if r2 = true then ((law_dressed k).bind fun r3 =>
 some r3) else ((kit_NewLots k a1).bind fun r4 =>
 (law_sets k a0 (r4.1, r4.2.1, r4.2.2)).bind fun r6 =>
 bE (α := Unit) (law_ChangeChecks_l1 k r6 k (0 : Int)) (some) fun _ =>
 (law_dressed k).bind fun r31 =>
 some r31)

theorem law_ChangeChecks_ok (k : Nat) (a0 : dChange) (a1 : (List Int)) (r : Bool) (h : law_ChangeChecks k a0 a1 = some r) :
 Ctr Try.prog 12 [.rep tChange a0, .rep (.slice (.int .i64)) a1] [] (fun _ : Unit => (resA [.eq (.bool r)], [])) := by
 unfold law_ChangeChecks at h
 replace h := b_top h
 refine Ctr.of 100 Try.func12 rfl Try.ntmps12 rfl fun S w0 => ?_
 refine sr ?_
 refine JO.s01 rfl rfl rfl (o_box rfl rfl) ⟨rfl, trivial⟩ fun b1 => ?_
 refine cq ?_
 refine nt ?_
 refine JC.seq ?_
 refine sr ?_
 refine ka (o_load_obj rfl sz28 (nfn) rfl) ?_
 obtain ⟨r2, er2, h⟩ := b_bind h
 have cr2 := law_long_ok k a0 r2 er2
 refine ja (o_call [.tmp 16] rfl rfl en45 rfl cr2) ?_
 refine nt ?_
 refine JC.cond rfl (fun hb => ?_) (fun hb => ?_)
 ·
  replace h := b_if (v_t hb) h
  refine sr ?_
  obtain ⟨r3, er3, h⟩ := b_bind h
  have cr3 := law_dressed_ok k  r3 er3
  refine JO.s rfl (o_call [] rfl rfl en22 rfl cr3) trivial ?_
  refine aq ?_
  refine nt ?_
  refine JC.ret ?_
  refine JN.then_r ?_
  obtain rfl := Option.some.inj h
  exact JN.ret () [_] 0 ⟨rfl, trivial⟩ rfl
 ·
  replace h := b_ifn (v_f hb) h
  refine JC.skip ?_
  refine JN.then_n ?_
  show JC _ _ _ _ _
  refine JC.seq ?_
  refine JC.drawW ?_
  refine DW.t11 0 rfl rfl rfl rfl (o_load_obj rfl sz28 (nfn) rfl) ⟨rfl, trivial⟩ ?_
  refine DW.t00 rfl rfl rfl (o_move rfl) ⟨rfl, trivial⟩ ?_
  obtain ⟨r4, er4, h⟩ := b_bind h
  have cr4 := kit_NewLots_ok k a1 r4 er4
  refine DW.tNew (ptrD 93 (.agg (.pair (.rep (.slice (.int .i64)) r4.1) (.pair (.eq (.int .i64 r4.2.1)) (.eq (.int .u64 r4.2.2)))))) (fun _ => rfl) rfl rfl rfl (o_call [.tmp 20] rfl rfl en17 rfl cr4) ⟨rfl, trivial⟩ ?_
  refine DW.fin 3 [true, true, true] [5, 22] [] [] rfl (by kernel_rfl) (by kernel_rfl) (by kernel_rfl) mixed (fun vs hv hB => ?_)
  obtain ⟨w0, vs1, rfl, hv1⟩ := len_cons hv
  obtain ⟨w1, vs2, rfl, hv2⟩ := len_cons hv1
  obtain ⟨w2, vs3, rfl, hv3⟩ := len_cons hv2
  obtain rfl := len_nil hv3
  obtain ⟨b5, rfl⟩ := ptr_of hB.2.2.1
  refine ⟨[0, 1], [.obj b1 28 (.rep tChange a0), .obj b5 93 (.agg (.pair (.rep (.slice (.int .i64)) r4.1) (.pair (.eq (.int .i64 r4.2.1)) (.eq (.int .u64 r4.2.2)))))], by kernel_rfl, by decide, ?_⟩
  obtain ⟨r6, er6, h⟩ := b_bind h
  have cr6 := law_sets_ok k a0 (r4.1, r4.2.1, r4.2.2) b5 r6 er6
  refine JT.front 1 rfl ?_
  refine JT.y11 rfl rfl rfl rfl (o_call [.tmp 19, .tmp 21] rfl rfl en46 rfl cr6) ⟨rfl, rfl, trivial⟩ (by kernel_rfl) ?_
  refine JT.y00 rfl rfl rfl rfl (o_assign rfl) ⟨rfl, trivial⟩ (by kernel_rfl) ?_
  refine JT.nil ?_
  refine JN.se (SE.fin (Γ' := [(5, .rep (.slice tChange) r6.1)]) (Δ' := [.obj b5 93 (.agg (.pair (.rep (.slice (.int .i64)) r6.2.1) (.pair (.eq (.int .i64 r6.2.2.1)) (.eq (.int .u64 r6.2.2.2))))), .obj b1 28 (.rep tChange a0)]) [0, 1] ⟨rfl, trivial⟩ rfl) ?_
  refine JN.then_n ?_
  show JC _ _ _ _ _
  refine JC.cutE (Z := Unit) (α := Unit) (fun z8 x7 => []) (fun z8 x7 => []) (fun e => e = r) h (fun e h => Option.some.inj h) (fun K hR h => ?_) (fun z8 x7 h => ?_)
  ·
   refine sr ?_
   refine cq ?_
   refine nt ?_
   refine JC.block ?_
   refine JC.loopB (Z := Unit) (α := Int) (fun z10 y9 => [(5, .rep (.slice tChange) r6.1), (6, .eq (.int .i64 y9))]) (fun z10 y9 => []) (law_ChangeChecks_l1 k r6) k () (0 : Int) (fun _ => rfl) h (SE.fin [] ⟨rfl, rfl, trivial⟩ rfl) (fun n z10 y9 h => ?_)
   unfold law_ChangeChecks_l1 at h
   refine JC.seq ?_
   refine sr ?_
   iterate 2 refine mq ?_
   refine ja (o_len rfl rfl Try.underlying62) ?_
   refine jb (o_lss rfl) ?_
   refine nt ?_
   refine JC.cond rfl (fun hb => ?_) (fun hb => ?_)
   ·
    replace h := b_if (d_t hb) h
    refine JC.skip ?_
    refine JN.then_n ?_
    show JC _ _ _ _ _
    refine JC.seq ?_
    refine JC.block ?_
    refine sr ?_
    iterate 2 refine mq ?_
    obtain ⟨x11, ex11, h⟩ := b_bind h
    refine jb (o_index (t := tChange) rfl Try.underlying62 sz28 ex11) ?_
    refine ja (o_load_at (t := tChange) rfl sz28 rfl) ?_
    obtain ⟨r12, er12, h⟩ := b_bind h
    have cr12 := kit_CopyChange_ok k x11 r12 er12
    refine JO.stepG (Δ := []) (F := _) (fun _ _ _ => wanted_none rfl _) rfl rfl (o_call [.tmp 32] rfl rfl en27 rfl cr12) ⟨rfl, trivial⟩ fun z13 => ?_
    refine JO.s01 rfl rfl rfl (o_alloc rfl za28 al28) trivial fun b14 => ?_
    refine JO.n11 rfl rfl (o_store rfl sz28 trivial rfl rfl) ⟨rfl, rfl, trivial⟩ ?_
    refine nt ?_
    refine sr ?_
    refine JO.front 1 rfl ?_
    refine JO.se (SE.frzBoth (off := 0) [] trivial rfl rfl) ?_
    refine JO.front 1 rfl ?_
    refine JO.se (SE.frzBoth (off := 1) [] trivial rfl rfl) ?_
    refine ka (o_load_obj rfl sz28 (nfn) rfl) ?_
    obtain ⟨r15, er15, h⟩ := b_bind h
    have cr15 := chg_Tasks_ok k (r12.1, r12.2.1, r12.2.2.1, r12.2.2.2) r15 er15
    refine ja (OpT.need (N := [(.tmp 35, .agg (.pair (.rep (.slice tThing) r12.1) (.pair (.rep (.slice tDresser) r12.2.1) (.pair (.rep (.slice (.int .i64)) r12.2.2.1) (.rep (.slice (.int .i64)) r12.2.2.2)))))]) (o_call [.tmp 35] rfl rfl en34 rfl cr15) fun _ _ _ hn => ⟨(ent_holds (t := tChange) (x := (r12.1, r12.2.1, r12.2.2.1, r12.2.2.2)) (.agg (.pair .rep (.pair .rep (.pair .rep .rep)))) trivial rfl hn.1), trivial⟩) ?_
    refine mq ?_
    refine ja (o_extract rfl rfl) ?_
    refine ja (o_extract rfl rfl) ?_
    refine aq ?_
    refine aq ?_
    refine nt ?_
    refine sr ?_
    iterate 2 refine mq ?_
    obtain ⟨x16, ex16, h⟩ := b_bind h
    refine jb (o_index (t := tChange) rfl Try.underlying62 sz28 ex16) ?_
    refine ja (o_load_at (t := tChange) rfl sz28 rfl) ?_
    obtain ⟨r17, er17, h⟩ := b_bind h
    have cr17 := ref_Tasks_ok k x16 r17 er17
    refine ja (o_call [.tmp 43] rfl rfl en47 rfl cr17) ?_
    refine mq ?_
    refine ja (o_extract rfl rfl) ?_
    refine ja (o_extract rfl rfl) ?_
    refine aq ?_
    refine aq ?_
    refine nt ?_
    refine sr ?_
    refine ka (o_load_obj rfl sz28 (nfn) rfl) ?_
    obtain ⟨r18, er18, h⟩ := b_bind h
    have cr18 := chg_Firsts_ok k (r12.1, r12.2.1, r12.2.2.1, r12.2.2.2) r18 er18
    refine ja (OpT.need (N := [(.tmp 48, .agg (.pair (.rep (.slice tThing) r12.1) (.pair (.rep (.slice tDresser) r12.2.1) (.pair (.rep (.slice (.int .i64)) r12.2.2.1) (.rep (.slice (.int .i64)) r12.2.2.2)))))]) (o_call [.tmp 48] rfl rfl en48 rfl cr18) fun _ _ _ hn => ⟨(ent_holds (t := tChange) (x := (r12.1, r12.2.1, r12.2.2.1, r12.2.2.2)) (.agg (.pair .rep (.pair .rep (.pair .rep .rep)))) trivial rfl hn.1), trivial⟩) ?_
    refine mq ?_
    refine ja (o_extract rfl rfl) ?_
    refine ja (o_extract rfl rfl) ?_
    refine aq ?_
    refine aq ?_
    refine nt ?_
    refine sr ?_
    iterate 2 refine mq ?_
    obtain ⟨x19, ex19, h⟩ := b_bind h
    refine jb (o_index (t := tChange) rfl Try.underlying62 sz28 ex19) ?_
    refine ja (o_load_at (t := tChange) rfl sz28 rfl) ?_
    obtain ⟨r20, er20, h⟩ := b_bind h
    have cr20 := ref_Firsts_ok k x19 r20 er20
    refine ja (o_call [.tmp 56] rfl rfl en49 rfl cr20) ?_
    refine mq ?_
    refine ja (o_extract rfl rfl) ?_
    refine ja (o_extract rfl rfl) ?_
    refine aq ?_
    refine aq ?_
    refine nt ?_
    refine JC.cutB (Z := Unit) (α := Bool) (fun z22 x21 => [(5, .rep (.slice tChange) r6.1), (6, .eq (.int .i64 y9)), (98, .eq (.bool x21))]) (fun z22 x21 => []) h (fun K h => ?_) (fun z22 x21 h => ?_)
    ·
     refine JC.drawN ?_
     refine ea 0 (o_load_obj rfl sz28 (nfn) rfl) ?_
     obtain ⟨r23, er23, h⟩ := b_bind h
     have cr23 := chg_Check_ok k (r12.1, r12.2.1, r12.2.2.1, r12.2.2.2) r23 er23
     refine da (OpT.need (N := [(.tmp 60, .agg (.pair (.rep (.slice tThing) r12.1) (.pair (.rep (.slice tDresser) r12.2.1) (.pair (.rep (.slice (.int .i64)) r12.2.2.1) (.rep (.slice (.int .i64)) r12.2.2.2)))))]) (o_call [.tmp 60] rfl rfl en50 rfl cr23) fun _ _ _ hn => ⟨(ent_holds (t := tChange) (x := (r12.1, r12.2.1, r12.2.2.1, r12.2.2.2)) (.agg (.pair .rep (.pair .rep (.pair .rep .rep)))) trivial rfl hn.1), trivial⟩) ?_
     refine dm ?_
     refine dm ?_
     obtain ⟨x24, ex24, h⟩ := b_bind h
     refine db (o_index (t := tChange) rfl Try.underlying62 sz28 ex24) ?_
     refine da (o_load_at (t := tChange) rfl sz28 rfl) ?_
     obtain ⟨r25, er25, h⟩ := b_bind h
     have cr25 := ref_Check_ok k x24 r25 er25
     refine da (o_call [.tmp 65] rfl rfl en51 rfl cr25) ?_
     refine db (o_neq rfl) ?_
     refine DN.fork rfl rfl rfl (o_move rfl) ⟨rfl, trivial⟩ (fun hb => ?_) (fun hb => ?_)
     ·
      replace h := b_if (n_t hb) h
      iterate 3 refine dg ?_
      refine db (o_pick_t rfl) ?_
      refine dm ?_
      iterate 3 refine dg ?_
      refine db (o_pick_t rfl) ?_
      refine dm ?_
      iterate 4 refine dg ?_
      refine db (o_pick_t rfl) ?_
      refine dm ?_
      iterate 4 refine dg ?_
      refine db (o_pick_t rfl) ?_
      refine dm ?_
      iterate 5 refine dg ?_
      refine DN.fin (by kernel_rfl) mixed ?_
      iterate 2 refine gn ?_
      refine pt ?_
      refine JO.nil ?_
      refine JN.then_n ?_
      exact JN.z ((), true) h (SE.fin [] ⟨rfl, rfl, rfl, trivial⟩ rfl)
     ·
      replace h := b_ifn (n_fn hb) h
      refine DN.sg00 rfl rfl rfl rfl rfl (o_move rfl) ⟨rfl, rfl, trivial⟩ ?_
      refine DN.sg00 rfl rfl rfl rfl rfl (o_move rfl) ⟨rfl, rfl, trivial⟩ ?_
      refine DN.sg00 rfl rfl rfl rfl rfl (o_neq rfl) ⟨rfl, rfl, rfl, trivial⟩ ?_
      refine db (o_pick_f rfl) ?_
      refine DN.fork rfl rfl rfl (o_move rfl) ⟨rfl, trivial⟩ (fun hb => ?_) (fun hb => ?_)
      ·
       replace h := b_if (n_t hb) h
       iterate 3 refine dg ?_
       refine db (o_pick_t rfl) ?_
       refine dm ?_
       iterate 4 refine dg ?_
       refine db (o_pick_t rfl) ?_
       refine dm ?_
       iterate 4 refine dg ?_
       refine db (o_pick_t rfl) ?_
       refine dm ?_
       iterate 5 refine dg ?_
       refine DN.fin (by kernel_rfl) mixed ?_
       iterate 2 refine gn ?_
       refine pt ?_
       refine JO.nil ?_
       refine JN.then_n ?_
       exact JN.z ((), true) h (SE.fin [] ⟨rfl, rfl, rfl, trivial⟩ rfl)
      ·
       replace h := b_ifn (n_fn hb) h
       refine DN.sg00 rfl rfl rfl rfl rfl (o_move rfl) ⟨rfl, rfl, trivial⟩ ?_
       refine DN.sg00 rfl rfl rfl rfl rfl (o_move rfl) ⟨rfl, rfl, trivial⟩ ?_
       refine DN.sg00 rfl rfl rfl rfl rfl (o_neq rfl) ⟨rfl, rfl, rfl, trivial⟩ ?_
       refine db (o_pick_f rfl) ?_
       refine DN.fork rfl rfl rfl (o_move rfl) ⟨rfl, trivial⟩ (fun hb => ?_) (fun hb => ?_)
       ·
        replace h := b_if (n_t hb) h
        iterate 4 refine dg ?_
        refine db (o_pick_t rfl) ?_
        refine dm ?_
        iterate 4 refine dg ?_
        refine db (o_pick_t rfl) ?_
        refine dm ?_
        iterate 5 refine dg ?_
        refine DN.fin (by kernel_rfl) mixed ?_
        iterate 2 refine gn ?_
        refine pt ?_
        refine JO.nil ?_
        refine JN.then_n ?_
        exact JN.z ((), true) h (SE.fin [] ⟨rfl, rfl, rfl, trivial⟩ rfl)
       ·
        replace h := b_ifn (n_fn hb) h
        refine DN.sg00 rfl rfl rfl rfl rfl (o_move rfl) ⟨rfl, rfl, trivial⟩ ?_
        refine DN.sg00 rfl rfl rfl rfl rfl (o_move rfl) ⟨rfl, rfl, trivial⟩ ?_
        obtain ⟨r26, er26, h⟩ := b_bind h
        have cr26 := kit_SameTasks_ok k r15.1 r17.1 r26 er26
        refine DN.sg00 rfl rfl rfl rfl rfl (o_call [.tmp 79, .tmp 80] rfl rfl en35 rfl cr26) ⟨rfl, rfl, rfl, trivial⟩ ?_
        refine DN.sg00 rfl rfl rfl rfl rfl (o_not rfl) ⟨rfl, rfl, trivial⟩ ?_
        refine db (o_pick_f rfl) ?_
        refine DN.fork rfl rfl rfl (o_move rfl) ⟨rfl, trivial⟩ (fun hb => ?_) (fun hb => ?_)
        ·
         replace h := b_if (nv_t hb) h
         iterate 4 refine dg ?_
         refine db (o_pick_t rfl) ?_
         refine dm ?_
         iterate 5 refine dg ?_
         refine DN.fin (by kernel_rfl) mixed ?_
         iterate 2 refine gn ?_
         refine pt ?_
         refine JO.nil ?_
         refine JN.then_n ?_
         exact JN.z ((), true) h (SE.fin [] ⟨rfl, rfl, rfl, trivial⟩ rfl)
        ·
         replace h := b_ifn (nv_fn hb) h
         refine DN.sg00 rfl rfl rfl rfl rfl (o_move rfl) ⟨rfl, rfl, trivial⟩ ?_
         refine DN.sg00 rfl rfl rfl rfl rfl (o_move rfl) ⟨rfl, rfl, trivial⟩ ?_
         obtain ⟨r27, er27, h⟩ := b_bind h
         have cr27 := kit_SameLists_ok k r18.1 r20.1 r27 er27
         refine DN.sg00 rfl rfl rfl rfl rfl (o_call [.tmp 85, .tmp 86] rfl rfl en52 rfl cr27) ⟨rfl, rfl, rfl, trivial⟩ ?_
         refine DN.sg00 rfl rfl rfl rfl rfl (o_not rfl) ⟨rfl, rfl, trivial⟩ ?_
         refine db (o_pick_f rfl) ?_
         refine DN.fork rfl rfl rfl (o_move rfl) ⟨rfl, trivial⟩ (fun hb => ?_) (fun hb => ?_)
         ·
          replace h := b_if (nv_t hb) h
          iterate 5 refine dg ?_
          refine DN.fin (by kernel_rfl) mixed ?_
          iterate 2 refine gn ?_
          refine pt ?_
          refine JO.nil ?_
          refine JN.then_n ?_
          exact JN.z ((), true) h (SE.fin [] ⟨rfl, rfl, rfl, trivial⟩ rfl)
         ·
          replace h := b_ifn (nv_fn hb) h
          refine DN.sg11 0 rfl rfl rfl rfl rfl rfl (o_load_obj rfl sz28 (nfn) rfl) ⟨rfl, rfl, trivial⟩ ?_
          refine DN.sg00 rfl rfl rfl rfl rfl (o_move rfl) ⟨rfl, rfl, trivial⟩ ?_
          refine DN.sg00 rfl rfl rfl rfl rfl (o_move rfl) ⟨rfl, rfl, trivial⟩ ?_
          obtain ⟨x28, ex28, h⟩ := b_bind h
          refine DN.sg00 rfl rfl rfl rfl rfl (o_index (t := tChange) rfl Try.underlying62 sz28 ex28) ⟨rfl, rfl, rfl, trivial⟩ ?_
          refine DN.sg00 rfl rfl rfl rfl rfl (o_load_at (t := tChange) rfl sz28 rfl) ⟨rfl, rfl, trivial⟩ ?_
          refine DN.fin (by kernel_rfl) mixed ?_
          obtain ⟨r29, er29, h⟩ := b_bind h
          have cr29 := kit_SameChanges_ok k (r12.1, r12.2.1, r12.2.2.1, r12.2.2.2) x28 r29 er29
          refine gb (OpT.need (N := [(.tmp 91, .agg (.pair (.rep (.slice tThing) r12.1) (.pair (.rep (.slice tDresser) r12.2.1) (.pair (.rep (.slice (.int .i64)) r12.2.2.1) (.rep (.slice (.int .i64)) r12.2.2.2))))), (.tmp 95, .rep tChange x28)]) (o_call [.tmp 91, .tmp 95] rfl rfl en53 rfl cr29) fun _ _ _ hn => ⟨(ent_holds (t := tChange) (x := (r12.1, r12.2.1, r12.2.2.1, r12.2.2.2)) (.agg (.pair .rep (.pair .rep (.pair .rep .rep)))) trivial rfl hn.1), hn.2.1, trivial⟩) ?_
          refine ga (o_not rfl) ?_
          refine pf ?_
          refine JO.nil ?_
          refine JN.then_n ?_
          exact JN.z ((), !r29) h (SE.fin [] ⟨rfl, rfl, rfl, trivial⟩ rfl)
    ·
     refine JC.cond rfl (fun hb => ?_) (fun hb => ?_)
     ·
      replace h := b_if (v_t hb) h
      refine sr ?_
      refine cq ?_
      refine nt ?_
      refine JC.ret ?_
      refine JN.blk_r ?_
      refine JN.then_r ?_
      refine JN.then_r ?_
      refine JN.blk_r ?_
      refine JN.then_r ?_
      obtain rfl := hR _ h
      exact JN.ret () [_] 0 ⟨rfl, trivial⟩ rfl
     ·
      replace h := b_ifn (v_f hb) h
      refine JC.skip ?_
      refine JN.blk_n ?_
      refine JN.then_n ?_
      show JC _ _ _ _ _
      refine JC.region ?_
      refine mq ?_
      obtain ⟨x30, ex30, h⟩ := b_bind h
      refine jb (o_add rfl ex30) ?_
      refine aq ?_
      refine JO.nil ?_
      refine JN.then_n ?_
      exact JN.z ((), x30) h (SE.fin [] ⟨rfl, rfl, trivial⟩ rfl)
   ·
    replace h := b_ifn (d_f hb) h
    refine JC.exit ?_
    refine JN.then_x ?_
    refine JN.then_x ?_
    refine JN.blk_hit ?_
    refine JN.then_n ?_
    exact JN.z ((), ()) h (SE.fin [] trivial rfl)
  ·
   refine sr ?_
   obtain ⟨r31, er31, h⟩ := b_bind h
   have cr31 := law_dressed_ok k  r31 er31
   refine JO.s rfl (o_call [] rfl rfl en22 rfl cr31) trivial ?_
   refine aq ?_
   refine nt ?_
   refine JC.ret ?_
   obtain rfl := Option.some.inj h
   exact JN.ret () [_] 0 ⟨rfl, trivial⟩ rfl


end Go.Proofs.Ytfhdclhbdmhnmaa
