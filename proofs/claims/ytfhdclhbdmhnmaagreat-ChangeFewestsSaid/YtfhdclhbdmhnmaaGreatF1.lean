/- The program's functions, part 3: what each computes, and that the code computes it. Printed by a program of this proof's own. -/
import Derived.Test.YtfhdclhbdmhnmaaGreatP2
set_option linter.unusedVariables false
set_option maxRecDepth 4000
namespace Go.Proofs.YtfhdclhbdmhnmaaGreat
open K Go Go.Proofs
def ref_things_l1 (k : Nat) (a0 : dChange) (a1 : (List Int)) (a2 : Int) : Nat → Int → Option (Except Int Unit)
 | 0, _ => none
 | n + 1, y4 =>
  if y4 < (a1.length : Int) then ((((geti a1 y4).bind fun x8 =>
  (ck ((a0.1.length : Int) - (1 : Int))).bind fun x9 =>
  (ref_inside k x8 (0 : Int) x9).bind fun r10 =>
  if ¬ (r10 = true) then (some true) else ((geti a1 y4).bind fun x11 =>
  some (decide (x11 = a2)))) : Option (Bool)).bind fun x6 =>
  if x6 = true then (some (.error (3 : Int))) else (((if (0 : Int) < y4 then ((geti a1 y4).bind fun x14 =>
  (ck (y4 - (1 : Int))).bind fun x15 =>
  (geti a1 x15).bind fun x16 =>
  some (decide (x14 ≤ x16))) else (some false)) : Option (Bool)).bind fun x12 =>
  if x12 = true then (some (.error (5 : Int))) else ((ck (y4 + (1 : Int))).bind fun x17 =>
  ref_things_l1 k a0 a1 a2 n x17))) else (some (.ok ()))
def ref_things (k : Nat) (a0 : dChange) (a1 : (List Int)) (a2 : Int) : Option Int :=
 bE (α := Unit) (ref_things_l1 k a0 a1 a2 k (0 : Int)) (some) fun _ =>
 some (0 : Int)

theorem ref_things_ok (k : Nat) (a0 : dChange) (a1 : (List Int)) (a2 : Int) (r : Int) (h : ref_things k a0 a1 a2 = some r) :
 Ctr Tryz.prog 116 [.rep tChange a0, .rep (.slice (.int .i64)) a1, .eq (.int .i64 a2)] [] (fun _ : Unit => (resA [.eq (.int .i64 r)], [])) := by
 unfold ref_things at h;replace h := b_top h;refine Ctr.of 46 Tryz.func116 rfl Tryz.ntmps116 rfl fun S w0 => ?_;refine sr ?_;refine JO.s01 rfl rfl rfl (o_box rfl rfl) ⟨rfl, trivial⟩ fun b1 => ?_;refine cq ?_;refine nt ?_;refine JC.cutE (Z := Unit) (α := Unit) (fun z3 x2 => []) (fun z3 x2 => []) (fun e => e = r) h (fun e h => Option.some.inj h) (fun K hR h => ?_) (fun z3 x2 h => ?_)
 ·refine sr ?_;refine cq ?_;refine nt ?_;refine JC.block ?_;refine JC.loopB (Z := Unit) (α := Int) (fun z5 y4 => [(1, .rep (.slice (.int .i64)) a1), (2, .eq (.int .i64 a2)), (3, .eq (.pointer (some ⟨b1, 0, none⟩))), (7, .eq (.int .i64 y4))]) (fun z5 y4 => [.obj b1 26 (.rep tChange a0)]) (ref_things_l1 k a0 a1 a2) k () (0 : Int) (fun _ => rfl) h (SE.fin [0] ⟨rfl, rfl, rfl, rfl, trivial⟩ rfl) (fun n z5 y4 h => ?_);unfold ref_things_l1 at h;refine JC.seq ?_;refine sr ?_;iterate 2 refine mq ?_
  refine ja (o_len rfl rfl Tryz.underlying24) ?_;refine jb (o_lss rfl) ?_;refine nt ?_;refine ci h (fun h => ?_) (fun h => ?_)
  ·refine sk ?_;refine JC.seq ?_;refine JC.block ?_;refine JC.seq ?_;refine JC.cutB (Z := Unit) (α := Bool) (fun z7 x6 => [(1, .rep (.slice (.int .i64)) a1), (2, .eq (.int .i64 a2)), (3, .eq (.pointer (some ⟨b1, 0, none⟩))), (7, .eq (.int .i64 y4)), (31, .eq (.bool x6))]) (fun z7 x6 => [.obj b1 26 (.rep tChange a0)]) h (fun K h => ?_) (fun z7 x6 h => ?_)
   ·refine JC.drawN ?_;refine dm ?_;refine dm ?_;obtain ⟨x8, ex8, h⟩ := b_bind h;refine db (o_index (t := (.int .i64)) rfl Tryz.underlying24 sz3 ex8) ?_;refine da (o_load_at (t := (.int .i64)) rfl sz3 rfl) ?_;refine da (o_field_obj rfl fo26_0) ?_;refine ea 0 (o_load_obj rfl sz22 (fun _ => rfl) rfl) ?_;refine da (o_len rfl rfl Tryz.underlying22) ?_;obtain ⟨x9, ex9, h⟩ := b_bind h;refine db (o_sub rfl ex9) ?_;obtain ⟨r10, er10, h⟩ := b_bind h;have cr10 := ref_inside_ok k x8 (0 : Int) x9 r10 er10;refine dc (o_call [.tmp 17, .const (.int .i64 (0)), .tmp 21] rfl rfl en71 rfl cr10) ?_;refine da (o_not rfl) ?_;refine DN.fork rfl rfl rfl (o_move rfl) ⟨rfl, trivial⟩ (fun hb => ?_) (fun hb => ?_)
    ·replace h := b_if (nv_t hb) h;iterate 5 refine dg ?_
     refine DN.fin (by kernel_rfl) mixed ?_;refine gn ?_;refine pt ?_;refine JO.nil ?_;refine JN.then_n ?_;exact JN.z ((), true) h (SE.fin [0] ⟨rfl, rfl, rfl, rfl, rfl, trivial⟩ rfl)
    ·replace h := b_ifn (nv_fn hb) h;refine DN.sg00 rfl rfl rfl rfl rfl (o_move rfl) ⟨rfl, rfl, trivial⟩ ?_;refine DN.sg00 rfl rfl rfl rfl rfl (o_move rfl) ⟨rfl, rfl, trivial⟩ ?_;obtain ⟨x11, ex11, h⟩ := b_bind h;refine DN.sg00 rfl rfl rfl rfl rfl (o_index (t := (.int .i64)) rfl Tryz.underlying24 sz3 ex11) ⟨rfl, rfl, rfl, trivial⟩ ?_;refine DN.sg00 rfl rfl rfl rfl rfl (o_load_at (t := (.int .i64)) rfl sz3 rfl) ⟨rfl, rfl, trivial⟩ ?_;refine DN.sg00 rfl rfl rfl rfl rfl (o_move rfl) ⟨rfl, rfl, trivial⟩ ?_;refine DN.fin (by kernel_rfl) mixed ?_;refine gb (o_eql rfl) ?_;refine pf ?_;refine JO.nil ?_;refine JN.then_n ?_;exact JN.z ((), decide (x11 = a2)) h (SE.fin [0] ⟨rfl, rfl, rfl, rfl, rfl, trivial⟩ rfl)
   ·refine cv h (fun h => ?_) (fun h => ?_)
    ·refine sr ?_;refine cq ?_;refine nt ?_;refine JC.ret ?_;refine JN.then_r ?_;refine JN.blk_r ?_;refine JN.then_r ?_;refine JN.then_r ?_;refine JN.blk_r ?_;refine JN.then_r ?_;obtain rfl := hR _ h;exact JN.ret () [_] 0 ⟨rfl, trivial⟩ rfl
    ·refine sk ?_;refine JC.cutB (Z := Unit) (α := Bool) (fun z13 x12 => [(1, .rep (.slice (.int .i64)) a1), (2, .eq (.int .i64 a2)), (3, .eq (.pointer (some ⟨b1, 0, none⟩))), (7, .eq (.int .i64 y4)), (45, .eq (.bool x12))]) (fun z13 x12 => [.obj b1 26 (.rep tChange a0)]) h (fun K h => ?_) (fun z13 x12 h => ?_)
     ·refine JC.drawN ?_;refine dm ?_;refine db (o_gtr rfl) ?_;refine DN.fork rfl rfl rfl (o_move rfl) ⟨rfl, trivial⟩ (fun hb => ?_) (fun hb => ?_)
      ·replace h := b_if (d_t hb) h;refine DN.sg00 rfl rfl rfl rfl rfl (o_move rfl) ⟨rfl, rfl, trivial⟩ ?_;refine DN.sg00 rfl rfl rfl rfl rfl (o_move rfl) ⟨rfl, rfl, trivial⟩ ?_;obtain ⟨x14, ex14, h⟩ := b_bind h;refine DN.sg00 rfl rfl rfl rfl rfl (o_index (t := (.int .i64)) rfl Tryz.underlying24 sz3 ex14) ⟨rfl, rfl, rfl, trivial⟩ ?_;refine DN.sg00 rfl rfl rfl rfl rfl (o_load_at (t := (.int .i64)) rfl sz3 rfl) ⟨rfl, rfl, trivial⟩ ?_;refine DN.sg00 rfl rfl rfl rfl rfl (o_move rfl) ⟨rfl, rfl, trivial⟩ ?_;refine DN.sg00 rfl rfl rfl rfl rfl (o_move rfl) ⟨rfl, rfl, trivial⟩ ?_;obtain ⟨x15, ex15, h⟩ := b_bind h;refine DN.sg00 rfl rfl rfl rfl rfl (o_sub rfl ex15) ⟨rfl, rfl, rfl, trivial⟩ ?_;obtain ⟨x16, ex16, h⟩ := b_bind h;refine DN.sg00 rfl rfl rfl rfl rfl (o_index (t := (.int .i64)) rfl Tryz.underlying24 sz3 ex16) ⟨rfl, rfl, rfl, trivial⟩ ?_;refine DN.sg00 rfl rfl rfl rfl rfl (o_load_at (t := (.int .i64)) rfl sz3 rfl) ⟨rfl, rfl, trivial⟩ ?_;refine DN.fin (by kernel_rfl) mixed ?_;refine gb (o_leq rfl) ?_;refine pt ?_;refine JO.nil ?_;refine JN.then_n ?_;exact JN.z ((), decide (x14 ≤ x16)) h (SE.fin [0] ⟨rfl, rfl, rfl, rfl, rfl, trivial⟩ rfl)
      ·replace h := b_ifn (d_f hb) h;iterate 9 refine dg ?_
       refine DN.fin (by kernel_rfl) mixed ?_;refine gn ?_;refine pf ?_;refine JO.nil ?_;refine JN.then_n ?_;exact JN.z ((), false) h (SE.fin [0] ⟨rfl, rfl, rfl, rfl, rfl, trivial⟩ rfl)
     ·refine cv h (fun h => ?_) (fun h => ?_)
      ·refine sr ?_;refine cq ?_;refine nt ?_;refine JC.ret ?_;refine JN.blk_r ?_;refine JN.then_r ?_;refine JN.then_r ?_;refine JN.blk_r ?_;refine JN.then_r ?_;obtain rfl := hR _ h;exact JN.ret () [_] 0 ⟨rfl, trivial⟩ rfl
      ·refine JC.skip ?_;refine JN.blk_n ?_;refine tn ?_;refine JC.region ?_;refine mq ?_;obtain ⟨x17, ex17, h⟩ := b_bind h;refine jb (o_add rfl ex17) ?_;refine aq ?_;refine JO.nil ?_;refine JN.then_n ?_;exact JN.z ((), x17) h (SE.fin [0] ⟨rfl, rfl, rfl, rfl, trivial⟩ rfl)
  ·refine JC.exit ?_;refine JN.then_x ?_;refine JN.then_x ?_;refine JN.blk_hit ?_;refine JN.then_n ?_;exact JN.z ((), ()) h (SE.fin [] trivial rfl)
 ·refine sr ?_;refine cq ?_;refine nt ?_;refine JC.ret ?_;obtain rfl := Option.some.inj h;exact JN.ret () [_] 0 ⟨rfl, trivial⟩ rfl


def ref_ring_l3 (k : Nat) (a0 : dChange) (y10 : (List Bool) × Int) : Nat → ((List Bool) × Int) → Option (List Bool)
 | 0, _ => none
 | n + 1, y17 =>
  (geti a0.1 y10.2).bind fun x19 =>
  if y17.2 < (x19.1.length : Int) then ((geti a0.1 y10.2).bind fun x20 =>
  (geti x20.1 y17.2).bind fun x21 =>
  (geti y17.1 x21).bind fun x22 =>
  (ck (y17.2 + (1 : Int))).bind fun x23 =>
  ref_ring_l3 k a0 y10 n (List.set y17.1 (Int.toNat x21) true, x23)) else (some y17.1)

def ref_ring_l2 (k : Nat) (a0 : dChange) (a1 : Int) : Nat → ((List Bool) × Int) → Option (List Bool)
 | 0, _ => none
 | n + 1, y10 =>
  if y10.2 < (a0.1.length : Int) then (((((if ¬ (y10.2 = a1) then ((geti y10.1 y10.2).bind fun x16 =>
  some (!x16)) else (some false)) : Option (Bool)).bind fun x14 =>
  if x14 = true then (some y10.1) else (ref_ring_l3 k a0 y10 k (y10.1, (0 : Int)))) : Option ((List Bool))).bind fun x12 =>
  (ck (y10.2 + (1 : Int))).bind fun x24 =>
  ref_ring_l2 k a0 a1 n (x12, x24)) else (some y10.1)

def ref_ring_l1 (k : Nat) (a0 : dChange) (a1 : Int) : Nat → ((List Bool) × Int) → Option (List Bool)
 | 0, _ => none
 | n + 1, y6 =>
  if y6.2 < (a0.1.length : Int) then (((ref_ring_l2 k a0 a1 k (y6.1, (0 : Int))) : Option ((List Bool))).bind fun x8 =>
  (ck (y6.2 + (1 : Int))).bind fun x25 =>
  ref_ring_l1 k a0 a1 n (x8, x25)) else (some y6.1)
def ref_ring (k : Nat) (a0 : dChange) (a1 : Int) : Option Bool :=
 (chkP (0 ≤ (a0.1.length : Int) ∧ okLen (Int.toNat (a0.1.length : Int)))).bind fun _ =>
 ((ref_ring_l1 k a0 a1 k (List.replicate (Int.toNat (a0.1.length : Int)) false, (0 : Int))) : Option ((List Bool))).bind fun x4 =>
 (geti x4 a1).bind fun x26 =>
 some x26

theorem ref_ring_ok (k : Nat) (a0 : dChange) (a1 : Int) (r : Bool) (h : ref_ring k a0 a1 = some r) :
 Ctr Tryz.prog 117 [.rep tChange a0, .eq (.int .i64 a1)] [] (fun _ : Unit => (resA [.eq (.bool r)], [])) := by
 unfold ref_ring at h;replace h := b_top h;refine Ctr.of 63 Tryz.func117 rfl Tryz.ntmps117 rfl fun S w0 => ?_;refine sr ?_;refine JO.s01 rfl rfl rfl (o_box rfl rfl) ⟨rfl, trivial⟩ fun b1 => ?_;refine cq ?_;refine nt ?_;refine sr ?_;refine ja (o_field_obj rfl fo26_0) ?_;refine ka (o_load_obj rfl sz22 (fun _ => rfl) rfl) ?_;refine ja (o_len rfl rfl Tryz.underlying22) ?_;obtain ⟨u2, eu2, h⟩ := b_bind h;refine JO.s01 rfl rfl rfl (o_make (t := .bool) (d := false) rfl sl111 zr4 (chkP_some eu2).1 (chkP_some eu2).2) ⟨rfl, rfl, trivial⟩ fun v3 => ?_;refine aq ?_;refine nt ?_;refine JC.cutB (Z := Unit) (α := (List Bool)) (fun z5 x4 => [(1, .eq (.int .i64 a1)), (5, .eq v3)]) (fun z5 x4 => [.sl v3 4 .bool x4]) h (fun K h => ?_) (fun z5 x4 h => ?_)
 ·refine sr ?_;refine cq ?_;refine nt ?_;refine JC.block ?_;refine JC.loopB (Z := Unit) (α := (List Bool) × Int) (fun z7 y6 => [(1, .eq (.int .i64 a1)), (2, .eq (.pointer (some ⟨b1, 0, none⟩))), (5, .eq v3), (6, .eq (.int .i64 y6.2))]) (fun z7 y6 => [.obj b1 26 (.rep tChange a0), .sl v3 4 .bool y6.1]) (ref_ring_l1 k a0 a1) k () (List.replicate (Int.toNat (a0.1.length : Int)) false, (0 : Int)) (fun _ => rfl) h (SE.fin [1, 0] ⟨rfl, rfl, rfl, rfl, trivial⟩ rfl) (fun n z7 y6 h => ?_);unfold ref_ring_l1 at h;refine JC.seq ?_;refine sr ?_;refine mq ?_;refine ja (o_field_obj rfl fo26_0) ?_;refine ka (o_load_obj rfl sz22 (fun _ => rfl) rfl) ?_;refine ja (o_len rfl rfl Tryz.underlying22) ?_;refine jb (o_lss rfl) ?_;refine nt ?_;refine ci h (fun h => ?_) (fun h => ?_)
  ·refine sk ?_;refine JC.cutB (Z := Unit) (α := (List Bool)) (fun z9 x8 => [(1, .eq (.int .i64 a1)), (2, .eq (.pointer (some ⟨b1, 0, none⟩))), (5, .eq v3), (6, .eq (.int .i64 y6.2))]) (fun z9 x8 => [.obj b1 26 (.rep tChange a0), .sl v3 4 .bool x8]) h (fun K h => ?_) (fun z9 x8 h => ?_)
   ·refine JC.block ?_;refine sr ?_;refine cq ?_;refine nt ?_;refine JC.block ?_;refine JC.loopB (Z := Unit) (α := (List Bool) × Int) (fun z11 y10 => [(1, .eq (.int .i64 a1)), (2, .eq (.pointer (some ⟨b1, 0, none⟩))), (5, .eq v3), (6, .eq (.int .i64 y6.2)), (7, .eq (.int .i64 y10.2))]) (fun z11 y10 => [.obj b1 26 (.rep tChange a0), .sl v3 4 .bool y10.1]) (ref_ring_l2 k a0 a1) k () (y6.1, (0 : Int)) (fun _ => rfl) h (SE.fin [0, 1] ⟨rfl, rfl, rfl, rfl, rfl, trivial⟩ rfl) (fun n z11 y10 h => ?_);unfold ref_ring_l2 at h;refine JC.seq ?_;refine sr ?_;refine mq ?_;refine ja (o_field_obj rfl fo26_0) ?_;refine ka (o_load_obj rfl sz22 (fun _ => rfl) rfl) ?_;refine ja (o_len rfl rfl Tryz.underlying22) ?_;refine jb (o_lss rfl) ?_;refine nt ?_;refine ci h (fun h => ?_) (fun h => ?_)
    ·refine sk ?_;refine JC.cutB (Z := Unit) (α := (List Bool)) (fun z13 x12 => [(1, .eq (.int .i64 a1)), (2, .eq (.pointer (some ⟨b1, 0, none⟩))), (5, .eq v3), (6, .eq (.int .i64 y6.2)), (7, .eq (.int .i64 y10.2))]) (fun z13 x12 => [.obj b1 26 (.rep tChange a0), .sl v3 4 .bool x12]) h (fun K h => ?_) (fun z13 x12 h => ?_)
     ·refine JC.block ?_;refine JC.seq ?_;refine JC.cutB (Z := Unit) (α := Bool) (fun z15 x14 => [(1, .eq (.int .i64 a1)), (2, .eq (.pointer (some ⟨b1, 0, none⟩))), (5, .eq v3), (6, .eq (.int .i64 y6.2)), (7, .eq (.int .i64 y10.2)), (36, .eq (.bool x14))]) (fun z15 x14 => [.obj b1 26 (.rep tChange a0), .sl v3 4 .bool y10.1]) h (fun K h => ?_) (fun z15 x14 h => ?_)
      ·refine JC.region ?_;iterate 2 refine mq ?_
       refine jb (o_neq rfl) ?_;refine mq ?_;refine JO.bool (s := 30) rfl (fun hb => ?_) (fun hb => ?_)
       ·replace h := b_if (n_t hb) h;refine gm ?_;refine gm ?_;obtain ⟨x16, ex16, h⟩ := b_bind h;refine fr 1 ?_;refine JO.g11 rfl rfl rfl rfl rfl rfl (o_index_own (t := .bool) rfl Tryz.underlying111 sz4 ex16) ⟨rfl, rfl, trivial⟩ ?_;refine JO.g11 rfl rfl rfl rfl rfl rfl (o_load_el (i := Int.toNat y10.2) (off := 0) rfl sz4 (fun _ => rfl) rfl (geti_some ex16).2.2 rfl) ⟨rfl, trivial⟩ ?_;refine ga (o_not rfl) ?_;refine pt ?_;refine JO.nil ?_;refine JN.then_n ?_;exact JN.z ((), !x16) h (SE.fin [1, 0] ⟨rfl, rfl, rfl, rfl, rfl, rfl, trivial⟩ rfl)
       ·replace h := b_ifn (n_fn hb) h;iterate 5 refine gn ?_
        refine pf ?_;refine JO.nil ?_;refine JN.then_n ?_;exact JN.z ((), false) h (SE.fin [0, 1] ⟨rfl, rfl, rfl, rfl, rfl, rfl, trivial⟩ rfl)
      ·refine cv h (fun h => ?_) (fun h => ?_)
       ·refine JC.exit ?_;refine JN.then_x ?_;refine JN.blk_hit ?_;refine JN.then_n ?_;exact JN.z ((), y10.1) h (SE.fin [0, 1] ⟨rfl, rfl, rfl, rfl, rfl, trivial⟩ rfl)
       ·refine sk ?_;refine sr ?_;refine cq ?_;refine nt ?_;refine JC.block ?_;refine JC.loopB (Z := Unit) (α := (List Bool) × Int) (fun z18 y17 => [(1, .eq (.int .i64 a1)), (2, .eq (.pointer (some ⟨b1, 0, none⟩))), (5, .eq v3), (6, .eq (.int .i64 y6.2)), (7, .eq (.int .i64 y10.2)), (8, .eq (.int .i64 y17.2))]) (fun z18 y17 => [.obj b1 26 (.rep tChange a0), .sl v3 4 .bool y17.1]) (ref_ring_l3 k a0 y10) k () (y10.1, (0 : Int)) (fun _ => rfl) h (SE.fin [0, 1] ⟨rfl, rfl, rfl, rfl, rfl, rfl, trivial⟩ rfl) (fun n z18 y17 h => ?_);unfold ref_ring_l3 at h;refine JC.seq ?_;refine sr ?_;refine mq ?_;refine ja (o_field_obj rfl fo26_0) ?_;refine ka (o_load_obj rfl sz22 (fun _ => rfl) rfl) ?_;refine mq ?_;obtain ⟨x19, ex19, h⟩ := b_bind h;refine jb (o_index (t := tThing) rfl Tryz.underlying22 sz74 ex19) ?_;refine ja (o_field_at 1 false rfl fo74_0 rfl) ?_;refine ja (o_load_at (t := (.slice (.int .i64))) rfl sz24 rfl) ?_;refine ja (o_len rfl rfl Tryz.underlying24) ?_;refine jb (o_lss rfl) ?_;refine nt ?_;refine ci h (fun h => ?_) (fun h => ?_)
        ·refine sk ?_;refine JC.seq ?_;refine JC.block ?_;refine JC.region ?_;refine mq ?_;refine ja (o_field_obj rfl fo26_0) ?_;refine ka (o_load_obj rfl sz22 (fun _ => rfl) rfl) ?_;refine mq ?_;obtain ⟨x20, ex20, h⟩ := b_bind h;refine jb (o_index (t := tThing) rfl Tryz.underlying22 sz74 ex20) ?_;refine ja (o_field_at 1 false rfl fo74_0 rfl) ?_;refine ja (o_load_at (t := (.slice (.int .i64))) rfl sz24 rfl) ?_;refine mq ?_;obtain ⟨x21, ex21, h⟩ := b_bind h;refine jb (o_index (t := (.int .i64)) rfl Tryz.underlying24 sz3 ex21) ?_;refine ja (o_load_at (t := (.int .i64)) rfl sz3 rfl) ?_;obtain ⟨x22, ex22, h⟩ := b_bind h;refine fr 1 ?_;refine kb (o_index_own (t := .bool) rfl Tryz.underlying111 sz4 ex22) ?_;refine JO.n11 rfl rfl (o_store_elW (i := Int.toNat x21) rfl sz4 rfl (geti_lt ex22) rfl .bool rfl) ⟨rfl, rfl, trivial⟩ ?_;refine JO.nil ?_;refine JN.blk_n ?_;refine tn ?_;refine JC.region ?_;refine mq ?_;obtain ⟨x23, ex23, h⟩ := b_bind h;refine jb (o_add rfl ex23) ?_;refine aq ?_;refine JO.nil ?_;refine JN.then_n ?_;exact JN.z ((), (List.set y17.1 (Int.toNat x21) true, x23)) h (SE.fin [1, 0] ⟨rfl, rfl, rfl, rfl, rfl, rfl, trivial⟩ rfl)
        ·refine JC.exit ?_;refine JN.then_x ?_;refine JN.then_x ?_;refine JN.blk_hit ?_;refine JN.blk_n ?_;refine JN.then_n ?_;exact JN.z ((), y17.1) h (SE.fin [0, 1] ⟨rfl, rfl, rfl, rfl, rfl, trivial⟩ rfl)
     ·refine JC.region ?_;refine mq ?_;obtain ⟨x24, ex24, h⟩ := b_bind h;refine jb (o_add rfl ex24) ?_;refine aq ?_;refine JO.nil ?_;refine JN.then_n ?_;exact JN.z ((), (x12, x24)) h (SE.fin [0, 1] ⟨rfl, rfl, rfl, rfl, rfl, trivial⟩ rfl)
    ·refine JC.exit ?_;refine JN.then_x ?_;refine JN.then_x ?_;refine JN.blk_hit ?_;refine JN.blk_n ?_;refine JN.then_n ?_;exact JN.z ((), y10.1) h (SE.fin [0, 1] ⟨rfl, rfl, rfl, rfl, trivial⟩ rfl)
   ·refine JC.region ?_;refine mq ?_;obtain ⟨x25, ex25, h⟩ := b_bind h;refine jb (o_add rfl ex25) ?_;refine aq ?_;refine JO.nil ?_;refine JN.then_n ?_;exact JN.z ((), (x8, x25)) h (SE.fin [0, 1] ⟨rfl, rfl, rfl, rfl, trivial⟩ rfl)
  ·refine JC.exit ?_;refine JN.then_x ?_;refine JN.then_x ?_;refine JN.blk_hit ?_;refine JN.then_n ?_;exact JN.z ((), y6.1) h (SE.fin [1] ⟨rfl, rfl, trivial⟩ rfl)
 ·refine sr ?_;iterate 2 refine mq ?_
  obtain ⟨x26, ex26, h⟩ := b_bind h;refine kb (o_index_own (t := .bool) rfl Tryz.underlying111 sz4 ex26) ?_;refine ka (o_load_el (i := Int.toNat a1) (off := 0) rfl sz4 (fun _ => rfl) rfl (geti_some ex26).2.2 rfl) ?_;refine aq ?_;refine nt ?_;refine JC.ret ?_;obtain rfl := Option.some.inj h;exact JN.ret () [_] 0 ⟨rfl, trivial⟩ rfl


def ref_Check_l1 (k : Nat) (a0 : dChange) : Nat → Int → Option (Except Int Unit)
 | 0, _ => none
 | n + 1, y5 =>
  if y5 < (a0.1.length : Int) then ((geti a0.1 y5).bind fun x7 =>
  (ref_things k a0 x7.1 y5).bind fun r9 =>
  if ¬ (r9 = (0 : Int)) then (some (.error r9)) else ((((ref_inside k x7.2.1 (1 : Int) (4 : Int)).bind fun r12 =>
  if ¬ (r12 = true) then (some true) else ((ref_inside k x7.2.2.1 (1 : Int) (4 : Int)).bind fun r13 =>
  some (!r13))) : Option (Bool)).bind fun x10 =>
  if x10 = true then (some (.error (1 : Int))) else ((ref_inside k x7.2.2.2.1 (0 : Int) (2 : Int)).bind fun r14 =>
  if ¬ (r14 = true) then (some (.error (8 : Int))) else ((ref_inside k x7.2.2.2.2 (0 : Int) (30 : Int)).bind fun r15 =>
  if ¬ (r15 = true) then (some (.error (1 : Int))) else ((ck (y5 + (1 : Int))).bind fun x16 =>
  ref_Check_l1 k a0 n x16))))) else (some (.ok ()))

def ref_Check_l2 (k : Nat) (a0 : dChange) : Nat → Int → Option (Except Int Unit)
 | 0, _ => none
 | n + 1, y19 =>
  if y19 < (a0.1.length : Int) then ((ref_ring k a0 y19).bind fun r21 =>
  if r21 = true then (some (.error (9 : Int))) else ((ck (y19 + (1 : Int))).bind fun x22 =>
  ref_Check_l2 k a0 n x22)) else (some (.ok ()))

def ref_Check_l3 (k : Nat) (a0 : dChange) : Nat → Int → Option (Except Int Unit)
 | 0, _ => none
 | n + 1, y26 =>
  if y26 < (a0.2.1.length : Int) then ((geti a0.2.1 y26).bind fun x28 =>
  (ref_things k a0 x28.1 (-1 : Int)).bind fun r30 =>
  if ¬ (r30 = (0 : Int)) then (some (.error r30)) else ((ref_inside k x28.2.1 (0 : Int) (2 : Int)).bind fun r31 =>
  if ¬ (r31 = true) then (some (.error (8 : Int))) else ((ref_inside k x28.2.2 (0 : Int) (9 : Int)).bind fun r32 =>
  if ¬ (r32 = true) then (some (.error (1 : Int))) else ((ck (y26 + (1 : Int))).bind fun x33 =>
  ref_Check_l3 k a0 n x33)))) else (some (.ok ()))
def ref_Check (k : Nat) (a0 : dChange) : Option Int :=
 (ref_sized k (a0.1.length : Int) (4 : Int)).bind fun r2 =>
 if ¬ (r2 = (0 : Int)) then (some r2) else (bE (α := Unit) (ref_Check_l1 k a0 k (0 : Int)) (some) fun _ =>
 bE (α := Unit) (ref_Check_l2 k a0 k (0 : Int)) (some) fun _ =>
 (ref_sized k (a0.2.1.length : Int) (3 : Int)).bind fun r23 =>
 if ¬ (r23 = (0 : Int)) then (some r23) else (bE (α := Unit) (ref_Check_l3 k a0 k (0 : Int)) (some) fun _ =>
 (ref_things k a0 a0.2.2.1 (-1 : Int)).bind fun r34 =>
 if ¬ (r34 = (0 : Int)) then (some r34) else ((ref_things k a0 a0.2.2.2 (-1 : Int)).bind fun r35 =>
 some r35)))

theorem ref_Check_ok (k : Nat) (a0 : dChange) (r : Int) (h : ref_Check k a0 = some r) :
 Ctr Tryz.prog 98 [.rep tChange a0] [] (fun _ : Unit => (resA [.eq (.int .i64 r)], [])) := by
 unfold ref_Check at h;replace h := b_top h;refine Ctr.of 113 Tryz.func98 rfl Tryz.ntmps98 rfl fun S w0 => ?_;refine sr ?_;refine JO.s01 rfl rfl rfl (o_box rfl rfl) ⟨rfl, trivial⟩ fun b1 => ?_;refine cq ?_;refine nt ?_;refine JC.seq ?_;refine sr ?_;refine ja (o_field_obj rfl fo26_0) ?_;refine ka (o_load_obj rfl sz22 (fun _ => rfl) rfl) ?_;refine ja (o_len rfl rfl Tryz.underlying22) ?_;obtain ⟨r2, er2, h⟩ := b_bind h;have cr2 := ref_sized_ok k (a0.1.length : Int) (4 : Int) r2 er2;refine jb (o_call [.tmp 15, .const (.int .i64 (4))] rfl rfl en70 rfl cr2) ?_;refine aq ?_;refine nt ?_;refine sr ?_;refine mq ?_;refine jb (o_neq rfl) ?_;refine nt ?_;refine cn h (fun h => ?_) (fun h => ?_)
 ·refine sr ?_;refine mq ?_;refine aq ?_;refine nt ?_;refine JC.ret ?_;refine JN.then_r ?_;obtain rfl := Option.some.inj h;exact JN.ret () [_] 0 ⟨rfl, trivial⟩ rfl
 ·refine sk ?_;refine JC.cutE (Z := Unit) (α := Unit) (fun z4 x3 => [(1, .eq (.pointer (some ⟨b1, 0, none⟩)))]) (fun z4 x3 => [.obj b1 26 (.rep tChange a0)]) (fun e => e = r) h (fun e h => Option.some.inj h) (fun K hR h => ?_) (fun z4 x3 h => ?_)
  ·refine sr ?_;refine cq ?_;refine nt ?_;refine JC.block ?_;refine JC.loopB (Z := Unit) (α := Int) (fun z6 y5 => [(1, .eq (.pointer (some ⟨b1, 0, none⟩))), (4, .eq (.int .i64 y5))]) (fun z6 y5 => [.obj b1 26 (.rep tChange a0)]) (ref_Check_l1 k a0) k () (0 : Int) (fun _ => rfl) h (SE.fin [0] ⟨rfl, rfl, trivial⟩ rfl) (fun n z6 y5 h => ?_);unfold ref_Check_l1 at h;refine JC.seq ?_;refine sr ?_;refine mq ?_;refine ja (o_field_obj rfl fo26_0) ?_;refine ka (o_load_obj rfl sz22 (fun _ => rfl) rfl) ?_;refine ja (o_len rfl rfl Tryz.underlying22) ?_;refine jb (o_lss rfl) ?_;refine nt ?_;refine ci h (fun h => ?_) (fun h => ?_)
   ·refine sk ?_;refine JC.seq ?_;refine JC.block ?_;refine sr ?_;refine ja (o_field_obj rfl fo26_0) ?_;refine ka (o_load_obj rfl sz22 (fun _ => rfl) rfl) ?_;refine mq ?_;obtain ⟨x7, ex7, h⟩ := b_bind h;refine jb (o_index (t := tThing) rfl Tryz.underlying22 sz74 ex7) ?_;refine ja (o_load_at (t := tThing) rfl sz74 rfl) ?_;refine JO.s01 rfl rfl rfl (o_alloc rfl za74 al74) trivial fun b8 => ?_;refine JO.n11 rfl rfl (o_store rfl sz74 rfl rfl rfl) ⟨rfl, rfl, trivial⟩ ?_;refine nt ?_;refine JC.seq ?_;refine sr ?_;refine fr 1 ?_;refine ka (o_load_obj rfl sz26 (nfn) rfl) ?_;refine ja (o_field_obj rfl fo74_0) ?_;refine fr 1 ?_;refine ka (o_load_obj rfl sz24 (fun _ => rfl) rfl) ?_;refine mq ?_;obtain ⟨r9, er9, h⟩ := b_bind h;have cr9 := ref_things_ok k a0 x7.1 y5 r9 er9;refine jc (o_call [.tmp 32, .tmp 34, .tmp 35] rfl rfl en116 rfl cr9) ?_;refine aq ?_;refine nt ?_;refine sr ?_;refine mq ?_;refine jb (o_neq rfl) ?_;refine nt ?_;refine cn h (fun h => ?_) (fun h => ?_)
    ·refine sr ?_;refine mq ?_;refine aq ?_;refine nt ?_;refine JC.ret ?_;refine JN.then_r ?_;refine JN.blk_r ?_;refine JN.then_r ?_;refine JN.then_r ?_;refine JN.blk_r ?_;refine JN.then_r ?_;obtain rfl := hR _ h;exact JN.ret () [_] 0 ⟨rfl, trivial⟩ rfl
    ·refine sk ?_;refine JC.seq ?_;refine JC.cutB (Z := Unit) (α := Bool) (fun z11 x10 => [(1, .eq (.pointer (some ⟨b1, 0, none⟩))), (4, .eq (.int .i64 y5)), (5, .eq (.pointer (some ⟨b8, 0, none⟩))), (49, .eq (.bool x10))]) (fun z11 x10 => [.obj b1 26 (.rep tChange a0), .obj b8 74 (.rep tThing x7)]) h (fun K h => ?_) (fun z11 x10 h => ?_)
     ·refine JC.region ?_;refine ja (o_field_obj rfl fo74_1) ?_;refine ka (o_load_obj rfl sz3 (fun _ => rfl) rfl) ?_;obtain ⟨r12, er12, h⟩ := b_bind h;have cr12 := ref_inside_ok k x7.2.1 (1 : Int) (4 : Int) r12 er12;refine jc (o_call [.tmp 41, .const (.int .i64 (1)), .const (.int .i64 (4))] rfl rfl en71 rfl cr12) ?_;refine ja (o_not rfl) ?_;refine mq ?_;refine JO.bool (s := 44) rfl (fun hb => ?_) (fun hb => ?_)
      ·replace h := b_if (nv_t hb) h;iterate 4 refine gn ?_
       refine pt ?_;refine JO.nil ?_;refine JN.then_n ?_;exact JN.z ((), true) h (SE.fin [1, 0] ⟨rfl, rfl, rfl, rfl, trivial⟩ rfl)
      ·replace h := b_ifn (nv_fn hb) h;refine ga (o_field_obj rfl fo74_2) ?_;refine JO.g11 rfl rfl rfl rfl rfl rfl (o_load_obj rfl sz3 (fun _ => rfl) rfl) ⟨rfl, trivial⟩ ?_;obtain ⟨r13, er13, h⟩ := b_bind h;have cr13 := ref_inside_ok k x7.2.2.1 (1 : Int) (4 : Int) r13 er13;refine gc (o_call [.tmp 46, .const (.int .i64 (1)), .const (.int .i64 (4))] rfl rfl en71 rfl cr13) ?_;refine ga (o_not rfl) ?_;refine pf ?_;refine JO.nil ?_;refine JN.then_n ?_;exact JN.z ((), !r13) h (SE.fin [1, 0] ⟨rfl, rfl, rfl, rfl, trivial⟩ rfl)
     ·refine cv h (fun h => ?_) (fun h => ?_)
      ·refine sr ?_;refine cq ?_;refine nt ?_;refine JC.ret ?_;refine JN.then_r ?_;refine JN.blk_r ?_;refine JN.then_r ?_;refine JN.then_r ?_;refine JN.blk_r ?_;refine JN.then_r ?_;obtain rfl := hR _ h;exact JN.ret () [_] 0 ⟨rfl, trivial⟩ rfl
      ·refine sk ?_;refine JC.seq ?_;refine sr ?_;refine ja (o_field_obj rfl fo74_3) ?_;refine fr 1 ?_;refine ka (o_load_obj rfl sz3 (fun _ => rfl) rfl) ?_;obtain ⟨r14, er14, h⟩ := b_bind h;have cr14 := ref_inside_ok k x7.2.2.2.1 (0 : Int) (2 : Int) r14 er14;refine jc (o_call [.tmp 51, .const (.int .i64 (0)), .const (.int .i64 (2))] rfl rfl en71 rfl cr14) ?_;refine ja (o_not rfl) ?_;refine nt ?_;refine cw h (fun h => ?_) (fun h => ?_)
       ·refine sr ?_;refine cq ?_;refine nt ?_;refine JC.ret ?_;refine JN.then_r ?_;refine JN.blk_r ?_;refine JN.then_r ?_;refine JN.then_r ?_;refine JN.blk_r ?_;refine JN.then_r ?_;obtain rfl := hR _ h;exact JN.ret () [_] 0 ⟨rfl, trivial⟩ rfl
       ·refine sk ?_;refine sr ?_;refine ja (o_field_obj rfl fo74_4) ?_;refine ka (o_load_obj rfl sz3 (fun _ => rfl) rfl) ?_;obtain ⟨r15, er15, h⟩ := b_bind h;have cr15 := ref_inside_ok k x7.2.2.2.2 (0 : Int) (30 : Int) r15 er15;refine jc (o_call [.tmp 55, .const (.int .i64 (0)), .const (.int .i64 (30))] rfl rfl en71 rfl cr15) ?_;refine ja (o_not rfl) ?_;refine nt ?_;refine cw h (fun h => ?_) (fun h => ?_)
        ·refine sr ?_;refine cq ?_;refine nt ?_;refine JC.ret ?_;refine JN.blk_r ?_;refine JN.then_r ?_;refine JN.then_r ?_;refine JN.blk_r ?_;refine JN.then_r ?_;obtain rfl := hR _ h;exact JN.ret () [_] 0 ⟨rfl, trivial⟩ rfl
        ·refine JC.skip ?_;refine JN.blk_n ?_;refine tn ?_;refine JC.region ?_;refine mq ?_;obtain ⟨x16, ex16, h⟩ := b_bind h;refine jb (o_add rfl ex16) ?_;refine aq ?_;refine JO.nil ?_;refine JN.then_n ?_;exact JN.z ((), x16) h (SE.fin [1] ⟨rfl, rfl, trivial⟩ rfl)
   ·refine JC.exit ?_;refine JN.then_x ?_;refine JN.then_x ?_;refine JN.blk_hit ?_;refine JN.then_n ?_;exact JN.z ((), ()) h (SE.fin [0] ⟨rfl, trivial⟩ rfl)
  ·refine JC.cutE (Z := Unit) (α := Unit) (fun z18 x17 => [(1, .eq (.pointer (some ⟨b1, 0, none⟩)))]) (fun z18 x17 => [.obj b1 26 (.rep tChange a0)]) (fun e => e = r) h (fun e h => Option.some.inj h) (fun K hR h => ?_) (fun z18 x17 h => ?_)
   ·refine sr ?_;refine cq ?_;refine nt ?_;refine JC.block ?_;refine JC.loopB (Z := Unit) (α := Int) (fun z20 y19 => [(1, .eq (.pointer (some ⟨b1, 0, none⟩))), (7, .eq (.int .i64 y19))]) (fun z20 y19 => [.obj b1 26 (.rep tChange a0)]) (ref_Check_l2 k a0) k () (0 : Int) (fun _ => rfl) h (SE.fin [0] ⟨rfl, rfl, trivial⟩ rfl) (fun n z20 y19 h => ?_);unfold ref_Check_l2 at h;refine JC.seq ?_;refine sr ?_;refine mq ?_;refine ja (o_field_obj rfl fo26_0) ?_;refine ka (o_load_obj rfl sz22 (fun _ => rfl) rfl) ?_;refine ja (o_len rfl rfl Tryz.underlying22) ?_;refine jb (o_lss rfl) ?_;refine nt ?_;refine ci h (fun h => ?_) (fun h => ?_)
    ·refine sk ?_;refine JC.seq ?_;refine JC.block ?_;refine sr ?_;refine ka (o_load_obj rfl sz26 (nfn) rfl) ?_;refine mq ?_;obtain ⟨r21, er21, h⟩ := b_bind h;have cr21 := ref_ring_ok k a0 y19 r21 er21;refine jb (o_call [.tmp 65, .tmp 66] rfl rfl en117 rfl cr21) ?_;refine nt ?_;refine cv h (fun h => ?_) (fun h => ?_)
     ·refine sr ?_;refine cq ?_;refine nt ?_;refine JC.ret ?_;refine JN.blk_r ?_;refine JN.then_r ?_;refine JN.then_r ?_;refine JN.blk_r ?_;refine JN.then_r ?_;obtain rfl := hR _ h;exact JN.ret () [_] 0 ⟨rfl, trivial⟩ rfl
     ·refine JC.skip ?_;refine JN.blk_n ?_;refine tn ?_;refine JC.region ?_;refine mq ?_;obtain ⟨x22, ex22, h⟩ := b_bind h;refine jb (o_add rfl ex22) ?_;refine aq ?_;refine JO.nil ?_;refine JN.then_n ?_;exact JN.z ((), x22) h (SE.fin [0] ⟨rfl, rfl, trivial⟩ rfl)
    ·refine JC.exit ?_;refine JN.then_x ?_;refine JN.then_x ?_;refine JN.blk_hit ?_;refine JN.then_n ?_;exact JN.z ((), ()) h (SE.fin [0] ⟨rfl, trivial⟩ rfl)
   ·refine JC.seq ?_;refine sr ?_;refine ja (o_field_obj rfl fo26_1) ?_;refine ka (o_load_obj rfl sz23 (fun _ => rfl) rfl) ?_;refine ja (o_len rfl rfl Tryz.underlying23) ?_;obtain ⟨r23, er23, h⟩ := b_bind h;have cr23 := ref_sized_ok k (a0.2.1.length : Int) (3 : Int) r23 er23;refine jb (o_call [.tmp 70, .const (.int .i64 (3))] rfl rfl en70 rfl cr23) ?_;refine aq ?_;refine nt ?_;refine sr ?_;refine mq ?_;refine jb (o_neq rfl) ?_;refine nt ?_;refine cn h (fun h => ?_) (fun h => ?_)
    ·refine sr ?_;refine mq ?_;refine aq ?_;refine nt ?_;refine JC.ret ?_;refine JN.then_r ?_;obtain rfl := Option.some.inj h;exact JN.ret () [_] 0 ⟨rfl, trivial⟩ rfl
    ·refine sk ?_;refine JC.cutE (Z := Unit) (α := Unit) (fun z25 x24 => [(1, .eq (.pointer (some ⟨b1, 0, none⟩)))]) (fun z25 x24 => [.obj b1 26 (.rep tChange a0)]) (fun e => e = r) h (fun e h => Option.some.inj h) (fun K hR h => ?_) (fun z25 x24 h => ?_)
     ·refine sr ?_;refine cq ?_;refine nt ?_;refine JC.block ?_;refine JC.loopB (Z := Unit) (α := Int) (fun z27 y26 => [(1, .eq (.pointer (some ⟨b1, 0, none⟩))), (9, .eq (.int .i64 y26))]) (fun z27 y26 => [.obj b1 26 (.rep tChange a0)]) (ref_Check_l3 k a0) k () (0 : Int) (fun _ => rfl) h (SE.fin [0] ⟨rfl, rfl, trivial⟩ rfl) (fun n z27 y26 h => ?_);unfold ref_Check_l3 at h;refine JC.seq ?_;refine sr ?_;refine mq ?_;refine ja (o_field_obj rfl fo26_1) ?_;refine ka (o_load_obj rfl sz23 (fun _ => rfl) rfl) ?_;refine ja (o_len rfl rfl Tryz.underlying23) ?_;refine jb (o_lss rfl) ?_;refine nt ?_;refine ci h (fun h => ?_) (fun h => ?_)
      ·refine sk ?_;refine JC.seq ?_;refine JC.block ?_;refine sr ?_;refine ja (o_field_obj rfl fo26_1) ?_;refine ka (o_load_obj rfl sz23 (fun _ => rfl) rfl) ?_;refine mq ?_;obtain ⟨x28, ex28, h⟩ := b_bind h;refine jb (o_index (t := tDresser) rfl Tryz.underlying23 sz52 ex28) ?_;refine ja (o_load_at (t := tDresser) rfl sz52 rfl) ?_;refine JO.s01 rfl rfl rfl (o_alloc rfl za52 al52) trivial fun b29 => ?_;refine JO.n11 rfl rfl (o_store rfl sz52 rfl rfl rfl) ⟨rfl, rfl, trivial⟩ ?_;refine nt ?_;refine JC.seq ?_;refine sr ?_;refine fr 1 ?_;refine ka (o_load_obj rfl sz26 (nfn) rfl) ?_;refine ja (o_field_obj rfl fo52_0) ?_;refine fr 1 ?_;refine ka (o_load_obj rfl sz24 (fun _ => rfl) rfl) ?_;obtain ⟨r30, er30, h⟩ := b_bind h;have cr30 := ref_things_ok k a0 x28.1 (-1 : Int) r30 er30;refine jc (o_call [.tmp 87, .tmp 89, .const (.int .i64 (-1))] rfl rfl en116 rfl cr30) ?_;refine aq ?_;refine nt ?_;refine sr ?_;refine mq ?_;refine jb (o_neq rfl) ?_;refine nt ?_;refine cn h (fun h => ?_) (fun h => ?_)
       ·refine sr ?_;refine mq ?_;refine aq ?_;refine nt ?_;refine JC.ret ?_;refine JN.then_r ?_;refine JN.blk_r ?_;refine JN.then_r ?_;refine JN.then_r ?_;refine JN.blk_r ?_;refine JN.then_r ?_;obtain rfl := hR _ h;exact JN.ret () [_] 0 ⟨rfl, trivial⟩ rfl
       ·refine sk ?_;refine JC.seq ?_;refine sr ?_;refine ja (o_field_obj rfl fo52_1) ?_;refine ka (o_load_obj rfl sz3 (fun _ => rfl) rfl) ?_;obtain ⟨r31, er31, h⟩ := b_bind h;have cr31 := ref_inside_ok k x28.2.1 (0 : Int) (2 : Int) r31 er31;refine jc (o_call [.tmp 95, .const (.int .i64 (0)), .const (.int .i64 (2))] rfl rfl en71 rfl cr31) ?_;refine ja (o_not rfl) ?_;refine nt ?_;refine cw h (fun h => ?_) (fun h => ?_)
        ·refine sr ?_;refine cq ?_;refine nt ?_;refine JC.ret ?_;refine JN.then_r ?_;refine JN.blk_r ?_;refine JN.then_r ?_;refine JN.then_r ?_;refine JN.blk_r ?_;refine JN.then_r ?_;obtain rfl := hR _ h;exact JN.ret () [_] 0 ⟨rfl, trivial⟩ rfl
        ·refine sk ?_;refine sr ?_;refine ja (o_field_obj rfl fo52_2) ?_;refine ka (o_load_obj rfl sz3 (fun _ => rfl) rfl) ?_;obtain ⟨r32, er32, h⟩ := b_bind h;have cr32 := ref_inside_ok k x28.2.2 (0 : Int) (9 : Int) r32 er32;refine jc (o_call [.tmp 99, .const (.int .i64 (0)), .const (.int .i64 (9))] rfl rfl en71 rfl cr32) ?_;refine ja (o_not rfl) ?_;refine nt ?_;refine cw h (fun h => ?_) (fun h => ?_)
         ·refine sr ?_;refine cq ?_;refine nt ?_;refine JC.ret ?_;refine JN.blk_r ?_;refine JN.then_r ?_;refine JN.then_r ?_;refine JN.blk_r ?_;refine JN.then_r ?_;obtain rfl := hR _ h;exact JN.ret () [_] 0 ⟨rfl, trivial⟩ rfl
         ·refine JC.skip ?_;refine JN.blk_n ?_;refine tn ?_;refine JC.region ?_;refine mq ?_;obtain ⟨x33, ex33, h⟩ := b_bind h;refine jb (o_add rfl ex33) ?_;refine aq ?_;refine JO.nil ?_;refine JN.then_n ?_;exact JN.z ((), x33) h (SE.fin [1] ⟨rfl, rfl, trivial⟩ rfl)
      ·refine JC.exit ?_;refine JN.then_x ?_;refine JN.then_x ?_;refine JN.blk_hit ?_;refine JN.then_n ?_;exact JN.z ((), ()) h (SE.fin [0] ⟨rfl, trivial⟩ rfl)
     ·refine JC.seq ?_;refine sr ?_;refine ka (o_load_obj rfl sz26 (nfn) rfl) ?_;refine ja (o_field_obj rfl fo26_2) ?_;refine ka (o_load_obj rfl sz24 (fun _ => rfl) rfl) ?_;obtain ⟨r34, er34, h⟩ := b_bind h;have cr34 := ref_things_ok k a0 a0.2.2.1 (-1 : Int) r34 er34;refine jc (o_call [.tmp 102, .tmp 104, .const (.int .i64 (-1))] rfl rfl en116 rfl cr34) ?_;refine aq ?_;refine nt ?_;refine sr ?_;refine mq ?_;refine jb (o_neq rfl) ?_;refine nt ?_;refine cn h (fun h => ?_) (fun h => ?_)
      ·refine sr ?_;refine mq ?_;refine aq ?_;refine nt ?_;refine JC.ret ?_;refine JN.then_r ?_;obtain rfl := Option.some.inj h;exact JN.ret () [_] 0 ⟨rfl, trivial⟩ rfl
      ·refine sk ?_;refine sr ?_;refine ka (o_load_obj rfl sz26 (nfn) rfl) ?_;refine ja (o_field_obj rfl fo26_3) ?_;refine ka (o_load_obj rfl sz24 (fun _ => rfl) rfl) ?_;obtain ⟨r35, er35, h⟩ := b_bind h;have cr35 := ref_things_ok k a0 a0.2.2.2 (-1 : Int) r35 er35;refine jc (o_call [.tmp 109, .tmp 111, .const (.int .i64 (-1))] rfl rfl en116 rfl cr35) ?_;refine aq ?_;refine nt ?_;refine JC.ret ?_;obtain rfl := Option.some.inj h;exact JN.ret () [_] 0 ⟨rfl, trivial⟩ rfl


def ref_asked (k : Nat) (a0 : dChange) : Option Int :=
 (ref_Check k a0).bind fun r2 =>
 if ¬ (r2 = (0 : Int)) then (some r2) else ((ref_tasks k a0).bind fun r3 =>
 if (4 : Int) < (r3.length : Int) then (some (6 : Int)) else (some (0 : Int)))

theorem ref_asked_ok (k : Nat) (a0 : dChange) (r : Int) (h : ref_asked k a0 = some r) :
 Ctr Tryz.prog 53 [.rep tChange a0] [] (fun _ : Unit => (resA [.eq (.int .i64 r)], [])) := by
 unfold ref_asked at h;replace h := b_top h;refine Ctr.of 13 Tryz.func53 rfl Tryz.ntmps53 rfl fun S w0 => ?_;refine sr ?_;refine JO.s01 rfl rfl rfl (o_box rfl rfl) ⟨rfl, trivial⟩ fun b1 => ?_;refine cq ?_;refine nt ?_;refine JC.seq ?_;refine sr ?_;refine ka (o_load_obj rfl sz26 (nfn) rfl) ?_;obtain ⟨r2, er2, h⟩ := b_bind h;have cr2 := ref_Check_ok k a0 r2 er2;refine ja (o_call [.tmp 4] rfl rfl en98 rfl cr2) ?_;refine aq ?_;refine nt ?_;refine sr ?_;refine mq ?_;refine jb (o_neq rfl) ?_;refine nt ?_;refine cn h (fun h => ?_) (fun h => ?_)
 ·refine sr ?_;refine mq ?_;refine aq ?_;refine nt ?_;refine JC.ret ?_;refine JN.then_r ?_;obtain rfl := Option.some.inj h;exact JN.ret () [_] 0 ⟨rfl, trivial⟩ rfl
 ·refine sk ?_;refine JC.seq ?_;refine sr ?_;refine ka (o_load_obj rfl sz26 (nfn) rfl) ?_;obtain ⟨r3, er3, h⟩ := b_bind h;have cr3 := ref_tasks_ok k a0 r3 er3;refine ja (o_call [.tmp 9] rfl rfl en61 rfl cr3) ?_;refine ja (o_len rfl rfl Tryz.underlying112) ?_;refine jb (o_gtr rfl) ?_;refine nt ?_;refine ci h (fun h => ?_) (fun h => ?_)
  ·refine sr ?_;refine cq ?_;refine nt ?_;refine JC.ret ?_;refine JN.then_r ?_;obtain rfl := Option.some.inj h;exact JN.ret () [_] 0 ⟨rfl, trivial⟩ rfl
  ·refine sk ?_;refine sr ?_;refine cq ?_;refine nt ?_;refine JC.ret ?_;obtain rfl := Option.some.inj h;exact JN.ret () [_] 0 ⟨rfl, trivial⟩ rfl


def ref_takes (k : Nat) (a0 : dChange) (a1 : dTask) : Option Int :=
 if a1.2 = true then ((geti a0.1 a1.1).bind fun x3 =>
 some x3.2.2.1) else ((geti a0.1 a1.1).bind fun x4 =>
 some x4.2.1)

theorem ref_takes_ok (k : Nat) (a0 : dChange) (a1 : dTask) (r : Int) (h : ref_takes k a0 a1 = some r) :
 Ctr Tryz.prog 63 [.rep tChange a0, .rep tTask a1] [] (fun _ : Unit => (resA [.eq (.int .i64 r)], [])) := by
 unfold ref_takes at h;replace h := b_top h;refine Ctr.of 21 Tryz.func63 rfl Tryz.ntmps63 rfl fun S w0 => ?_;refine sr ?_;refine JO.s01 rfl rfl rfl (o_box rfl rfl) ⟨rfl, trivial⟩ fun b1 => ?_;refine JO.s01 rfl rfl rfl (o_box rfl rfl) ⟨rfl, trivial⟩ fun b2 => ?_;refine cq ?_;refine nt ?_;refine JC.seq ?_;refine sr ?_;refine ja (o_field_obj rfl fo116_1) ?_;refine ka (o_load_obj rfl sz4 (fun _ => rfl) rfl) ?_;refine nt ?_;refine cv h (fun h => ?_) (fun h => ?_)
 ·refine sr ?_;refine ja (o_field_obj rfl fo26_0) ?_;refine fr 1 ?_;refine ka (o_load_obj rfl sz22 (fun _ => rfl) rfl) ?_;refine ja (o_field_obj rfl fo116_0) ?_;refine fr 1 ?_;refine ka (o_load_obj rfl sz3 (fun _ => rfl) rfl) ?_;obtain ⟨x3, ex3, h⟩ := b_bind h;refine jb (o_index (t := tThing) rfl Tryz.underlying22 sz74 ex3) ?_;refine ja (o_field_at 1 false rfl fo74_2 rfl) ?_;refine ja (o_load_at (t := (.int .i64)) rfl sz3 rfl) ?_;refine aq ?_;refine nt ?_;refine JC.ret ?_;refine JN.then_r ?_;obtain rfl := Option.some.inj h;exact JN.ret () [_] 0 ⟨rfl, trivial⟩ rfl
 ·refine sk ?_;refine sr ?_;refine ja (o_field_obj rfl fo26_0) ?_;refine fr 1 ?_;refine ka (o_load_obj rfl sz22 (fun _ => rfl) rfl) ?_;refine ja (o_field_obj rfl fo116_0) ?_;refine fr 1 ?_;refine ka (o_load_obj rfl sz3 (fun _ => rfl) rfl) ?_;obtain ⟨x4, ex4, h⟩ := b_bind h;refine jb (o_index (t := tThing) rfl Tryz.underlying22 sz74 ex4) ?_;refine ja (o_field_at 1 false rfl fo74_1 rfl) ?_;refine ja (o_load_at (t := (.int .i64)) rfl sz3 rfl) ?_;refine aq ?_;refine nt ?_;refine JC.ret ?_;obtain rfl := Option.some.inj h;exact JN.ret () [_] 0 ⟨rfl, trivial⟩ rfl


def ref_before (k : Nat) (a0 : dChange) (a1 : dTask) (a2 : dTask) : Option Bool :=
 if a1.1 = a2.1 then (((if ¬ (a1.2 = true) then (some a2.2) else (some false)) : Option (Bool)).bind fun x4 =>
 some x4) else ((geti a0.1 a2.1).bind fun x6 =>
 (ref_has k x6.1 a1.1).bind fun r7 =>
 (geti a0.1 a1.1).bind fun x8 =>
 (ref_has k x8.1 a2.1).bind fun r9 =>
 if ¬ (a1.2 = true) then (((if r7 = true then (some true) else (if r9 = true then (some a2.2) else (some false))) : Option (Bool)).bind fun x10 =>
 some x10) else (((if r9 = true then (some a2.2) else (some false)) : Option (Bool)).bind fun x12 =>
 some x12))

theorem ref_before_ok (k : Nat) (a0 : dChange) (a1 : dTask) (a2 : dTask) (r : Bool) (h : ref_before k a0 a1 a2 = some r) :
 Ctr Tryz.prog 106 [.rep tChange a0, .rep tTask a1, .rep tTask a2] [] (fun _ : Unit => (resA [.eq (.bool r)], [])) := by
 unfold ref_before at h;replace h := b_top h;refine Ctr.of 57 Tryz.func106 rfl Tryz.ntmps106 rfl fun S w0 => ?_;refine sr ?_;refine JO.s01 rfl rfl rfl (o_box rfl rfl) ⟨rfl, trivial⟩ fun b1 => ?_;refine JO.s01 rfl rfl rfl (o_box rfl rfl) ⟨rfl, trivial⟩ fun b2 => ?_;refine JO.s01 rfl rfl rfl (o_box rfl rfl) ⟨rfl, trivial⟩ fun b3 => ?_;refine cq ?_;refine nt ?_;refine JC.seq ?_;refine sr ?_;refine ja (o_field_obj rfl fo116_0) ?_;refine fr 1 ?_;refine ka (o_load_obj rfl sz3 (fun _ => rfl) rfl) ?_;refine ja (o_field_obj rfl fo116_0) ?_;refine fr 1 ?_;refine ka (o_load_obj rfl sz3 (fun _ => rfl) rfl) ?_;refine jb (o_eql rfl) ?_;refine nt ?_;refine ci h (fun h => ?_) (fun h => ?_)
 ·refine JC.cutB (Z := Unit) (α := Bool) (fun z5 x4 => [(6, .eq (.bool x4))]) (fun z5 x4 => []) h (fun K h => ?_) (fun z5 x4 h => ?_)
  ·refine JC.region ?_;refine ja (o_field_obj rfl fo116_1) ?_;refine fr 1 ?_;refine ka (o_load_obj rfl sz4 (fun _ => rfl) rfl) ?_;refine ja (o_not rfl) ?_;refine mq ?_;refine JO.bool (s := 17) rfl (fun hb => ?_) (fun hb => ?_)
   ·replace h := b_if (nv_t hb) h;refine ga (o_field_obj rfl fo116_1) ?_;refine fr 1 ?_;refine JO.g11 rfl rfl rfl rfl rfl rfl (o_load_obj rfl sz4 (fun _ => rfl) rfl) ⟨rfl, trivial⟩ ?_;refine pt ?_;refine aq ?_;refine JO.nil ?_;refine JN.then_n ?_;exact JN.z ((), a2.2) h (SE.fin [] ⟨rfl, trivial⟩ rfl)
   ·replace h := b_ifn (nv_fn hb) h;iterate 2 refine gn ?_
    refine pf ?_;refine aq ?_;refine JO.nil ?_;refine JN.then_n ?_;exact JN.z ((), false) h (SE.fin [] ⟨rfl, trivial⟩ rfl)
  ·refine JC.ret ?_;refine JN.then_r ?_;obtain rfl := Option.some.inj h;exact JN.ret () [_] 0 ⟨rfl, trivial⟩ rfl
 ·refine sk ?_;refine JC.seq ?_;refine JC.drawN ?_;refine da (o_field_obj rfl fo26_0) ?_;refine ea 2 (o_load_obj rfl sz22 (fun _ => rfl) rfl) ?_;refine da (o_field_obj rfl fo116_0) ?_;refine ea 0 (o_load_obj rfl sz3 (fun _ => rfl) rfl) ?_;obtain ⟨x6, ex6, h⟩ := b_bind h;refine db (o_index (t := tThing) rfl Tryz.underlying22 sz74 ex6) ?_;refine da (o_field_at 1 false rfl fo74_0 rfl) ?_;refine da (o_load_at (t := (.slice (.int .i64))) rfl sz24 rfl) ?_;refine da (o_field_obj rfl fo116_0) ?_;refine ea 1 (o_load_obj rfl sz3 (fun _ => rfl) rfl) ?_;obtain ⟨r7, er7, h⟩ := b_bind h;have cr7 := ref_has_ok k x6.1 a1.1 r7 er7;refine db (o_call [.tmp 27, .tmp 29] rfl rfl en79 rfl cr7) ?_;refine da (o_field_obj rfl fo26_0) ?_;refine ea 2 (o_load_obj rfl sz22 (fun _ => rfl) rfl) ?_;refine da (o_field_obj rfl fo116_0) ?_;refine ea 1 (o_load_obj rfl sz3 (fun _ => rfl) rfl) ?_;obtain ⟨x8, ex8, h⟩ := b_bind h;refine db (o_index (t := tThing) rfl Tryz.underlying22 sz74 ex8) ?_;refine da (o_field_at 1 false rfl fo74_0 rfl) ?_;refine da (o_load_at (t := (.slice (.int .i64))) rfl sz24 rfl) ?_;refine da (o_field_obj rfl fo116_0) ?_;refine ea 0 (o_load_obj rfl sz3 (fun _ => rfl) rfl) ?_;refine DN.fin (by kernel_rfl) mixed ?_;obtain ⟨r9, er9, h⟩ := b_bind h;have cr9 := ref_has_ok k x8.1 a2.1 r9 er9;refine jb (o_call [.tmp 37, .tmp 39] rfl rfl en79 rfl cr9) ?_;refine aq ?_;refine aq ?_;refine nt ?_;refine JC.seq ?_;refine sr ?_;refine ja (o_field_obj rfl fo116_1) ?_;refine fr 1 ?_;refine ka (o_load_obj rfl sz4 (fun _ => rfl) rfl) ?_;refine ja (o_not rfl) ?_;refine nt ?_;refine cw h (fun h => ?_) (fun h => ?_)
  ·refine JC.cutB (Z := Unit) (α := Bool) (fun z11 x10 => [(6, .eq (.bool x10))]) (fun z11 x10 => []) h (fun K h => ?_) (fun z11 x10 h => ?_)
   ·refine JC.region ?_;iterate 2 refine mq ?_
    refine JO.bool (s := 45) rfl (fun hb => ?_) (fun hb => ?_)
    ·replace h := b_if (v_t hb) h;iterate 2 refine gn ?_
     refine JO.gnou rfl rfl rfl rfl rfl rfl ?_;refine JO.gnou rfl rfl rfl rfl rfl rfl ?_;refine gn ?_;refine pt ?_;refine aq ?_;refine JO.nil ?_;refine JN.then_n ?_;exact JN.z ((), true) h (SE.fin [] ⟨rfl, trivial⟩ rfl)
    ·replace h := b_ifn (v_f hb) h;refine gm ?_;refine gm ?_;refine JO.bool (s := 47) rfl (fun hb => ?_) (fun hb => ?_)
     ·replace h := b_if (v_t hb) h;refine ga (o_field_obj rfl fo116_1) ?_;refine fr 1 ?_;refine JO.g11 rfl rfl rfl rfl rfl rfl (o_load_obj rfl sz4 (fun _ => rfl) rfl) ⟨rfl, trivial⟩ ?_;refine gb (o_pick_t rfl) ?_;refine pf ?_;refine aq ?_;refine JO.nil ?_;refine JN.then_n ?_;exact JN.z ((), a2.2) h (SE.fin [] ⟨rfl, trivial⟩ rfl)
     ·replace h := b_ifn (v_f hb) h;iterate 2 refine gn ?_
      refine gb (o_pick_f rfl) ?_;refine pf ?_;refine aq ?_;refine JO.nil ?_;refine JN.then_n ?_;exact JN.z ((), false) h (SE.fin [] ⟨rfl, trivial⟩ rfl)
   ·refine JC.ret ?_;refine JN.then_r ?_;obtain rfl := Option.some.inj h;exact JN.ret () [_] 0 ⟨rfl, trivial⟩ rfl
  ·refine sk ?_;refine JC.cutB (Z := Unit) (α := Bool) (fun z13 x12 => [(6, .eq (.bool x12))]) (fun z13 x12 => []) h (fun K h => ?_) (fun z13 x12 h => ?_)
   ·refine JC.region ?_;iterate 2 refine mq ?_
    refine JO.bool (s := 53) rfl (fun hb => ?_) (fun hb => ?_)
    ·replace h := b_if (v_t hb) h;refine ga (o_field_obj rfl fo116_1) ?_;refine fr 1 ?_;refine JO.g11 rfl rfl rfl rfl rfl rfl (o_load_obj rfl sz4 (fun _ => rfl) rfl) ⟨rfl, trivial⟩ ?_;refine pt ?_;refine aq ?_;refine JO.nil ?_;refine JN.then_n ?_;exact JN.z ((), a2.2) h (SE.fin [] ⟨rfl, trivial⟩ rfl)
    ·replace h := b_ifn (v_f hb) h;iterate 2 refine gn ?_
     refine pf ?_;refine aq ?_;refine JO.nil ?_;refine JN.then_n ?_;exact JN.z ((), false) h (SE.fin [] ⟨rfl, trivial⟩ rfl)
   ·refine JC.ret ?_;obtain rfl := Option.some.inj h;exact JN.ret () [_] 0 ⟨rfl, trivial⟩ rfl


def ref_begins_l2 (k : Nat) (a0 : dChange) (a1 : (List dStep)) (r2 : (List dTask)) (y5 : (List Int) × Int) (x10 : dTask) : Nat → (Int × Int) → Option Int
 | 0, _ => none
 | n + 1, y16 =>
  if y16.2 < y5.2 then ((((geti y5.1 y16.2).bind fun x20 =>
  (geti a1 y16.2).bind fun x21 =>
  (geti r2 x21.1).bind fun x22 =>
  (ref_takes k a0 x22).bind fun r23 =>
  (ck (x20 + r23)).bind fun x24 =>
  (((geti a1 y16.2).bind fun x27 =>
  (geti a1 y5.2).bind fun x28 =>
  if x27.2 = x28.2 then (some true) else ((geti a1 y16.2).bind fun x29 =>
  (geti r2 x29.1).bind fun x30 =>
  (ref_before k a0 x30 x10).bind fun r31 =>
  some r31)) : Option (Bool)).bind fun x25 =>
  if x25 = true then (some (imax y16.1 x24)) else (some y16.1)) : Option (Int)).bind fun x18 =>
  (ck (y16.2 + (1 : Int))).bind fun x32 =>
  ref_begins_l2 k a0 a1 r2 y5 x10 n (x18, x32)) else (some y16.1)

def ref_begins_l1 (k : Nat) (a0 : dChange) (a1 : (List dStep)) (r2 : (List dTask)) : Nat → ((List Int) × Int) → Option (List Int)
 | 0, _ => none
 | n + 1, y5 =>
  if y5.2 < (a1.length : Int) then ((((geti a1 y5.2).bind fun x9 =>
  (geti r2 x9.1).bind fun x10 =>
  (geti a1 y5.2).bind fun x12 =>
  (geti a0.2.1 x12.2).bind fun x13 =>
  ((ref_begins_l2 k a0 a1 r2 y5 x10 k (x13.2.2, (0 : Int))) : Option (Int)).bind fun x14 =>
  (chkP (okLen (List.length y5.1 + List.length [x14]))).bind fun _ =>
  some (y5.1 ++ [x14])) : Option ((List Int))).bind fun x7 =>
  (ck (y5.2 + (1 : Int))).bind fun x35 =>
  ref_begins_l1 k a0 a1 r2 n (x7, x35)) else (some y5.1)
def ref_begins (k : Nat) (a0 : dChange) (a1 : (List dStep)) : Option (List Int) :=
 (ref_tasks k a0).bind fun r2 =>
 ((ref_begins_l1 k a0 a1 r2 k (([] : (List Int)), (0 : Int))) : Option ((List Int))).bind fun x3 =>
 some x3

theorem ref_begins_ok (k : Nat) (a0 : dChange) (a1 : (List dStep)) (r : (List Int)) (h : ref_begins k a0 a1 = some r) :
 Ctr Tryz.prog 62 [.rep tChange a0, .rep (.slice tStep) a1] [] (fun _ : Unit => (resA [.rep (.slice (.int .i64)) r], [])) := by
 unfold ref_begins at h;replace h := b_top h;refine Ctr.of 90 Tryz.func62 rfl Tryz.ntmps62 rfl fun S w0 => ?_;refine sr ?_;refine JO.s01 rfl rfl rfl (o_box rfl rfl) ⟨rfl, trivial⟩ fun b1 => ?_;refine cq ?_;refine nt ?_;refine sr ?_;refine ka (o_load_obj rfl sz26 (nfn) rfl) ?_;obtain ⟨r2, er2, h⟩ := b_bind h;have cr2 := ref_tasks_ok k a0 r2 er2;refine ja (o_call [.tmp 12] rfl rfl en61 rfl cr2) ?_;refine aq ?_;refine nt ?_;refine sr ?_;refine cq ?_;refine nt ?_;refine JC.cutB (Z := Value) (α := (List Int)) (fun z4 x3 => [(6, .eq z4)]) (fun z4 x3 => [.sl z4 3 (.int .i64) x3]) h (fun K h => ?_) (fun z4 x3 h => ?_)
 ·refine sr ?_;refine cq ?_;refine nt ?_;refine JC.block ?_;refine JC.se (SE.nil 3 (.int .i64)) ?_;refine JC.loopB (Z := Value) (α := (List Int) × Int) (fun z6 y5 => [(1, .rep (.slice tStep) a1), (2, .eq (.pointer (some ⟨b1, 0, none⟩))), (5, .rep (.slice tTask) r2), (6, .eq z6), (7, .eq (.int .i64 y5.2))]) (fun z6 y5 => [.obj b1 26 (.rep tChange a0), .sl z6 3 (.int .i64) y5.1]) (ref_begins_l1 k a0 a1 r2) k (.slice none 0 0) (([] : (List Int)), (0 : Int)) (fun _ => rfl) h (SE.fin [1, 0] ⟨rfl, rfl, rfl, rfl, rfl, trivial⟩ rfl) (fun n z6 y5 h => ?_);unfold ref_begins_l1 at h;refine JC.seq ?_;refine sr ?_;iterate 2 refine mq ?_
  refine ja (o_len rfl rfl Tryz.underlying34) ?_;refine jb (o_lss rfl) ?_;refine nt ?_;refine ci h (fun h => ?_) (fun h => ?_)
  ·refine sk ?_;refine JC.cutB (Z := Value) (α := (List Int)) (fun z8 x7 => [(1, .rep (.slice tStep) a1), (2, .eq (.pointer (some ⟨b1, 0, none⟩))), (5, .rep (.slice tTask) r2), (6, .eq z8), (7, .eq (.int .i64 y5.2))]) (fun z8 x7 => [.obj b1 26 (.rep tChange a0), .sl z8 3 (.int .i64) x7]) h (fun K h => ?_) (fun z8 x7 h => ?_)
   ·refine JC.block ?_;refine sr ?_;iterate 3 refine mq ?_
    obtain ⟨x9, ex9, h⟩ := b_bind h;refine jb (o_index (t := tStep) rfl Tryz.underlying34 sz92 ex9) ?_;refine ja (o_field_at 1 false rfl fo92_0 rfl) ?_;refine ja (o_load_at (t := (.int .i64)) rfl sz3 rfl) ?_;obtain ⟨x10, ex10, h⟩ := b_bind h;refine jb (o_index (t := tTask) rfl Tryz.underlying112 sz116 ex10) ?_;refine ja (o_load_at (t := tTask) rfl sz116 rfl) ?_;refine JO.s01 rfl rfl rfl (o_alloc rfl za116 al116) trivial fun b11 => ?_;refine JO.n11 rfl rfl (o_store rfl sz116 rfl rfl rfl) ⟨rfl, rfl, trivial⟩ ?_;refine nt ?_;refine JC.seq ?_;refine JC.drawN ?_;refine da (o_field_obj rfl fo26_1) ?_;refine ea 1 (o_load_obj rfl sz23 (fun _ => rfl) rfl) ?_;refine dm ?_;refine dm ?_;obtain ⟨x12, ex12, h⟩ := b_bind h;refine db (o_index (t := tStep) rfl Tryz.underlying34 sz92 ex12) ?_;refine da (o_field_at 1 false rfl fo92_1 rfl) ?_;refine da (o_load_at (t := (.int .i64)) rfl sz3 rfl) ?_;refine DN.fin (by kernel_rfl) mixed ?_;obtain ⟨x13, ex13, h⟩ := b_bind h;refine jb (o_index (t := tDresser) rfl Tryz.underlying23 sz52 ex13) ?_;refine ja (o_field_at 1 false rfl fo52_2 rfl) ?_;refine ja (o_load_at (t := (.int .i64)) rfl sz3 rfl) ?_;refine aq ?_;refine nt ?_;refine JC.cutB (Z := Unit) (α := Int) (fun z15 x14 => [(1, .rep (.slice tStep) a1), (2, .eq (.pointer (some ⟨b1, 0, none⟩))), (5, .rep (.slice tTask) r2), (6, .eq z6), (7, .eq (.int .i64 y5.2)), (9, .eq (.int .i64 x14))]) (fun z15 x14 => [.obj b1 26 (.rep tChange a0), .sl z6 3 (.int .i64) y5.1]) h (fun K h => ?_) (fun z15 x14 h => ?_)
    ·refine sr ?_;refine cq ?_;refine nt ?_;refine JC.block ?_;refine JC.loopB (Z := Unit) (α := Int × Int) (fun z17 y16 => [(1, .rep (.slice tStep) a1), (2, .eq (.pointer (some ⟨b1, 0, none⟩))), (5, .rep (.slice tTask) r2), (6, .eq z6), (7, .eq (.int .i64 y5.2)), (8, .eq (.pointer (some ⟨b11, 0, none⟩))), (9, .eq (.int .i64 y16.1)), (10, .eq (.int .i64 y16.2))]) (fun z17 y16 => [.obj b1 26 (.rep tChange a0), .sl z6 3 (.int .i64) y5.1, .obj b11 116 (.rep tTask x10)]) (ref_begins_l2 k a0 a1 r2 y5 x10) k () (x13.2.2, (0 : Int)) (fun _ => rfl) h (SE.fin [1, 2, 0] ⟨rfl, rfl, rfl, rfl, rfl, rfl, rfl, rfl, trivial⟩ rfl) (fun n z17 y16 h => ?_);unfold ref_begins_l2 at h;refine JC.seq ?_;refine sr ?_;iterate 2 refine mq ?_
     refine jb (o_lss rfl) ?_;refine nt ?_;refine ci h (fun h => ?_) (fun h => ?_)
     ·refine sk ?_;refine JC.cutB (Z := Unit) (α := Int) (fun z19 x18 => [(1, .rep (.slice tStep) a1), (2, .eq (.pointer (some ⟨b1, 0, none⟩))), (5, .rep (.slice tTask) r2), (6, .eq z6), (7, .eq (.int .i64 y5.2)), (8, .eq (.pointer (some ⟨b11, 0, none⟩))), (9, .eq (.int .i64 x18)), (10, .eq (.int .i64 y16.2))]) (fun z19 x18 => [.obj b1 26 (.rep tChange a0), .sl z6 3 (.int .i64) y5.1, .obj b11 116 (.rep tTask x10)]) h (fun K h => ?_) (fun z19 x18 h => ?_)
      ·refine JC.block ?_;refine JC.seq ?_;refine JC.drawN ?_;refine dm ?_;refine dm ?_;obtain ⟨x20, ex20, h⟩ := b_bind h;refine eb 1 (o_index_own (t := (.int .i64)) rfl Tryz.underlying24 sz3 ex20) ?_;refine ea 1 (o_load_el (i := Int.toNat y16.2) (off := 0) rfl sz3 (fun _ => rfl) rfl (geti_some ex20).2.2 rfl) ?_;refine ea 0 (o_load_obj rfl sz26 (nfn) rfl) ?_;refine dm ?_;refine dm ?_;refine dm ?_;obtain ⟨x21, ex21, h⟩ := b_bind h;refine db (o_index (t := tStep) rfl Tryz.underlying34 sz92 ex21) ?_;refine da (o_field_at 1 false rfl fo92_0 rfl) ?_;refine da (o_load_at (t := (.int .i64)) rfl sz3 rfl) ?_;obtain ⟨x22, ex22, h⟩ := b_bind h;refine db (o_index (t := tTask) rfl Tryz.underlying112 sz116 ex22) ?_;refine da (o_load_at (t := tTask) rfl sz116 rfl) ?_;obtain ⟨r23, er23, h⟩ := b_bind h;have cr23 := ref_takes_ok k a0 x22 r23 er23;refine db (o_call [.tmp 47, .tmp 55] rfl rfl en63 rfl cr23) ?_;refine DN.fin (by kernel_rfl) mixed ?_;obtain ⟨x24, ex24, h⟩ := b_bind h;refine jb (o_add rfl ex24) ?_;refine aq ?_;refine nt ?_;refine JC.cutB (Z := Unit) (α := Bool) (fun z26 x25 => [(1, .rep (.slice tStep) a1), (2, .eq (.pointer (some ⟨b1, 0, none⟩))), (5, .rep (.slice tTask) r2), (6, .eq z6), (7, .eq (.int .i64 y5.2)), (8, .eq (.pointer (some ⟨b11, 0, none⟩))), (9, .eq (.int .i64 y16.1)), (10, .eq (.int .i64 y16.2)), (11, .eq (.int .i64 x24)), (81, .eq (.bool x25))]) (fun z26 x25 => [.obj b1 26 (.rep tChange a0), .sl z6 3 (.int .i64) y5.1, .obj b11 116 (.rep tTask x10)]) h (fun K h => ?_) (fun z26 x25 h => ?_)
       ·refine JC.drawN ?_;refine dm ?_;refine dm ?_;obtain ⟨x27, ex27, h⟩ := b_bind h;refine db (o_index (t := tStep) rfl Tryz.underlying34 sz92 ex27) ?_;refine da (o_field_at 1 false rfl fo92_1 rfl) ?_;refine da (o_load_at (t := (.int .i64)) rfl sz3 rfl) ?_;refine dm ?_;refine dm ?_;obtain ⟨x28, ex28, h⟩ := b_bind h;refine db (o_index (t := tStep) rfl Tryz.underlying34 sz92 ex28) ?_;refine da (o_field_at 1 false rfl fo92_1 rfl) ?_;refine da (o_load_at (t := (.int .i64)) rfl sz3 rfl) ?_;refine db (o_eql rfl) ?_;refine DN.fork rfl rfl rfl (o_move rfl) ⟨rfl, trivial⟩ (fun hb => ?_) (fun hb => ?_)
        ·replace h := b_if (d_t hb) h;iterate 10 refine dg ?_
         refine DN.fin (by kernel_rfl) mixed ?_;refine gn ?_;refine pt ?_;refine JO.nil ?_;refine JN.then_n ?_;exact JN.z ((), true) h (SE.fin [0, 1, 2] ⟨rfl, rfl, rfl, rfl, rfl, rfl, rfl, rfl, rfl, rfl, trivial⟩ rfl)
        ·replace h := b_ifn (d_f hb) h;refine DN.sg11 0 rfl rfl rfl rfl rfl rfl (o_load_obj rfl sz26 (nfn) rfl) ⟨rfl, rfl, trivial⟩ ?_;refine DN.sg00 rfl rfl rfl rfl rfl (o_move rfl) ⟨rfl, rfl, trivial⟩ ?_;refine DN.sg00 rfl rfl rfl rfl rfl (o_move rfl) ⟨rfl, rfl, trivial⟩ ?_;refine DN.sg00 rfl rfl rfl rfl rfl (o_move rfl) ⟨rfl, rfl, trivial⟩ ?_;obtain ⟨x29, ex29, h⟩ := b_bind h;refine DN.sg00 rfl rfl rfl rfl rfl (o_index (t := tStep) rfl Tryz.underlying34 sz92 ex29) ⟨rfl, rfl, rfl, trivial⟩ ?_;refine DN.sg00 rfl rfl rfl rfl rfl (o_field_at 1 false rfl fo92_0 rfl) ⟨rfl, rfl, trivial⟩ ?_;refine DN.sg00 rfl rfl rfl rfl rfl (o_load_at (t := (.int .i64)) rfl sz3 rfl) ⟨rfl, rfl, trivial⟩ ?_;obtain ⟨x30, ex30, h⟩ := b_bind h;refine DN.sg00 rfl rfl rfl rfl rfl (o_index (t := tTask) rfl Tryz.underlying112 sz116 ex30) ⟨rfl, rfl, rfl, trivial⟩ ?_;refine DN.sg00 rfl rfl rfl rfl rfl (o_load_at (t := tTask) rfl sz116 rfl) ⟨rfl, rfl, trivial⟩ ?_;refine DN.sg11 2 rfl rfl rfl rfl rfl rfl (o_load_obj rfl sz116 (nfn) rfl) ⟨rfl, rfl, trivial⟩ ?_;refine DN.fin (by kernel_rfl) mixed ?_;obtain ⟨r31, er31, h⟩ := b_bind h;have cr31 := ref_before_ok k a0 x30 x10 r31 er31;refine gc (o_call [.tmp 70, .tmp 78, .tmp 79] rfl rfl en106 rfl cr31) ?_;refine pf ?_;refine JO.nil ?_;refine JN.then_n ?_;exact JN.z ((), r31) h (SE.fin [0, 1, 2] ⟨rfl, rfl, rfl, rfl, rfl, rfl, rfl, rfl, rfl, rfl, trivial⟩ rfl)
       ·refine cv h (fun h => ?_) (fun h => ?_)
        ·refine JC.region ?_;iterate 2 refine mq ?_
         refine jb (o_max rfl rfl) ?_;refine aq ?_;refine JO.nil ?_;refine JN.blk_n ?_;refine JN.then_n ?_;exact JN.z ((), imax y16.1 x24) h (SE.fin [0, 1, 2] ⟨rfl, rfl, rfl, rfl, rfl, rfl, rfl, rfl, trivial⟩ rfl)
        ·refine JC.skip ?_;refine JN.blk_n ?_;refine JN.then_n ?_;exact JN.z ((), y16.1) h (SE.fin [0, 1, 2] ⟨rfl, rfl, rfl, rfl, rfl, rfl, rfl, rfl, trivial⟩ rfl)
      ·refine JC.region ?_;refine mq ?_;obtain ⟨x32, ex32, h⟩ := b_bind h;refine jb (o_add rfl ex32) ?_;refine aq ?_;refine JO.nil ?_;refine JN.then_n ?_;exact JN.z ((), (x18, x32)) h (SE.fin [0, 1, 2] ⟨rfl, rfl, rfl, rfl, rfl, rfl, rfl, rfl, trivial⟩ rfl)
     ·refine JC.exit ?_;refine JN.then_x ?_;refine JN.then_x ?_;refine JN.blk_hit ?_;refine JN.then_n ?_;exact JN.z ((), y16.1) h (SE.fin [0, 1] ⟨rfl, rfl, rfl, rfl, rfl, rfl, trivial⟩ rfl)
    ·refine JC.region ?_;iterate 2 refine mq ?_
     refine ja (o_litB (t := (.int .i64)) [(.tmp 86, _)] [x14] rfl rfl sl24 (.cons rfl .int .nil) rfl rfl) ?_;obtain ⟨u33, eu33, h⟩ := b_bind h;refine fr 1 ?_;refine JO.s1x rfl rfl rfl (o_append rfl rfl sl24 (chkP_some eu33)) ⟨rfl, rfl, trivial⟩ fun v34 => ?_;refine aq ?_;refine JO.nil ?_;refine JN.blk_n ?_;refine JN.then_n ?_;exact JN.z (v34, y5.1 ++ [x14]) h (SE.fin [1, 0] ⟨rfl, rfl, rfl, rfl, rfl, trivial⟩ rfl)
   ·refine JC.region ?_;refine mq ?_;obtain ⟨x35, ex35, h⟩ := b_bind h;refine jb (o_add rfl ex35) ?_;refine aq ?_;refine JO.nil ?_;refine JN.then_n ?_;exact JN.z (z8, (x7, x35)) h (SE.fin [0, 1] ⟨rfl, rfl, rfl, rfl, rfl, trivial⟩ rfl)
  ·refine JC.exit ?_;refine JN.then_x ?_;refine JN.then_x ?_;refine JN.blk_hit ?_;refine JN.then_n ?_;exact JN.z (z6, y5.1) h (SE.fin [1] ⟨rfl, trivial⟩ rfl)
 ·refine sr ?_;refine mq ?_;refine aq ?_;refine nt ?_;refine JC.ret ?_;refine JN.se (SE.frz [4, 6, 89] ⟨rfl, rfl, rfl, trivial⟩) ?_;obtain rfl := Option.some.inj h;exact JN.ret () [_] 0 ⟨rfl, trivial⟩ rfl


def ref_bars_l1 (k : Nat) (a0 : dChange) (a1 : (List dStep)) (r2 : (List dTask)) (r3 : (List Int)) : Nat → (Int × Int) → Option Int
 | 0, _ => none
 | n + 1, y6 =>
  if y6.2 < (a1.length : Int) then ((geti r3 y6.2).bind fun x8 =>
  (geti a1 y6.2).bind fun x9 =>
  (geti r2 x9.1).bind fun x10 =>
  (ref_takes k a0 x10).bind fun r11 =>
  (ck (x8 + r11)).bind fun x12 =>
  (ck (y6.2 + (1 : Int))).bind fun x13 =>
  ref_bars_l1 k a0 a1 r2 r3 n (imax y6.1 x12, x13)) else (some y6.1)
def ref_bars (k : Nat) (a0 : dChange) (a1 : (List dStep)) : Option Int :=
 (ref_tasks k a0).bind fun r2 =>
 (ref_begins k a0 a1).bind fun r3 =>
 ((ref_bars_l1 k a0 a1 r2 r3 k ((0 : Int), (0 : Int))) : Option (Int)).bind fun x4 =>
 some x4

theorem ref_bars_ok (k : Nat) (a0 : dChange) (a1 : (List dStep)) (r : Int) (h : ref_bars k a0 a1 = some r) :
 Ctr Tryz.prog 73 [.rep tChange a0, .rep (.slice tStep) a1] [] (fun _ : Unit => (resA [.eq (.int .i64 r)], [])) := by
 unfold ref_bars at h;replace h := b_top h;refine Ctr.of 38 Tryz.func73 rfl Tryz.ntmps73 rfl fun S w0 => ?_;refine sr ?_;refine JO.s01 rfl rfl rfl (o_box rfl rfl) ⟨rfl, trivial⟩ fun b1 => ?_;refine cq ?_;refine nt ?_;refine sr ?_;refine cq ?_;refine nt ?_;refine JC.seq ?_;refine JC.drawN ?_;refine ea 0 (o_load_obj rfl sz26 (nfn) rfl) ?_;obtain ⟨r2, er2, h⟩ := b_bind h;have cr2 := ref_tasks_ok k a0 r2 er2;refine da (o_call [.tmp 9] rfl rfl en61 rfl cr2) ?_;refine ea 0 (o_load_obj rfl sz26 (nfn) rfl) ?_;refine dm ?_;refine DN.fin (by kernel_rfl) mixed ?_;obtain ⟨r3, er3, h⟩ := b_bind h;have cr3 := ref_begins_ok k a0 a1 r3 er3;refine jb (o_call [.tmp 11, .tmp 12] rfl rfl en62 rfl cr3) ?_;refine aq ?_;refine aq ?_;refine nt ?_;refine JC.cutB (Z := Unit) (α := Int) (fun z5 x4 => [(5, .eq (.int .i64 x4))]) (fun z5 x4 => []) h (fun K h => ?_) (fun z5 x4 h => ?_)
 ·refine sr ?_;refine cq ?_;refine nt ?_;refine JC.block ?_;refine JC.loopB (Z := Unit) (α := Int × Int) (fun z7 y6 => [(1, .rep (.slice tStep) a1), (2, .eq (.pointer (some ⟨b1, 0, none⟩))), (5, .eq (.int .i64 y6.1)), (6, .rep (.slice tTask) r2), (7, .rep (.slice (.int .i64)) r3), (8, .eq (.int .i64 y6.2))]) (fun z7 y6 => [.obj b1 26 (.rep tChange a0)]) (ref_bars_l1 k a0 a1 r2 r3) k () ((0 : Int), (0 : Int)) (fun _ => rfl) h (SE.fin [0] ⟨rfl, rfl, rfl, rfl, rfl, rfl, trivial⟩ rfl) (fun n z7 y6 h => ?_);unfold ref_bars_l1 at h;refine JC.seq ?_;refine sr ?_;iterate 2 refine mq ?_
  refine ja (o_len rfl rfl Tryz.underlying34) ?_;refine jb (o_lss rfl) ?_;refine nt ?_;refine ci h (fun h => ?_) (fun h => ?_)
  ·refine sk ?_;refine JC.seq ?_;refine JC.block ?_;refine JC.drawN ?_;refine dm ?_;refine dm ?_;refine dm ?_;obtain ⟨x8, ex8, h⟩ := b_bind h;refine db (o_index (t := (.int .i64)) rfl Tryz.underlying24 sz3 ex8) ?_;refine da (o_load_at (t := (.int .i64)) rfl sz3 rfl) ?_;refine ea 0 (o_load_obj rfl sz26 (nfn) rfl) ?_;refine dm ?_;refine dm ?_;refine dm ?_;obtain ⟨x9, ex9, h⟩ := b_bind h;refine db (o_index (t := tStep) rfl Tryz.underlying34 sz92 ex9) ?_;refine da (o_field_at 1 false rfl fo92_0 rfl) ?_;refine da (o_load_at (t := (.int .i64)) rfl sz3 rfl) ?_;obtain ⟨x10, ex10, h⟩ := b_bind h;refine db (o_index (t := tTask) rfl Tryz.underlying112 sz116 ex10) ?_;refine da (o_load_at (t := tTask) rfl sz116 rfl) ?_;obtain ⟨r11, er11, h⟩ := b_bind h;have cr11 := ref_takes_ok k a0 x10 r11 er11;refine db (o_call [.tmp 25, .tmp 33] rfl rfl en63 rfl cr11) ?_;obtain ⟨x12, ex12, h⟩ := b_bind h;refine db (o_add rfl ex12) ?_;refine DN.fin (by kernel_rfl) mixed ?_;refine jb (o_max rfl rfl) ?_;refine aq ?_;refine JO.nil ?_;refine JN.blk_n ?_;refine tn ?_;refine JC.region ?_;refine mq ?_;obtain ⟨x13, ex13, h⟩ := b_bind h;refine jb (o_add rfl ex13) ?_;refine aq ?_;refine JO.nil ?_;refine JN.then_n ?_;exact JN.z ((), (imax y6.1 x12, x13)) h (SE.fin [0] ⟨rfl, rfl, rfl, rfl, rfl, rfl, trivial⟩ rfl)
  ·refine JC.exit ?_;refine JN.then_x ?_;refine JN.then_x ?_;refine JN.blk_hit ?_;refine JN.then_n ?_;exact JN.z ((), y6.1) h (SE.fin [] ⟨rfl, trivial⟩ rfl)
 ·refine sr ?_;refine mq ?_;refine aq ?_;refine nt ?_;refine JC.ret ?_;obtain rfl := Option.some.inj h;exact JN.ret () [_] 0 ⟨rfl, trivial⟩ rfl


def ref_done_l1 (k : Nat) (a0 : (List dStep)) (a1 : Int) : Nat → Int → Option (Except Int Unit)
 | 0, _ => none
 | n + 1, y3 =>
  if y3 < (a0.length : Int) then ((geti a0 y3).bind fun x5 =>
  if x5.1 = a1 then (some (.error y3)) else ((ck (y3 + (1 : Int))).bind fun x6 =>
  ref_done_l1 k a0 a1 n x6)) else (some (.ok ()))
def ref_done (k : Nat) (a0 : (List dStep)) (a1 : Int) : Option Int :=
 bE (α := Unit) (ref_done_l1 k a0 a1 k (0 : Int)) (some) fun _ =>
 some (-1 : Int)

theorem ref_done_ok (k : Nat) (a0 : (List dStep)) (a1 : Int) (r : Int) (h : ref_done k a0 a1 = some r) :
 Ctr Tryz.prog 120 [.rep (.slice tStep) a0, .eq (.int .i64 a1)] [] (fun _ : Unit => (resA [.eq (.int .i64 r)], [])) := by
 unfold ref_done at h;replace h := b_top h;refine Ctr.of 20 Tryz.func120 rfl Tryz.ntmps120 rfl fun S w0 => ?_;refine sr ?_;refine cq ?_;refine nt ?_;refine JC.cutE (Z := Unit) (α := Unit) (fun z2 x1 => []) (fun z2 x1 => []) (fun e => e = r) h (fun e h => Option.some.inj h) (fun K hR h => ?_) (fun z2 x1 h => ?_)
 ·refine sr ?_;refine cq ?_;refine nt ?_;refine JC.block ?_;refine JC.loopB (Z := Unit) (α := Int) (fun z4 y3 => [(0, .rep (.slice tStep) a0), (1, .eq (.int .i64 a1)), (5, .eq (.int .i64 y3))]) (fun z4 y3 => []) (ref_done_l1 k a0 a1) k () (0 : Int) (fun _ => rfl) h (SE.fin [] ⟨rfl, rfl, rfl, trivial⟩ rfl) (fun n z4 y3 h => ?_);unfold ref_done_l1 at h;refine JC.seq ?_;refine sr ?_;iterate 2 refine mq ?_
  refine ja (o_len rfl rfl Tryz.underlying34) ?_;refine jb (o_lss rfl) ?_;refine nt ?_;refine ci h (fun h => ?_) (fun h => ?_)
  ·refine sk ?_;refine JC.seq ?_;refine JC.block ?_;refine sr ?_;iterate 2 refine mq ?_
   obtain ⟨x5, ex5, h⟩ := b_bind h;refine jb (o_index (t := tStep) rfl Tryz.underlying34 sz92 ex5) ?_;refine ja (o_field_at 1 false rfl fo92_0 rfl) ?_;refine ja (o_load_at (t := (.int .i64)) rfl sz3 rfl) ?_;refine mq ?_;refine jb (o_eql rfl) ?_;refine nt ?_;refine ci h (fun h => ?_) (fun h => ?_)
   ·refine sr ?_;refine mq ?_;refine aq ?_;refine nt ?_;refine JC.ret ?_;refine JN.blk_r ?_;refine JN.then_r ?_;refine JN.then_r ?_;refine JN.blk_r ?_;refine JN.then_r ?_;obtain rfl := hR _ h;exact JN.ret () [_] 0 ⟨rfl, trivial⟩ rfl
   ·refine JC.skip ?_;refine JN.blk_n ?_;refine tn ?_;refine JC.region ?_;refine mq ?_;obtain ⟨x6, ex6, h⟩ := b_bind h;refine jb (o_add rfl ex6) ?_;refine aq ?_;refine JO.nil ?_;refine JN.then_n ?_;exact JN.z ((), x6) h (SE.fin [] ⟨rfl, rfl, rfl, trivial⟩ rfl)
  ·refine JC.exit ?_;refine JN.then_x ?_;refine JN.then_x ?_;refine JN.blk_hit ?_;refine JN.then_n ?_;exact JN.z ((), ()) h (SE.fin [] trivial rfl)
 ·refine sr ?_;refine cq ?_;refine nt ?_;refine JC.ret ?_;obtain rfl := Option.some.inj h;exact JN.ret () [_] 0 ⟨rfl, trivial⟩ rfl


def ref_can (k : Nat) (a0 : dChange) (a1 : dDresser) (a2 : dTask) : Option Bool :=
 (geti a0.1 a2.1).bind fun x4 =>
 (((ref_has k a1.1 a2.1).bind fun r7 =>
 if r7 = true then (if x4.2.2.2.1 = (0 : Int) then (some true) else (if a1.2.1 = (0 : Int) then (some true) else (some (decide (x4.2.2.2.1 = a1.2.1))))) else (some false)) : Option (Bool)).bind fun x5 =>
 some x5

theorem ref_can_ok (k : Nat) (a0 : dChange) (a1 : dDresser) (a2 : dTask) (r : Bool) (h : ref_can k a0 a1 a2 = some r) :
 Ctr Tryz.prog 121 [.rep tChange a0, .rep tDresser a1, .rep tTask a2] [] (fun _ : Unit => (resA [.eq (.bool r)], [])) := by
 unfold ref_can at h;replace h := b_top h;refine Ctr.of 35 Tryz.func121 rfl Tryz.ntmps121 rfl fun S w0 => ?_;refine sr ?_;refine JO.s01 rfl rfl rfl (o_box rfl rfl) ⟨rfl, trivial⟩ fun b1 => ?_;refine JO.s01 rfl rfl rfl (o_box rfl rfl) ⟨rfl, trivial⟩ fun b2 => ?_;refine JO.s01 rfl rfl rfl (o_box rfl rfl) ⟨rfl, trivial⟩ fun b3 => ?_;refine cq ?_;refine nt ?_;refine sr ?_;refine ja (o_field_obj rfl fo26_0) ?_;refine fr 2 ?_;refine ka (o_load_obj rfl sz22 (fun _ => rfl) rfl) ?_;refine ja (o_field_obj rfl fo116_0) ?_;refine fr 1 ?_;refine ka (o_load_obj rfl sz3 (fun _ => rfl) rfl) ?_;obtain ⟨x4, ex4, h⟩ := b_bind h;refine jb (o_index (t := tThing) rfl Tryz.underlying22 sz74 ex4) ?_;refine ja (o_field_at 1 false rfl fo74_3 rfl) ?_;refine ja (o_load_at (t := (.int .i64)) rfl sz3 rfl) ?_;refine aq ?_;refine nt ?_;refine JC.cutB (Z := Unit) (α := Bool) (fun z6 x5 => [(6, .eq (.bool x5))]) (fun z6 x5 => []) h (fun K h => ?_) (fun z6 x5 h => ?_)
 ·refine JC.region ?_;refine ja (o_field_obj rfl fo52_0) ?_;refine fr 2 ?_;refine ka (o_load_obj rfl sz24 (fun _ => rfl) rfl) ?_;refine ja (o_field_obj rfl fo116_0) ?_;refine fr 1 ?_;refine ka (o_load_obj rfl sz3 (fun _ => rfl) rfl) ?_;obtain ⟨r7, er7, h⟩ := b_bind h;have cr7 := ref_has_ok k a1.1 a2.1 r7 er7;refine jb (o_call [.tmp 16, .tmp 18] rfl rfl en79 rfl cr7) ?_;refine mq ?_;refine JO.bool (s := 20) rfl (fun hb => ?_) (fun hb => ?_)
  ·replace h := b_if (v_t hb) h;refine gm ?_;refine gb (o_eql rfl) ?_;refine gm ?_;refine JO.bool (s := 23) rfl (fun hb => ?_) (fun hb => ?_)
   ·replace h := b_if (d_t hb) h;iterate 3 refine gn ?_
    refine gb (o_pick_t rfl) ?_;refine gm ?_;iterate 4 refine gn ?_
    refine gb (o_pick_t rfl) ?_;refine pt ?_;refine aq ?_;refine JO.nil ?_;refine JN.then_n ?_;exact JN.z ((), true) h (SE.fin [] ⟨rfl, trivial⟩ rfl)
   ·replace h := b_ifn (d_f hb) h;refine ga (o_field_obj rfl fo52_1) ?_;refine fr 1 ?_;refine JO.g11 rfl rfl rfl rfl rfl rfl (o_load_obj rfl sz3 (fun _ => rfl) rfl) ⟨rfl, trivial⟩ ?_;refine gb (o_eql rfl) ?_;refine gb (o_pick_f rfl) ?_;refine gm ?_;refine JO.bool (s := 28) rfl (fun hb => ?_) (fun hb => ?_)
    ·replace h := b_if (d_t hb) h;iterate 4 refine gn ?_
     refine gb (o_pick_t rfl) ?_;refine pt ?_;refine aq ?_;refine JO.nil ?_;refine JN.then_n ?_;exact JN.z ((), true) h (SE.fin [] ⟨rfl, trivial⟩ rfl)
    ·replace h := b_ifn (d_f hb) h;refine gm ?_;refine ga (o_field_obj rfl fo52_1) ?_;refine JO.g11 rfl rfl rfl rfl rfl rfl (o_load_obj rfl sz3 (fun _ => rfl) rfl) ⟨rfl, trivial⟩ ?_;refine gb (o_eql rfl) ?_;refine gb (o_pick_f rfl) ?_;refine pt ?_;refine aq ?_;refine JO.nil ?_;refine JN.then_n ?_;exact JN.z ((), decide (x4.2.2.2.1 = a1.2.1)) h (SE.fin [] ⟨rfl, trivial⟩ rfl)
  ·replace h := b_ifn (v_f hb) h;iterate 3 refine gn ?_
   refine JO.gnou rfl rfl rfl rfl rfl rfl ?_;refine JO.gnou rfl rfl rfl rfl rfl rfl ?_;refine JO.gnou rfl rfl rfl rfl rfl rfl ?_;iterate 2 refine gn ?_
   refine JO.gnou rfl rfl rfl rfl rfl rfl ?_;refine JO.gnou rfl rfl rfl rfl rfl rfl ?_;refine JO.gnou rfl rfl rfl rfl rfl rfl ?_;refine JO.gnou rfl rfl rfl rfl rfl rfl ?_;refine gn ?_;refine pf ?_;refine aq ?_;refine JO.nil ?_;refine JN.then_n ?_;exact JN.z ((), false) h (SE.fin [] ⟨rfl, trivial⟩ rfl)
 ·refine JC.ret ?_;obtain rfl := Option.some.inj h;exact JN.ret () [_] 0 ⟨rfl, trivial⟩ rfl


def ref_checkStep_l1 (k : Nat) (a0 : dChange) (a1 : (List dStep)) (a2 : dStep) (r3 : (List dTask)) : Nat → Int → Option (Except Int Unit)
 | 0, _ => none
 | n + 1, y14 =>
  if y14 < (r3.length : Int) then ((((geti r3 y14).bind fun x18 =>
  (geti r3 a2.1).bind fun x19 =>
  (ref_before k a0 x18 x19).bind fun r20 =>
  if r20 = true then ((ref_done k a1 y14).bind fun r21 =>
  some (decide (r21 < (0 : Int)))) else (some false)) : Option (Bool)).bind fun x16 =>
  if x16 = true then (some (.error (5 : Int))) else ((ck (y14 + (1 : Int))).bind fun x22 =>
  ref_checkStep_l1 k a0 a1 a2 r3 n x22)) else (some (.ok ()))
def ref_checkStep (k : Nat) (a0 : dChange) (a1 : (List dStep)) (a2 : dStep) : Option Int :=
 (ref_tasks k a0).bind fun r3 =>
 (ck ((r3.length : Int) - (1 : Int))).bind fun x4 =>
 (ref_inside k a2.1 (0 : Int) x4).bind fun r5 =>
 if ¬ (r5 = true) then (some (3 : Int)) else ((ref_done k a1 a2.1).bind fun r6 =>
 if (0 : Int) ≤ r6 then (some (4 : Int)) else ((ck ((a0.2.1.length : Int) - (1 : Int))).bind fun x7 =>
 (ref_inside k a2.2 (0 : Int) x7).bind fun r8 =>
 if ¬ (r8 = true) then (some (3 : Int)) else ((geti a0.2.1 a2.2).bind fun x9 =>
 (geti r3 a2.1).bind fun x10 =>
 (ref_can k a0 x9 x10).bind fun r11 =>
 if ¬ (r11 = true) then (some (8 : Int)) else (bE (α := Unit) (ref_checkStep_l1 k a0 a1 a2 r3 k (0 : Int)) (some) fun _ =>
 some (0 : Int)))))

theorem ref_checkStep_ok (k : Nat) (a0 : dChange) (a1 : (List dStep)) (a2 : dStep) (r : Int) (h : ref_checkStep k a0 a1 a2 = some r) :
 Ctr Tryz.prog 104 [.rep tChange a0, .rep (.slice tStep) a1, .rep tStep a2] [] (fun _ : Unit => (resA [.eq (.int .i64 r)], [])) := by
 unfold ref_checkStep at h;replace h := b_top h;refine Ctr.of 68 Tryz.func104 rfl Tryz.ntmps104 rfl fun S w0 => ?_;refine sr ?_;refine JO.s01 rfl rfl rfl (o_box rfl rfl) ⟨rfl, trivial⟩ fun b1 => ?_;refine JO.s01 rfl rfl rfl (o_box rfl rfl) ⟨rfl, trivial⟩ fun b2 => ?_;refine cq ?_;refine nt ?_;refine sr ?_;refine fr 1 ?_;refine ka (o_load_obj rfl sz26 (nfn) rfl) ?_;obtain ⟨r3, er3, h⟩ := b_bind h;have cr3 := ref_tasks_ok k a0 r3 er3;refine ja (o_call [.tmp 9] rfl rfl en61 rfl cr3) ?_;refine aq ?_;refine nt ?_;refine JC.seq ?_;refine sr ?_;refine ja (o_field_obj rfl fo92_0) ?_;refine fr 1 ?_;refine ka (o_load_obj rfl sz3 (fun _ => rfl) rfl) ?_;refine mq ?_;refine ja (o_len rfl rfl Tryz.underlying112) ?_;obtain ⟨x4, ex4, h⟩ := b_bind h;refine jb (o_sub rfl ex4) ?_;obtain ⟨r5, er5, h⟩ := b_bind h;have cr5 := ref_inside_ok k a2.1 (0 : Int) x4 r5 er5;refine jc (o_call [.tmp 12, .const (.int .i64 (0)), .tmp 15] rfl rfl en71 rfl cr5) ?_;refine ja (o_not rfl) ?_;refine nt ?_;refine cw h (fun h => ?_) (fun h => ?_)
 ·refine sr ?_;refine cq ?_;refine nt ?_;refine JC.ret ?_;refine JN.then_r ?_;obtain rfl := Option.some.inj h;exact JN.ret () [_] 0 ⟨rfl, trivial⟩ rfl
 ·refine sk ?_;refine JC.seq ?_;refine sr ?_;refine mq ?_;refine ja (o_field_obj rfl fo92_0) ?_;refine ka (o_load_obj rfl sz3 (fun _ => rfl) rfl) ?_;obtain ⟨r6, er6, h⟩ := b_bind h;have cr6 := ref_done_ok k a1 a2.1 r6 er6;refine jb (o_call [.tmp 18, .tmp 20] rfl rfl en120 rfl cr6) ?_;refine jb (o_geq rfl) ?_;refine nt ?_;refine ci h (fun h => ?_) (fun h => ?_)
  ·refine sr ?_;refine cq ?_;refine nt ?_;refine JC.ret ?_;refine JN.then_r ?_;obtain rfl := Option.some.inj h;exact JN.ret () [_] 0 ⟨rfl, trivial⟩ rfl
  ·refine sk ?_;refine JC.seq ?_;refine sr ?_;refine ja (o_field_obj rfl fo92_1) ?_;refine ka (o_load_obj rfl sz3 (fun _ => rfl) rfl) ?_;refine ja (o_field_obj rfl fo26_1) ?_;refine fr 1 ?_;refine ka (o_load_obj rfl sz23 (fun _ => rfl) rfl) ?_;refine ja (o_len rfl rfl Tryz.underlying23) ?_;obtain ⟨x7, ex7, h⟩ := b_bind h;refine jb (o_sub rfl ex7) ?_;obtain ⟨r8, er8, h⟩ := b_bind h;have cr8 := ref_inside_ok k a2.2 (0 : Int) x7 r8 er8;refine jc (o_call [.tmp 24, .const (.int .i64 (0)), .tmp 28] rfl rfl en71 rfl cr8) ?_;refine ja (o_not rfl) ?_;refine nt ?_;refine cw h (fun h => ?_) (fun h => ?_)
   ·refine sr ?_;refine cq ?_;refine nt ?_;refine JC.ret ?_;refine JN.then_r ?_;obtain rfl := Option.some.inj h;exact JN.ret () [_] 0 ⟨rfl, trivial⟩ rfl
   ·refine sk ?_;refine JC.seq ?_;refine JC.seq ?_;refine JC.drawN ?_;refine ea 0 (o_load_obj rfl sz26 (nfn) rfl) ?_;refine da (o_field_obj rfl fo26_1) ?_;refine ea 0 (o_load_obj rfl sz23 (fun _ => rfl) rfl) ?_;refine da (o_field_obj rfl fo92_1) ?_;refine ea 1 (o_load_obj rfl sz3 (fun _ => rfl) rfl) ?_;obtain ⟨x9, ex9, h⟩ := b_bind h;refine db (o_index (t := tDresser) rfl Tryz.underlying23 sz52 ex9) ?_;refine da (o_load_at (t := tDresser) rfl sz52 rfl) ?_;refine dm ?_;refine da (o_field_obj rfl fo92_0) ?_;refine ea 1 (o_load_obj rfl sz3 (fun _ => rfl) rfl) ?_;obtain ⟨x10, ex10, h⟩ := b_bind h;refine db (o_index (t := tTask) rfl Tryz.underlying112 sz116 ex10) ?_;refine da (o_load_at (t := tTask) rfl sz116 rfl) ?_;refine DN.fin (by kernel_rfl) mixed ?_;obtain ⟨r11, er11, h⟩ := b_bind h;have cr11 := ref_can_ok k a0 x9 x10 r11 er11;refine jc (o_call [.tmp 31, .tmp 37, .tmp 42] rfl rfl en121 rfl cr11) ?_;refine ja (o_not rfl) ?_;refine nt ?_;refine cw h (fun h => ?_) (fun h => ?_)
    ·refine sr ?_;refine cq ?_;refine nt ?_;refine JC.ret ?_;refine JN.then_r ?_;obtain rfl := Option.some.inj h;exact JN.ret () [_] 0 ⟨rfl, trivial⟩ rfl
    ·refine sk ?_;refine JC.cutE (Z := Unit) (α := Unit) (fun z13 x12 => []) (fun z13 x12 => []) (fun e => e = r) h (fun e h => Option.some.inj h) (fun K hR h => ?_) (fun z13 x12 h => ?_)
     ·refine sr ?_;refine cq ?_;refine nt ?_;refine JC.block ?_;refine JC.loopB (Z := Unit) (α := Int) (fun z15 y14 => [(1, .rep (.slice tStep) a1), (3, .eq (.pointer (some ⟨b1, 0, none⟩))), (5, .eq (.pointer (some ⟨b2, 0, none⟩))), (7, .rep (.slice tTask) r3), (8, .eq (.int .i64 y14))]) (fun z15 y14 => [.obj b1 26 (.rep tChange a0), .obj b2 92 (.rep tStep a2)]) (ref_checkStep_l1 k a0 a1 a2 r3) k () (0 : Int) (fun _ => rfl) h (SE.fin [0, 1] ⟨rfl, rfl, rfl, rfl, rfl, trivial⟩ rfl) (fun n z15 y14 h => ?_);unfold ref_checkStep_l1 at h;refine JC.seq ?_;refine sr ?_;iterate 2 refine mq ?_
      refine ja (o_len rfl rfl Tryz.underlying112) ?_;refine jb (o_lss rfl) ?_;refine nt ?_;refine ci h (fun h => ?_) (fun h => ?_)
      ·refine sk ?_;refine JC.seq ?_;refine JC.block ?_;refine JC.cutB (Z := Unit) (α := Bool) (fun z17 x16 => [(1, .rep (.slice tStep) a1), (3, .eq (.pointer (some ⟨b1, 0, none⟩))), (5, .eq (.pointer (some ⟨b2, 0, none⟩))), (7, .rep (.slice tTask) r3), (8, .eq (.int .i64 y14)), (67, .eq (.bool x16))]) (fun z17 x16 => [.obj b1 26 (.rep tChange a0), .obj b2 92 (.rep tStep a2)]) h (fun K h => ?_) (fun z17 x16 h => ?_)
       ·refine JC.drawN ?_;refine ea 0 (o_load_obj rfl sz26 (nfn) rfl) ?_;refine dm ?_;refine dm ?_;obtain ⟨x18, ex18, h⟩ := b_bind h;refine db (o_index (t := tTask) rfl Tryz.underlying112 sz116 ex18) ?_;refine da (o_load_at (t := tTask) rfl sz116 rfl) ?_;refine dm ?_;refine da (o_field_obj rfl fo92_0) ?_;refine ea 1 (o_load_obj rfl sz3 (fun _ => rfl) rfl) ?_;obtain ⟨x19, ex19, h⟩ := b_bind h;refine db (o_index (t := tTask) rfl Tryz.underlying112 sz116 ex19) ?_;refine da (o_load_at (t := tTask) rfl sz116 rfl) ?_;obtain ⟨r20, er20, h⟩ := b_bind h;have cr20 := ref_before_ok k a0 x18 x19 r20 er20;refine dc (o_call [.tmp 51, .tmp 55, .tmp 60] rfl rfl en106 rfl cr20) ?_;refine DN.fork rfl rfl rfl (o_move rfl) ⟨rfl, trivial⟩ (fun hb => ?_) (fun hb => ?_)
        ·replace h := b_if (v_t hb) h;refine DN.sg00 rfl rfl rfl rfl rfl (o_move rfl) ⟨rfl, rfl, trivial⟩ ?_;refine DN.sg00 rfl rfl rfl rfl rfl (o_move rfl) ⟨rfl, rfl, trivial⟩ ?_;refine DN.fin (by kernel_rfl) mixed ?_;obtain ⟨r21, er21, h⟩ := b_bind h;have cr21 := ref_done_ok k a1 y14 r21 er21;refine gb (o_call [.tmp 63, .tmp 64] rfl rfl en120 rfl cr21) ?_;refine gb (o_lss rfl) ?_;refine pt ?_;refine JO.nil ?_;refine JN.then_n ?_;exact JN.z ((), decide (r21 < (0 : Int))) h (SE.fin [0, 1] ⟨rfl, rfl, rfl, rfl, rfl, rfl, trivial⟩ rfl)
        ·replace h := b_ifn (v_f hb) h;iterate 2 refine dg ?_
         refine DN.fin (by kernel_rfl) mixed ?_;iterate 2 refine gn ?_
         refine pf ?_;refine JO.nil ?_;refine JN.then_n ?_;exact JN.z ((), false) h (SE.fin [0, 1] ⟨rfl, rfl, rfl, rfl, rfl, rfl, trivial⟩ rfl)
       ·refine cv h (fun h => ?_) (fun h => ?_)
        ·refine sr ?_;refine cq ?_;refine nt ?_;refine JC.ret ?_;refine JN.blk_r ?_;refine JN.then_r ?_;refine JN.then_r ?_;refine JN.blk_r ?_;refine JN.then_r ?_;obtain rfl := hR _ h;exact JN.ret () [_] 0 ⟨rfl, trivial⟩ rfl
        ·refine JC.skip ?_;refine JN.blk_n ?_;refine tn ?_;refine JC.region ?_;refine mq ?_;obtain ⟨x22, ex22, h⟩ := b_bind h;refine jb (o_add rfl ex22) ?_;refine aq ?_;refine JO.nil ?_;refine JN.then_n ?_;exact JN.z ((), x22) h (SE.fin [0, 1] ⟨rfl, rfl, rfl, rfl, rfl, trivial⟩ rfl)
      ·refine JC.exit ?_;refine JN.then_x ?_;refine JN.then_x ?_;refine JN.blk_hit ?_;refine JN.then_n ?_;exact JN.z ((), ()) h (SE.fin [] trivial rfl)
     ·refine sr ?_;refine cq ?_;refine nt ?_;refine JC.ret ?_;obtain rfl := Option.some.inj h;exact JN.ret () [_] 0 ⟨rfl, trivial⟩ rfl


def ref_plans_l2 (k : Nat) (a0 : dChange) (a1 : (List dStep)) (self : dChange → (List dStep) → Option ((List (List dStep)))) (y5 : (List (List dStep)) × Int) : Nat → ((List (List dStep)) × Int) → Option (List (List dStep))
 | 0, _ => none
 | n + 1, y9 =>
  if y9.2 < (a0.2.1.length : Int) then ((((ref_checkStep k a0 a1 (y5.2, y9.2)).bind fun r14 =>
  if r14 = (0 : Int) then ((chkP (okLen (List.length ([] : (List dStep)) + List.length a1))).bind fun _ =>
  (chkP (okLen (List.length (([] : (List dStep)) ++ a1) + List.length [(y5.2, y9.2)]))).bind fun _ =>
  (self a0 ((([] : (List dStep)) ++ a1) ++ [(y5.2, y9.2)])).bind fun r20 =>
  (chkP (okLen (List.length y9.1 + List.length r20))).bind fun _ =>
  some (y9.1 ++ r20)) else (some y9.1)) : Option ((List (List dStep)))).bind fun x11 =>
  (ck (y9.2 + (1 : Int))).bind fun x23 =>
  ref_plans_l2 k a0 a1 self y5 n (x11, x23)) else (some y9.1)

def ref_plans_l1 (k : Nat) (a0 : dChange) (a1 : (List dStep)) (self : dChange → (List dStep) → Option ((List (List dStep)))) (r2 : (List dTask)) : Nat → ((List (List dStep)) × Int) → Option (List (List dStep))
 | 0, _ => none
 | n + 1, y5 =>
  if y5.2 < (r2.length : Int) then (((ref_plans_l2 k a0 a1 self y5 k (y5.1, (0 : Int))) : Option ((List (List dStep)))).bind fun x7 =>
  (ck (y5.2 + (1 : Int))).bind fun x24 =>
  ref_plans_l1 k a0 a1 self r2 n (x7, x24)) else (some y5.1)
def ref_plans (k : Nat) : Nat → dChange → (List dStep) → Option ((List (List dStep)))
 | 0, _, _ => none
 | m0 + 1, a0, a1 =>
  (ref_tasks k a0).bind fun r2 =>
  if (a1.length : Int) = (r2.length : Int) then (some [a1]) else (((ref_plans_l1 k a0 a1 (ref_plans k m0) r2 k (([] : (List (List dStep))), (0 : Int))) : Option ((List (List dStep)))).bind fun x3 =>
  some x3)

theorem ref_plans_ok (k : Nat) :
 ∀ (n : Nat) (a0 : dChange) (a1 : (List dStep)) (r : (List (List dStep))), ref_plans k n a0 a1 = some r → Ctr Tryz.prog 118 [.rep tChange a0, .rep (.slice tStep) a1] ([]) (fun _ : Unit => (resA [.rep (.slice (.slice tStep)) r], [])) := by
 intro n
 induction n with
 | zero => intro a0 a1 r h; cases h
 | succ m0 ih =>
  intro a0 a1 r h;rw [ref_plans] at h;replace h := b_top h;refine Ctr.of 51 Tryz.func118 rfl Tryz.ntmps118 rfl fun S w0 => ?_;refine sr ?_;refine JO.s01 rfl rfl rfl (o_box rfl rfl) ⟨rfl, trivial⟩ fun b1 => ?_;refine cq ?_;refine nt ?_;refine sr ?_;refine ka (o_load_obj rfl sz26 (nfn) rfl) ?_;obtain ⟨r2, er2, h⟩ := b_bind h;have cr2 := ref_tasks_ok k a0 r2 er2;refine ja (o_call [.tmp 10] rfl rfl en61 rfl cr2) ?_;refine aq ?_;refine nt ?_;refine JC.seq ?_;refine sr ?_;refine mq ?_;refine ja (o_len rfl rfl Tryz.underlying34) ?_;refine mq ?_;refine ja (o_len rfl rfl Tryz.underlying112) ?_;refine jb (o_eql rfl) ?_;refine nt ?_;refine ci h (fun h => ?_) (fun h => ?_)
  ·refine sr ?_;refine mq ?_;refine ja (o_litB (t := (.slice tStep)) [(.tmp 17, _)] [a1] rfl rfl sl41 (.cons rfl .rep .nil) rfl rfl) ?_;refine aq ?_;refine nt ?_;refine JC.ret ?_;refine JN.then_r ?_;obtain rfl := Option.some.inj h;exact JN.ret () [_] 0 ⟨rfl, trivial⟩ rfl
  ·refine sk ?_;refine sr ?_;refine cq ?_;refine nt ?_;refine JC.cutB (Z := Value) (α := (List (List dStep))) (fun z4 x3 => [(6, .eq z4)]) (fun z4 x3 => [.sl z4 34 (.slice tStep) x3]) h (fun K h => ?_) (fun z4 x3 h => ?_)
   ·refine sr ?_;refine cq ?_;refine nt ?_;refine JC.block ?_;refine JC.se (SE.nil 34 (.slice tStep)) ?_;refine JC.loopB (Z := Value) (α := (List (List dStep)) × Int) (fun z6 y5 => [(1, .rep (.slice tStep) a1), (2, .eq (.pointer (some ⟨b1, 0, none⟩))), (5, .rep (.slice tTask) r2), (6, .eq z6), (7, .eq (.int .i64 y5.2))]) (fun z6 y5 => [.obj b1 26 (.rep tChange a0), .sl z6 34 (.slice tStep) y5.1]) (ref_plans_l1 k a0 a1 (ref_plans k m0) r2) k (.slice none 0 0) (([] : (List (List dStep))), (0 : Int)) (fun _ => rfl) h (SE.fin [1, 0] ⟨rfl, rfl, rfl, rfl, rfl, trivial⟩ rfl) (fun n z6 y5 h => ?_);unfold ref_plans_l1 at h;refine JC.seq ?_;refine sr ?_;iterate 2 refine mq ?_
    refine ja (o_len rfl rfl Tryz.underlying112) ?_;refine jb (o_lss rfl) ?_;refine nt ?_;refine ci h (fun h => ?_) (fun h => ?_)
    ·refine sk ?_;refine JC.cutB (Z := Value) (α := (List (List dStep))) (fun z8 x7 => [(1, .rep (.slice tStep) a1), (2, .eq (.pointer (some ⟨b1, 0, none⟩))), (5, .rep (.slice tTask) r2), (6, .eq z8), (7, .eq (.int .i64 y5.2))]) (fun z8 x7 => [.obj b1 26 (.rep tChange a0), .sl z8 34 (.slice tStep) x7]) h (fun K h => ?_) (fun z8 x7 h => ?_)
     ·refine JC.block ?_;refine sr ?_;refine cq ?_;refine nt ?_;refine JC.block ?_;refine JC.loopB (Z := Value) (α := (List (List dStep)) × Int) (fun z10 y9 => [(1, .rep (.slice tStep) a1), (2, .eq (.pointer (some ⟨b1, 0, none⟩))), (5, .rep (.slice tTask) r2), (6, .eq z10), (7, .eq (.int .i64 y5.2)), (8, .eq (.int .i64 y9.2))]) (fun z10 y9 => [.obj b1 26 (.rep tChange a0), .sl z10 34 (.slice tStep) y9.1]) (ref_plans_l2 k a0 a1 (ref_plans k m0) y5) k z6 (y5.1, (0 : Int)) (fun _ => rfl) h (SE.fin [0, 1] ⟨rfl, rfl, rfl, rfl, rfl, rfl, trivial⟩ rfl) (fun n z10 y9 h => ?_);unfold ref_plans_l2 at h;refine JC.seq ?_;refine sr ?_;refine mq ?_;refine ja (o_field_obj rfl fo26_1) ?_;refine ka (o_load_obj rfl sz23 (fun _ => rfl) rfl) ?_;refine ja (o_len rfl rfl Tryz.underlying23) ?_;refine jb (o_lss rfl) ?_;refine nt ?_;refine ci h (fun h => ?_) (fun h => ?_)
      ·refine sk ?_;refine JC.cutB (Z := Value) (α := (List (List dStep))) (fun z12 x11 => [(1, .rep (.slice tStep) a1), (2, .eq (.pointer (some ⟨b1, 0, none⟩))), (5, .rep (.slice tTask) r2), (6, .eq z12), (7, .eq (.int .i64 y5.2)), (8, .eq (.int .i64 y9.2))]) (fun z12 x11 => [.obj b1 26 (.rep tChange a0), .sl z12 34 (.slice tStep) x11]) h (fun K h => ?_) (fun z12 x11 h => ?_)
       ·refine JC.block ?_;refine sr ?_;iterate 2 refine mq ?_
        refine jb (o_buildT [(0, .tmp 32, _), (1, .tmp 33, _)] rfl pl92 za92 alb92 (stors ⟨rfl, rfl, trivial⟩) rfl) ?_;refine JO.s01 rfl rfl rfl (o_alloc rfl za92 al92) trivial fun b13 => ?_;refine JO.n11 rfl rfl (o_store rfl sz92 trivial rfl rfl) ⟨rfl, rfl, trivial⟩ ?_;refine nt ?_;refine sr ?_;refine fr 1 ?_;refine ka (o_load_obj rfl sz26 (nfn) rfl) ?_;refine mq ?_;refine fr 1 ?_;refine ka (o_load_obj rfl sz92 (nfn) rfl) ?_;obtain ⟨r14, er14, h⟩ := b_bind h;have cr14 := ref_checkStep_ok k a0 a1 (y5.2, y9.2) r14 er14;refine jc (OpT.need (N := [(.tmp 35, .rep tChange a0), (.tmp 36, .rep (.slice tStep) a1), (.tmp 37, .agg (.pair (.eq (.int .i64 y5.2)) (.eq (.int .i64 y9.2))))]) (o_call [.tmp 35, .tmp 36, .tmp 37] rfl rfl en104 rfl cr14) fun _ _ _ hn => ⟨hn.1, hn.2.1, (ent_holds (t := tStep) (x := (y5.2, y9.2)) (.agg (.pair .int .int)) trivial rfl hn.2.2.1), trivial⟩) ?_;refine jb (o_eql rfl) ?_;refine nt ?_;refine ci h (fun h => ?_) (fun h => ?_)
        ·refine JC.drawRW [0, 1, 3, 5, 6, 2, 4, 7, 8, 9, 10] (by kernel_rfl) ?_;refine DW.t00 rfl rfl rfl (o_move rfl) ⟨rfl, trivial⟩ ?_;refine DW.t11 1 rfl rfl rfl rfl (o_load_obj rfl sz26 (nfn) rfl) ⟨rfl, trivial⟩ ?_;refine DW.t00 rfl rfl rfl (o_move rfl) ⟨rfl, trivial⟩ ?_;refine DW.t11 0 rfl rfl rfl rfl (o_load_obj rfl sz92 (nfn) rfl) ⟨rfl, trivial⟩ ?_;refine DW.t00 rfl rfl rfl (o_litB (t := tStep) [(.tmp 45, _)] [(y5.2, y9.2)] rfl rfl sl34 (.cons trivial (.agg (.pair .int .int)) .nil) rfl rfl) ⟨rfl, trivial⟩ ?_;refine DW.tNew (fun v => [.sl v 92 tStep ([] : (List dStep))]) (fun _ => rfl) rfl rfl rfl (o_litB_own (t := tStep) [] ([] : (List dStep)) rfl rfl sl34 .nil rfl rfl) trivial ?_;refine DW.fin 6 [false, false, true, false, false, true] [44, 47, 48] [1, 0] [.obj b1 26 (.rep tChange a0), .obj b13 92 (.agg (.pair (.eq (.int .i64 y5.2)) (.eq (.int .i64 y9.2))))] rfl (by kernel_rfl) (by kernel_rfl) (by kernel_rfl) mixed (fun vs hv hB => ?_);obtain ⟨w0, vs1, rfl, hv1⟩ := len_cons hv;obtain ⟨w1, vs2, rfl, hv2⟩ := len_cons hv1;obtain ⟨w2, vs3, rfl, hv3⟩ := len_cons hv2;obtain ⟨w3, vs4, rfl, hv4⟩ := len_cons hv3;obtain ⟨w4, vs5, rfl, hv5⟩ := len_cons hv4;obtain ⟨v15, vs6, rfl, hv6⟩ := len_cons hv5;obtain rfl := len_nil hv6;refine ⟨[1, 0, 2, 3], [.sl z10 34 (.slice tStep) y9.1, .sl v15 92 tStep ([] : (List dStep))], by kernel_rfl, by decide, ?_⟩;obtain ⟨u16, eu16, h⟩ := b_bind h;refine JT.front 1 rfl ?_;refine JT.y1x rfl rfl rfl rfl (o_append rfl rfl sl34 (chkP_some eu16)) ⟨rfl, rfl, trivial⟩ (by kernel_rfl) fun v17 => ?_;obtain ⟨u18, eu18, h⟩ := b_bind h;refine JT.y1x rfl rfl rfl rfl (o_append rfl rfl sl34 (chkP_some eu18)) ⟨rfl, rfl, trivial⟩ (by kernel_rfl) fun v19 => ?_;obtain ⟨r20, er20, h⟩ := b_bind h;have cr20 := ih a0 ((([] : (List dStep)) ++ a1) ++ [(y5.2, y9.2)]) r20 er20;refine JT.y (Δu := [_]) rfl rfl rfl rfl (OpT.eat (N := [(.tmp 41, .rep tChange a0), (.tmp 47, .eq v19)]) (o_call [.tmp 41, .tmp 47] rfl rfl en118 rfl cr20) (fun _ _ _ hv hn => ⟨hn.1, (lend hn.2.1 hv), trivial⟩)) ⟨rfl, rfl, trivial⟩ (by kernel_rfl) fun _ => ?_;refine JT.all (by kernel_rfl) ?_;obtain ⟨u21, eu21, h⟩ := b_bind h;refine fr 2 ?_;refine JO.s1x rfl rfl rfl (o_append rfl rfl sl41 (chkP_some eu21)) ⟨rfl, rfl, trivial⟩ fun v22 => ?_;refine aq ?_;refine JO.nil ?_;refine JN.blk_n ?_;refine JN.then_n ?_;exact JN.z (v22, y9.1 ++ r20) h (SE.fin [1, 0] ⟨rfl, rfl, rfl, rfl, rfl, rfl, trivial⟩ rfl)
        ·refine JC.skip ?_;refine JN.blk_n ?_;refine JN.then_n ?_;exact JN.z (z10, y9.1) h (SE.fin [1, 2] ⟨rfl, rfl, rfl, rfl, rfl, rfl, trivial⟩ rfl)
       ·refine JC.region ?_;refine mq ?_;obtain ⟨x23, ex23, h⟩ := b_bind h;refine jb (o_add rfl ex23) ?_;refine aq ?_;refine JO.nil ?_;refine JN.then_n ?_;exact JN.z (z12, (x11, x23)) h (SE.fin [0, 1] ⟨rfl, rfl, rfl, rfl, rfl, rfl, trivial⟩ rfl)
      ·refine JC.exit ?_;refine JN.then_x ?_;refine JN.then_x ?_;refine JN.blk_hit ?_;refine JN.blk_n ?_;refine JN.then_n ?_;exact JN.z (z10, y9.1) h (SE.fin [0, 1] ⟨rfl, rfl, rfl, rfl, rfl, trivial⟩ rfl)
     ·refine JC.region ?_;refine mq ?_;obtain ⟨x24, ex24, h⟩ := b_bind h;refine jb (o_add rfl ex24) ?_;refine aq ?_;refine JO.nil ?_;refine JN.then_n ?_;exact JN.z (z8, (x7, x24)) h (SE.fin [0, 1] ⟨rfl, rfl, rfl, rfl, rfl, trivial⟩ rfl)
    ·refine JC.exit ?_;refine JN.then_x ?_;refine JN.then_x ?_;refine JN.blk_hit ?_;refine JN.then_n ?_;exact JN.z (z6, y5.1) h (SE.fin [1] ⟨rfl, trivial⟩ rfl)
   ·refine sr ?_;refine mq ?_;refine aq ?_;refine nt ?_;refine JC.ret ?_;refine JN.se (SE.frz [4, 6, 50] ⟨rfl, rfl, rfl, trivial⟩) ?_;obtain rfl := Option.some.inj h;exact JN.ret () [_] 0 ⟨rfl, trivial⟩ rfl


def ref_Plans (k : Nat) (a0 : dChange) : Option (List (List dStep)) :=
 (ref_plans k k a0 ([] : (List dStep))).bind fun r2 =>
 some r2

theorem ref_Plans_ok (k : Nat) (a0 : dChange) (r : (List (List dStep))) (h : ref_Plans k a0 = some r) :
 Ctr Tryz.prog 99 [.rep tChange a0] [] (fun _ : Unit => (resA [.rep (.slice (.slice tStep)) r], [])) := by
 unfold ref_Plans at h;replace h := b_top h;refine Ctr.of 5 Tryz.func99 rfl Tryz.ntmps99 rfl fun S w0 => ?_;refine sr ?_;refine JO.s01 rfl rfl rfl (o_box rfl rfl) ⟨rfl, trivial⟩ fun b1 => ?_;refine cq ?_;refine nt ?_;refine sr ?_;refine ka (o_load_obj rfl sz26 (nfn) rfl) ?_;obtain ⟨r2, er2, h⟩ := b_bind h;have cr2 := ref_plans_ok k k a0 ([] : (List dStep)) r2 er2;refine jb (OpT.need (N := [(.tmp 3, .rep tChange a0), (.const (.slice none 0 0), .eq (.slice none 0 0))]) (o_call [.tmp 3, .const (.slice none 0 0)] rfl rfl en118 rfl cr2) fun _ _ _ hn => ⟨hn.1, (ent_holds (t := (.slice tStep)) (x := ([] : (List dStep))) .nil rfl rfl hn.2.1), trivial⟩) ?_;refine aq ?_;refine nt ?_;refine JC.ret ?_;obtain rfl := Option.some.inj h;exact JN.ret () [_] 0 ⟨rfl, trivial⟩ rfl


def ref_fewest_l1 (k : Nat) (a0 : dChange) (r2 : (List (List dStep))) : Nat → (Int × Int × Int) → Option (Int × Int)
 | 0, _ => none
 | n + 1, y7 =>
  if y7.2.2 < (r2.length : Int) then ((((geti r2 y7.2.2).bind fun x11 =>
  (ref_bars k a0 x11).bind fun r12 =>
  if r12 < y7.2.1 then (some (y7.2.2, r12)) else (some (y7.1, y7.2.1))) : Option (Int × Int)).bind fun x9 =>
  (ck (y7.2.2 + (1 : Int))).bind fun x13 =>
  ref_fewest_l1 k a0 r2 n (x9.1, x9.2, x13)) else (some (y7.1, y7.2.1))
def ref_fewest (k : Nat) (a0 : dChange) : Option ((List dStep) × Int × Bool) :=
 (ref_Plans k a0).bind fun r2 =>
 if (r2.length : Int) = (0 : Int) then (some ([], (0 : Int), false)) else ((geti r2 (0 : Int)).bind fun x3 =>
 (ref_bars k a0 x3).bind fun r4 =>
 ((ref_fewest_l1 k a0 r2 k ((0 : Int), r4, (0 : Int))) : Option (Int × Int)).bind fun x5 =>
 (geti r2 x5.1).bind fun x14 =>
 some (x14, x5.2, true))

theorem ref_fewest_ok (k : Nat) (a0 : dChange) (r : (List dStep) × Int × Bool) (h : ref_fewest k a0 = some r) :
 Ctr Tryz.prog 54 [.rep tChange a0] [] (fun _ : Unit => (resA [.rep (.slice tStep) r.1, .eq (.int .i64 r.2.1), .eq (.bool r.2.2)], [])) := by
 unfold ref_fewest at h;replace h := b_top h;refine Ctr.of 42 Tryz.func54 rfl Tryz.ntmps54 rfl fun S w0 => ?_;refine sr ?_;refine JO.s01 rfl rfl rfl (o_box rfl rfl) ⟨rfl, trivial⟩ fun b1 => ?_;refine cq ?_;refine cq ?_;refine cq ?_;refine nt ?_;refine sr ?_;refine ka (o_load_obj rfl sz26 (nfn) rfl) ?_;obtain ⟨r2, er2, h⟩ := b_bind h;have cr2 := ref_Plans_ok k a0 r2 er2;refine ja (o_call [.tmp 10] rfl rfl en99 rfl cr2) ?_;refine aq ?_;refine nt ?_;refine JC.seq ?_;refine sr ?_;refine mq ?_;refine ja (o_len rfl rfl Tryz.underlying41) ?_;refine jb (o_eql rfl) ?_;refine nt ?_;refine ci h (fun h => ?_) (fun h => ?_)
 ·refine sr ?_;refine cq ?_;refine cq ?_;refine cq ?_;refine nt ?_;refine JC.ret ?_;refine JN.then_r ?_;refine JN.se (SE.ent (t := (.slice tStep)) (x := []) 2 rfl .nil rfl rfl) ?_;obtain rfl := Option.some.inj h;exact JN.ret () [_, _, _] 0 ⟨rfl, rfl, rfl, trivial⟩ rfl
 ·refine sk ?_;refine JC.seq ?_;refine JC.drawN ?_;refine ea 0 (o_load_obj rfl sz26 (nfn) rfl) ?_;refine dm ?_;obtain ⟨x3, ex3, h⟩ := b_bind h;refine db (o_index (t := (.slice tStep)) rfl Tryz.underlying41 sz34 ex3) ?_;refine da (o_load_at (t := (.slice tStep)) rfl sz34 rfl) ?_;refine DN.fin (by kernel_rfl) mixed ?_;obtain ⟨r4, er4, h⟩ := b_bind h;have cr4 := ref_bars_ok k a0 x3 r4 er4;refine jb (o_call [.tmp 15, .tmp 18] rfl rfl en73 rfl cr4) ?_;refine cq ?_;refine aq ?_;refine nt ?_;refine JC.cutB (Z := Unit) (α := Int × Int) (fun z6 x5 => [(5, .rep (.slice (.slice tStep)) r2), (6, .eq (.int .i64 x5.1)), (7, .eq (.int .i64 x5.2))]) (fun z6 x5 => []) h (fun K h => ?_) (fun z6 x5 h => ?_)
  ·refine sr ?_;refine cq ?_;refine nt ?_;refine JC.block ?_;refine JC.loopB (Z := Unit) (α := Int × Int × Int) (fun z8 y7 => [(1, .eq (.pointer (some ⟨b1, 0, none⟩))), (5, .rep (.slice (.slice tStep)) r2), (6, .eq (.int .i64 y7.1)), (7, .eq (.int .i64 y7.2.1)), (8, .eq (.int .i64 y7.2.2))]) (fun z8 y7 => [.obj b1 26 (.rep tChange a0)]) (ref_fewest_l1 k a0 r2) k () ((0 : Int), r4, (0 : Int)) (fun _ => rfl) h (SE.fin [0] ⟨rfl, rfl, rfl, rfl, rfl, trivial⟩ rfl) (fun n z8 y7 h => ?_);unfold ref_fewest_l1 at h;refine JC.seq ?_;refine sr ?_;iterate 2 refine mq ?_
   refine ja (o_len rfl rfl Tryz.underlying41) ?_;refine jb (o_lss rfl) ?_;refine nt ?_;refine ci h (fun h => ?_) (fun h => ?_)
   ·refine sk ?_;refine JC.cutB (Z := Unit) (α := Int × Int) (fun z10 x9 => [(1, .eq (.pointer (some ⟨b1, 0, none⟩))), (5, .rep (.slice (.slice tStep)) r2), (6, .eq (.int .i64 x9.1)), (7, .eq (.int .i64 x9.2)), (8, .eq (.int .i64 y7.2.2))]) (fun z10 x9 => [.obj b1 26 (.rep tChange a0)]) h (fun K h => ?_) (fun z10 x9 h => ?_)
    ·refine JC.block ?_;refine JC.seq ?_;refine JC.drawN ?_;refine ea 0 (o_load_obj rfl sz26 (nfn) rfl) ?_;refine dm ?_;refine dm ?_;obtain ⟨x11, ex11, h⟩ := b_bind h;refine db (o_index (t := (.slice tStep)) rfl Tryz.underlying41 sz34 ex11) ?_;refine da (o_load_at (t := (.slice tStep)) rfl sz34 rfl) ?_;refine DN.fin (by kernel_rfl) mixed ?_;obtain ⟨r12, er12, h⟩ := b_bind h;have cr12 := ref_bars_ok k a0 x11 r12 er12;refine jb (o_call [.tmp 26, .tmp 30] rfl rfl en73 rfl cr12) ?_;refine aq ?_;refine nt ?_;refine sr ?_;iterate 2 refine mq ?_
     refine jb (o_lss rfl) ?_;refine nt ?_;refine ci h (fun h => ?_) (fun h => ?_)
     ·refine JC.region ?_;iterate 2 refine mq ?_
      refine aq ?_;refine aq ?_;refine JO.nil ?_;refine JN.blk_n ?_;refine JN.then_n ?_;exact JN.z ((), (y7.2.2, r12)) h (SE.fin [0] ⟨rfl, rfl, rfl, rfl, rfl, trivial⟩ rfl)
     ·refine JC.skip ?_;refine JN.blk_n ?_;refine JN.then_n ?_;exact JN.z ((), (y7.1, y7.2.1)) h (SE.fin [0] ⟨rfl, rfl, rfl, rfl, rfl, trivial⟩ rfl)
    ·refine JC.region ?_;refine mq ?_;obtain ⟨x13, ex13, h⟩ := b_bind h;refine jb (o_add rfl ex13) ?_;refine aq ?_;refine JO.nil ?_;refine JN.then_n ?_;exact JN.z ((), (x9.1, x9.2, x13)) h (SE.fin [0] ⟨rfl, rfl, rfl, rfl, rfl, trivial⟩ rfl)
   ·refine JC.exit ?_;refine JN.then_x ?_;refine JN.then_x ?_;refine JN.blk_hit ?_;refine JN.then_n ?_;exact JN.z ((), (y7.1, y7.2.1)) h (SE.fin [] ⟨rfl, rfl, rfl, trivial⟩ rfl)
  ·refine sr ?_;iterate 2 refine mq ?_
   obtain ⟨x14, ex14, h⟩ := b_bind h;refine jb (o_index (t := (.slice tStep)) rfl Tryz.underlying41 sz34 ex14) ?_;refine ja (o_load_at (t := (.slice tStep)) rfl sz34 rfl) ?_;refine mq ?_;refine aq ?_;refine aq ?_;refine cq ?_;refine nt ?_;refine JC.ret ?_;obtain rfl := Option.some.inj h;exact JN.ret () [_, _, _] 0 ⟨rfl, rfl, rfl, trivial⟩ rfl


def ref_Fewest (k : Nat) (a0 : dChange) : Option ((List dStep) × Int × Int) :=
 (ref_asked k a0).bind fun r2 =>
 if ¬ (r2 = (0 : Int)) then (some ([], (0 : Int), r2)) else ((ref_fewest k a0).bind fun r3 =>
 if ¬ (r3.2.2 = true) then (some ([], (0 : Int), (11 : Int))) else (some (r3.1, r3.2.1, (0 : Int))))

theorem ref_Fewest_ok (k : Nat) (a0 : dChange) (r : (List dStep) × Int × Int) (h : ref_Fewest k a0 = some r) :
 Ctr Tryz.prog 15 [.rep tChange a0] [] (fun _ : Unit => (resA [.rep (.slice tStep) r.1, .eq (.int .i64 r.2.1), .eq (.int .i64 r.2.2)], [])) := by
 unfold ref_Fewest at h;replace h := b_top h;refine Ctr.of 24 Tryz.func15 rfl Tryz.ntmps15 rfl fun S w0 => ?_;refine sr ?_;refine JO.s01 rfl rfl rfl (o_box rfl rfl) ⟨rfl, trivial⟩ fun b1 => ?_;refine cq ?_;refine cq ?_;refine cq ?_;refine nt ?_;refine JC.seq ?_;refine sr ?_;refine ka (o_load_obj rfl sz26 (nfn) rfl) ?_;obtain ⟨r2, er2, h⟩ := b_bind h;have cr2 := ref_asked_ok k a0 r2 er2;refine ja (o_call [.tmp 9] rfl rfl en53 rfl cr2) ?_;refine aq ?_;refine nt ?_;refine sr ?_;refine mq ?_;refine jb (o_neq rfl) ?_;refine nt ?_;refine cn h (fun h => ?_) (fun h => ?_)
 ·refine sr ?_;refine mq ?_;refine cq ?_;refine cq ?_;refine aq ?_;refine nt ?_;refine JC.ret ?_;refine JN.then_r ?_;refine JN.se (SE.ent (t := (.slice tStep)) (x := []) 2 rfl .nil rfl rfl) ?_;obtain rfl := Option.some.inj h;exact JN.ret () [_, _, _] 0 ⟨rfl, rfl, rfl, trivial⟩ rfl
 ·refine sk ?_;refine sr ?_;refine ka (o_load_obj rfl sz26 (nfn) rfl) ?_;obtain ⟨r3, er3, h⟩ := b_bind h;have cr3 := ref_fewest_ok k a0 r3 er3;refine ja (o_call [.tmp 15] rfl rfl en54 rfl cr3) ?_;refine mq ?_;refine ja (o_extract rfl rfl) ?_;refine ja (o_extract rfl rfl) ?_;refine ja (o_extract rfl rfl) ?_;refine aq ?_;refine aq ?_;refine aq ?_;refine nt ?_;refine JC.seq ?_;refine sr ?_;refine mq ?_;refine ja (o_not rfl) ?_;refine nt ?_;refine cw h (fun h => ?_) (fun h => ?_)
  ·refine sr ?_;refine cq ?_;refine cq ?_;refine cq ?_;refine nt ?_;refine JC.ret ?_;refine JN.then_r ?_;refine JN.se (SE.ent (t := (.slice tStep)) (x := []) 2 rfl .nil rfl rfl) ?_;obtain rfl := Option.some.inj h;exact JN.ret () [_, _, _] 0 ⟨rfl, rfl, rfl, trivial⟩ rfl
  ·refine sk ?_;refine sr ?_;iterate 2 refine mq ?_
   refine aq ?_;refine aq ?_;refine cq ?_;refine nt ?_;refine JC.ret ?_;obtain rfl := Option.some.inj h;exact JN.ret () [_, _, _] 0 ⟨rfl, rfl, rfl, trivial⟩ rfl


def kit_SameChanges_l1 (k : Nat) (a0 : dChange) (a1 : dChange) : Nat → Int → Option (Except Bool Unit)
 | 0, _ => none
 | n + 1, y9 =>
  if y9 < (a0.1.length : Int) then ((geti a0.1 y9).bind fun x11 =>
  (geti a1.1 y9).bind fun x12 =>
  (((kit_SameInts k x11.1 x12.1).bind fun r17 =>
  if ¬ (r17 = true) then (some true) else (if ¬ (x11.2.1 = x12.2.1) then (some true) else (if ¬ (x11.2.2.1 = x12.2.2.1) then (some true) else (if ¬ (x11.2.2.2.1 = x12.2.2.2.1) then (some true) else (some (!decide (x11.2.2.2.2 = x12.2.2.2.2))))))) : Option (Bool)).bind fun x15 =>
  if x15 = true then (some (.error false)) else ((ck (y9 + (1 : Int))).bind fun x18 =>
  kit_SameChanges_l1 k a0 a1 n x18)) else (some (.ok ()))

def kit_SameChanges_l2 (k : Nat) (a0 : dChange) (a1 : dChange) : Nat → Int → Option (Except Bool Unit)
 | 0, _ => none
 | n + 1, y21 =>
  if y21 < (a0.2.1.length : Int) then ((geti a0.2.1 y21).bind fun x23 =>
  (geti a1.2.1 y21).bind fun x24 =>
  (((kit_SameInts k x23.1 x24.1).bind fun r29 =>
  if ¬ (r29 = true) then (some true) else (if ¬ (x23.2.1 = x24.2.1) then (some true) else (some (!decide (x23.2.2 = x24.2.2))))) : Option (Bool)).bind fun x27 =>
  if x27 = true then (some (.error false)) else ((ck (y21 + (1 : Int))).bind fun x30 =>
  kit_SameChanges_l2 k a0 a1 n x30)) else (some (.ok ()))
def kit_SameChanges (k : Nat) (a0 : dChange) (a1 : dChange) : Option Bool :=
 (((kit_SameInts k a0.2.2.1 a1.2.2.1).bind fun r5 =>
 if ¬ (r5 = true) then (some true) else ((kit_SameInts k a0.2.2.2 a1.2.2.2).bind fun r6 =>
 if ¬ (r6 = true) then (some true) else (if ¬ ((a0.1.length : Int) = (a1.1.length : Int)) then (some true) else (some (!decide ((a0.2.1.length : Int) = (a1.2.1.length : Int))))))) : Option (Bool)).bind fun x3 =>
 if x3 = true then (some false) else (bE (α := Unit) (kit_SameChanges_l1 k a0 a1 k (0 : Int)) (some) fun _ =>
 bE (α := Unit) (kit_SameChanges_l2 k a0 a1 k (0 : Int)) (some) fun _ =>
 some true)

theorem kit_SameChanges_ok (k : Nat) (a0 : dChange) (a1 : dChange) (r : Bool) (h : kit_SameChanges k a0 a1 = some r) :
 Ctr Tryz.prog 17 [.rep tChange a0, .rep tChange a1] [] (fun _ : Unit => (resA [.eq (.bool r)], [])) := by
 unfold kit_SameChanges at h;replace h := b_top h;refine Ctr.of 131 Tryz.func17 rfl Tryz.ntmps17 rfl fun S w0 => ?_;refine sr ?_;refine JO.s01 rfl rfl rfl (o_box rfl rfl) ⟨rfl, trivial⟩ fun b1 => ?_;refine JO.s01 rfl rfl rfl (o_box rfl rfl) ⟨rfl, trivial⟩ fun b2 => ?_;refine cq ?_;refine nt ?_;refine JC.seq ?_;refine JC.cutB (Z := Unit) (α := Bool) (fun z4 x3 => [(2, .eq (.pointer (some ⟨b1, 0, none⟩))), (3, .eq (.pointer (some ⟨b2, 0, none⟩))), (42, .eq (.bool x3))]) (fun z4 x3 => [.obj b1 26 (.rep tChange a0), .obj b2 26 (.rep tChange a1)]) h (fun K h => ?_) (fun z4 x3 h => ?_)
 ·refine JC.region ?_;refine ja (o_field_obj rfl fo26_2) ?_;refine fr 1 ?_;refine ka (o_load_obj rfl sz24 (fun _ => rfl) rfl) ?_;refine ja (o_field_obj rfl fo26_2) ?_;refine fr 1 ?_;refine ka (o_load_obj rfl sz24 (fun _ => rfl) rfl) ?_;obtain ⟨r5, er5, h⟩ := b_bind h;have cr5 := kit_SameInts_ok k a0.2.2.1 a1.2.2.1 r5 er5;refine jb (o_call [.tmp 12, .tmp 14] rfl rfl en22 rfl cr5) ?_;refine ja (o_not rfl) ?_;refine mq ?_;refine JO.bool (s := 17) rfl (fun hb => ?_) (fun hb => ?_)
  ·replace h := b_if (nv_t hb) h;iterate 6 refine gn ?_
   refine pt ?_;refine mq ?_;iterate 7 refine gn ?_
   refine pt ?_;refine mq ?_;iterate 7 refine gn ?_
   refine pt ?_;refine JO.nil ?_;refine JN.then_n ?_;exact JN.z ((), true) h (SE.fin [1, 0] ⟨rfl, rfl, rfl, trivial⟩ rfl)
  ·replace h := b_ifn (nv_fn hb) h;refine ga (o_field_obj rfl fo26_3) ?_;refine fr 1 ?_;refine JO.g11 rfl rfl rfl rfl rfl rfl (o_load_obj rfl sz24 (fun _ => rfl) rfl) ⟨rfl, trivial⟩ ?_;refine ga (o_field_obj rfl fo26_3) ?_;refine fr 1 ?_;refine JO.g11 rfl rfl rfl rfl rfl rfl (o_load_obj rfl sz24 (fun _ => rfl) rfl) ⟨rfl, trivial⟩ ?_;obtain ⟨r6, er6, h⟩ := b_bind h;have cr6 := kit_SameInts_ok k a0.2.2.2 a1.2.2.2 r6 er6;refine gb (o_call [.tmp 19, .tmp 21] rfl rfl en22 rfl cr6) ?_;refine ga (o_not rfl) ?_;refine pf ?_;refine mq ?_;refine JO.bool (s := 25) rfl (fun hb => ?_) (fun hb => ?_)
   ·replace h := b_if (nv_t hb) h;iterate 7 refine gn ?_
    refine pt ?_;refine mq ?_;iterate 7 refine gn ?_
    refine pt ?_;refine JO.nil ?_;refine JN.then_n ?_;exact JN.z ((), true) h (SE.fin [1, 0] ⟨rfl, rfl, rfl, trivial⟩ rfl)
   ·replace h := b_ifn (nv_fn hb) h;refine ga (o_field_obj rfl fo26_0) ?_;refine fr 1 ?_;refine JO.g11 rfl rfl rfl rfl rfl rfl (o_load_obj rfl sz22 (fun _ => rfl) rfl) ⟨rfl, trivial⟩ ?_;refine ga (o_len rfl rfl Tryz.underlying22) ?_;refine ga (o_field_obj rfl fo26_0) ?_;refine fr 1 ?_;refine JO.g11 rfl rfl rfl rfl rfl rfl (o_load_obj rfl sz22 (fun _ => rfl) rfl) ⟨rfl, trivial⟩ ?_;refine ga (o_len rfl rfl Tryz.underlying22) ?_;refine gb (o_neq rfl) ?_;refine pf ?_;refine mq ?_;refine JO.bool (s := 34) rfl (fun hb => ?_) (fun hb => ?_)
    ·replace h := b_if (n_t hb) h;iterate 7 refine gn ?_
     refine pt ?_;refine JO.nil ?_;refine JN.then_n ?_;exact JN.z ((), true) h (SE.fin [1, 0] ⟨rfl, rfl, rfl, trivial⟩ rfl)
    ·replace h := b_ifn (n_fn hb) h;refine ga (o_field_obj rfl fo26_1) ?_;refine fr 1 ?_;refine JO.g11 rfl rfl rfl rfl rfl rfl (o_load_obj rfl sz23 (fun _ => rfl) rfl) ⟨rfl, trivial⟩ ?_;refine ga (o_len rfl rfl Tryz.underlying23) ?_;refine ga (o_field_obj rfl fo26_1) ?_;refine fr 1 ?_;refine JO.g11 rfl rfl rfl rfl rfl rfl (o_load_obj rfl sz23 (fun _ => rfl) rfl) ⟨rfl, trivial⟩ ?_;refine ga (o_len rfl rfl Tryz.underlying23) ?_;refine gb (o_neq rfl) ?_;refine pf ?_;refine JO.nil ?_;refine JN.then_n ?_;exact JN.z ((), !decide ((a0.2.1.length : Int) = (a1.2.1.length : Int))) h (SE.fin [1, 0] ⟨rfl, rfl, rfl, trivial⟩ rfl)
 ·refine cv h (fun h => ?_) (fun h => ?_)
  ·refine sr ?_;refine cq ?_;refine nt ?_;refine JC.ret ?_;refine JN.then_r ?_;obtain rfl := Option.some.inj h;exact JN.ret () [_] 0 ⟨rfl, trivial⟩ rfl
  ·refine sk ?_;refine JC.cutE (Z := Unit) (α := Unit) (fun z8 x7 => [(2, .eq (.pointer (some ⟨b1, 0, none⟩))), (3, .eq (.pointer (some ⟨b2, 0, none⟩)))]) (fun z8 x7 => [.obj b1 26 (.rep tChange a0), .obj b2 26 (.rep tChange a1)]) (fun e => e = r) h (fun e h => Option.some.inj h) (fun K hR h => ?_) (fun z8 x7 h => ?_)
   ·refine sr ?_;refine cq ?_;refine nt ?_;refine JC.block ?_;refine JC.loopB (Z := Unit) (α := Int) (fun z10 y9 => [(2, .eq (.pointer (some ⟨b1, 0, none⟩))), (3, .eq (.pointer (some ⟨b2, 0, none⟩))), (5, .eq (.int .i64 y9))]) (fun z10 y9 => [.obj b1 26 (.rep tChange a0), .obj b2 26 (.rep tChange a1)]) (kit_SameChanges_l1 k a0 a1) k () (0 : Int) (fun _ => rfl) h (SE.fin [0, 1] ⟨rfl, rfl, rfl, trivial⟩ rfl) (fun n z10 y9 h => ?_);unfold kit_SameChanges_l1 at h;refine JC.seq ?_;refine sr ?_;refine mq ?_;refine ja (o_field_obj rfl fo26_0) ?_;refine ka (o_load_obj rfl sz22 (fun _ => rfl) rfl) ?_;refine ja (o_len rfl rfl Tryz.underlying22) ?_;refine jb (o_lss rfl) ?_;refine nt ?_;refine ci h (fun h => ?_) (fun h => ?_)
    ·refine sk ?_;refine JC.seq ?_;refine JC.block ?_;refine JC.seq ?_;refine JC.drawW ?_;refine DW.t00 rfl rfl rfl (o_field_obj rfl fo26_0) ⟨rfl, trivial⟩ ?_;refine DW.t11 0 rfl rfl rfl rfl (o_load_obj rfl sz22 (fun _ => rfl) rfl) ⟨rfl, trivial⟩ ?_;refine DW.t00 rfl rfl rfl (o_move rfl) ⟨rfl, trivial⟩ ?_;obtain ⟨x11, ex11, h⟩ := b_bind h;refine DW.t00 rfl rfl rfl (o_index (t := tThing) rfl Tryz.underlying22 sz74 ex11) ⟨rfl, rfl, trivial⟩ ?_;refine DW.t00 rfl rfl rfl (o_load_at (t := tThing) rfl sz74 rfl) ⟨rfl, trivial⟩ ?_;refine DW.t00 rfl rfl rfl (o_field_obj rfl fo26_0) ⟨rfl, trivial⟩ ?_;refine DW.t11 1 rfl rfl rfl rfl (o_load_obj rfl sz22 (fun _ => rfl) rfl) ⟨rfl, trivial⟩ ?_;refine DW.t00 rfl rfl rfl (o_move rfl) ⟨rfl, trivial⟩ ?_;obtain ⟨x12, ex12, h⟩ := b_bind h;refine DW.t00 rfl rfl rfl (o_index (t := tThing) rfl Tryz.underlying22 sz74 ex12) ⟨rfl, rfl, trivial⟩ ?_;refine DW.t00 rfl rfl rfl (o_load_at (t := tThing) rfl sz74 rfl) ⟨rfl, trivial⟩ ?_;refine DW.tNew (ptrD 74 (.agg (.pair (.eq (.slice none 0 0)) (.pair (.eq (.int .i64 (0 : Int))) (.pair (.eq (.int .i64 (0 : Int))) (.pair (.eq (.int .i64 (0 : Int))) (.eq (.int .i64 (0 : Int))))))))) (fun _ => rfl) rfl rfl rfl (o_alloc rfl za74 al74) trivial ?_;refine DW.tNew (ptrD 74 (.agg (.pair (.eq (.slice none 0 0)) (.pair (.eq (.int .i64 (0 : Int))) (.pair (.eq (.int .i64 (0 : Int))) (.pair (.eq (.int .i64 (0 : Int))) (.eq (.int .i64 (0 : Int))))))))) (fun _ => rfl) rfl rfl rfl (o_alloc rfl za74 al74) trivial ?_;refine DW.fin 12 [true, true, true, true, true, false, false, false, false, false, true, true] [] [1] [.obj b2 26 (.rep tChange a1)] rfl (by kernel_rfl) (by kernel_rfl) (by kernel_rfl) mixed (fun vs hv hB => ?_);obtain ⟨w0, vs1, rfl, hv1⟩ := len_cons hv;obtain ⟨w1, vs2, rfl, hv2⟩ := len_cons hv1;obtain ⟨w2, vs3, rfl, hv3⟩ := len_cons hv2;obtain ⟨w3, vs4, rfl, hv4⟩ := len_cons hv3;obtain ⟨w4, vs5, rfl, hv5⟩ := len_cons hv4;obtain ⟨w5, vs6, rfl, hv6⟩ := len_cons hv5;obtain ⟨w6, vs7, rfl, hv7⟩ := len_cons hv6;obtain ⟨w7, vs8, rfl, hv8⟩ := len_cons hv7;obtain ⟨w8, vs9, rfl, hv9⟩ := len_cons hv8;obtain ⟨w9, vs10, rfl, hv10⟩ := len_cons hv9;obtain ⟨w10, vs11, rfl, hv11⟩ := len_cons hv10;obtain ⟨w11, vs12, rfl, hv12⟩ := len_cons hv11;obtain rfl := len_nil hv12;obtain ⟨b13, rfl⟩ := ptr_of hB.2.2.2.2.2.2.2.2.2.2.1;obtain ⟨b14, rfl⟩ := ptr_of hB.2.2.2.2.2.2.2.2.2.2.2.1;refine ⟨[1, 0, 2, 3], [.obj b1 26 (.rep tChange a0), .obj b13 74 (.agg (.pair (.eq (.slice none 0 0)) (.pair (.eq (.int .i64 (0 : Int))) (.pair (.eq (.int .i64 (0 : Int))) (.pair (.eq (.int .i64 (0 : Int))) (.eq (.int .i64 (0 : Int)))))))), .obj b14 74 (.agg (.pair (.eq (.slice none 0 0)) (.pair (.eq (.int .i64 (0 : Int))) (.pair (.eq (.int .i64 (0 : Int))) (.pair (.eq (.int .i64 (0 : Int))) (.eq (.int .i64 (0 : Int))))))))], by kernel_rfl, by decide, ?_⟩;refine JT.front 1 rfl ?_;refine JT.n11 rfl rfl (o_store rfl sz74 rfl rfl rfl) ⟨rfl, rfl, trivial⟩ (by kernel_rfl) ?_;refine JT.all (by kernel_rfl) ?_;refine fr 3 ?_;refine JO.n11 rfl rfl (o_store rfl sz74 rfl rfl rfl) ⟨rfl, rfl, trivial⟩ ?_;refine nt ?_;refine JC.cutB (Z := Unit) (α := Bool) (fun z16 x15 => [(2, .eq (.pointer (some ⟨b1, 0, none⟩))), (3, .eq (.pointer (some ⟨b2, 0, none⟩))), (5, .eq (.int .i64 y9)), (93, .eq (.bool x15))]) (fun z16 x15 => [.obj b1 26 (.rep tChange a0), .obj b2 26 (.rep tChange a1)]) h (fun K h => ?_) (fun z16 x15 h => ?_)
     ·refine JC.region ?_;refine ja (o_field_obj rfl fo74_0) ?_;refine fr 2 ?_;refine ka (o_load_obj rfl sz24 (fun _ => rfl) rfl) ?_;refine ja (o_field_obj rfl fo74_0) ?_;refine fr 1 ?_;refine ka (o_load_obj rfl sz24 (fun _ => rfl) rfl) ?_;obtain ⟨r17, er17, h⟩ := b_bind h;have cr17 := kit_SameInts_ok k x11.1 x12.1 r17 er17;refine jb (o_call [.tmp 61, .tmp 63] rfl rfl en22 rfl cr17) ?_;refine ja (o_not rfl) ?_;refine mq ?_;refine JO.bool (s := 66) rfl (fun hb => ?_) (fun hb => ?_)
      ·replace h := b_if (nv_t hb) h;iterate 5 refine gn ?_
       refine pt ?_;refine mq ?_;iterate 5 refine gn ?_
       refine pt ?_;refine mq ?_;iterate 5 refine gn ?_
       refine pt ?_;refine mq ?_;iterate 5 refine gn ?_
       refine pt ?_;refine JO.nil ?_;refine JN.then_n ?_;exact JN.z ((), true) h (SE.fin [3, 2] ⟨rfl, rfl, rfl, rfl, trivial⟩ rfl)
      ·replace h := b_ifn (nv_fn hb) h;refine ga (o_field_obj rfl fo74_1) ?_;refine fr 1 ?_;refine JO.g11 rfl rfl rfl rfl rfl rfl (o_load_obj rfl sz3 (fun _ => rfl) rfl) ⟨rfl, trivial⟩ ?_;refine ga (o_field_obj rfl fo74_1) ?_;refine fr 1 ?_;refine JO.g11 rfl rfl rfl rfl rfl rfl (o_load_obj rfl sz3 (fun _ => rfl) rfl) ⟨rfl, trivial⟩ ?_;refine gb (o_neq rfl) ?_;refine pf ?_;refine mq ?_;refine JO.bool (s := 73) rfl (fun hb => ?_) (fun hb => ?_)
       ·replace h := b_if (n_t hb) h;iterate 5 refine gn ?_
        refine pt ?_;refine mq ?_;iterate 5 refine gn ?_
        refine pt ?_;refine mq ?_;iterate 5 refine gn ?_
        refine pt ?_;refine JO.nil ?_;refine JN.then_n ?_;exact JN.z ((), true) h (SE.fin [3, 2] ⟨rfl, rfl, rfl, rfl, trivial⟩ rfl)
       ·replace h := b_ifn (n_fn hb) h;refine ga (o_field_obj rfl fo74_2) ?_;refine fr 1 ?_;refine JO.g11 rfl rfl rfl rfl rfl rfl (o_load_obj rfl sz3 (fun _ => rfl) rfl) ⟨rfl, trivial⟩ ?_;refine ga (o_field_obj rfl fo74_2) ?_;refine fr 1 ?_;refine JO.g11 rfl rfl rfl rfl rfl rfl (o_load_obj rfl sz3 (fun _ => rfl) rfl) ⟨rfl, trivial⟩ ?_;refine gb (o_neq rfl) ?_;refine pf ?_;refine mq ?_;refine JO.bool (s := 80) rfl (fun hb => ?_) (fun hb => ?_)
        ·replace h := b_if (n_t hb) h;iterate 5 refine gn ?_
         refine pt ?_;refine mq ?_;iterate 5 refine gn ?_
         refine pt ?_;refine JO.nil ?_;refine JN.then_n ?_;exact JN.z ((), true) h (SE.fin [3, 2] ⟨rfl, rfl, rfl, rfl, trivial⟩ rfl)
        ·replace h := b_ifn (n_fn hb) h;refine ga (o_field_obj rfl fo74_3) ?_;refine fr 1 ?_;refine JO.g11 rfl rfl rfl rfl rfl rfl (o_load_obj rfl sz3 (fun _ => rfl) rfl) ⟨rfl, trivial⟩ ?_;refine ga (o_field_obj rfl fo74_3) ?_;refine fr 1 ?_;refine JO.g11 rfl rfl rfl rfl rfl rfl (o_load_obj rfl sz3 (fun _ => rfl) rfl) ⟨rfl, trivial⟩ ?_;refine gb (o_neq rfl) ?_;refine pf ?_;refine mq ?_;refine JO.bool (s := 87) rfl (fun hb => ?_) (fun hb => ?_)
         ·replace h := b_if (n_t hb) h;iterate 5 refine gn ?_
          refine pt ?_;refine JO.nil ?_;refine JN.then_n ?_;exact JN.z ((), true) h (SE.fin [3, 2] ⟨rfl, rfl, rfl, rfl, trivial⟩ rfl)
         ·replace h := b_ifn (n_fn hb) h;refine ga (o_field_obj rfl fo74_4) ?_;refine fr 1 ?_;refine JO.g11 rfl rfl rfl rfl rfl rfl (o_load_obj rfl sz3 (fun _ => rfl) rfl) ⟨rfl, trivial⟩ ?_;refine ga (o_field_obj rfl fo74_4) ?_;refine fr 1 ?_;refine JO.g11 rfl rfl rfl rfl rfl rfl (o_load_obj rfl sz3 (fun _ => rfl) rfl) ⟨rfl, trivial⟩ ?_;refine gb (o_neq rfl) ?_;refine pf ?_;refine JO.nil ?_;refine JN.then_n ?_;exact JN.z ((), !decide (x11.2.2.2.2 = x12.2.2.2.2)) h (SE.fin [3, 2] ⟨rfl, rfl, rfl, rfl, trivial⟩ rfl)
     ·refine cv h (fun h => ?_) (fun h => ?_)
      ·refine sr ?_;refine cq ?_;refine nt ?_;refine JC.ret ?_;refine JN.blk_r ?_;refine JN.then_r ?_;refine JN.then_r ?_;refine JN.blk_r ?_;refine JN.then_r ?_;obtain rfl := hR _ h;exact JN.ret () [_] 0 ⟨rfl, trivial⟩ rfl
      ·refine JC.skip ?_;refine JN.blk_n ?_;refine tn ?_;refine JC.region ?_;refine mq ?_;obtain ⟨x18, ex18, h⟩ := b_bind h;refine jb (o_add rfl ex18) ?_;refine aq ?_;refine JO.nil ?_;refine JN.then_n ?_;exact JN.z ((), x18) h (SE.fin [0, 1] ⟨rfl, rfl, rfl, trivial⟩ rfl)
    ·refine JC.exit ?_;refine JN.then_x ?_;refine JN.then_x ?_;refine JN.blk_hit ?_;refine JN.then_n ?_;exact JN.z ((), ()) h (SE.fin [0, 1] ⟨rfl, rfl, trivial⟩ rfl)
   ·refine JC.cutE (Z := Unit) (α := Unit) (fun z20 x19 => []) (fun z20 x19 => []) (fun e => e = r) h (fun e h => Option.some.inj h) (fun K hR h => ?_) (fun z20 x19 h => ?_)
    ·refine sr ?_;refine cq ?_;refine nt ?_;refine JC.block ?_;refine JC.loopB (Z := Unit) (α := Int) (fun z22 y21 => [(2, .eq (.pointer (some ⟨b1, 0, none⟩))), (3, .eq (.pointer (some ⟨b2, 0, none⟩))), (8, .eq (.int .i64 y21))]) (fun z22 y21 => [.obj b1 26 (.rep tChange a0), .obj b2 26 (.rep tChange a1)]) (kit_SameChanges_l2 k a0 a1) k () (0 : Int) (fun _ => rfl) h (SE.fin [0, 1] ⟨rfl, rfl, rfl, trivial⟩ rfl) (fun n z22 y21 h => ?_);unfold kit_SameChanges_l2 at h;refine JC.seq ?_;refine sr ?_;refine mq ?_;refine ja (o_field_obj rfl fo26_1) ?_;refine ka (o_load_obj rfl sz23 (fun _ => rfl) rfl) ?_;refine ja (o_len rfl rfl Tryz.underlying23) ?_;refine jb (o_lss rfl) ?_;refine nt ?_;refine ci h (fun h => ?_) (fun h => ?_)
     ·refine sk ?_;refine JC.seq ?_;refine JC.block ?_;refine JC.seq ?_;refine JC.drawW ?_;refine DW.t00 rfl rfl rfl (o_field_obj rfl fo26_1) ⟨rfl, trivial⟩ ?_;refine DW.t11 0 rfl rfl rfl rfl (o_load_obj rfl sz23 (fun _ => rfl) rfl) ⟨rfl, trivial⟩ ?_;refine DW.t00 rfl rfl rfl (o_move rfl) ⟨rfl, trivial⟩ ?_;obtain ⟨x23, ex23, h⟩ := b_bind h;refine DW.t00 rfl rfl rfl (o_index (t := tDresser) rfl Tryz.underlying23 sz52 ex23) ⟨rfl, rfl, trivial⟩ ?_;refine DW.t00 rfl rfl rfl (o_load_at (t := tDresser) rfl sz52 rfl) ⟨rfl, trivial⟩ ?_;refine DW.t00 rfl rfl rfl (o_field_obj rfl fo26_1) ⟨rfl, trivial⟩ ?_;refine DW.t11 1 rfl rfl rfl rfl (o_load_obj rfl sz23 (fun _ => rfl) rfl) ⟨rfl, trivial⟩ ?_;refine DW.t00 rfl rfl rfl (o_move rfl) ⟨rfl, trivial⟩ ?_;obtain ⟨x24, ex24, h⟩ := b_bind h;refine DW.t00 rfl rfl rfl (o_index (t := tDresser) rfl Tryz.underlying23 sz52 ex24) ⟨rfl, rfl, trivial⟩ ?_;refine DW.t00 rfl rfl rfl (o_load_at (t := tDresser) rfl sz52 rfl) ⟨rfl, trivial⟩ ?_;refine DW.tNew (ptrD 52 (.agg (.pair (.eq (.slice none 0 0)) (.pair (.eq (.int .i64 (0 : Int))) (.eq (.int .i64 (0 : Int))))))) (fun _ => rfl) rfl rfl rfl (o_alloc rfl za52 al52) trivial ?_;refine DW.tNew (ptrD 52 (.agg (.pair (.eq (.slice none 0 0)) (.pair (.eq (.int .i64 (0 : Int))) (.eq (.int .i64 (0 : Int))))))) (fun _ => rfl) rfl rfl rfl (o_alloc rfl za52 al52) trivial ?_;refine DW.fin 12 [true, true, true, true, true, false, false, false, false, false, true, true] [] [1] [.obj b2 26 (.rep tChange a1)] rfl (by kernel_rfl) (by kernel_rfl) (by kernel_rfl) mixed (fun vs hv hB => ?_);obtain ⟨w0, vs1, rfl, hv1⟩ := len_cons hv;obtain ⟨w1, vs2, rfl, hv2⟩ := len_cons hv1;obtain ⟨w2, vs3, rfl, hv3⟩ := len_cons hv2;obtain ⟨w3, vs4, rfl, hv4⟩ := len_cons hv3;obtain ⟨w4, vs5, rfl, hv5⟩ := len_cons hv4;obtain ⟨w5, vs6, rfl, hv6⟩ := len_cons hv5;obtain ⟨w6, vs7, rfl, hv7⟩ := len_cons hv6;obtain ⟨w7, vs8, rfl, hv8⟩ := len_cons hv7;obtain ⟨w8, vs9, rfl, hv9⟩ := len_cons hv8;obtain ⟨w9, vs10, rfl, hv10⟩ := len_cons hv9;obtain ⟨w10, vs11, rfl, hv11⟩ := len_cons hv10;obtain ⟨w11, vs12, rfl, hv12⟩ := len_cons hv11;obtain rfl := len_nil hv12;obtain ⟨b25, rfl⟩ := ptr_of hB.2.2.2.2.2.2.2.2.2.2.1;obtain ⟨b26, rfl⟩ := ptr_of hB.2.2.2.2.2.2.2.2.2.2.2.1;refine ⟨[1, 0, 2, 3], [.obj b1 26 (.rep tChange a0), .obj b25 52 (.agg (.pair (.eq (.slice none 0 0)) (.pair (.eq (.int .i64 (0 : Int))) (.eq (.int .i64 (0 : Int)))))), .obj b26 52 (.agg (.pair (.eq (.slice none 0 0)) (.pair (.eq (.int .i64 (0 : Int))) (.eq (.int .i64 (0 : Int))))))], by kernel_rfl, by decide, ?_⟩;refine JT.front 1 rfl ?_;refine JT.n11 rfl rfl (o_store rfl sz52 rfl rfl rfl) ⟨rfl, rfl, trivial⟩ (by kernel_rfl) ?_;refine JT.all (by kernel_rfl) ?_;refine fr 3 ?_;refine JO.n11 rfl rfl (o_store rfl sz52 rfl rfl rfl) ⟨rfl, rfl, trivial⟩ ?_;refine nt ?_;refine JC.cutB (Z := Unit) (α := Bool) (fun z28 x27 => [(2, .eq (.pointer (some ⟨b1, 0, none⟩))), (3, .eq (.pointer (some ⟨b2, 0, none⟩))), (8, .eq (.int .i64 y21)), (130, .eq (.bool x27))]) (fun z28 x27 => [.obj b1 26 (.rep tChange a0), .obj b2 26 (.rep tChange a1)]) h (fun K h => ?_) (fun z28 x27 h => ?_)
      ·refine JC.region ?_;refine ja (o_field_obj rfl fo52_0) ?_;refine fr 2 ?_;refine ka (o_load_obj rfl sz24 (fun _ => rfl) rfl) ?_;refine ja (o_field_obj rfl fo52_0) ?_;refine fr 1 ?_;refine ka (o_load_obj rfl sz24 (fun _ => rfl) rfl) ?_;obtain ⟨r29, er29, h⟩ := b_bind h;have cr29 := kit_SameInts_ok k x23.1 x24.1 r29 er29;refine jb (o_call [.tmp 112, .tmp 114] rfl rfl en22 rfl cr29) ?_;refine ja (o_not rfl) ?_;refine mq ?_;refine JO.bool (s := 117) rfl (fun hb => ?_) (fun hb => ?_)
       ·replace h := b_if (nv_t hb) h;iterate 5 refine gn ?_
        refine pt ?_;refine mq ?_;iterate 5 refine gn ?_
        refine pt ?_;refine JO.nil ?_;refine JN.then_n ?_;exact JN.z ((), true) h (SE.fin [3, 2] ⟨rfl, rfl, rfl, rfl, trivial⟩ rfl)
       ·replace h := b_ifn (nv_fn hb) h;refine ga (o_field_obj rfl fo52_1) ?_;refine fr 1 ?_;refine JO.g11 rfl rfl rfl rfl rfl rfl (o_load_obj rfl sz3 (fun _ => rfl) rfl) ⟨rfl, trivial⟩ ?_;refine ga (o_field_obj rfl fo52_1) ?_;refine fr 1 ?_;refine JO.g11 rfl rfl rfl rfl rfl rfl (o_load_obj rfl sz3 (fun _ => rfl) rfl) ⟨rfl, trivial⟩ ?_;refine gb (o_neq rfl) ?_;refine pf ?_;refine mq ?_;refine JO.bool (s := 124) rfl (fun hb => ?_) (fun hb => ?_)
        ·replace h := b_if (n_t hb) h;iterate 5 refine gn ?_
         refine pt ?_;refine JO.nil ?_;refine JN.then_n ?_;exact JN.z ((), true) h (SE.fin [3, 2] ⟨rfl, rfl, rfl, rfl, trivial⟩ rfl)
        ·replace h := b_ifn (n_fn hb) h;refine ga (o_field_obj rfl fo52_2) ?_;refine fr 1 ?_;refine JO.g11 rfl rfl rfl rfl rfl rfl (o_load_obj rfl sz3 (fun _ => rfl) rfl) ⟨rfl, trivial⟩ ?_;refine ga (o_field_obj rfl fo52_2) ?_;refine fr 1 ?_;refine JO.g11 rfl rfl rfl rfl rfl rfl (o_load_obj rfl sz3 (fun _ => rfl) rfl) ⟨rfl, trivial⟩ ?_;refine gb (o_neq rfl) ?_;refine pf ?_;refine JO.nil ?_;refine JN.then_n ?_;exact JN.z ((), !decide (x23.2.2 = x24.2.2)) h (SE.fin [3, 2] ⟨rfl, rfl, rfl, rfl, trivial⟩ rfl)
      ·refine cv h (fun h => ?_) (fun h => ?_)
       ·refine sr ?_;refine cq ?_;refine nt ?_;refine JC.ret ?_;refine JN.blk_r ?_;refine JN.then_r ?_;refine JN.then_r ?_;refine JN.blk_r ?_;refine JN.then_r ?_;obtain rfl := hR _ h;exact JN.ret () [_] 0 ⟨rfl, trivial⟩ rfl
       ·refine JC.skip ?_;refine JN.blk_n ?_;refine tn ?_;refine JC.region ?_;refine mq ?_;obtain ⟨x30, ex30, h⟩ := b_bind h;refine jb (o_add rfl ex30) ?_;refine aq ?_;refine JO.nil ?_;refine JN.then_n ?_;exact JN.z ((), x30) h (SE.fin [0, 1] ⟨rfl, rfl, rfl, trivial⟩ rfl)
     ·refine JC.exit ?_;refine JN.then_x ?_;refine JN.then_x ?_;refine JN.blk_hit ?_;refine JN.then_n ?_;exact JN.z ((), ()) h (SE.fin [] trivial rfl)
    ·refine sr ?_;refine cq ?_;refine nt ?_;refine JC.ret ?_;obtain rfl := Option.some.inj h;exact JN.ret () [_] 0 ⟨rfl, trivial⟩ rfl


def law_ChangeFewests_l1 (k : Nat) (r6 : (List dChange) × dLots) : Nat → Int → Option (Except Bool Unit)
 | 0, _ => none
 | n + 1, y9 =>
  if y9 < (3 : Int) then ((geti r6.1 y9).bind fun x11 =>
  (kit_CopyChange k x11).bind fun r12 =>
  (chg_Fewest k (r12.1, r12.2.1, r12.2.2.1, r12.2.2.2)).bind fun r15 =>
  (geti r6.1 y9).bind fun x16 =>
  (ref_Fewest k x16).bind fun r17 =>
  ((if ¬ (r15.2.1 = r17.2.1) then (some true) else (if ¬ (r15.2.2 = r17.2.2) then (some true) else ((kit_SameSteps k r15.1 r17.1).bind fun r20 =>
  if ¬ (r20 = true) then (some true) else ((geti r6.1 y9).bind fun x21 =>
  (kit_SameChanges k (r12.1, r12.2.1, r12.2.2.1, r12.2.2.2) x21).bind fun r22 =>
  some (!r22))))) : Option (Bool)).bind fun x18 =>
  if x18 = true then (some (.error false)) else ((ck (y9 + (1 : Int))).bind fun x23 =>
  law_ChangeFewests_l1 k r6 n x23)) else (some (.ok ()))
def law_ChangeFewests (k : Nat) (a0 : dChange) (a1 : (List Int)) : Option Bool :=
 (law_long k a0).bind fun r2 =>
 if r2 = true then ((law_dressed k).bind fun r3 =>
 some r3) else ((kit_NewLots k a1).bind fun r4 =>
 (law_sets k a0 (r4.1, r4.2.1, r4.2.2)).bind fun r6 =>
 bE (α := Unit) (law_ChangeFewests_l1 k r6 k (0 : Int)) (some) fun _ =>
 (law_dressed k).bind fun r24 =>
 some r24)

theorem law_ChangeFewests_ok (k : Nat) (a0 : dChange) (a1 : (List Int)) (r : Bool) (h : law_ChangeFewests k a0 a1 = some r) :
 Ctr Tryz.prog 3 [.rep tChange a0, .rep (.slice (.int .i64)) a1] [] (fun _ : Unit => (resA [.eq (.bool r)], [])) := by
 unfold law_ChangeFewests at h;replace h := b_top h;refine Ctr.of 69 Tryz.func3 rfl Tryz.ntmps3 rfl fun S w0 => ?_;refine sr ?_;refine JO.s01 rfl rfl rfl (o_box rfl rfl) ⟨rfl, trivial⟩ fun b1 => ?_;refine cq ?_;refine nt ?_;refine JC.seq ?_;refine sr ?_;refine ka (o_load_obj rfl sz26 (nfn) rfl) ?_;obtain ⟨r2, er2, h⟩ := b_bind h;have cr2 := law_long_ok k a0 r2 er2;refine ja (o_call [.tmp 14] rfl rfl en9 rfl cr2) ?_;refine nt ?_;refine cv h (fun h => ?_) (fun h => ?_)
 ·refine sr ?_;obtain ⟨r3, er3, h⟩ := b_bind h;have cr3 := law_dressed_ok k  r3 er3;refine JO.s rfl (o_call [] rfl rfl en10 rfl cr3) trivial ?_;refine aq ?_;refine nt ?_;refine JC.ret ?_;refine JN.then_r ?_;obtain rfl := Option.some.inj h;exact JN.ret () [_] 0 ⟨rfl, trivial⟩ rfl
 ·refine sk ?_;refine JC.seq ?_;refine JC.drawW ?_;refine DW.t11 0 rfl rfl rfl rfl (o_load_obj rfl sz26 (nfn) rfl) ⟨rfl, trivial⟩ ?_;refine DW.t00 rfl rfl rfl (o_move rfl) ⟨rfl, trivial⟩ ?_;obtain ⟨r4, er4, h⟩ := b_bind h;have cr4 := kit_NewLots_ok k a1 r4 er4;refine DW.tNew (ptrD 79 (.agg (.pair (.rep (.slice (.int .i64)) r4.1) (.pair (.eq (.int .i64 r4.2.1)) (.eq (.int .u64 r4.2.2)))))) (fun _ => rfl) rfl rfl rfl (o_call [.tmp 18] rfl rfl en12 rfl cr4) ⟨rfl, trivial⟩ ?_;refine DW.fin 3 [true, true, true] [5, 20] [] [] rfl (by kernel_rfl) (by kernel_rfl) (by kernel_rfl) mixed (fun vs hv hB => ?_);obtain ⟨w0, vs1, rfl, hv1⟩ := len_cons hv;obtain ⟨w1, vs2, rfl, hv2⟩ := len_cons hv1;obtain ⟨w2, vs3, rfl, hv3⟩ := len_cons hv2;obtain rfl := len_nil hv3;obtain ⟨b5, rfl⟩ := ptr_of hB.2.2.1;refine ⟨[0, 1], [.obj b1 26 (.rep tChange a0), .obj b5 79 (.agg (.pair (.rep (.slice (.int .i64)) r4.1) (.pair (.eq (.int .i64 r4.2.1)) (.eq (.int .u64 r4.2.2)))))], by kernel_rfl, by decide, ?_⟩;obtain ⟨r6, er6, h⟩ := b_bind h;have cr6 := law_sets_ok k a0 (r4.1, r4.2.1, r4.2.2) b5 r6 er6;refine JT.front 1 rfl ?_;refine JT.y11 rfl rfl rfl rfl (o_call [.tmp 17, .tmp 19] rfl rfl en11 rfl cr6) ⟨rfl, rfl, trivial⟩ (by kernel_rfl) ?_;refine JT.y00 rfl rfl rfl rfl (o_assign rfl) ⟨rfl, trivial⟩ (by kernel_rfl) ?_;refine JT.nil ?_;refine JN.se (SE.fin (Γ' := [(5, .rep (.slice tChange) r6.1)]) (Δ' := [.obj b5 79 (.agg (.pair (.rep (.slice (.int .i64)) r6.2.1) (.pair (.eq (.int .i64 r6.2.2.1)) (.eq (.int .u64 r6.2.2.2))))), .obj b1 26 (.rep tChange a0)]) [0, 1] ⟨rfl, trivial⟩ rfl) ?_;refine tn ?_;refine JC.cutE (Z := Unit) (α := Unit) (fun z8 x7 => []) (fun z8 x7 => []) (fun e => e = r) h (fun e h => Option.some.inj h) (fun K hR h => ?_) (fun z8 x7 h => ?_)
  ·refine sr ?_;refine cq ?_;refine nt ?_;refine JC.block ?_;refine JC.loopB (Z := Unit) (α := Int) (fun z10 y9 => [(5, .rep (.slice tChange) r6.1), (6, .eq (.int .i64 y9))]) (fun z10 y9 => []) (law_ChangeFewests_l1 k r6) k () (0 : Int) (fun _ => rfl) h (SE.fin [] ⟨rfl, rfl, trivial⟩ rfl) (fun n z10 y9 h => ?_);unfold law_ChangeFewests_l1 at h;refine JC.seq ?_;refine sr ?_;refine mq ?_;refine jb (o_lss rfl) ?_;refine nt ?_;refine ci h (fun h => ?_) (fun h => ?_)
   ·refine sk ?_;refine JC.seq ?_;refine JC.block ?_;refine sr ?_;iterate 2 refine mq ?_
    obtain ⟨x11, ex11, h⟩ := b_bind h;refine jb (o_index (t := tChange) rfl Tryz.underlying29 sz26 ex11) ?_;refine ja (o_load_at (t := tChange) rfl sz26 rfl) ?_;obtain ⟨r12, er12, h⟩ := b_bind h;have cr12 := kit_CopyChange_ok k x11 r12 er12;refine JO.stepG (Δ := []) (F := _) (fun _ _ _ => wanted_none rfl _) rfl rfl (o_call [.tmp 28] rfl rfl en13 rfl cr12) ⟨rfl, trivial⟩ fun z13 => ?_;refine JO.s01 rfl rfl rfl (o_alloc rfl za26 al26) trivial fun b14 => ?_;refine JO.n11 rfl rfl (o_store rfl sz26 trivial rfl rfl) ⟨rfl, rfl, trivial⟩ ?_;refine nt ?_;refine sr ?_;refine fr 1 ?_;refine JO.se (SE.frzBoth (off := 0) [] trivial rfl rfl) ?_;refine fr 1 ?_;refine JO.se (SE.frzBoth (off := 1) [] trivial rfl rfl) ?_;refine ka (o_load_obj rfl sz26 (nfn) rfl) ?_;obtain ⟨r15, er15, h⟩ := b_bind h;have cr15 := chg_Fewest_ok k (r12.1, r12.2.1, r12.2.2.1, r12.2.2.2) r15 er15;refine ja (OpT.need (N := [(.tmp 31, .agg (.pair (.rep (.slice tThing) r12.1) (.pair (.rep (.slice tDresser) r12.2.1) (.pair (.rep (.slice (.int .i64)) r12.2.2.1) (.rep (.slice (.int .i64)) r12.2.2.2)))))]) (o_call [.tmp 31] rfl rfl en14 rfl cr15) fun _ _ _ hn => ⟨(ent_holds (t := tChange) (x := (r12.1, r12.2.1, r12.2.2.1, r12.2.2.2)) (.agg (.pair .rep (.pair .rep (.pair .rep .rep)))) trivial rfl hn.1), trivial⟩) ?_;refine mq ?_;refine ja (o_extract rfl rfl) ?_;refine ja (o_extract rfl rfl) ?_;refine ja (o_extract rfl rfl) ?_;refine aq ?_;refine aq ?_;refine aq ?_;refine nt ?_;refine sr ?_;iterate 2 refine mq ?_
    obtain ⟨x16, ex16, h⟩ := b_bind h;refine jb (o_index (t := tChange) rfl Tryz.underlying29 sz26 ex16) ?_;refine ja (o_load_at (t := tChange) rfl sz26 rfl) ?_;obtain ⟨r17, er17, h⟩ := b_bind h;have cr17 := ref_Fewest_ok k x16 r17 er17;refine ja (o_call [.tmp 40] rfl rfl en15 rfl cr17) ?_;refine mq ?_;refine ja (o_extract rfl rfl) ?_;refine ja (o_extract rfl rfl) ?_;refine ja (o_extract rfl rfl) ?_;refine aq ?_;refine aq ?_;refine aq ?_;refine nt ?_;refine JC.cutB (Z := Unit) (α := Bool) (fun z19 x18 => [(5, .rep (.slice tChange) r6.1), (6, .eq (.int .i64 y9)), (67, .eq (.bool x18))]) (fun z19 x18 => []) h (fun K h => ?_) (fun z19 x18 h => ?_)
    ·refine JC.drawN ?_;refine dm ?_;refine dm ?_;refine db (o_neq rfl) ?_;refine DN.fork rfl rfl rfl (o_move rfl) ⟨rfl, trivial⟩ (fun hb => ?_) (fun hb => ?_)
     ·replace h := b_if (n_t hb) h;iterate 3 refine dg ?_
      refine db (o_pick_t rfl) ?_;refine dm ?_;iterate 4 refine dg ?_
      refine db (o_pick_t rfl) ?_;refine dm ?_;iterate 5 refine dg ?_
      refine DN.fin (by kernel_rfl) mixed ?_;iterate 2 refine gn ?_
      refine pt ?_;refine JO.nil ?_;refine JN.then_n ?_;exact JN.z ((), true) h (SE.fin [] ⟨rfl, rfl, rfl, trivial⟩ rfl)
     ·replace h := b_ifn (n_fn hb) h;refine DN.sg00 rfl rfl rfl rfl rfl (o_move rfl) ⟨rfl, rfl, trivial⟩ ?_;refine DN.sg00 rfl rfl rfl rfl rfl (o_move rfl) ⟨rfl, rfl, trivial⟩ ?_;refine DN.sg00 rfl rfl rfl rfl rfl (o_neq rfl) ⟨rfl, rfl, rfl, trivial⟩ ?_;refine db (o_pick_f rfl) ?_;refine DN.fork rfl rfl rfl (o_move rfl) ⟨rfl, trivial⟩ (fun hb => ?_) (fun hb => ?_)
      ·replace h := b_if (n_t hb) h;iterate 4 refine dg ?_
       refine db (o_pick_t rfl) ?_;refine dm ?_;iterate 5 refine dg ?_
       refine DN.fin (by kernel_rfl) mixed ?_;iterate 2 refine gn ?_
       refine pt ?_;refine JO.nil ?_;refine JN.then_n ?_;exact JN.z ((), true) h (SE.fin [] ⟨rfl, rfl, rfl, trivial⟩ rfl)
      ·replace h := b_ifn (n_fn hb) h;refine DN.sg00 rfl rfl rfl rfl rfl (o_move rfl) ⟨rfl, rfl, trivial⟩ ?_;refine DN.sg00 rfl rfl rfl rfl rfl (o_move rfl) ⟨rfl, rfl, trivial⟩ ?_;obtain ⟨r20, er20, h⟩ := b_bind h;have cr20 := kit_SameSteps_ok k r15.1 r17.1 r20 er20;refine DN.sg00 rfl rfl rfl rfl rfl (o_call [.tmp 54, .tmp 55] rfl rfl en16 rfl cr20) ⟨rfl, rfl, rfl, trivial⟩ ?_;refine DN.sg00 rfl rfl rfl rfl rfl (o_not rfl) ⟨rfl, rfl, trivial⟩ ?_;refine db (o_pick_f rfl) ?_;refine DN.fork rfl rfl rfl (o_move rfl) ⟨rfl, trivial⟩ (fun hb => ?_) (fun hb => ?_)
       ·replace h := b_if (nv_t hb) h;iterate 5 refine dg ?_
        refine DN.fin (by kernel_rfl) mixed ?_;iterate 2 refine gn ?_
        refine pt ?_;refine JO.nil ?_;refine JN.then_n ?_;exact JN.z ((), true) h (SE.fin [] ⟨rfl, rfl, rfl, trivial⟩ rfl)
       ·replace h := b_ifn (nv_fn hb) h;refine DN.sg11 0 rfl rfl rfl rfl rfl rfl (o_load_obj rfl sz26 (nfn) rfl) ⟨rfl, rfl, trivial⟩ ?_;refine DN.sg00 rfl rfl rfl rfl rfl (o_move rfl) ⟨rfl, rfl, trivial⟩ ?_;refine DN.sg00 rfl rfl rfl rfl rfl (o_move rfl) ⟨rfl, rfl, trivial⟩ ?_;obtain ⟨x21, ex21, h⟩ := b_bind h;refine DN.sg00 rfl rfl rfl rfl rfl (o_index (t := tChange) rfl Tryz.underlying29 sz26 ex21) ⟨rfl, rfl, rfl, trivial⟩ ?_;refine DN.sg00 rfl rfl rfl rfl rfl (o_load_at (t := tChange) rfl sz26 rfl) ⟨rfl, rfl, trivial⟩ ?_;refine DN.fin (by kernel_rfl) mixed ?_;obtain ⟨r22, er22, h⟩ := b_bind h;have cr22 := kit_SameChanges_ok k (r12.1, r12.2.1, r12.2.2.1, r12.2.2.2) x21 r22 er22;refine gb (OpT.need (N := [(.tmp 60, .agg (.pair (.rep (.slice tThing) r12.1) (.pair (.rep (.slice tDresser) r12.2.1) (.pair (.rep (.slice (.int .i64)) r12.2.2.1) (.rep (.slice (.int .i64)) r12.2.2.2))))), (.tmp 64, .rep tChange x21)]) (o_call [.tmp 60, .tmp 64] rfl rfl en17 rfl cr22) fun _ _ _ hn => ⟨(ent_holds (t := tChange) (x := (r12.1, r12.2.1, r12.2.2.1, r12.2.2.2)) (.agg (.pair .rep (.pair .rep (.pair .rep .rep)))) trivial rfl hn.1), hn.2.1, trivial⟩) ?_;refine ga (o_not rfl) ?_;refine pf ?_;refine JO.nil ?_;refine JN.then_n ?_;exact JN.z ((), !r22) h (SE.fin [] ⟨rfl, rfl, rfl, trivial⟩ rfl)
    ·refine cv h (fun h => ?_) (fun h => ?_)
     ·refine sr ?_;refine cq ?_;refine nt ?_;refine JC.ret ?_;refine JN.blk_r ?_;refine JN.then_r ?_;refine JN.then_r ?_;refine JN.blk_r ?_;refine JN.then_r ?_;obtain rfl := hR _ h;exact JN.ret () [_] 0 ⟨rfl, trivial⟩ rfl
     ·refine JC.skip ?_;refine JN.blk_n ?_;refine tn ?_;refine JC.region ?_;refine mq ?_;obtain ⟨x23, ex23, h⟩ := b_bind h;refine jb (o_add rfl ex23) ?_;refine aq ?_;refine JO.nil ?_;refine JN.then_n ?_;exact JN.z ((), x23) h (SE.fin [] ⟨rfl, rfl, trivial⟩ rfl)
   ·refine JC.exit ?_;refine JN.then_x ?_;refine JN.then_x ?_;refine JN.blk_hit ?_;refine JN.then_n ?_;exact JN.z ((), ()) h (SE.fin [] trivial rfl)
  ·refine sr ?_;obtain ⟨r24, er24, h⟩ := b_bind h;have cr24 := law_dressed_ok k  r24 er24;refine JO.s rfl (o_call [] rfl rfl en10 rfl cr24) trivial ?_;refine aq ?_;refine nt ?_;refine JC.ret ?_;obtain rfl := Option.some.inj h;exact JN.ret () [_] 0 ⟨rfl, trivial⟩ rfl


end Go.Proofs.YtfhdclhbdmhnmaaGreat
