/- The program's functions, part 1: what each computes, and that the code computes it. Printed by a program of this proof's own. -/
import Derived.Test.YtopgphikdglphaaFacts
import Derived.Test.YtopgphikdglphaaB5
set_option linter.unusedVariables false
set_option maxRecDepth 4000
namespace Go.Proofs.Ytopgphikdglphaa
open K Go Go.Proofs
def chg_of_l1 (k : Nat) (a0 : (List Int)) : Nat → (Int × Int) → Option Int
 | 0, _ => none
 | n + 1, y3 =>
  if y3.2 < (a0.length : Int) then ((geti a0 y3.2).bind fun x5 =>
  (chkP (0 ≤ x5)).bind fun _ =>
  (ck (y3.2 + (1 : Int))).bind fun x7 =>
  chg_of_l1 k a0 n (ior .u8 y3.1 (ishl .u8 (1 : Int) x5), x7)) else (some y3.1)
def chg_of (k : Nat) (a0 : (List Int)) : Option Int :=
 ((chg_of_l1 k a0 k ((0 : Int), (0 : Int))) : Option (Int)).bind fun x1 =>
 some x1

theorem chg_of_ok (k : Nat) (a0 : (List Int)) (r : Int) (h : chg_of k a0 = some r) :
 Ctr Try.prog 40 [Ri a0] [] (fun _ : Unit => (resA [.eq (.int .u8 r)], [])) := by
 unfold chg_of at h
 replace h := b_top h
 refine Ctr.of 18 Try.func40 rfl Try.ntmps40 rfl fun S w0 => ?_
 refine sr ?_
 refine cq ?_
 refine nt ?_
 refine sr ?_
 refine cq ?_
 refine nt ?_
 refine JC.cutB (Z := Unit) (α := Int) (fun z2 x1 => [(3, .eq (.int .u8 x1))]) (fun z2 x1 => []) h (fun K h => ?_) (fun z2 x1 h => ?_)
 ·
  refine sr (mq ?_);refine ol U22 ?_;refine JO.mc rfl ?_;refine nt (JC.block (JC.loopB (Z := Unit) (α := Int × Int) (fun z4 y3 => [(3, .eq (.int .u8 y3.1)), (6, Ri a0), (7, I (a0.length : Int)), (8, I y3.2)]) (fun z4 y3 => []) (chg_of_l1 k a0) k () ((0 : Int), (0 : Int)) (fun _ => rfl) h (SE.fin [] ⟨rfl, rfl, rfl, rfl, trivial⟩ rfl) (fun n z4 y3 h => ?_)));unfold chg_of_l1 at h;refine sr (jb (o_lss rfl) ?_);refine nt (JC.seq (ci h (fun h => ?_) (fun h => ?_)))
  ·refine sk (JC.seq (JC.block (sr ?_)));obtain ⟨x5, ex5, h⟩ := b_bind h;refine jb (o_index (t := (.int .i64)) rfl U22 sz3 ex5) ?_;refine ja (o_load_at (t := (.int .i64)) rfl sz3 rfl) ?_;refine aq (nt (JC.region ?_));iterate 2 refine mq ?_
   obtain ⟨u6, eu6, h⟩ := b_bind h;refine jb (o_shl rfl (chkP_some eu6)) ?_;refine jb (o_or rfl) ?_;refine aq (JO.nil (JN.blk_n (tn (JC.region ?_))));obtain ⟨x7, ex7, h⟩ := b_bind h;refine jb (o_add rfl ex7) ?_;refine mq (nl ?_);exact jz ((), (ior .u8 y3.1 (ishl .u8 (1 : Int) x5), x7)) h []
  ·refine xa ?_;exact jz ((), y3.1) h []
 ·
  refine sr (mq ?_);refine aq (nt (JC.ret ?_));cases h;exact ra


def chg_sized (k : Nat) (a0 : Int) (a1 : Int) : Option Int :=
 if a0 = (0 : Int) then (some (7 : Int)) else (if a1 < a0 then (some (6 : Int)) else (some (0 : Int)))

theorem chg_sized_ok (k : Nat) (a0 : Int) (a1 : Int) (r : Int) (h : chg_sized k a0 a1 = some r) :
 Ctr Try.prog 44 [I a0, I a1] [] (fun _ : Unit => (resA [I r], [])) := by
 unfold chg_sized at h
 replace h := b_top h
 refine Ctr.of 12 Try.func44 rfl Try.ntmps44 rfl fun S w0 => ?_
 refine sr ?_
 refine cq ?_
 refine nt ?_
 refine JC.seq ?_
 refine JC.block ?_
 refine sr ?_
 refine mq ?_
 refine jb (o_eql rfl) ?_
 refine aq ?_
 refine nt ?_
 refine ci h (fun h => ?_) (fun h => ?_)
 ·
  refine sr (cq (nt (JC.ret (JN.blk_r (JN.then_r ?_)))));cases h;exact ra
 ·
  refine sr ?_;iterate 2 refine mq ?_
  refine jb (o_gtr rfl) ?_;refine aq (nt ?_);refine ci h (fun h => ?_) (fun h => ?_)
  ·refine sr (cq (nt (JC.ret (JN.blk_r (JN.then_r ?_)))));cases h;exact ra
  ·refine JC.skip (JN.blk_n (tn (sr (cq (nt (JC.ret ?_))))));cases h;exact ra


def chg_outside (k : Nat) (a0 : Int) (a1 : Int) (a2 : Int) : Option Bool :=
 ((if a0 < a1 then (some true) else (some (decide (a2 < a0)))) : Option (Bool)).bind fun x1 =>
 some x1

theorem chg_outside_ok (k : Nat) (a0 : Int) (a1 : Int) (a2 : Int) (r : Bool) (h : chg_outside k a0 a1 a2 = some r) :
 Ctr Try.prog 46 [I a0, I a1, I a2] [] (fun _ : Unit => (resA [.eq (.bool r)], [])) := by
 unfold chg_outside at h
 replace h := b_top h
 refine Ctr.of 15 Try.func46 rfl Try.ntmps46 rfl fun S w0 => ?_
 refine sr ?_
 refine cq ?_
 refine nt ?_
 refine JC.cutB (Z := Unit) (α := Bool) (fun z2 x1 => [(6, .eq (.bool x1))]) (fun z2 x1 => []) h (fun K h => ?_) (fun z2 x1 h => ?_)
 ·
  refine JC.region ?_;iterate 2 refine mq ?_
  refine jb (o_lss rfl) ?_;refine mq ?_;refine JO.bool (s := 10) rfl (fun hb => ?_) (fun hb => ?_)
  ·replace h := b_if (d_t hb) h;iterate 3 refine gn ?_
   refine pt ?_;refine aq (nl ?_);exact jz ((), true) h []
  ·replace h := b_ifn (d_f hb) h;refine gm ?_;refine gm ?_;refine gb (o_gtr rfl) ?_;refine pf ?_;refine aq (nl ?_);exact jz ((), decide (a2 < a0)) h []
 ·
  refine JC.ret ?_;cases h;exact ra


def chg_checkList_l1 (k : Nat) (a0 : (List Int)) (a1 : Int) (a2 : Int) : Nat → Int → Option (Except Int Unit)
 | 0, _ => none
 | n + 1, y3 =>
  if y3 < (a0.length : Int) then ((geti a0 y3).bind fun x5 =>
  (((ck (a1 - (1 : Int))).bind fun x8 =>
  (chg_outside k x5 (0 : Int) x8).bind fun r9 =>
  if r9 = true then (some true) else (some (decide (x5 = a2)))) : Option (Bool)).bind fun x6 =>
  if x6 = true then (some (.error (3 : Int))) else (((if (0 : Int) < y3 then ((ck (y3 - (1 : Int))).bind fun x12 =>
  (geti a0 x12).bind fun x13 =>
  some (decide (x5 ≤ x13))) else (some false)) : Option (Bool)).bind fun x10 =>
  if x10 = true then (some (.error (5 : Int))) else ((ck (y3 + (1 : Int))).bind fun x14 =>
  chg_checkList_l1 k a0 a1 a2 n x14))) else (some (.ok ()))
def chg_checkList (k : Nat) (a0 : (List Int)) (a1 : Int) (a2 : Int) : Option Int :=
 bE (α := Unit) (chg_checkList_l1 k a0 a1 a2 k (0 : Int)) (some) fun _ =>
 some (0 : Int)

theorem chg_checkList_ok (k : Nat) (a0 : (List Int)) (a1 : Int) (a2 : Int) (r : Int) (h : chg_checkList k a0 a1 a2 = some r) :
 Ctr Try.prog 45 [Ri a0, I a1, I a2] [] (fun _ : Unit => (resA [I r], [])) := by
 unfold chg_checkList at h
 replace h := b_top h
 refine Ctr.of 37 Try.func45 rfl Try.ntmps45 rfl fun S w0 => ?_
 refine sr ?_
 refine cq ?_
 refine nt ?_
 refine JC.cutE (Z := Unit) (α := Unit) (fun z2 x1 => []) (fun z2 x1 => []) (fun e => e = r) h (fun e h => Option.some.inj h) (fun K hR h => ?_) (fun z2 x1 h => ?_)
 ·
  refine sr (mq ?_);refine ol U22 ?_;refine JO.mc rfl ?_;refine nt (JC.block (JC.loopB (Z := Unit) (α := Int) (fun z4 y3 => [(0, Ri a0), (1, I a1), (2, I a2), (9, Ri a0), (10, I (a0.length : Int)), (11, I y3)]) (fun z4 y3 => []) (chg_checkList_l1 k a0 a1 a2) k () (0 : Int) (fun _ => rfl) h (SE.fin [] ⟨rfl, rfl, rfl, rfl, rfl, rfl, trivial⟩ rfl) (fun n z4 y3 h => ?_)));unfold chg_checkList_l1 at h;refine sr (jb (o_lss rfl) ?_);refine nt (JC.seq (ci h (fun h => ?_) (fun h => ?_)))
  ·refine sk (JC.seq (JC.block (sr (mq ?_))));obtain ⟨x5, ex5, h⟩ := b_bind h;refine jb (o_index (t := (.int .i64)) rfl U22 sz3 ex5) ?_;refine ja (o_load_at (t := (.int .i64)) rfl sz3 rfl) ?_;refine aq ?_;refine aq (nt (JC.seq ?_));refine JC.cutB (Z := Unit) (α := Bool) (fun z7 x6 => [(0, Ri a0), (1, I a1), (2, I a2), (7, I y3), (8, I x5), (9, Ri a0), (10, I (a0.length : Int)), (11, I y3), (24, .eq (.bool x6))]) (fun z7 x6 => []) h (fun K h => ?_) (fun z7 x6 h => ?_)
   ·refine JC.region ?_;iterate 2 refine mq ?_
    obtain ⟨x8, ex8, h⟩ := b_bind h;refine jb (o_sub rfl ex8) ?_;obtain ⟨r9, er9, h⟩ := b_bind h;refine jc (o_call [.tmp 16, .const (.int .i64 (0)), .tmp 18] rfl rfl en46 rfl (chg_outside_ok k x5 (0 : Int) x8 r9 er9)) ?_;refine mq ?_;refine JO.bool (s := 20) rfl (fun hb => ?_) (fun hb => ?_)
    ·replace h := b_if (v_t hb) h;iterate 3 refine gn ?_
     refine pt (nl ?_);exact jz ((), true) h []
    ·replace h := b_ifn (v_f hb) h;refine gm ?_;refine gm ?_;refine gb (o_eql rfl) ?_;refine pf (nl ?_);exact jz ((), decide (x5 = a2)) h []
   ·refine cv h (fun h => ?_) (fun h => ?_)
    ·refine sr (cq (nt (rx (br (JN.blk_r (JN.then_r ?_))))));obtain rfl := hR _ h;exact ra
    ·refine sk (JC.cutB (Z := Unit) (α := Bool) (fun z11 x10 => [(0, Ri a0), (1, I a1), (2, I a2), (9, Ri a0), (10, I (a0.length : Int)), (11, I y3), (35, .eq (.bool x10))]) (fun z11 x10 => []) h (fun K h => ?_) (fun z11 x10 h => ?_))
     ·refine JC.region (mq ?_);refine jb (o_gtr rfl) ?_;refine mq ?_;refine JO.bool (s := 27) rfl (fun hb => ?_) (fun hb => ?_)
      ·replace h := b_if (d_t hb) h;refine gm ?_;refine gm ?_;refine gm ?_;obtain ⟨x12, ex12, h⟩ := b_bind h;refine gb (o_sub rfl ex12) ?_;obtain ⟨x13, ex13, h⟩ := b_bind h;refine gb (o_index (t := (.int .i64)) rfl U22 sz3 ex13) ?_;refine ga (o_load_at (t := (.int .i64)) rfl sz3 rfl) ?_;refine gb (o_leq rfl) ?_;refine pt (nl ?_);exact jz ((), decide (x5 ≤ x13)) h []
      ·replace h := b_ifn (d_f hb) h;iterate 7 refine gn ?_
       refine pf (nl ?_);exact jz ((), false) h []
     ·refine cv h (fun h => ?_) (fun h => ?_)
      ·refine sr (cq (nt (JC.ret (br (JN.blk_r (JN.then_r ?_))))));obtain rfl := hR _ h;exact ra
      ·refine JC.skip (JN.blk_n (tn (JC.region ?_)));obtain ⟨x14, ex14, h⟩ := b_bind h;refine jb (o_add rfl ex14) ?_;refine mq (nl ?_);exact jz ((), x14) h []
  ·refine xa ?_;exact jz ((), ()) h []
 ·
  refine sr (cq (nt (JC.ret ?_)));cases h;exact ra


def chg_set_has (k : Nat) (a0 : Int) (a1 : Int) : Option Bool :=
 (chkP (0 ≤ a1)).bind fun _ =>
 some (decide ((iand .u8 (ishr .u8 a0 a1) (1 : Int)) = (1 : Int)))

theorem chg_set_has_ok (k : Nat) (a0 : Int) (a1 : Int) (r : Bool) (h : chg_set_has k a0 a1 = some r) :
 Ctr Try.prog 49 [.eq (.int .u8 a0), I a1] [] (fun _ : Unit => (resA [.eq (.bool r)], [])) := by
 unfold chg_set_has at h
 replace h := b_top h
 refine Ctr.of 10 Try.func49 rfl Try.ntmps49 rfl fun S w0 => ?_
 refine sr ?_
 refine cq ?_
 refine nt ?_
 refine sr ?_
 iterate 2 refine mq ?_
 obtain ⟨u1, eu1, h⟩ := b_bind h
 refine jb (o_shr rfl (chkP_some eu1)) ?_
 refine jb (o_and rfl) ?_
 refine jb (o_eql rfl) ?_
 refine aq ?_
 refine nt ?_
 refine JC.ret ?_
 cases h
 exact ra


def chg_checkThings_l1 (k : Nat) (a0 : dChange) : Nat → Int → Option (Except Int Unit)
 | 0, _ => none
 | n + 1, y5 =>
  if y5 < (a0.1.length : Int) then ((geti a0.1 y5).bind fun x7 =>
  (chg_checkList k x7.1 (a0.1.length : Int) y5).bind fun r9 =>
  if ¬ (r9 = (0 : Int)) then (some (.error r9)) else ((((chg_outside k x7.2.1 (1 : Int) (4 : Int)).bind fun r12 =>
  if r12 = true then (some true) else ((chg_outside k x7.2.2.1 (1 : Int) (4 : Int)).bind fun r13 =>
  some r13)) : Option (Bool)).bind fun x10 =>
  if x10 = true then (some (.error (1 : Int))) else ((chg_outside k x7.2.2.2.1 (0 : Int) (2 : Int)).bind fun r14 =>
  if r14 = true then (some (.error (8 : Int))) else ((chg_outside k x7.2.2.2.2 (0 : Int) (30 : Int)).bind fun r15 =>
  if r15 = true then (some (.error (1 : Int))) else ((ck (y5 + (1 : Int))).bind fun x16 =>
  chg_checkThings_l1 k a0 n x16))))) else (some (.ok ()))

def chg_checkThings_l4 (k : Nat) (y24 : (List Int) × Int) (x28 : dThing) : Nat → ((List Int) × Int) → Option (List Int)
 | 0, _ => none
 | n + 1, y30 =>
  if y30.2 < (x28.1.length : Int) then ((geti x28.1 y30.2).bind fun x32 =>
  (chkP (0 ≤ y24.2 ∧ y24.2 < 4)).bind fun _ =>
  (geti y30.1 y24.2).bind fun x34 =>
  (chkP (0 ≤ x32 ∧ x32 < 4)).bind fun _ =>
  (geti y30.1 x32).bind fun x36 =>
  (chg_of k [x32]).bind fun r37 =>
  (chkP (0 ≤ y24.2 ∧ y24.2 < 4)).bind fun _ =>
  (ck (y30.2 + (1 : Int))).bind fun x39 =>
  chg_checkThings_l4 k y24 x28 n (List.set y30.1 (Int.toNat y24.2) (ior .u8 x34 (ior .u8 x36 r37)), x39)) else (some y30.1)

def chg_checkThings_l3 (k : Nat) (a0 : dChange) : Nat → ((List Int) × Int) → Option (List Int)
 | 0, _ => none
 | n + 1, y24 =>
  if y24.2 < (a0.1.length : Int) then ((((geti a0.1 y24.2).bind fun x28 =>
  chg_checkThings_l4 k y24 x28 k (y24.1, (0 : Int))) : Option ((List Int))).bind fun x26 =>
  (ck (y24.2 + (1 : Int))).bind fun x40 =>
  chg_checkThings_l3 k a0 n (x26, x40)) else (some y24.1)

def chg_checkThings_l2 (k : Nat) (a0 : dChange) : Nat → ((List Int) × Int) → Option (List Int)
 | 0, _ => none
 | n + 1, y20 =>
  if y20.2 < (a0.1.length : Int) then (((chg_checkThings_l3 k a0 k (y20.1, (0 : Int))) : Option ((List Int))).bind fun x22 =>
  (ck (y20.2 + (1 : Int))).bind fun x41 =>
  chg_checkThings_l2 k a0 n (x22, x41)) else (some y20.1)

def chg_checkThings_l5 (k : Nat) (a0 : dChange) (x18 : (List Int)) : Nat → Int → Option (Except Int Unit)
 | 0, _ => none
 | n + 1, y44 =>
  if y44 < (a0.1.length : Int) then ((chkP (0 ≤ y44 ∧ y44 < 4)).bind fun _ =>
  (geti x18 y44).bind fun x47 =>
  (chg_set_has k x47 y44).bind fun r48 =>
  if r48 = true then (some (.error (9 : Int))) else ((ck (y44 + (1 : Int))).bind fun x49 =>
  chg_checkThings_l5 k a0 x18 n x49)) else (some (.ok ()))
def chg_checkThings (k : Nat) (a0 : dChange) : Option Int :=
 (chg_sized k (a0.1.length : Int) (4 : Int)).bind fun r2 =>
 if ¬ (r2 = (0 : Int)) then (some r2) else (bE (α := Unit) (chg_checkThings_l1 k a0 k (0 : Int)) (some) fun _ =>
 ((chg_checkThings_l2 k a0 k ([(0 : Int), (0 : Int), (0 : Int), (0 : Int)], (0 : Int))) : Option ((List Int))).bind fun x18 =>
 bE (α := Unit) (chg_checkThings_l5 k a0 x18 k (0 : Int)) (some) fun _ =>
 some (0 : Int))

theorem chg_checkThings_ok (k : Nat) (a0 : dChange) (r : Int) (h : chg_checkThings k a0 = some r) :
 Ctr Try.prog 43 [.rep tChange a0] [] (fun _ : Unit => (resA [I r], [])) := by
 unfold chg_checkThings at h
 replace h := b_top h
 refine Ctr.of 103 Try.func43 rfl Try.ntmps43 rfl fun S w0 => ?_
 refine sr ?_
 refine bx fun b1 => ?_
 refine cq ?_
 refine nt ?_
 refine JC.seq ?_
 refine sr ?_
 refine fl fo26_0 ?_
 refine lo sz23 ?_
 refine ol U23 ?_
 obtain ⟨r2, er2, h⟩ := b_bind h
 have cr2 := chg_sized_ok k (a0.1.length : Int) (4 : Int) r2 er2
 refine jb (o_call [.tmp 15, .const (.int .i64 (4))] rfl rfl en44 rfl cr2) ?_
 refine aq ?_
 refine nt ?_
 refine sr ?_
 refine mq ?_
 refine jb (o_neq rfl) ?_
 refine nt ?_
 refine cn h (fun h => ?_) (fun h => ?_)
 ·
  refine sr (mq ?_);refine aq (nt (rx ?_));cases h;exact ra
 ·
  refine sk (JC.cutE (Z := Unit) (α := Unit) (fun z4 x3 => [(1, Pt b1)]) (fun z4 x3 => [.obj b1 26 (.rep tChange a0)]) (fun e => e = r) h (fun e h => Option.some.inj h) (fun K hR h => ?_) (fun z4 x3 h => ?_))
  ·refine sr (fl fo26_0 ?_);refine lo sz23 ?_;refine ol U23 ?_;refine JO.mc rfl ?_;refine nt (JC.block (JC.loopB (Z := Unit) (α := Int) (fun z6 y5 => [(1, Pt b1), (21, Rs tThing a0.1), (22, I (a0.1.length : Int)), (23, I y5)]) (fun z6 y5 => [.obj b1 26 (.rep tChange a0)]) (chg_checkThings_l1 k a0) k () (0 : Int) (fun _ => rfl) h (SE.fin [0] ⟨rfl, rfl, rfl, rfl, trivial⟩ rfl) (fun n z6 y5 h => ?_)));unfold chg_checkThings_l1 at h;refine sr (jb (o_lss rfl) ?_);refine nt (JC.seq (ci h (fun h => ?_) (fun h => ?_)))
   ·refine sk (JC.seq (JC.block (sr (mq ?_))));obtain ⟨x7, ex7, h⟩ := b_bind h;refine jb (o_index (t := tThing) rfl U23 sz43 ex7) ?_;refine ja (o_load_at (t := tThing) rfl sz43 rfl) ?_;refine JO.s01 rfl rfl rfl (o_alloc rfl za43 al43) trivial fun b8 => ?_;refine aq ?_;refine JO.n11 rfl rfl (o_store rfl sz43 rfl rfl rfl) ⟨rfl, rfl, trivial⟩ ?_;refine nt (JC.seq (sr (fl fo43_0 ?_)));refine lo sz22 ?_;refine fl fo26_0 ?_;refine fr 1 ?_;refine lo sz23 ?_;refine ol U23 ?_;refine mq ?_;obtain ⟨r9, er9, h⟩ := b_bind h;refine jc (o_call [.tmp 29, .tmp 32, .tmp 33] rfl rfl en45 rfl (chg_checkList_ok k x7.1 (a0.1.length : Int) y5 r9 er9)) ?_;refine aq (nt (sr ?_));refine mq ?_;refine jb (o_neq rfl) ?_;refine nt (cn h (fun h => ?_) (fun h => ?_))
    ·refine sr (mq ?_);refine aq (nt (rx (br (JN.blk_r (JN.then_r ?_)))));obtain rfl := hR _ h;exact ra
    ·refine sk (JC.block (JC.cutB (Z := Unit) (α := Bool) (fun z11 x10 => [(1, Pt b1), (5, Pt b8), (21, Rs tThing a0.1), (22, I (a0.1.length : Int)), (23, I y5), (38, .eq (.bool x10))]) (fun z11 x10 => [.obj b1 26 (.rep tChange a0), .obj b8 43 (.rep tThing x7)]) h (fun K h => ?_) (fun z11 x10 h => ?_)))
     ·refine JC.region (fl fo43_1 ?_);refine fr 1 ?_;refine lo sz3 ?_;obtain ⟨r12, er12, h⟩ := b_bind h;refine jc (o_call [.tmp 40, .const (.int .i64 (1)), .const (.int .i64 (4))] rfl rfl en46 rfl (chg_outside_ok k x7.2.1 (1 : Int) (4 : Int) r12 er12)) ?_;refine mq ?_;refine JO.bool (s := 42) rfl (fun hb => ?_) (fun hb => ?_)
      ·replace h := b_if (v_t hb) h;iterate 3 refine gn ?_
       refine pt ?_;refine aq (nl ?_);exact jz ((), true) h [1, 0]
      ·replace h := b_ifn (v_f hb) h;refine ga (o_field_obj rfl fo43_2) ?_;refine JO.g11 rfl rfl rfl rfl rfl rfl (o_load_obj rfl sz3 nfs rfl) ⟨rfl, trivial⟩ ?_;obtain ⟨r13, er13, h⟩ := b_bind h;refine gc (o_call [.tmp 44, .const (.int .i64 (1)), .const (.int .i64 (4))] rfl rfl en46 rfl (chg_outside_ok k x7.2.2.1 (1 : Int) (4 : Int) r13 er13)) ?_;refine pf ?_;refine aq (nl ?_);exact jz ((), r13) h [1, 0]
     ·refine cv h (fun h => ?_) (fun h => ?_)
      ·refine sr (cq (nt (JC.ret (JN.blk_r (br (JN.blk_r (JN.then_r ?_)))))));obtain rfl := hR _ h;exact ra
      ·refine sr (fl fo43_3 ?_);refine fr 1 ?_;refine lo sz3 ?_;obtain ⟨r14, er14, h⟩ := b_bind h;refine jc (o_call [.tmp 49, .const (.int .i64 (0)), .const (.int .i64 (2))] rfl rfl en46 rfl (chg_outside_ok k x7.2.2.2.1 (0 : Int) (2 : Int) r14 er14)) ?_;refine aq (nt ?_);refine cv h (fun h => ?_) (fun h => ?_)
       ·refine sr (cq (nt (JC.ret (JN.blk_r (br (JN.blk_r (JN.then_r ?_)))))));obtain rfl := hR _ h;exact ra
       ·refine sr (fl fo43_4 ?_);refine lo sz3 ?_;obtain ⟨r15, er15, h⟩ := b_bind h;refine jc (o_call [.tmp 53, .const (.int .i64 (0)), .const (.int .i64 (30))] rfl rfl en46 rfl (chg_outside_ok k x7.2.2.2.2 (0 : Int) (30 : Int) r15 er15)) ?_;refine aq (nt ?_);refine cv h (fun h => ?_) (fun h => ?_)
        ·refine sr (cq (nt (JC.ret (JN.blk_r (br (JN.blk_r (JN.then_r ?_)))))));obtain rfl := hR _ h;exact ra
        ·refine JC.skip (JN.blk_n (JN.blk_n (tn (JC.region ?_))));obtain ⟨x16, ex16, h⟩ := b_bind h;refine jb (o_add rfl ex16) ?_;refine mq (nl ?_);exact jz ((), x16) h [1]
   ·refine xa ?_;exact jz ((), ()) h [0]
  ·refine sr (JO.s01 rfl rfl rfl (o_alloc rfl za141 al141) trivial fun b17 => ?_);refine nt (JC.cutB (Z := Unit) (α := (List Int)) (fun z19 x18 => [(1, Pt b1), (7, Pt b17)]) (fun z19 x18 => [.obj b1 26 (.rep tChange a0), .obj b17 141 (.rep (.arr 4 (.int .u8)) x18)]) h (fun K h => ?_) (fun z19 x18 h => ?_))
   ·refine sr (fl fo26_0 ?_);refine fr 1 ?_;refine lo sz23 ?_;refine ol U23 ?_;refine JO.mc rfl ?_;refine nt (JC.block (JC.loopB (Z := Unit) (α := (List Int) × Int) (fun z21 y20 => [(1, Pt b1), (7, Pt b17), (58, I (a0.1.length : Int)), (59, I y20.2)]) (fun z21 y20 => [.obj b1 26 (.rep tChange a0), .obj b17 141 (.rep (.arr 4 (.int .u8)) y20.1)]) (chg_checkThings_l2 k a0) k () ([(0 : Int), (0 : Int), (0 : Int), (0 : Int)], (0 : Int)) (fun _ => rfl) h (SE.fin [0, 1] ⟨rfl, rfl, rfl, rfl, trivial⟩ rfl) (fun n z21 y20 h => ?_)));unfold chg_checkThings_l2 at h;refine sr (jb (o_lss rfl) ?_);refine nt (JC.seq (ci h (fun h => ?_) (fun h => ?_)))
    ·refine sk (JC.cutB (Z := Unit) (α := (List Int)) (fun z23 x22 => [(1, Pt b1), (7, Pt b17), (58, I (a0.1.length : Int)), (59, I y20.2)]) (fun z23 x22 => [.obj b1 26 (.rep tChange a0), .obj b17 141 (.rep (.arr 4 (.int .u8)) x22)]) h (fun K h => ?_) (fun z23 x22 h => ?_))
     ·refine JC.block (sr (fl fo26_0 ?_));refine lo sz23 ?_;refine ol U23 ?_;refine JO.mc rfl ?_;refine nt (JC.block (JC.loopB (Z := Unit) (α := (List Int) × Int) (fun z25 y24 => [(1, Pt b1), (7, Pt b17), (58, I (a0.1.length : Int)), (59, I y20.2), (62, Rs tThing a0.1), (63, I (a0.1.length : Int)), (64, I y24.2)]) (fun z25 y24 => [.obj b1 26 (.rep tChange a0), .obj b17 141 (.rep (.arr 4 (.int .u8)) y24.1)]) (chg_checkThings_l3 k a0) k () (y20.1, (0 : Int)) (fun _ => rfl) h (SE.fin [0, 1] ⟨rfl, rfl, rfl, rfl, rfl, rfl, rfl, trivial⟩ rfl) (fun n z25 y24 h => ?_)));unfold chg_checkThings_l3 at h;refine sr (jb (o_lss rfl) ?_);refine nt (JC.seq (ci h (fun h => ?_) (fun h => ?_)))
      ·refine sk (JC.cutB (Z := Unit) (α := (List Int)) (fun z27 x26 => [(1, Pt b1), (7, Pt b17), (58, I (a0.1.length : Int)), (59, I y20.2), (62, Rs tThing a0.1), (63, I (a0.1.length : Int)), (64, I y24.2)]) (fun z27 x26 => [.obj b1 26 (.rep tChange a0), .obj b17 141 (.rep (.arr 4 (.int .u8)) x26)]) h (fun K h => ?_) (fun z27 x26 h => ?_))
       ·refine JC.block (sr (mq ?_));obtain ⟨x28, ex28, h⟩ := b_bind h;refine jb (o_index (t := tThing) rfl U23 sz43 ex28) ?_;refine ja (o_load_at (t := tThing) rfl sz43 rfl) ?_;refine JO.s01 rfl rfl rfl (o_alloc rfl za43 al43) trivial fun b29 => ?_;refine aq ?_;refine JO.n11 rfl rfl (o_store rfl sz43 rfl rfl rfl) ⟨rfl, rfl, trivial⟩ ?_;refine nt (sr (fl fo43_0 ?_));refine lo sz22 ?_;refine ol U22 ?_;refine JO.mc rfl ?_;refine nt (JC.block (JC.loopB (Z := Unit) (α := (List Int) × Int) (fun z31 y30 => [(1, Pt b1), (7, Pt b17), (8, I y24.2), (58, I (a0.1.length : Int)), (59, I y20.2), (62, Rs tThing a0.1), (63, I (a0.1.length : Int)), (64, I y24.2), (70, Ri x28.1), (71, I (x28.1.length : Int)), (72, I y30.2)]) (fun z31 y30 => [.obj b1 26 (.rep tChange a0), .obj b17 141 (.rep (.arr 4 (.int .u8)) y30.1)]) (chg_checkThings_l4 k y24 x28) k () (y24.1, (0 : Int)) (fun _ => rfl) h (SE.fin [1, 2] ⟨rfl, rfl, rfl, rfl, rfl, rfl, rfl, rfl, rfl, rfl, rfl, trivial⟩ rfl) (fun n z31 y30 h => ?_)));unfold chg_checkThings_l4 at h;refine sr (jb (o_lss rfl) ?_);refine nt (JC.seq (ci h (fun h => ?_) (fun h => ?_)))
        ·refine sk (JC.seq (JC.block (sr ?_)));obtain ⟨x32, ex32, h⟩ := b_bind h;refine jb (o_index (t := (.int .i64)) rfl U22 sz3 ex32) ?_;refine ja (o_load_at (t := (.int .i64)) rfl sz3 rfl) ?_;refine aq (nt ?_);refine JC.drawN ?_;refine dm ?_;obtain ⟨u33, eu33, h⟩ := b_bind h;refine db (o_index_arr rfl U141 sz94 (chkP_some eu33).1 (chkP_some eu33).2) ?_;obtain ⟨x34, ex34, h⟩ := b_bind h;refine ea 1 (o_load_arr (t := (.int .u8)) (off := 0) (i := y24.2) (N := 4) rfl sz94 (fun _ => rfl) rfl rfl rfl rfl ex34) ?_;refine dm ?_;obtain ⟨u35, eu35, h⟩ := b_bind h;refine db (o_index_arr rfl U141 sz94 (chkP_some eu35).1 (chkP_some eu35).2) ?_;obtain ⟨x36, ex36, h⟩ := b_bind h;refine ea 1 (o_load_arr (t := (.int .u8)) (off := 0) (i := x32) (N := 4) rfl sz94 (fun _ => rfl) rfl rfl rfl rfl ex36) ?_;refine dm ?_;refine da (o_litB (t := (.int .i64)) [(.tmp 82, _)] [x32] rfl rfl sl22 (.cons rfl .int .nil) rfl rfl) ?_;obtain ⟨r37, er37, h⟩ := b_bind h;refine da (o_call [.tmp 83] rfl rfl en40 rfl (chg_of_ok k [x32] r37 er37)) ?_;refine db (o_or rfl) ?_;refine df mixed ?_;refine jb (o_or rfl) ?_;obtain ⟨u38, eu38, h⟩ := b_bind h;refine jb (o_index_arr rfl U141 sz94 (chkP_some eu38).1 (chkP_some eu38).2) ?_;refine fr 1 ?_;refine JO.n11 rfl rfl (o_store_arr (t := (.int .u8)) (off := 0) (i := y24.2) (N := 4) rfl sz94 .int rfl rfl rfl rfl (chkP_some eu38).1 (chkP_some eu38).2 rfl) ⟨rfl, rfl, trivial⟩ ?_;refine JO.nil (JN.blk_n (tn (JC.region ?_)));obtain ⟨x39, ex39, h⟩ := b_bind h;refine jb (o_add rfl ex39) ?_;refine mq (nl ?_);exact jz ((), (List.set y30.1 (Int.toNat y24.2) (ior .u8 x34 (ior .u8 x36 r37)), x39)) h [1, 0]
        ·refine JC.exit (JN.then_x (JN.then_x (JN.blk_hit (bn ?_))));exact jz ((), y30.1) h [0, 1]
       ·refine JC.region ?_;obtain ⟨x40, ex40, h⟩ := b_bind h;refine jb (o_add rfl ex40) ?_;refine mq (nl ?_);exact jz ((), (x26, x40)) h [0, 1]
      ·refine JC.exit (JN.then_x (JN.then_x (JN.blk_hit (bn ?_))));exact jz ((), y24.1) h [0, 1]
     ·refine JC.region ?_;obtain ⟨x41, ex41, h⟩ := b_bind h;refine jb (o_add rfl ex41) ?_;refine mq (nl ?_);exact jz ((), (x22, x41)) h [0, 1]
    ·refine xa ?_;exact jz ((), y20.1) h [0, 1]
   ·refine JC.cutE (Z := Unit) (α := Unit) (fun z43 x42 => []) (fun z43 x42 => []) (fun e => e = r) h (fun e h => Option.some.inj h) (fun K hR h => ?_) (fun z43 x42 h => ?_)
    ·refine sr (fl fo26_0 ?_);refine lo sz23 ?_;refine ol U23 ?_;refine JO.mc rfl ?_;refine nt (JC.block (JC.loopB (Z := Unit) (α := Int) (fun z45 y44 => [(7, Pt b17), (93, I (a0.1.length : Int)), (94, I y44)]) (fun z45 y44 => [.obj b17 141 (.rep (.arr 4 (.int .u8)) x18)]) (chg_checkThings_l5 k a0 x18) k () (0 : Int) (fun _ => rfl) h (SE.fin [1] ⟨rfl, rfl, rfl, trivial⟩ rfl) (fun n z45 y44 h => ?_)));unfold chg_checkThings_l5 at h;refine sr (jb (o_lss rfl) ?_);refine nt (JC.seq (ci h (fun h => ?_) (fun h => ?_)))
     ·refine sk (JC.seq (JC.block (sr (mq ?_))));refine aq (nt (sr ?_));refine mq ?_;obtain ⟨u46, eu46, h⟩ := b_bind h;refine jb (o_index_arr rfl U141 sz94 (chkP_some eu46).1 (chkP_some eu46).2) ?_;obtain ⟨x47, ex47, h⟩ := b_bind h;refine ka (o_load_arr (t := (.int .u8)) (off := 0) (i := y44) (N := 4) rfl sz94 (fun _ => rfl) rfl rfl rfl rfl ex47) ?_;refine mq ?_;obtain ⟨r48, er48, h⟩ := b_bind h;refine jb (o_call [.tmp 99, .tmp 100] rfl rfl en49 rfl (chg_set_has_ok k x47 y44 r48 er48)) ?_;refine nt (cv h (fun h => ?_) (fun h => ?_))
      ·refine sr (cq (nt (JC.ret (br (JN.blk_r (JN.then_r ?_))))));obtain rfl := hR _ h;exact ra
      ·refine JC.skip (JN.blk_n (tn (JC.region ?_)));obtain ⟨x49, ex49, h⟩ := b_bind h;refine jb (o_add rfl ex49) ?_;refine mq (nl ?_);exact jz ((), x49) h [0]
     ·refine xa ?_;exact jz ((), ()) h []
    ·refine sr (cq (nt (JC.ret ?_)));cases h;exact ra


def chg_Check_l1 (k : Nat) (a0 : dChange) : Nat → Int → Option (Except Int Unit)
 | 0, _ => none
 | n + 1, y6 =>
  if y6 < (a0.2.1.length : Int) then ((geti a0.2.1 y6).bind fun x8 =>
  (chg_checkList k x8.1 (a0.1.length : Int) (-1 : Int)).bind fun r10 =>
  if ¬ (r10 = (0 : Int)) then (some (.error r10)) else ((chg_outside k x8.2.1 (0 : Int) (2 : Int)).bind fun r11 =>
  if r11 = true then (some (.error (8 : Int))) else ((chg_outside k x8.2.2 (0 : Int) (9 : Int)).bind fun r12 =>
  if r12 = true then (some (.error (1 : Int))) else ((ck (y6 + (1 : Int))).bind fun x13 =>
  chg_Check_l1 k a0 n x13)))) else (some (.ok ()))
def chg_Check (k : Nat) (a0 : dChange) : Option Int :=
 (chg_checkThings k a0).bind fun r2 =>
 if ¬ (r2 = (0 : Int)) then (some r2) else ((chg_sized k (a0.2.1.length : Int) (3 : Int)).bind fun r3 =>
 if ¬ (r3 = (0 : Int)) then (some r3) else (bE (α := Unit) (chg_Check_l1 k a0 k (0 : Int)) (some) fun _ =>
 (chg_checkList k a0.2.2.1 (a0.1.length : Int) (-1 : Int)).bind fun r14 =>
 if ¬ (r14 = (0 : Int)) then (some r14) else ((chg_checkList k a0.2.2.2 (a0.1.length : Int) (-1 : Int)).bind fun r15 =>
 some r15)))

theorem chg_Check_ok (k : Nat) (a0 : dChange) (r : Int) (h : chg_Check k a0 = some r) :
 Ctr Try.prog 12 [.rep tChange a0] [] (fun _ : Unit => (resA [I r], [])) := by
 unfold chg_Check at h
 replace h := b_top h
 refine Ctr.of 59 Try.func12 rfl Try.ntmps12 rfl fun S w0 => ?_
 refine sr ?_
 refine bx fun b1 => ?_
 refine cq ?_
 refine nt ?_
 refine JC.seq ?_
 refine sr ?_
 refine lo sz26 ?_
 obtain ⟨r2, er2, h⟩ := b_bind h
 have cr2 := chg_checkThings_ok k a0 r2 er2
 refine ja (o_call [.tmp 9] rfl rfl en43 rfl cr2) ?_
 refine aq ?_
 refine nt ?_
 refine sr ?_
 refine mq ?_
 refine jb (o_neq rfl) ?_
 refine nt ?_
 refine cn h (fun h => ?_) (fun h => ?_)
 ·
  refine sr (mq ?_);refine aq (nt (rx ?_));cases h;exact ra
 ·
  refine sk (JC.seq (sr (fl fo26_1 ?_)));refine lo sz24 ?_;refine ol U24 ?_;obtain ⟨r3, er3, h⟩ := b_bind h;refine jb (o_call [.tmp 16, .const (.int .i64 (3))] rfl rfl en44 rfl (chg_sized_ok k (a0.2.1.length : Int) (3 : Int) r3 er3)) ?_;refine aq (nt (sr ?_));refine mq ?_;refine jb (o_neq rfl) ?_;refine nt (cn h (fun h => ?_) (fun h => ?_))
  ·refine sr (mq ?_);refine aq (nt (rx ?_));cases h;exact ra
  ·refine sk (JC.cutE (Z := Unit) (α := Unit) (fun z5 x4 => [(1, Pt b1)]) (fun z5 x4 => [.obj b1 26 (.rep tChange a0)]) (fun e => e = r) h (fun e h => Option.some.inj h) (fun K hR h => ?_) (fun z5 x4 h => ?_))
   ·refine sr (fl fo26_1 ?_);refine lo sz24 ?_;refine ol U24 ?_;refine JO.mc rfl ?_;refine nt (JC.block (JC.loopB (Z := Unit) (α := Int) (fun z7 y6 => [(1, Pt b1), (22, Rs tDresser a0.2.1), (23, I (a0.2.1.length : Int)), (24, I y6)]) (fun z7 y6 => [.obj b1 26 (.rep tChange a0)]) (chg_Check_l1 k a0) k () (0 : Int) (fun _ => rfl) h (SE.fin [0] ⟨rfl, rfl, rfl, rfl, trivial⟩ rfl) (fun n z7 y6 h => ?_)));unfold chg_Check_l1 at h;refine sr (jb (o_lss rfl) ?_);refine nt (JC.seq (ci h (fun h => ?_) (fun h => ?_)))
    ·refine sk (JC.seq (JC.block (sr ?_)));obtain ⟨x8, ex8, h⟩ := b_bind h;refine jb (o_index (t := tDresser) rfl U24 sz38 ex8) ?_;refine ja (o_load_at (t := tDresser) rfl sz38 rfl) ?_;refine JO.s01 rfl rfl rfl (o_alloc rfl za38 al38) trivial fun b9 => ?_;refine JO.n11 rfl rfl (o_store rfl sz38 rfl rfl rfl) ⟨rfl, rfl, trivial⟩ ?_;refine nt (JC.seq (sr (fl fo38_0 ?_)));refine lo sz22 ?_;refine fl fo26_0 ?_;refine fr 1 ?_;refine lo sz23 ?_;refine ol U23 ?_;obtain ⟨r10, er10, h⟩ := b_bind h;refine jc (o_call [.tmp 29, .tmp 32, .const (.int .i64 (-1))] rfl rfl en45 rfl (chg_checkList_ok k x8.1 (a0.1.length : Int) (-1 : Int) r10 er10)) ?_;refine aq (nt (sr ?_));refine mq ?_;refine jb (o_neq rfl) ?_;refine nt (cn h (fun h => ?_) (fun h => ?_))
     ·refine sr (mq ?_);refine aq (nt (rx (br (JN.blk_r (JN.then_r ?_)))));obtain rfl := hR _ h;exact ra
     ·refine sk (JC.seq (sr (fl fo38_1 ?_)));refine fr 1 ?_;refine lo sz3 ?_;obtain ⟨r11, er11, h⟩ := b_bind h;refine jc (o_call [.tmp 38, .const (.int .i64 (0)), .const (.int .i64 (2))] rfl rfl en46 rfl (chg_outside_ok k x8.2.1 (0 : Int) (2 : Int) r11 er11)) ?_;refine nt (cv h (fun h => ?_) (fun h => ?_))
      ·refine sr (cq (nt (rx (br (JN.blk_r (JN.then_r ?_))))));obtain rfl := hR _ h;exact ra
      ·refine sk (sr (fl fo38_2 ?_));refine lo sz3 ?_;obtain ⟨r12, er12, h⟩ := b_bind h;refine jc (o_call [.tmp 41, .const (.int .i64 (0)), .const (.int .i64 (9))] rfl rfl en46 rfl (chg_outside_ok k x8.2.2 (0 : Int) (9 : Int) r12 er12)) ?_;refine nt (cv h (fun h => ?_) (fun h => ?_))
       ·refine sr (cq (nt (JC.ret (br (JN.blk_r (JN.then_r ?_))))));obtain rfl := hR _ h;exact ra
       ·refine JC.skip (JN.blk_n (tn (JC.region ?_)));obtain ⟨x13, ex13, h⟩ := b_bind h;refine jb (o_add rfl ex13) ?_;refine mq (nl ?_);exact jz ((), x13) h [1]
    ·refine xa ?_;exact jz ((), ()) h [0]
   ·refine JC.seq (sr (fl fo26_2 ?_));refine lo sz22 ?_;refine fl fo26_0 ?_;refine lo sz23 ?_;refine ol U23 ?_;obtain ⟨r14, er14, h⟩ := b_bind h;refine jc (o_call [.tmp 45, .tmp 48, .const (.int .i64 (-1))] rfl rfl en45 rfl (chg_checkList_ok k a0.2.2.1 (a0.1.length : Int) (-1 : Int) r14 er14)) ?_;refine aq (nt (sr ?_));refine mq ?_;refine jb (o_neq rfl) ?_;refine nt (cn h (fun h => ?_) (fun h => ?_))
    ·refine sr (mq ?_);refine aq (nt (rx ?_));cases h;exact ra
    ·refine sk (sr (fl fo26_3 ?_));refine lo sz22 ?_;refine fl fo26_0 ?_;refine lo sz23 ?_;refine ol U23 ?_;obtain ⟨r15, er15, h⟩ := b_bind h;refine jc (o_call [.tmp 54, .tmp 57, .const (.int .i64 (-1))] rfl rfl en45 rfl (chg_checkList_ok k a0.2.2.2 (a0.1.length : Int) (-1 : Int) r15 er15)) ?_;refine aq (nt (JC.ret ?_));cases h;exact ra


def chg_set_list_l1 (k : Nat) (a0 : Int) : Nat → ((List Int) × Int) → Option (List Int)
 | 0, _ => none
 | n + 1, y3 =>
  if y3.2 < (8 : Int) then ((((chg_set_has k a0 y3.2).bind fun r7 =>
  if r7 = true then ((chkP (okLen (List.length y3.1 + List.length [y3.2]))).bind fun _ =>
  some (y3.1 ++ [y3.2])) else (some y3.1)) : Option ((List Int))).bind fun x5 =>
  (ck (y3.2 + (1 : Int))).bind fun x10 =>
  chg_set_list_l1 k a0 n (x5, x10)) else (some y3.1)
def chg_set_list (k : Nat) (a0 : Int) : Option (List Int) :=
 ((chg_set_list_l1 k a0 k (([] : (List Int)), (0 : Int))) : Option ((List Int))).bind fun x1 =>
 some x1

theorem chg_set_list_ok (k : Nat) (a0 : Int) (r : (List Int)) (h : chg_set_list k a0 = some r) :
 Ctr Try.prog 41 [.eq (.int .u8 a0)] [] (fun _ : Unit => (resA [Ri r], [])) := by
 unfold chg_set_list at h
 replace h := b_top h
 refine Ctr.of 17 Try.func41 rfl Try.ntmps41 rfl fun S w0 => ?_
 refine sr ?_
 refine cq ?_
 refine nt ?_
 refine sr ?_
 refine cq ?_
 refine nt ?_
 refine JC.cutB (Z := Value) (α := (List Int)) (fun z2 x1 => [(3, .eq z2)]) (fun z2 x1 => [.sl z2 3 (.int .i64) x1]) h (fun K h => ?_) (fun z2 x1 h => ?_)
 ·
  refine sr (JO.mc rfl ?_);refine nt (JC.block (JC.se (SE.nil 3 (.int .i64)) ?_));refine JC.loopB (Z := Value) (α := (List Int) × Int) (fun z4 y3 => [(0, .eq (.int .u8 a0)), (3, .eq z4), (5, I y3.2)]) (fun z4 y3 => [.sl z4 3 (.int .i64) y3.1]) (chg_set_list_l1 k a0) k (.slice none 0 0) (([] : (List Int)), (0 : Int)) (fun _ => rfl) h (SE.fin [0] ⟨rfl, rfl, rfl, trivial⟩ rfl) (fun n z4 y3 h => ?_);unfold chg_set_list_l1 at h;refine sr (jb (o_lss rfl) ?_);refine nt (JC.seq (ci h (fun h => ?_) (fun h => ?_)))
  ·refine sk (JC.cutB (Z := Value) (α := (List Int)) (fun z6 x5 => [(0, .eq (.int .u8 a0)), (3, .eq z6), (5, I y3.2)]) (fun z6 x5 => [.sl z6 3 (.int .i64) x5]) h (fun K h => ?_) (fun z6 x5 h => ?_))
   ·refine JC.block (sr (mq ?_));refine aq (nt (sr ?_));iterate 2 refine mq ?_
    obtain ⟨r7, er7, h⟩ := b_bind h;refine jb (o_call [.tmp 8, .tmp 9] rfl rfl en49 rfl (chg_set_has_ok k a0 y3.2 r7 er7)) ?_;refine nt (cv h (fun h => ?_) (fun h => ?_))
    ·refine JC.region ?_;iterate 2 refine mq ?_
     refine ja (o_litB (t := (.int .i64)) [(.tmp 12, _)] [y3.2] rfl rfl sl22 (.cons rfl .int .nil) rfl rfl) ?_;obtain ⟨u8, eu8, h⟩ := b_bind h;refine JO.s1x rfl rfl rfl (o_append rfl rfl sl22 (chkP_some eu8)) ⟨rfl, rfl, trivial⟩ fun v9 => ?_;refine aq (JO.nil (bn ?_));exact jz (v9, y3.1 ++ [y3.2]) h [0]
    ·refine JC.skip (bn ?_);exact jz (z4, y3.1) h [0]
   ·refine JC.region ?_;obtain ⟨x10, ex10, h⟩ := b_bind h;refine jb (o_add rfl ex10) ?_;refine mq (nl ?_);exact jz (z6, (x5, x10)) h [0]
  ·refine xa ?_;exact jz (z4, y3.1) h [0]
 ·
  refine sr (mq ?_);refine aq (nt (JC.ret ?_));refine JN.se (SE.frz [2, 3, 16] ⟨rfl, rfl, rfl, trivial⟩) ?_;cases h;exact ra


def chg_changed_l2 (k : Nat) (a0 : dChange) (r2 : Int) (r3 : Int) : Nat → (Int × Int) → Option Int
 | 0, _ => none
 | n + 1, y10 =>
  if y10.2 < (a0.1.length : Int) then ((((geti a0.1 y10.2).bind fun x14 =>
  (chg_set_has k y10.1 y10.2).bind fun r16 =>
  if r16 = true then ((chg_of k x14.1).bind fun r17 =>
  some (ior .u8 y10.1 (iand .u8 (iand .u8 r17 r2) r3))) else (some y10.1)) : Option (Int)).bind fun x12 =>
  (ck (y10.2 + (1 : Int))).bind fun x18 =>
  chg_changed_l2 k a0 r2 r3 n (x12, x18)) else (some y10.1)

def chg_changed_l1 (k : Nat) (a0 : dChange) (r2 : Int) (r3 : Int) : Nat → (Int × Int) → Option Int
 | 0, _ => none
 | n + 1, y6 =>
  if y6.2 < (a0.1.length : Int) then (((chg_changed_l2 k a0 r2 r3 k (y6.1, (0 : Int))) : Option (Int)).bind fun x8 =>
  (ck (y6.2 + (1 : Int))).bind fun x19 =>
  chg_changed_l1 k a0 r2 r3 n (x8, x19)) else (some y6.1)
def chg_changed (k : Nat) (a0 : dChange) : Option Int :=
 (chg_of k a0.2.2.1).bind fun r2 =>
 (chg_of k a0.2.2.2).bind fun r3 =>
 ((chg_changed_l1 k a0 r2 r3 k (ixor .u8 r2 r3, (0 : Int))) : Option (Int)).bind fun x4 =>
 some x4

theorem chg_changed_ok (k : Nat) (a0 : dChange) (r : Int) (h : chg_changed k a0 = some r) :
 Ctr Try.prog 62 [.rep tChange a0] [] (fun _ : Unit => (resA [.eq (.int .u8 r)], [])) := by
 unfold chg_changed at h
 replace h := b_top h
 refine Ctr.of 45 Try.func62 rfl Try.ntmps62 rfl fun S w0 => ?_
 refine sr ?_
 refine bx fun b1 => ?_
 refine cq ?_
 refine nt ?_
 refine JC.seq ?_
 refine JC.drawN ?_
 refine da (o_field_obj rfl fo26_2) ?_
 refine ea 0 (o_load_obj rfl sz22 nfs rfl) ?_
 obtain ⟨r2, er2, h⟩ := b_bind h
 have cr2 := chg_of_ok k a0.2.2.1 r2 er2
 refine da (o_call [.tmp 9] rfl rfl en40 rfl cr2) ?_
 refine da (o_field_obj rfl fo26_3) ?_
 refine ea 0 (o_load_obj rfl sz22 nfs rfl) ?_
 refine df mixed ?_
 obtain ⟨r3, er3, h⟩ := b_bind h
 have cr3 := chg_of_ok k a0.2.2.2 r3 er3
 refine ja (o_call [.tmp 12] rfl rfl en40 rfl cr3) ?_
 refine aq ?_
 refine aq ?_
 refine nt ?_
 refine sr ?_
 iterate 2 refine mq ?_
 refine jb (o_xor rfl) ?_
 refine aq ?_
 refine nt ?_
 refine JC.cutB (Z := Unit) (α := Int) (fun z5 x4 => [(5, .eq (.int .u8 x4))]) (fun z5 x4 => []) h (fun K h => ?_) (fun z5 x4 h => ?_)
 ·
  refine sr (fl fo26_0 ?_);refine lo sz23 ?_;refine ol U23 ?_;refine JO.mc rfl ?_;refine nt (JC.block (JC.loopB (Z := Unit) (α := Int × Int) (fun z7 y6 => [(1, Pt b1), (3, .eq (.int .u8 r2)), (4, .eq (.int .u8 r3)), (5, .eq (.int .u8 y6.1)), (19, I (a0.1.length : Int)), (20, I y6.2)]) (fun z7 y6 => [.obj b1 26 (.rep tChange a0)]) (chg_changed_l1 k a0 r2 r3) k () (ixor .u8 r2 r3, (0 : Int)) (fun _ => rfl) h (SE.fin [0] ⟨rfl, rfl, rfl, rfl, rfl, rfl, trivial⟩ rfl) (fun n z7 y6 h => ?_)));unfold chg_changed_l1 at h;refine sr (jb (o_lss rfl) ?_);refine nt (JC.seq (ci h (fun h => ?_) (fun h => ?_)))
  ·refine sk (JC.cutB (Z := Unit) (α := Int) (fun z9 x8 => [(1, Pt b1), (3, .eq (.int .u8 r2)), (4, .eq (.int .u8 r3)), (5, .eq (.int .u8 x8)), (19, I (a0.1.length : Int)), (20, I y6.2)]) (fun z9 x8 => [.obj b1 26 (.rep tChange a0)]) h (fun K h => ?_) (fun z9 x8 h => ?_))
   ·refine JC.block (sr (fl fo26_0 ?_));refine lo sz23 ?_;refine ol U23 ?_;refine JO.mc rfl ?_;refine nt (JC.block (JC.loopB (Z := Unit) (α := Int × Int) (fun z11 y10 => [(1, Pt b1), (3, .eq (.int .u8 r2)), (4, .eq (.int .u8 r3)), (5, .eq (.int .u8 y10.1)), (19, I (a0.1.length : Int)), (20, I y6.2), (23, Rs tThing a0.1), (24, I (a0.1.length : Int)), (25, I y10.2)]) (fun z11 y10 => [.obj b1 26 (.rep tChange a0)]) (chg_changed_l2 k a0 r2 r3) k () (y6.1, (0 : Int)) (fun _ => rfl) h (SE.fin [0] ⟨rfl, rfl, rfl, rfl, rfl, rfl, rfl, rfl, rfl, trivial⟩ rfl) (fun n z11 y10 h => ?_)));unfold chg_changed_l2 at h;refine sr (jb (o_lss rfl) ?_);refine nt (JC.seq (ci h (fun h => ?_) (fun h => ?_)))
    ·refine sk (JC.cutB (Z := Unit) (α := Int) (fun z13 x12 => [(1, Pt b1), (3, .eq (.int .u8 r2)), (4, .eq (.int .u8 r3)), (5, .eq (.int .u8 x12)), (19, I (a0.1.length : Int)), (20, I y6.2), (23, Rs tThing a0.1), (24, I (a0.1.length : Int)), (25, I y10.2)]) (fun z13 x12 => [.obj b1 26 (.rep tChange a0)]) h (fun K h => ?_) (fun z13 x12 h => ?_))
     ·refine JC.block (sr (mq ?_));obtain ⟨x14, ex14, h⟩ := b_bind h;refine jb (o_index (t := tThing) rfl U23 sz43 ex14) ?_;refine ja (o_load_at (t := tThing) rfl sz43 rfl) ?_;refine JO.s01 rfl rfl rfl (o_alloc rfl za43 al43) trivial fun b15 => ?_;refine aq ?_;refine JO.n11 rfl rfl (o_store rfl sz43 rfl rfl rfl) ⟨rfl, rfl, trivial⟩ ?_;refine nt (sr ?_);iterate 2 refine mq ?_
      obtain ⟨r16, er16, h⟩ := b_bind h;refine jb (o_call [.tmp 30, .tmp 31] rfl rfl en49 rfl (chg_set_has_ok k y10.1 y10.2 r16 er16)) ?_;refine nt (cv h (fun h => ?_) (fun h => ?_))
      ·refine JC.region (mq ?_);refine fl fo43_0 ?_;refine lo sz22 ?_;obtain ⟨r17, er17, h⟩ := b_bind h;refine ja (o_call [.tmp 35] rfl rfl en40 rfl (chg_of_ok k x14.1 r17 er17)) ?_;refine mq ?_;refine jb (o_and rfl) ?_;refine mq ?_;refine jb (o_and rfl) ?_;refine jb (o_or rfl) ?_;refine aq (JO.nil (bn ?_));exact jz ((), ior .u8 y10.1 (iand .u8 (iand .u8 r17 r2) r3)) h [1]
      ·refine JC.skip (bn ?_);exact jz ((), y10.1) h [1]
     ·refine JC.region ?_;obtain ⟨x18, ex18, h⟩ := b_bind h;refine jb (o_add rfl ex18) ?_;refine mq (nl ?_);exact jz ((), (x12, x18)) h [0]
    ·refine JC.exit (JN.then_x (JN.then_x (JN.blk_hit (bn ?_))));exact jz ((), y10.1) h [0]
   ·refine JC.region ?_;obtain ⟨x19, ex19, h⟩ := b_bind h;refine jb (o_add rfl ex19) ?_;refine mq (nl ?_);exact jz ((), (x8, x19)) h [0]
  ·refine xa ?_;exact jz ((), y6.1) h []
 ·
  refine sr (mq ?_);refine aq (nt (JC.ret ?_));cases h;exact ra


def chg_quick_order_1 (k : Nat) (a0 : Int) (a1 : Int) (a2 : (dChange × (List (Bool × Int)) × (List Int))) : Option (dChange × (List (Bool × Int)) × (List Int)) :=
 ((if (0 : Int) ≤ a0 then (some (decide ((0 : Int) ≤ a1))) else (some false)) : Option (Bool)).bind fun x1 =>
 if x1 = true then ((chkP (0 ≤ a1 ∧ a1 < 8)).bind fun _ =>
 (geti a2.2.2 a1).bind fun x4 =>
 (chg_of k [a0]).bind fun r5 =>
 (chkP (0 ≤ a1 ∧ a1 < 8)).bind fun _ =>
 some ((a2.1.1, a2.1.2.1, a2.1.2.2.1, a2.1.2.2.2), a2.2.1, List.set a2.2.2 (Int.toNat a1) (ior .u8 x4 r5))) else (some ((a2.1.1, a2.1.2.1, a2.1.2.2.1, a2.1.2.2.2), a2.2.1, a2.2.2))

theorem chg_quick_order_1_ok (k : Nat) (a0 : Int) (a1 : Int) (a2 : (dChange × (List (Bool × Int)) × (List Int))) (b_a2 : Nat) (m_a2 : Value) (c_a2 : Nat) (r : (dChange × (List (Bool × Int)) × (List Int))) (h : chg_quick_order_1 k a0 a1 a2 = some r) :
 Ctr Try.prog 78 [I a0, I a1, Pt c_a2] [.obj b_a2 98 (Qq a2 (.eq m_a2)), .obj c_a2 83 (Pt b_a2)] (fun _ : Unit => (resA [], [.obj b_a2 98 (Qq r (.eq m_a2)), .obj c_a2 83 (Pt b_a2)])) := by
 unfold chg_quick_order_1 at h
 replace h := b_top h
 refine Ctr.of 24 Try.func78 rfl Try.ntmps78 rfl fun S w0 => ?_
 refine JC.cutB (Z := Unit) (α := Bool) (fun z2 x1 => [(0, I a0), (1, I a1), (2, Pt c_a2), (10, .eq (.bool x1))]) (fun z2 x1 => [.obj c_a2 83 (Pt b_a2), .obj b_a2 98 (Qq a2 (.eq m_a2))]) h (fun K h => ?_) (fun z2 x1 h => ?_)
 ·
  refine JC.region (mq ?_);refine jb (o_geq rfl) ?_;refine mq ?_;refine JO.bool (s := 7) rfl (fun hb => ?_) (fun hb => ?_)
  ·replace h := b_if (d_t hb) h;refine gm ?_;refine gb (o_geq rfl) ?_;refine pt (nl ?_);exact jz ((), decide ((0 : Int) ≤ a1)) h [1, 0]
  ·replace h := b_ifn (d_f hb) h;iterate 2 refine gn ?_
   refine pf (nl ?_);exact jz ((), false) h [1, 0]
 ·
  refine cv h (fun h => ?_) (fun h => ?_)
  ·refine JC.drawN ?_;refine ea 0 (o_load_obj rfl sz83 nfs rfl) ?_;refine dm ?_;refine da (o_nil_obj rfl) ?_;refine da (o_field_obj rfl fo98_2) ?_;obtain ⟨u3, eu3, h⟩ := b_bind h;refine db (o_index_arr rfl U95 sz94 (chkP_some eu3).1 (chkP_some eu3).2) ?_;obtain ⟨x4, ex4, h⟩ := b_bind h;refine ea 1 (o_load_arr (t := (.int .u8)) (off := 5) (i := a1) (N := 8) rfl sz94 (fun _ => rfl) rfl rfl rfl rfl ex4) ?_;refine dm ?_;refine da (o_litB (t := (.int .i64)) [(.tmp 17, _)] [a0] rfl rfl sl22 (.cons rfl .int .nil) rfl rfl) ?_;obtain ⟨r5, er5, h⟩ := b_bind h;refine da (o_call [.tmp 18] rfl rfl en40 rfl (chg_of_ok k [a0] r5 er5)) ?_;refine db (o_or rfl) ?_;refine da (o_nil_obj rfl) ?_;refine da (o_field_obj rfl fo98_2) ?_;refine df mixed ?_;obtain ⟨u6, eu6, h⟩ := b_bind h;refine jb (o_index_arr rfl U95 sz94 (chkP_some eu6).1 (chkP_some eu6).2) ?_;refine fr 1 ?_;refine JO.n11 rfl rfl (o_store_arr (t := (.int .u8)) (off := 5) (i := a1) (N := 8) rfl sz94 .int rfl rfl rfl rfl (chkP_some eu6).1 (chkP_some eu6).2 rfl) ⟨rfl, rfl, trivial⟩ ?_;refine JO.nil (JN.end_n ?_);cases h;exact JN.ret () [] 2 trivial rfl
  ·refine JC.skip (JN.end_n ?_);refine JN.se (SE.fin (Γ' := []) [1, 0] trivial rfl) ?_;cases h;exact JN.ret () [] 2 trivial rfl


def chg_off_thing (k : Nat) (a0 : Int) : Option Int :=
 some a0

theorem chg_off_thing_ok (k : Nat) (a0 : Int) (r : Int) (h : chg_off_thing k a0 = some r) :
 Ctr Try.prog 47 [I a0] [] (fun _ : Unit => (resA [I r], [])) := by
 unfold chg_off_thing at h
 replace h := b_top h
 refine Ctr.of 4 Try.func47 rfl Try.ntmps47 rfl fun S w0 => ?_
 refine sr ?_
 refine cq ?_
 refine nt ?_
 refine sr ?_
 refine mq ?_
 refine aq ?_
 refine nt ?_
 refine JC.ret ?_
 cases h
 exact ra


def chg_on_thing (k : Nat) (a0 : Int) : Option Int :=
 some a0

theorem chg_on_thing_ok (k : Nat) (a0 : Int) (r : Int) (h : chg_on_thing k a0 = some r) :
 Ctr Try.prog 48 [I a0] [] (fun _ : Unit => (resA [I r], [])) := by
 unfold chg_on_thing at h
 replace h := b_top h
 refine Ctr.of 4 Try.func48 rfl Try.ntmps48 rfl fun S w0 => ?_
 refine sr ?_
 refine cq ?_
 refine nt ?_
 refine sr ?_
 refine mq ?_
 refine aq ?_
 refine nt ?_
 refine JC.ret ?_
 cases h
 exact ra


def chg_quick_number_l1 (k : Nat) (a0 : (dChange × (List (Bool × Int)) × (List Int))) (a1 : Int) (a2 : Bool) : Nat → Int → Option (Except Int Unit)
 | 0, _ => none
 | n + 1, y3 =>
  if y3 < (a0.2.1.length : Int) then (bE (α := Unit) ((geti a0.2.1 y3).bind fun x7 =>
  if ¬ (x7.1 = true) then (((if ¬ (a2 = true) then ((cond x7.1 (chg_on_thing k x7.2) (chg_off_thing k x7.2)).bind fun r10 =>
  some (decide (r10 = a1))) else (some false)) : Option (Bool)).bind fun x8 =>
  if x8 = true then (some (.error y3)) else (some (.ok ()))) else (if x7.1 = true then (((if a2 = true then ((cond x7.1 (chg_on_thing k x7.2) (chg_off_thing k x7.2)).bind fun r13 =>
  some (decide (r13 = a1))) else (some false)) : Option (Bool)).bind fun x11 =>
  if x11 = true then (some (.error y3)) else (some (.ok ()))) else (some (.ok ())))) (fun e => some (.error e)) fun _ =>
  (ck (y3 + (1 : Int))).bind fun x14 =>
  chg_quick_number_l1 k a0 a1 a2 n x14) else (some (.ok ()))
def chg_quick_number (k : Nat) (a0 : (dChange × (List (Bool × Int)) × (List Int))) (a1 : Int) (a2 : Bool) : Option Int :=
 bE (α := Unit) (chg_quick_number_l1 k a0 a1 a2 k (0 : Int)) (some) fun _ =>
 some (-1 : Int)

theorem chg_quick_number_ok (k : Nat) (a0 : (dChange × (List (Bool × Int)) × (List Int))) (b_a0 : Nat) (m_a0 : Value) (a1 : Int) (a2 : Bool) (r : Int) (h : chg_quick_number k a0 a1 a2 = some r) :
 Ctr Try.prog 79 [Pt b_a0, I a1, .eq (.bool a2)] [.obj b_a0 98 (Qq a0 (.eq m_a0))] (fun _ : Unit => (resA [I r], [.obj b_a0 98 (Qq a0 (.eq m_a0))])) := by
 unfold chg_quick_number at h
 replace h := b_top h
 refine Ctr.of 44 Try.func79 rfl Try.ntmps79 rfl fun S w0 => ?_
 refine sr ?_
 refine cq ?_
 refine nt ?_
 refine JC.cutE (Z := Unit) (α := Unit) (fun z2 x1 => []) (fun z2 x1 => [.obj b_a0 98 (Qq a0 (.eq m_a0))]) (fun e => e = r) h (fun e h => Option.some.inj h) (fun K hR h => ?_) (fun z2 x1 h => ?_)
 ·
  refine sr (mq ?_);refine ja (o_nil_obj rfl) ?_;refine fl fo98_1 ?_;refine lo sz93 ?_;refine ol U93 ?_;refine JO.mc rfl ?_;refine nt (JC.block (JC.loopB (Z := Unit) (α := Int) (fun z4 y3 => [(1, I a1), (2, .eq (.bool a2)), (12, .rep (.slice (.tag 109 111)) a0.2.1), (13, I (a0.2.1.length : Int)), (14, I y3)]) (fun z4 y3 => [.obj b_a0 98 (Qq a0 (.eq m_a0))]) (chg_quick_number_l1 k a0 a1 a2) k () (0 : Int) (fun _ => rfl) h (SE.fin [0] ⟨rfl, rfl, rfl, rfl, rfl, trivial⟩ rfl) (fun n z4 y3 h => ?_)));unfold chg_quick_number_l1 at h;refine sr (jb (o_lss rfl) ?_);refine nt (JC.seq (ci h (fun h => ?_) (fun h => ?_)))
  ·refine sk (JC.cutE (Z := Unit) (α := Unit) (fun z6 x5 => [(1, I a1), (2, .eq (.bool a2)), (12, .rep (.slice (.tag 109 111)) a0.2.1), (13, I (a0.2.1.length : Int)), (14, I y3)]) (fun z6 x5 => [.obj b_a0 98 (Qq a0 (.eq m_a0))]) (fun e => e = r) h (fun e h => hR e h) (fun K hR h => ?_) (fun z6 x5 h => ?_))
   ·refine JC.block (sr (mq ?_));obtain ⟨x7, ex7, h⟩ := b_bind h;refine jb (o_index (t := (.tag 109 111)) rfl U93 sz108 ex7) ?_;refine ja (o_load_at (t := (.tag 109 111)) rfl sz108 rfl) ?_;refine aq ?_;refine aq (nt (sr ?_));refine mq (nt (JC.block (sr ?_)));refine JO.s rfl (o_as0 rfl ta109 (by decide)) ⟨rfl, trivial⟩ ?_;refine xr ?_;refine xr ?_;refine nt (cw h (fun h => ?_) (fun h => ?_))
    ·refine JC.cutB (Z := Unit) (α := Bool) (fun z9 x8 => [(1, I a1), (2, .eq (.bool a2)), (7, I y3), (12, .rep (.slice (.tag 109 111)) a0.2.1), (13, I (a0.2.1.length : Int)), (14, I y3), (30, .eq (.bool x8))]) (fun z9 x8 => [.obj b_a0 98 (Qq a0 (.eq m_a0))]) h (fun K h => ?_) (fun z9 x8 h => ?_)
     ·refine JC.region (mq ?_);refine ja (o_not rfl) ?_;refine mq ?_;refine JO.bool (s := 25) rfl (fun hb => ?_) (fun hb => ?_)
      ·replace h := b_if (nv_t hb) h;refine gm ?_;obtain ⟨r10, er10, h⟩ := b_bind h;refine JO.g00 rfl rfl rfl rfl rfl rfl (o_invoke rfl rfl mt109_thing mt111_thing (ctr_cond (fun hb => chg_off_thing_ok k x7.2 r10 (by simpa [hb] using er10)) (fun hb => chg_on_thing_ok k x7.2 r10 (by simpa [hb] using er10)))) ⟨rfl, trivial⟩ ?_;refine gm ?_;refine gb (o_eql rfl) ?_;refine pt (nl ?_);exact jz ((), decide (r10 = a1)) h [0]
      ·replace h := b_ifn (nv_fn hb) h;iterate 4 refine gn ?_
       refine pf (nl ?_);exact jz ((), false) h [0]
     ·refine cv h (fun h => ?_) (fun h => ?_)
      ·refine sr (mq ?_);refine aq (nt (JC.ret (JN.blk_r (br (JN.blk_r (JN.then_r ?_))))));obtain rfl := hR _ h;exact JN.ret () [_] 1 ⟨rfl, trivial⟩ rfl
      ·refine JC.skip (JN.blk_n (bn ?_));exact jz ((), ()) h [0]
    ·refine sr (JO.s rfl (o_as1 rfl ta111 (by decide)) ⟨rfl, trivial⟩ ?_);refine xr ?_;refine xr ?_;refine nt (cv h (fun h => ?_) (fun h => ?_))
     ·refine JC.cutB (Z := Unit) (α := Bool) (fun z12 x11 => [(1, I a1), (2, .eq (.bool a2)), (7, I y3), (12, .rep (.slice (.tag 109 111)) a0.2.1), (13, I (a0.2.1.length : Int)), (14, I y3), (41, .eq (.bool x11))]) (fun z12 x11 => [.obj b_a0 98 (Qq a0 (.eq m_a0))]) h (fun K h => ?_) (fun z12 x11 h => ?_)
      ·refine JC.region ?_;iterate 2 refine mq ?_
       refine JO.bool (s := 36) rfl (fun hb => ?_) (fun hb => ?_)
       ·replace h := b_if (v_t hb) h;refine gm ?_;obtain ⟨r13, er13, h⟩ := b_bind h;refine JO.g00 rfl rfl rfl rfl rfl rfl (o_invoke rfl rfl mt109_thing mt111_thing (ctr_cond (fun hb => chg_off_thing_ok k x7.2 r13 (by simpa [hb] using er13)) (fun hb => chg_on_thing_ok k x7.2 r13 (by simpa [hb] using er13)))) ⟨rfl, trivial⟩ ?_;refine gm ?_;refine gb (o_eql rfl) ?_;refine pt (nl ?_);exact jz ((), decide (r13 = a1)) h [0]
       ·replace h := b_ifn (v_f hb) h;iterate 4 refine gn ?_
        refine pf (nl ?_);exact jz ((), false) h [0]
      ·refine cv h (fun h => ?_) (fun h => ?_)
       ·refine sr (mq ?_);refine aq (nt (JC.ret (JN.blk_r (br (JN.blk_r (JN.then_r ?_))))));obtain rfl := hR _ h;exact JN.ret () [_] 1 ⟨rfl, trivial⟩ rfl
       ·refine JC.skip (JN.blk_n (bn ?_));exact jz ((), ()) h [0]
     ·refine JC.skip (JN.blk_n (bn ?_));exact jz ((), ()) h [0]
   ·refine JC.region ?_;obtain ⟨x14, ex14, h⟩ := b_bind h;refine jb (o_add rfl ex14) ?_;refine mq (nl ?_);exact jz ((), x14) h [0]
  ·refine xa ?_;exact jz ((), ()) h [0]
 ·
  refine sr (cq (nt (JC.ret ?_)));cases h;exact JN.ret () [_] 1 ⟨rfl, trivial⟩ rfl


def chg_quick_order_l2 (k : Nat) (y2 : (List dThing) × (List dDresser) × (List Int) × (List Int) × (List (Bool × Int)) × (List Int) × Int) (x6 : dThing) : Nat → ((List dThing) × (List dDresser) × (List Int) × (List Int) × (List (Bool × Int)) × (List Int) × Int) → Option ((List dThing) × (List dDresser) × (List Int) × (List Int) × (List (Bool × Int)) × (List Int))
 | 0, _ => none
 | n + 1, y11 =>
  if y11.2.2.2.2.2.2 < (x6.1.length : Int) then ((geti x6.1 y11.2.2.2.2.2.2).bind fun x13 =>
  (chg_quick_number k ((y11.1, y11.2.1, y11.2.2.1, y11.2.2.2.1), y11.2.2.2.2.1, y11.2.2.2.2.2.1) x13 false).bind fun r14 =>
  (chg_quick_number k ((y11.1, y11.2.1, y11.2.2.1, y11.2.2.2.1), y11.2.2.2.2.1, y11.2.2.2.2.2.1) y2.2.2.2.2.2.2 false).bind fun r15 =>
  (chg_quick_order_1 k r14 r15 ((y11.1, y11.2.1, y11.2.2.1, y11.2.2.2.1), y11.2.2.2.2.1, y11.2.2.2.2.2.1)).bind fun r16 =>
  (chg_quick_number k ((r16.1.1, r16.1.2.1, r16.1.2.2.1, r16.1.2.2.2), r16.2.1, r16.2.2) x13 false).bind fun r17 =>
  (chg_quick_number k ((r16.1.1, r16.1.2.1, r16.1.2.2.1, r16.1.2.2.2), r16.2.1, r16.2.2) y2.2.2.2.2.2.2 true).bind fun r18 =>
  (chg_quick_order_1 k r17 r18 ((r16.1.1, r16.1.2.1, r16.1.2.2.1, r16.1.2.2.2), r16.2.1, r16.2.2)).bind fun r19 =>
  (chg_quick_number k ((r19.1.1, r19.1.2.1, r19.1.2.2.1, r19.1.2.2.2), r19.2.1, r19.2.2) y2.2.2.2.2.2.2 false).bind fun r20 =>
  (chg_quick_number k ((r19.1.1, r19.1.2.1, r19.1.2.2.1, r19.1.2.2.2), r19.2.1, r19.2.2) x13 true).bind fun r21 =>
  (chg_quick_order_1 k r20 r21 ((r19.1.1, r19.1.2.1, r19.1.2.2.1, r19.1.2.2.2), r19.2.1, r19.2.2)).bind fun r22 =>
  (chg_quick_number k ((r22.1.1, r22.1.2.1, r22.1.2.2.1, r22.1.2.2.2), r22.2.1, r22.2.2) y2.2.2.2.2.2.2 true).bind fun r23 =>
  (chg_quick_number k ((r22.1.1, r22.1.2.1, r22.1.2.2.1, r22.1.2.2.2), r22.2.1, r22.2.2) x13 true).bind fun r24 =>
  (chg_quick_order_1 k r23 r24 ((r22.1.1, r22.1.2.1, r22.1.2.2.1, r22.1.2.2.2), r22.2.1, r22.2.2)).bind fun r25 =>
  (ck (y11.2.2.2.2.2.2 + (1 : Int))).bind fun x26 =>
  chg_quick_order_l2 k y2 x6 n (r25.1.1, r25.1.2.1, r25.1.2.2.1, r25.1.2.2.2, r25.2.1, r25.2.2, x26)) else (some (y11.1, y11.2.1, y11.2.2.1, y11.2.2.2.1, y11.2.2.2.2.1, y11.2.2.2.2.2.1))

def chg_quick_order_l1 (k : Nat) (a0 : (dChange × (List (Bool × Int)) × (List Int))) : Nat → ((List dThing) × (List dDresser) × (List Int) × (List Int) × (List (Bool × Int)) × (List Int) × Int) → Option (dChange × (List (Bool × Int)) × (List Int))
 | 0, _ => none
 | n + 1, y2 =>
  if y2.2.2.2.2.2.2 < (a0.1.1.length : Int) then ((((geti a0.1.1 y2.2.2.2.2.2.2).bind fun x6 =>
  (chg_quick_number k ((y2.1, y2.2.1, y2.2.2.1, y2.2.2.2.1), y2.2.2.2.2.1, y2.2.2.2.2.2.1) y2.2.2.2.2.2.2 false).bind fun r8 =>
  (chg_quick_number k ((y2.1, y2.2.1, y2.2.2.1, y2.2.2.2.1), y2.2.2.2.2.1, y2.2.2.2.2.2.1) y2.2.2.2.2.2.2 true).bind fun r9 =>
  (chg_quick_order_1 k r8 r9 ((y2.1, y2.2.1, y2.2.2.1, y2.2.2.2.1), y2.2.2.2.2.1, y2.2.2.2.2.2.1)).bind fun r10 =>
  chg_quick_order_l2 k y2 x6 k (r10.1.1, r10.1.2.1, r10.1.2.2.1, r10.1.2.2.2, r10.2.1, r10.2.2, (0 : Int))) : Option ((List dThing) × (List dDresser) × (List Int) × (List Int) × (List (Bool × Int)) × (List Int))).bind fun x4 =>
  (ck (y2.2.2.2.2.2.2 + (1 : Int))).bind fun x27 =>
  chg_quick_order_l1 k a0 n (x4.1, x4.2.1, x4.2.2.1, x4.2.2.2.1, x4.2.2.2.2.1, x4.2.2.2.2.2, x27)) else (some ((y2.1, y2.2.1, y2.2.2.1, y2.2.2.2.1), y2.2.2.2.2.1, y2.2.2.2.2.2.1))
def chg_quick_order (k : Nat) (a0 : (dChange × (List (Bool × Int)) × (List Int))) : Option (dChange × (List (Bool × Int)) × (List Int)) :=
 chg_quick_order_l1 k a0 k (a0.1.1, a0.1.2.1, a0.1.2.2.1, a0.1.2.2.2, a0.2.1, a0.2.2, (0 : Int))

theorem chg_quick_order_ok (k : Nat) (a0 : (dChange × (List (Bool × Int)) × (List Int))) (b_a0 : Nat) (m_a0 : Value) (r : (dChange × (List (Bool × Int)) × (List Int))) (h : chg_quick_order k a0 = some r) :
 Ctr Try.prog 63 [Pt b_a0] [.obj b_a0 98 (Qq a0 (.eq m_a0))] (fun _ : Unit => (resA [], [.obj b_a0 98 (Qq r (.eq m_a0))])) := by
 unfold chg_quick_order at h
 replace h := b_top h
 refine Ctr.of 68 Try.func63 rfl Try.ntmps63 rfl fun S w0 => ?_
 refine sr ?_
 refine bx fun b1 => ?_
 refine nt ?_
 refine sr ?_
 refine ja (o_mkfn [] [.tmp 1] [] [(Pv b1)] rfl rfl rfl) ?_
 refine aq ?_
 refine nt ?_
 refine sr ?_
 refine lo sz83 ?_
 refine ja (o_nil_obj rfl) ?_
 refine fl fo98_0 ?_
 refine fl fo26_0 ?_
 refine fr 1 ?_
 refine lo sz23 ?_
 refine ol U23 ?_
 refine JO.mc rfl ?_
 refine nt ?_
 refine JC.block ?_
 refine JC.loopB (Z := Unit) (α := (List dThing) × (List dDresser) × (List Int) × (List Int) × (List (Bool × Int)) × (List Int) × Int) (fun z3 y2 => [(1, Pt b1), (2, .eq (.func (.func 78) #[] #[(Pv b1)])), (12, Rs tThing a0.1.1), (13, I (a0.1.1.length : Int)), (14, I y2.2.2.2.2.2.2)]) (fun z3 y2 => [.obj b1 83 (Pt b_a0), .obj b_a0 98 (.agg (.pair (.agg (.pair (Rs tThing y2.1) (.pair (Rs tDresser y2.2.1) (.pair (Ri y2.2.2.1) (Ri y2.2.2.2.1))))) (.pair (.rep (.slice (.tag 109 111)) y2.2.2.2.2.1) (.pair (.rep (.arr 8 (.int .u8)) y2.2.2.2.2.2.1) (.eq m_a0)))))]) (chg_quick_order_l1 k a0) k () (a0.1.1, a0.1.2.1, a0.1.2.2.1, a0.1.2.2.2, a0.2.1, a0.2.2, (0 : Int)) (fun _ => rfl) h (SE.fin [1, 0] ⟨rfl, rfl, rfl, rfl, rfl, trivial⟩ rfl) (fun n z3 y2 h => ?_)
 unfold chg_quick_order_l1 at h
 refine sr ?_
 refine jb (o_lss rfl) ?_
 refine nt ?_
 refine JC.seq ?_
 refine ci h (fun h => ?_) (fun h => ?_)
 ·
  refine sk (JC.cutB (Z := Unit) (α := (List dThing) × (List dDresser) × (List Int) × (List Int) × (List (Bool × Int)) × (List Int)) (fun z5 x4 => [(1, Pt b1), (2, .eq (.func (.func 78) #[] #[(Pv b1)])), (12, Rs tThing a0.1.1), (13, I (a0.1.1.length : Int)), (14, I y2.2.2.2.2.2.2)]) (fun z5 x4 => [.obj b1 83 (Pt b_a0), .obj b_a0 98 (.agg (.pair (.agg (.pair (Rs tThing x4.1) (.pair (Rs tDresser x4.2.1) (.pair (Ri x4.2.2.1) (Ri x4.2.2.2.1))))) (.pair (.rep (.slice (.tag 109 111)) x4.2.2.2.2.1) (.pair (.rep (.arr 8 (.int .u8)) x4.2.2.2.2.2) (.eq m_a0)))))]) h (fun K h => ?_) (fun z5 x4 h => ?_))
  ·refine JC.block (sr (mq ?_));obtain ⟨x6, ex6, h⟩ := b_bind h;refine jb (o_index (t := tThing) rfl U23 sz43 ex6) ?_;refine ja (o_load_at (t := tThing) rfl sz43 rfl) ?_;refine JO.s01 rfl rfl rfl (o_alloc rfl za43 al43) trivial fun b7 => ?_;refine aq ?_;refine JO.n11 rfl rfl (o_store rfl sz43 rfl rfl rfl) ⟨rfl, rfl, trivial⟩ ?_;refine nt (JC.seq (JC.drawN ?_));refine dm ?_;refine ea 1 (o_load_obj rfl sz83 nfs rfl) ?_;refine dm ?_;obtain ⟨r8, er8, h⟩ := b_bind h;refine ec 2 (o_call [.tmp 20, .tmp 21, .const (.bool false)] rfl rfl en79 rfl (chg_quick_number_ok k ((y2.1, y2.2.1, y2.2.2.1, y2.2.2.2.1), y2.2.2.2.2.1, y2.2.2.2.2.2.1) b_a0 m_a0 y2.2.2.2.2.2.2 false r8 er8)) ?_;refine ea 1 (o_load_obj rfl sz83 nfs rfl) ?_;refine dm ?_;obtain ⟨r9, er9, h⟩ := b_bind h;refine ec 2 (o_call [.tmp 23, .tmp 24, .const (.bool true)] rfl rfl en79 rfl (chg_quick_number_ok k ((y2.1, y2.2.1, y2.2.2.1, y2.2.2.2.1), y2.2.2.2.2.1, y2.2.2.2.2.2.1) b_a0 m_a0 y2.2.2.2.2.2.2 true r9 er9)) ?_;refine df mixed ?_;obtain ⟨r10, er10, h⟩ := b_bind h;refine fr 1 ?_;refine fr 2 ?_;refine JO.stepG (Δ := [_, _]) (F := _) (fun _ _ _ => wanted_none rfl _) rfl rfl (o_callv (fs := []) (cs := [(Pv b1)]) (ags := [I r8, I r9]) [.tmp 22, .tmp 25] rfl rfl en78 rfl (chg_quick_order_1_ok k r8 r9 ((y2.1, y2.2.1, y2.2.2.1, y2.2.2.2.1), y2.2.2.2.2.1, y2.2.2.2.2.2.1) b_a0 m_a0 b1 r10 er10)) ⟨rfl, rfl, rfl, trivial⟩ fun _ => ?_;refine nt (sr (fl fo43_0 ?_));refine fr 2 ?_;refine lo sz22 ?_;refine ol U22 ?_;refine JO.mc rfl ?_;refine nt (JC.block (JC.loopB (Z := Unit) (α := (List dThing) × (List dDresser) × (List Int) × (List Int) × (List (Bool × Int)) × (List Int) × Int) (fun z12 y11 => [(1, Pt b1), (2, .eq (.func (.func 78) #[] #[(Pv b1)])), (3, I y2.2.2.2.2.2.2), (12, Rs tThing a0.1.1), (13, I (a0.1.1.length : Int)), (14, I y2.2.2.2.2.2.2), (28, Ri x6.1), (29, I (x6.1.length : Int)), (30, I y11.2.2.2.2.2.2)]) (fun z12 y11 => [.obj b1 83 (Pt b_a0), .obj b_a0 98 (.agg (.pair (.agg (.pair (Rs tThing y11.1) (.pair (Rs tDresser y11.2.1) (.pair (Ri y11.2.2.1) (Ri y11.2.2.2.1))))) (.pair (.rep (.slice (.tag 109 111)) y11.2.2.2.2.1) (.pair (.rep (.arr 8 (.int .u8)) y11.2.2.2.2.2.1) (.eq m_a0)))))]) (chg_quick_order_l2 k y2 x6) k () (r10.1.1, r10.1.2.1, r10.1.2.2.1, r10.1.2.2.2, r10.2.1, r10.2.2, (0 : Int)) (fun _ => rfl) h (SE.fin [2, 1] ⟨rfl, rfl, rfl, rfl, rfl, rfl, rfl, rfl, rfl, trivial⟩ rfl) (fun n z12 y11 h => ?_)));unfold chg_quick_order_l2 at h;refine sr (jb (o_lss rfl) ?_);refine nt (JC.seq (ci h (fun h => ?_) (fun h => ?_)))
   ·refine sk (JC.seq (JC.block (sr ?_)));obtain ⟨x13, ex13, h⟩ := b_bind h;refine jb (o_index (t := (.int .i64)) rfl U22 sz3 ex13) ?_;refine ja (o_load_at (t := (.int .i64)) rfl sz3 rfl) ?_;refine aq (nt (JC.seq ?_));refine JC.drawN ?_;refine dm ?_;refine ea 0 (o_load_obj rfl sz83 nfs rfl) ?_;refine dm ?_;obtain ⟨r14, er14, h⟩ := b_bind h;refine ec 1 (o_call [.tmp 35, .tmp 36, .const (.bool false)] rfl rfl en79 rfl (chg_quick_number_ok k ((y11.1, y11.2.1, y11.2.2.1, y11.2.2.2.1), y11.2.2.2.2.1, y11.2.2.2.2.2.1) b_a0 m_a0 x13 false r14 er14)) ?_;refine ea 0 (o_load_obj rfl sz83 nfs rfl) ?_;refine dm ?_;obtain ⟨r15, er15, h⟩ := b_bind h;refine ec 1 (o_call [.tmp 38, .tmp 39, .const (.bool false)] rfl rfl en79 rfl (chg_quick_number_ok k ((y11.1, y11.2.1, y11.2.2.1, y11.2.2.2.1), y11.2.2.2.2.1, y11.2.2.2.2.2.1) b_a0 m_a0 y2.2.2.2.2.2.2 false r15 er15)) ?_;refine df mixed ?_;obtain ⟨r16, er16, h⟩ := b_bind h;refine fr 1 ?_;refine JO.stepG (Δ := [_, _]) (F := _) (fun _ _ _ => wanted_none rfl _) rfl rfl (o_callv (fs := []) (cs := [(Pv b1)]) (ags := [I r14, I r15]) [.tmp 37, .tmp 40] rfl rfl en78 rfl (chg_quick_order_1_ok k r14 r15 ((y11.1, y11.2.1, y11.2.2.1, y11.2.2.2.1), y11.2.2.2.2.1, y11.2.2.2.2.2.1) b_a0 m_a0 b1 r16 er16)) ⟨rfl, rfl, rfl, trivial⟩ fun _ => ?_;refine nt (JC.seq (JC.drawN ?_));refine dm ?_;refine ea 1 (o_load_obj rfl sz83 nfs rfl) ?_;refine dm ?_;obtain ⟨r17, er17, h⟩ := b_bind h;refine ec 0 (o_call [.tmp 43, .tmp 44, .const (.bool false)] rfl rfl en79 rfl (chg_quick_number_ok k ((r16.1.1, r16.1.2.1, r16.1.2.2.1, r16.1.2.2.2), r16.2.1, r16.2.2) b_a0 m_a0 x13 false r17 er17)) ?_;refine ea 1 (o_load_obj rfl sz83 nfs rfl) ?_;refine dm ?_;obtain ⟨r18, er18, h⟩ := b_bind h;refine ec 0 (o_call [.tmp 46, .tmp 47, .const (.bool true)] rfl rfl en79 rfl (chg_quick_number_ok k ((r16.1.1, r16.1.2.1, r16.1.2.2.1, r16.1.2.2.2), r16.2.1, r16.2.2) b_a0 m_a0 y2.2.2.2.2.2.2 true r18 er18)) ?_;refine df mixed ?_;obtain ⟨r19, er19, h⟩ := b_bind h;refine fr 1 ?_;refine fr 1 ?_;refine JO.stepG (Δ := [_, _]) (F := _) (fun _ _ _ => wanted_none rfl _) rfl rfl (o_callv (fs := []) (cs := [(Pv b1)]) (ags := [I r17, I r18]) [.tmp 45, .tmp 48] rfl rfl en78 rfl (chg_quick_order_1_ok k r17 r18 ((r16.1.1, r16.1.2.1, r16.1.2.2.1, r16.1.2.2.2), r16.2.1, r16.2.2) b_a0 m_a0 b1 r19 er19)) ⟨rfl, rfl, rfl, trivial⟩ fun _ => ?_;refine nt (JC.seq (JC.drawN ?_));refine dm ?_;refine ea 1 (o_load_obj rfl sz83 nfs rfl) ?_;refine dm ?_;obtain ⟨r20, er20, h⟩ := b_bind h;refine ec 0 (o_call [.tmp 51, .tmp 52, .const (.bool false)] rfl rfl en79 rfl (chg_quick_number_ok k ((r19.1.1, r19.1.2.1, r19.1.2.2.1, r19.1.2.2.2), r19.2.1, r19.2.2) b_a0 m_a0 y2.2.2.2.2.2.2 false r20 er20)) ?_;refine ea 1 (o_load_obj rfl sz83 nfs rfl) ?_;refine dm ?_;obtain ⟨r21, er21, h⟩ := b_bind h;refine ec 0 (o_call [.tmp 54, .tmp 55, .const (.bool true)] rfl rfl en79 rfl (chg_quick_number_ok k ((r19.1.1, r19.1.2.1, r19.1.2.2.1, r19.1.2.2.2), r19.2.1, r19.2.2) b_a0 m_a0 x13 true r21 er21)) ?_;refine df mixed ?_;obtain ⟨r22, er22, h⟩ := b_bind h;refine fr 1 ?_;refine fr 1 ?_;refine JO.stepG (Δ := [_, _]) (F := _) (fun _ _ _ => wanted_none rfl _) rfl rfl (o_callv (fs := []) (cs := [(Pv b1)]) (ags := [I r20, I r21]) [.tmp 53, .tmp 56] rfl rfl en78 rfl (chg_quick_order_1_ok k r20 r21 ((r19.1.1, r19.1.2.1, r19.1.2.2.1, r19.1.2.2.2), r19.2.1, r19.2.2) b_a0 m_a0 b1 r22 er22)) ⟨rfl, rfl, rfl, trivial⟩ fun _ => ?_;refine nt (JC.drawN ?_);refine dm ?_;refine ea 1 (o_load_obj rfl sz83 nfs rfl) ?_;refine dm ?_;obtain ⟨r23, er23, h⟩ := b_bind h;have cr23 := chg_quick_number_ok k ((r22.1.1, r22.1.2.1, r22.1.2.2.1, r22.1.2.2.2), r22.2.1, r22.2.2) b_a0 m_a0 y2.2.2.2.2.2.2 true r23 er23
    refine ec 0 (o_call [.tmp 59, .tmp 60, .const (.bool true)] rfl rfl en79 rfl cr23) ?_;refine ea 1 (o_load_obj rfl sz83 nfs rfl) ?_;refine dm ?_;obtain ⟨r24, er24, h⟩ := b_bind h;refine ec 0 (o_call [.tmp 62, .tmp 63, .const (.bool true)] rfl rfl en79 rfl (chg_quick_number_ok k ((r22.1.1, r22.1.2.1, r22.1.2.2.1, r22.1.2.2.2), r22.2.1, r22.2.2) b_a0 m_a0 x13 true r24 er24)) ?_;refine df mixed ?_;obtain ⟨r25, er25, h⟩ := b_bind h;refine fr 1 ?_;refine fr 1 ?_;refine JO.stepG (Δ := [_, _]) (F := _) (fun _ _ _ => wanted_none rfl _) rfl rfl (o_callv (fs := []) (cs := [(Pv b1)]) (ags := [I r23, I r24]) [.tmp 61, .tmp 64] rfl rfl en78 rfl (chg_quick_order_1_ok k r23 r24 ((r22.1.1, r22.1.2.1, r22.1.2.2.1, r22.1.2.2.2), r22.2.1, r22.2.2) b_a0 m_a0 b1 r25 er25)) ⟨rfl, rfl, rfl, trivial⟩ fun _ => ?_;refine JO.nil (JN.blk_n (tn (JC.region ?_)));obtain ⟨x26, ex26, h⟩ := b_bind h;refine jb (o_add rfl ex26) ?_;refine mq (nl ?_);exact jz ((), (r25.1.1, r25.1.2.1, r25.1.2.2.1, r25.1.2.2.2, r25.2.1, r25.2.2, x26)) h [1, 0]
   ·refine JC.exit (JN.then_x (JN.then_x (JN.blk_hit (bn ?_))));exact jz ((), (y11.1, y11.2.1, y11.2.2.1, y11.2.2.2.1, y11.2.2.2.2.1, y11.2.2.2.2.2.1)) h [0, 1]
  ·refine JC.region ?_;obtain ⟨x27, ex27, h⟩ := b_bind h;refine jb (o_add rfl ex27) ?_;refine mq (nl ?_);exact jz ((), (x4.1, x4.2.1, x4.2.2.1, x4.2.2.2.1, x4.2.2.2.2.1, x4.2.2.2.2.2, x27)) h [0, 1]
 ·
  refine JC.exit (JN.then_x (JN.then_x (JN.blk_hit (JN.end_n ?_))));refine JN.se (SE.fin (Γ' := []) [1, 0] trivial rfl) ?_;cases h;exact JN.ret () [] 1 trivial rfl


def chg_begin_l1 (k : Nat) (r9 : (List Int)) : Nat → ((List (Bool × Int)) × Int) → Option (List (Bool × Int))
 | 0, _ => none
 | n + 1, y10 =>
  if y10.2 < (r9.length : Int) then ((geti r9 y10.2).bind fun x12 =>
  (chkP (okLen (List.length y10.1 + List.length [(false, x12)]))).bind fun _ =>
  (ck (y10.2 + (1 : Int))).bind fun x16 =>
  chg_begin_l1 k r9 n (y10.1 ++ [(false, x12)], x16)) else (some y10.1)

def chg_begin_l2 (k : Nat) (r20 : (List Int)) : Nat → ((List (Bool × Int)) × Int) → Option (List (Bool × Int))
 | 0, _ => none
 | n + 1, y21 =>
  if y21.2 < (r20.length : Int) then ((geti r20 y21.2).bind fun x23 =>
  (chkP (okLen (List.length y21.1 + List.length [(true, x23)]))).bind fun _ =>
  (ck (y21.2 + (1 : Int))).bind fun x27 =>
  chg_begin_l2 k r20 n (y21.1 ++ [(true, x23)], x27)) else (some y21.1)
def chg_begin (k : Nat) (a0 : dChange) : Option ((Option (dChange × (List (Bool × Int)) × (List Int))) × Int) :=
 (chg_Check k a0).bind fun r2 =>
 if ¬ (r2 = (0 : Int)) then (some (none, r2)) else ((chg_changed k a0).bind fun r5 =>
 (((chg_of k a0.2.2.1).bind fun r8 =>
 (chg_set_list k (iand .u8 r5 r8)).bind fun r9 =>
 chg_begin_l1 k r9 k (([] : (List (Bool × Int))), (0 : Int))) : Option ((List (Bool × Int)))).bind fun x6 =>
 (((chg_of k a0.2.2.2).bind fun r19 =>
 (chg_set_list k (iand .u8 r5 r19)).bind fun r20 =>
 chg_begin_l2 k r20 k (x6, (0 : Int))) : Option ((List (Bool × Int)))).bind fun x17 =>
 if (4 : Int) < (x17.length : Int) then (some (none, (6 : Int))) else ((chg_quick_order k (a0, x17, [(0 : Int), (0 : Int), (0 : Int), (0 : Int), (0 : Int), (0 : Int), (0 : Int), (0 : Int)])).bind fun r28 =>
 some (some ((r28.1.1, r28.1.2.1, r28.1.2.2.1, r28.1.2.2.2), r28.2.1, r28.2.2), (0 : Int))))

theorem chg_begin_ok (k : Nat) (a0 : dChange) (r : (Option (dChange × (List (Bool × Int)) × (List Int))) × Int) (h : chg_begin k a0 = some r) :
 Ctr Try.prog 34 [.rep tChange a0] [] (fun z : Nat × Nat => (resA [optA r.1 z.1, I r.2], optD r.1 fun q => [.obj z.1 98 (Qq q (.eq (.map (some z.2)))), .raw z.2 (.map #[] 0)])) := by
 unfold chg_begin at h
 replace h := b_top h
 refine Ctr.of 77 Try.func34 rfl Try.ntmps34 rfl fun S w0 => ?_
 refine sr ?_
 refine bx fun b1 => ?_
 refine cq ?_
 refine cq ?_
 refine nt ?_
 refine JC.seq ?_
 refine sr ?_
 refine lo sz26 ?_
 obtain ⟨r2, er2, h⟩ := b_bind h
 have cr2 := chg_Check_ok k a0 r2 er2
 refine ja (o_call [.tmp 11] rfl rfl en12 rfl cr2) ?_
 refine aq ?_
 refine nt ?_
 refine sr ?_
 refine mq ?_
 refine jb (o_neq rfl) ?_
 refine nt ?_
 refine cn h (fun h => ?_) (fun h => ?_)
 ·
  refine sr (mq ?_);refine cq ?_;refine aq (nt (rx ?_));cases h;exact JN.ret (0, 0) [.eq (.pointer none), _] 0 ⟨rfl, rfl, trivial⟩ rfl
 ·
  refine sk (sr (lo sz26 ?_));refine JO.s01 rfl rfl rfl (o_makeMap rfl) trivial fun z3 => ?_;refine jb (o_buildT [(0, .tmp 16, _), (3, .tmp 17, _)] rfl pl98 za98 alb98 (stors ⟨rfl, rfl, trivial⟩) rfl) ?_;refine JO.s01 rfl rfl rfl (o_box rfl trivial) ⟨rfl, trivial⟩ fun b4 => ?_;refine aq (nt (sr ?_));refine fr 2 ?_;refine lo sz26 ?_;obtain ⟨r5, er5, h⟩ := b_bind h;refine ja (o_call [.tmp 20] rfl rfl en62 rfl (chg_changed_ok k a0 r5 er5)) ?_;refine aq (nt ?_);refine JC.cutB (Z := Value) (α := (List (Bool × Int))) (fun z7 x6 => [(1, Pt b1), (5, Pt b4), (6, .eq (.int .u8 r5))]) (fun z7 x6 => [.obj b1 26 (.rep tChange a0), .obj b4 98 (.agg (.pair (.rep tChange a0) (.pair (.eq z7) (.pair (.rep (.arr 8 (.int .u8)) [(0 : Int), (0 : Int), (0 : Int), (0 : Int), (0 : Int), (0 : Int), (0 : Int), (0 : Int)]) (.eq (.map (some z3))))))), .sl z7 108 (.tag 109 111) x6, .raw z3 (.map #[] 0)]) h (fun K h => ?_) (fun z7 x6 h => ?_)
  ·refine sr (mq ?_);refine fl fo26_2 ?_;refine lo sz22 ?_;obtain ⟨r8, er8, h⟩ := b_bind h;refine ja (o_call [.tmp 24] rfl rfl en40 rfl (chg_of_ok k a0.2.2.1 r8 er8)) ?_;refine jb (o_and rfl) ?_;obtain ⟨r9, er9, h⟩ := b_bind h;refine ja (o_call [.tmp 26] rfl rfl en41 rfl (chg_set_list_ok k (iand .u8 r5 r8) r9 er9)) ?_;refine ol U22 ?_;refine JO.mc rfl ?_;refine nt (JC.block (JC.se (SE.nil 108 (.tag 109 111)) ?_));refine JC.loopB (Z := Value) (α := (List (Bool × Int)) × Int) (fun z11 y10 => [(1, Pt b1), (5, Pt b4), (6, .eq (.int .u8 r5)), (27, Ri r9), (28, I (r9.length : Int)), (29, I y10.2)]) (fun z11 y10 => [.obj b1 26 (.rep tChange a0), .obj b4 98 (.agg (.pair (.rep tChange a0) (.pair (.eq z11) (.pair (.rep (.arr 8 (.int .u8)) [(0 : Int), (0 : Int), (0 : Int), (0 : Int), (0 : Int), (0 : Int), (0 : Int), (0 : Int)]) (.eq (.map (some z3))))))), .sl z11 108 (.tag 109 111) y10.1, .raw z3 (.map #[] 0)]) (chg_begin_l1 k r9) k (.slice none 0 0) (([] : (List (Bool × Int))), (0 : Int)) (fun _ => rfl) h (SE.fin [1, 2, 0, 3] ⟨rfl, rfl, rfl, rfl, rfl, rfl, trivial⟩ rfl) (fun n z11 y10 h => ?_);unfold chg_begin_l1 at h;refine sr (jb (o_lss rfl) ?_);refine nt (JC.seq (ci h (fun h => ?_) (fun h => ?_)))
   ·refine sk (JC.seq (JC.block (sr ?_)));obtain ⟨x12, ex12, h⟩ := b_bind h;refine jb (o_index (t := (.int .i64)) rfl U22 sz3 ex12) ?_;refine ja (o_load_at (t := (.int .i64)) rfl sz3 rfl) ?_;refine aq (nt (JC.region ?_));iterate 2 refine mq ?_
    refine ja (o_nil_obj rfl) ?_;refine fl fo98_1 ?_;refine fr 1 ?_;refine lo sz93 ?_;refine mq ?_;refine ja (o_iface rfl U109) ?_;refine ja (o_litB (t := (.tag 109 111)) [(.tmp 39, _)] [(false, x12)] rfl rfl sl93 (.cons rfl .tag0 .nil) rfl rfl) ?_;obtain ⟨u13, eu13, h⟩ := b_bind h;refine fr 2 ?_;refine JO.s1x rfl rfl rfl (o_append rfl rfl sl93 (chkP_some eu13)) ⟨rfl, rfl, trivial⟩ fun v14 => ?_;refine ja (o_nil_obj rfl) ?_;refine fl fo98_1 ?_;refine JO.one fun o15 => ?_;refine fr 1 ?_;refine JO.n11 rfl rfl (o_store rfl sz93 o15 rfl rfl) ⟨rfl, rfl, trivial⟩ ?_;refine JO.nil (JN.blk_n (tn (JC.region ?_)));obtain ⟨x16, ex16, h⟩ := b_bind h;refine jb (o_add rfl ex16) ?_;refine mq (nl ?_);exact jz (v14, (y10.1 ++ [(false, x12)], x16)) h [2, 0, 1, 3]
   ·refine xa ?_;exact jz (z11, y10.1) h [0, 1, 2, 3]
  ·refine JC.cutB (Z := Value) (α := (List (Bool × Int))) (fun z18 x17 => [(5, Pt b4)]) (fun z18 x17 => [.obj b4 98 (.agg (.pair (.rep tChange a0) (.pair (.eq z18) (.pair (.rep (.arr 8 (.int .u8)) [(0 : Int), (0 : Int), (0 : Int), (0 : Int), (0 : Int), (0 : Int), (0 : Int), (0 : Int)]) (.eq (.map (some z3))))))), .sl z18 108 (.tag 109 111) x17, .raw z3 (.map #[] 0)]) h (fun K h => ?_) (fun z18 x17 h => ?_)
   ·refine sr (mq ?_);refine fl fo26_3 ?_;refine lo sz22 ?_;obtain ⟨r19, er19, h⟩ := b_bind h;refine ja (o_call [.tmp 47] rfl rfl en40 rfl (chg_of_ok k a0.2.2.2 r19 er19)) ?_;refine jb (o_and rfl) ?_;obtain ⟨r20, er20, h⟩ := b_bind h;refine ja (o_call [.tmp 49] rfl rfl en41 rfl (chg_set_list_ok k (iand .u8 r5 r19) r20 er20)) ?_;refine ol U22 ?_;refine JO.mc rfl ?_;refine nt (JC.block (JC.loopB (Z := Value) (α := (List (Bool × Int)) × Int) (fun z22 y21 => [(5, Pt b4), (50, Ri r20), (51, I (r20.length : Int)), (52, I y21.2)]) (fun z22 y21 => [.obj b4 98 (.agg (.pair (.rep tChange a0) (.pair (.eq z22) (.pair (.rep (.arr 8 (.int .u8)) [(0 : Int), (0 : Int), (0 : Int), (0 : Int), (0 : Int), (0 : Int), (0 : Int), (0 : Int)]) (.eq (.map (some z3))))))), .sl z22 108 (.tag 109 111) y21.1, .raw z3 (.map #[] 0)]) (chg_begin_l2 k r20) k z7 (x6, (0 : Int)) (fun _ => rfl) h (SE.fin [1, 2, 3] ⟨rfl, rfl, rfl, rfl, trivial⟩ rfl) (fun n z22 y21 h => ?_)));unfold chg_begin_l2 at h;refine sr (jb (o_lss rfl) ?_);refine nt (JC.seq (ci h (fun h => ?_) (fun h => ?_)))
    ·refine sk (JC.seq (JC.block (sr ?_)));obtain ⟨x23, ex23, h⟩ := b_bind h;refine jb (o_index (t := (.int .i64)) rfl U22 sz3 ex23) ?_;refine ja (o_load_at (t := (.int .i64)) rfl sz3 rfl) ?_;refine aq (nt (JC.region ?_));iterate 2 refine mq ?_
     refine ja (o_nil_obj rfl) ?_;refine fl fo98_1 ?_;refine lo sz93 ?_;refine mq ?_;refine ja (o_iface rfl U111) ?_;refine ja (o_litB (t := (.tag 109 111)) [(.tmp 62, _)] [(true, x23)] rfl rfl sl93 (.cons rfl .tag1 .nil) rfl rfl) ?_;obtain ⟨u24, eu24, h⟩ := b_bind h;refine fr 1 ?_;refine JO.s1x rfl rfl rfl (o_append rfl rfl sl93 (chkP_some eu24)) ⟨rfl, rfl, trivial⟩ fun v25 => ?_;refine ja (o_nil_obj rfl) ?_;refine fl fo98_1 ?_;refine JO.one fun o26 => ?_;refine fr 1 ?_;refine JO.n11 rfl rfl (o_store rfl sz93 o26 rfl rfl) ⟨rfl, rfl, trivial⟩ ?_;refine JO.nil (JN.blk_n (tn (JC.region ?_)));obtain ⟨x27, ex27, h⟩ := b_bind h;refine jb (o_add rfl ex27) ?_;refine mq (nl ?_);exact jz (v25, (y21.1 ++ [(true, x23)], x27)) h [0, 1, 2]
    ·refine xa ?_;exact jz (z22, y21.1) h [0, 1, 2]
   ·refine JC.seq (sr (mq ?_));refine ja (o_nil_obj rfl) ?_;refine fl fo98_1 ?_;refine lo sz93 ?_;refine fr 1 ?_;refine ka (o_len_own rfl rfl U93) ?_;refine jb (o_gtr rfl) ?_;refine nt (ci h (fun h => ?_) (fun h => ?_))
    ·refine sr (cq ?_);refine cq (nt (rx ?_));cases h;exact JN.ret (0, 0) [.eq (.pointer none), _] 0 ⟨rfl, rfl, trivial⟩ rfl
    ·refine sk (sr (mq ?_));refine fr 1 ?_;refine fr 1 ?_;refine JO.se (SE.frzBoth (off := 4) [71] ⟨rfl, trivial⟩ rfl rfl) ?_;refine JO.se (SE.objE (a := .agg (.pair (.rep tChange a0) (.pair (.rep (.slice (.tag 109 111)) x17) (.pair (.rep (.arr 8 (.int .u8)) [(0 : Int), (0 : Int), (0 : Int), (0 : Int), (0 : Int), (0 : Int), (0 : Int), (0 : Int)]) (.eq (.map (some z3))))))) (a' := .agg (.pair (Qc a0) (.pair (.rep (.slice (.tag 109 111)) x17) (.pair (.rep (.arr 8 (.int .u8)) [(0 : Int), (0 : Int), (0 : Int), (0 : Int), (0 : Int), (0 : Int), (0 : Int), (0 : Int)]) (.eq (.map (some z3))))))) (AE.agg (AE.pair (AE.trans AE.aggR (AE.agg (AE.trans AE.split (AE.pair AE.rfl (AE.trans AE.split (AE.pair AE.rfl AE.split)))))) AE.rfl))) ?_;obtain ⟨r28, er28, h⟩ := b_bind h;refine ka (o_call [.tmp 74] rfl rfl en63 rfl (chg_quick_order_ok k (a0, x17, [(0 : Int), (0 : Int), (0 : Int), (0 : Int), (0 : Int), (0 : Int), (0 : Int), (0 : Int)]) b4 (.map (some z3)) r28 er28)) ?_;refine nt (sr (mq ?_));refine aq ?_;refine cq (nt (JC.ret ?_));cases h;exact JN.ret (b4, z3) [Pt b4, _] 2 ⟨rfl, rfl, trivial⟩ rfl


def slc_Clone_Step (k : Nat) (a0 : List dStep) : Option (List dStep) :=
 (chkP (okLen (List.length a0))).bind fun _ => some a0

theorem slc_Clone_Step_ok (k : Nat) (a0 : List dStep) (r : List dStep) (h : slc_Clone_Step k a0 = some r) :
 Ctr Try.prog 66 [Rs tStep a0] [] (fun z : Value => (resA [.eq z], [.sl z 59 tStep r])) := by
 unfold slc_Clone_Step at h
 replace h := b_top h
 refine Ctr.of 8 Try.func66 rfl Try.ntmps66 rfl fun S w0 => ?_
 obtain ⟨u1, eu1, h⟩ := b_bind h
 cases h
 refine sr ?_
 refine cq ?_
 refine nt ?_
 refine JC.seq ?_
 refine sr ?_
 refine mq ?_
 refine JO.stepG (Δ := []) (F := _) (fun _ _ _ => wanted_none rfl _) rfl rfl (o_eqnil rfl U33) ⟨rfl, rfl, trivial⟩ fun b => ?_
 refine nt ?_
 refine JC.cond rfl (fun hb => ?_) (fun hb => ?_)
 ·
  refine sr (cq (nt (rx ?_)));obtain rfl := b.2 hb;refine JN.se (SE.nil 59 tStep) ?_;exact JN.ret (.slice none 0 0) [.eq (.slice none 0 0)] 1 ⟨rfl, trivial⟩ rfl
 ·
  refine sk (sr (JO.s01 rfl rfl rfl (o_litB_own (t := tStep) [] [] rfl rfl sl33 .nil rfl rfl) trivial fun v1 => ?_));refine mq ?_;refine JO.s1x rfl rfl rfl (o_append rfl rfl sl33 (by simpa using chkP_some eu1)) ⟨rfl, rfl, trivial⟩ fun v2 => ?_;refine aq (nt (JC.ret ?_));exact JN.ret v2 [.eq v2] 1 ⟨rfl, trivial⟩ rfl


def slc_Index_int_l1 (k : Nat) (a0 : (List Int)) (a1 : Int) : Nat → Int → Option (Except Int Unit)
 | 0, _ => none
 | n + 1, y3 =>
  if y3 < (a0.length : Int) then ((geti a0 y3).bind fun x5 =>
  if a1 = x5 then (some (.error y3)) else ((ck (y3 + (1 : Int))).bind fun x6 =>
  slc_Index_int_l1 k a0 a1 n x6)) else (some (.ok ()))
def slc_Index_int (k : Nat) (a0 : (List Int)) (a1 : Int) : Option Int :=
 bE (α := Unit) (slc_Index_int_l1 k a0 a1 k (0 : Int)) (some) fun _ =>
 some (-1 : Int)

theorem slc_Index_int_ok (k : Nat) (a0 : (List Int)) (a1 : Int) (r : Int) (h : slc_Index_int k a0 a1 = some r) :
 Ctr Try.prog 75 [Ri a0, I a1] [] (fun _ : Unit => (resA [I r], [])) := by
 unfold slc_Index_int at h
 replace h := b_top h
 refine Ctr.of 19 Try.func75 rfl Try.ntmps75 rfl fun S w0 => ?_
 refine sr ?_
 refine cq ?_
 refine nt ?_
 refine JC.cutE (Z := Unit) (α := Unit) (fun z2 x1 => []) (fun z2 x1 => []) (fun e => e = r) h (fun e h => Option.some.inj h) (fun K hR h => ?_) (fun z2 x1 h => ?_)
 ·
  refine sr (mq ?_);refine ol U22 ?_;refine JO.mc rfl ?_;refine nt (JC.block (JC.loopB (Z := Unit) (α := Int) (fun z4 y3 => [(0, Ri a0), (1, I a1), (7, I (a0.length : Int)), (8, I y3)]) (fun z4 y3 => []) (slc_Index_int_l1 k a0 a1) k () (0 : Int) (fun _ => rfl) h (SE.fin [] ⟨rfl, rfl, rfl, rfl, trivial⟩ rfl) (fun n z4 y3 h => ?_)));unfold slc_Index_int_l1 at h;refine sr (jb (o_lss rfl) ?_);refine nt (JC.seq (ci h (fun h => ?_) (fun h => ?_)))
  ·refine sk (JC.seq (JC.block (sr (mq ?_))));refine aq (nt (sr ?_));iterate 3 refine mq ?_
   obtain ⟨x5, ex5, h⟩ := b_bind h;refine jb (o_index (t := (.int .i64)) rfl U22 sz3 ex5) ?_;refine ja (o_load_at (t := (.int .i64)) rfl sz3 rfl) ?_;refine jb (o_eql rfl) ?_;refine nt (ci h (fun h => ?_) (fun h => ?_))
   ·refine sr (mq ?_);refine aq (nt (JC.ret (br (JN.blk_r (JN.then_r ?_)))));obtain rfl := hR _ h;exact ra
   ·refine JC.skip (JN.blk_n (tn (JC.region ?_)));obtain ⟨x6, ex6, h⟩ := b_bind h;refine jb (o_add rfl ex6) ?_;refine mq (nl ?_);exact jz ((), x6) h []
  ·refine xa ?_;exact jz ((), ()) h []
 ·
  refine sr (cq (nt (JC.ret ?_)));cases h;exact ra


def slc_Contains_int (k : Nat) (a0 : (List Int)) (a1 : Int) : Option Bool :=
 (slc_Index_int k a0 a1).bind fun r1 =>
 some (decide ((0 : Int) ≤ r1))

theorem slc_Contains_int_ok (k : Nat) (a0 : (List Int)) (a1 : Int) (r : Bool) (h : slc_Contains_int k a0 a1 = some r) :
 Ctr Try.prog 57 [Ri a0, I a1] [] (fun _ : Unit => (resA [.eq (.bool r)], [])) := by
 unfold slc_Contains_int at h
 replace h := b_top h
 refine Ctr.of 9 Try.func57 rfl Try.ntmps57 rfl fun S w0 => ?_
 refine sr ?_
 refine cq ?_
 refine nt ?_
 refine sr ?_
 iterate 2 refine mq ?_
 obtain ⟨r1, er1, h⟩ := b_bind h
 have cr1 := slc_Index_int_ok k a0 a1 r1 er1
 refine jb (o_call [.tmp 5, .tmp 6] rfl rfl en75 rfl cr1) ?_
 refine jb (o_geq rfl) ?_
 refine aq ?_
 refine nt ?_
 refine JC.ret ?_
 cases h
 exact ra


def chg_quick_can (k : Nat) (a0 : (dChange × (List (Bool × Int)) × (List Int))) (a1 : Int) (a2 : (Bool × Int)) : Option Bool :=
 (geti a0.1.2.1 a1).bind fun x1 =>
 (cond a2.1 (chg_on_thing k a2.2) (chg_off_thing k a2.2)).bind fun r2 =>
 (geti a0.1.1 r2).bind fun x3 =>
 (((cond a2.1 (chg_on_thing k a2.2) (chg_off_thing k a2.2)).bind fun r8 =>
 (slc_Contains_int k x1.1 r8).bind fun r9 =>
 if r9 = true then (if x3.2.2.2.1 = (0 : Int) then (some true) else (if x1.2.1 = (0 : Int) then (some true) else (some (decide (x1.2.1 = x3.2.2.2.1))))) else (some false)) : Option (Bool)).bind fun x6 =>
 some x6

theorem chg_quick_can_ok (k : Nat) (a0 : (dChange × (List (Bool × Int)) × (List Int))) (b_a0 : Nat) (m_a0 : Value) (a1 : Int) (a2 : (Bool × Int)) (r : Bool) (h : chg_quick_can k a0 a1 a2 = some r) :
 Ctr Try.prog 67 [Pt b_a0, I a1, .rep (.tag 109 111) a2] [.obj b_a0 98 (Qq a0 (.eq m_a0))] (fun _ : Unit => (resA [.eq (.bool r)], [.obj b_a0 98 (Qq a0 (.eq m_a0))])) := by
 unfold chg_quick_can at h
 replace h := b_top h
 refine Ctr.of 48 Try.func67 rfl Try.ntmps67 rfl fun S w0 => ?_
 refine sr ?_
 refine cq ?_
 refine nt ?_
 refine JC.seq ?_
 refine JC.drawW ?_
 refine DW.t00 rfl rfl rfl (o_move rfl) ⟨rfl, trivial⟩ ?_
 refine DW.t00 rfl rfl rfl (o_nil_obj rfl) ⟨rfl, trivial⟩ ?_
 refine DW.t00 rfl rfl rfl (o_field_obj rfl fo98_0) ⟨rfl, trivial⟩ ?_
 refine DW.t00 rfl rfl rfl (o_field_obj rfl fo26_1) ⟨rfl, trivial⟩ ?_
 refine DW.t11 0 rfl rfl rfl rfl (o_load_obj rfl sz24 nfs rfl) ⟨rfl, trivial⟩ ?_
 refine DW.t00 rfl rfl rfl (o_move rfl) ⟨rfl, trivial⟩ ?_
 obtain ⟨x1, ex1, h⟩ := b_bind h
 refine DW.t00 rfl rfl rfl (o_index (t := tDresser) rfl U24 sz38 ex1) ⟨rfl, rfl, trivial⟩ ?_
 refine DW.t00 rfl rfl rfl (o_load_at (t := tDresser) rfl sz38 rfl) ⟨rfl, trivial⟩ ?_
 refine DW.t00 rfl rfl rfl (o_move rfl) ⟨rfl, trivial⟩ ?_
 refine DW.t00 rfl rfl rfl (o_nil_obj rfl) ⟨rfl, trivial⟩ ?_
 refine DW.t00 rfl rfl rfl (o_field_obj rfl fo98_0) ⟨rfl, trivial⟩ ?_
 refine DW.t00 rfl rfl rfl (o_field_obj rfl fo26_0) ⟨rfl, trivial⟩ ?_
 refine DW.t11 0 rfl rfl rfl rfl (o_load_obj rfl sz23 nfs rfl) ⟨rfl, trivial⟩ ?_
 refine DW.t00 rfl rfl rfl (o_move rfl) ⟨rfl, trivial⟩ ?_
 obtain ⟨r2, er2, h⟩ := b_bind h
 refine DW.t00 rfl rfl rfl (o_invoke rfl rfl mt109_thing mt111_thing (ctr_cond (fun hb => chg_off_thing_ok k a2.2 r2 (by simpa [hb] using er2)) (fun hb => chg_on_thing_ok k a2.2 r2 (by simpa [hb] using er2)))) ⟨rfl, trivial⟩ ?_
 obtain ⟨x3, ex3, h⟩ := b_bind h
 refine DW.t00 rfl rfl rfl (o_index (t := tThing) rfl U23 sz43 ex3) ⟨rfl, rfl, trivial⟩ ?_
 refine DW.t00 rfl rfl rfl (o_load_at (t := tThing) rfl sz43 rfl) ⟨rfl, trivial⟩ ?_
 refine DW.tNew (ptrD 38 (.agg (.pair (.eq (.slice none 0 0)) (.pair (I (0 : Int)) (I (0 : Int)))))) (fun _ => rfl) rfl rfl rfl (o_alloc rfl za38 al38) trivial ?_
 refine DW.tNew (ptrD 43 (.agg (.pair (.eq (.slice none 0 0)) (.pair (I (0 : Int)) (.pair (I (0 : Int)) (.pair (I (0 : Int)) (I (0 : Int)))))))) (fun _ => rfl) rfl rfl rfl (o_alloc rfl za43 al43) trivial ?_
 refine DW.fin 19 [true, true, true, true, true, true, true, true, false, false, false, false, false, true, true, false, false, true, true] [] [0] [.obj b_a0 98 (Qq a0 (.eq m_a0))] rfl (by kernel_rfl) (by kernel_rfl) (by kernel_rfl) mixed (fun vs hv hB => ?_)
 obtain ⟨w0, vs1, rfl, hv1⟩ := len_cons hv
 obtain ⟨w1, vs2, rfl, hv2⟩ := len_cons hv1
 obtain ⟨w2, vs3, rfl, hv3⟩ := len_cons hv2
 obtain ⟨w3, vs4, rfl, hv4⟩ := len_cons hv3
 obtain ⟨w4, vs5, rfl, hv5⟩ := len_cons hv4
 obtain ⟨w5, vs6, rfl, hv6⟩ := len_cons hv5
 obtain ⟨w6, vs7, rfl, hv7⟩ := len_cons hv6
 obtain ⟨w7, vs8, rfl, hv8⟩ := len_cons hv7
 obtain ⟨w8, vs9, rfl, hv9⟩ := len_cons hv8
 obtain ⟨w9, vs10, rfl, hv10⟩ := len_cons hv9
 obtain ⟨w10, vs11, rfl, hv11⟩ := len_cons hv10
 obtain ⟨w11, vs12, rfl, hv12⟩ := len_cons hv11
 obtain ⟨w12, vs13, rfl, hv13⟩ := len_cons hv12
 obtain ⟨w13, vs14, rfl, hv14⟩ := len_cons hv13
 obtain ⟨w14, vs15, rfl, hv15⟩ := len_cons hv14
 obtain ⟨w15, vs16, rfl, hv16⟩ := len_cons hv15
 obtain ⟨w16, vs17, rfl, hv17⟩ := len_cons hv16
 obtain ⟨w17, vs18, rfl, hv18⟩ := len_cons hv17
 obtain ⟨w18, vs19, rfl, hv19⟩ := len_cons hv18
 obtain rfl := len_nil hv19
 obtain ⟨b4, rfl⟩ := ptr_of hB.2.2.2.2.2.2.2.2.2.2.2.2.2.2.2.2.2.1
 obtain ⟨b5, rfl⟩ := ptr_of hB.2.2.2.2.2.2.2.2.2.2.2.2.2.2.2.2.2.2.1
 refine ⟨[0, 1, 2], [.obj b4 38 (.agg (.pair (.eq (.slice none 0 0)) (.pair (I (0 : Int)) (I (0 : Int))))), .obj b5 43 (.agg (.pair (.eq (.slice none 0 0)) (.pair (I (0 : Int)) (.pair (I (0 : Int)) (.pair (I (0 : Int)) (I (0 : Int)))))))], by kernel_rfl, by decide, ?_⟩
 refine JT.n11 rfl rfl (o_store rfl sz38 rfl rfl rfl) ⟨rfl, rfl, trivial⟩ (by kernel_rfl) ?_
 refine JT.all (by kernel_rfl) ?_
 refine fr 2 ?_
 refine JO.n11 rfl rfl (o_store rfl sz43 rfl rfl rfl) ⟨rfl, rfl, trivial⟩ ?_
 refine nt ?_
 refine JC.cutB (Z := Unit) (α := Bool) (fun z7 x6 => [(6, .eq (.bool x6))]) (fun z7 x6 => [.obj b_a0 98 (Qq a0 (.eq m_a0))]) h (fun K h => ?_) (fun z7 x6 h => ?_)
 ·
  refine JC.drawN ?_;refine da (o_field_obj rfl fo38_0) ?_;refine ea 2 (o_load_obj rfl sz22 nfs rfl) ?_;refine dm ?_;obtain ⟨r8, er8, h⟩ := b_bind h;refine DN.s00 rfl rfl rfl (o_invoke rfl rfl mt109_thing mt111_thing (ctr_cond (fun hb => chg_off_thing_ok k a2.2 r8 (by simpa [hb] using er8)) (fun hb => chg_on_thing_ok k a2.2 r8 (by simpa [hb] using er8)))) ⟨rfl, trivial⟩ ?_;obtain ⟨r9, er9, h⟩ := b_bind h;refine db (o_call [.tmp 27, .tmp 29] rfl rfl en57 rfl (slc_Contains_int_ok k x1.1 r8 r9 er9)) ?_;refine DN.fork rfl rfl rfl (o_move rfl) ⟨rfl, trivial⟩ (fun hb => ?_) (fun hb => ?_)
  ·replace h := b_if (v_t hb) h;refine DN.sg00 rfl rfl rfl rfl rfl (o_field_obj rfl fo43_3) ⟨rfl, rfl, trivial⟩ ?_;refine DN.sg11 0 rfl rfl rfl rfl rfl rfl (o_load_obj rfl sz3 nfs rfl) ⟨rfl, rfl, trivial⟩ ?_;refine DN.sg00 rfl rfl rfl rfl rfl (o_eql rfl) ⟨rfl, rfl, rfl, trivial⟩ ?_;refine DN.forkg rfl rfl rfl rfl rfl (o_move rfl) ⟨rfl, rfl, trivial⟩ (fun hb => ?_) (fun hb => ?_)
   ·replace h := b_if (d_t hb) h;iterate 3 refine dg ?_
    refine DN.sg00 rfl rfl rfl rfl rfl (o_pick_t rfl) ⟨rfl, rfl, rfl, trivial⟩ ?_;refine DN.sg00 rfl rfl rfl rfl rfl (o_move rfl) ⟨rfl, rfl, trivial⟩ ?_;iterate 4 refine dg ?_
    refine df mixed ?_;refine gn ?_;refine gb (o_pick_t rfl) ?_;refine pt ?_;refine aq (nl ?_);exact jz ((), true) h [1]
   ·replace h := b_ifn (d_f hb) h;refine DN.sg00 rfl rfl rfl rfl rfl (o_field_obj rfl fo38_1) ⟨rfl, rfl, trivial⟩ ?_;refine DN.sg11 2 rfl rfl rfl rfl rfl rfl (o_load_obj rfl sz3 nfs rfl) ⟨rfl, rfl, trivial⟩ ?_;refine DN.sg00 rfl rfl rfl rfl rfl (o_eql rfl) ⟨rfl, rfl, rfl, trivial⟩ ?_;refine DN.sg00 rfl rfl rfl rfl rfl (o_pick_f rfl) ⟨rfl, rfl, rfl, trivial⟩ ?_;refine DN.forkg rfl rfl rfl rfl rfl (o_move rfl) ⟨rfl, rfl, trivial⟩ (fun hb => ?_) (fun hb => ?_)
    ·replace h := b_if (d_t hb) h;iterate 4 refine dg ?_
     refine df mixed ?_;refine gn ?_;refine gb (o_pick_t rfl) ?_;refine pt ?_;refine aq (nl ?_);exact jz ((), true) h [1]
    ·replace h := b_ifn (d_f hb) h;refine DN.sg00 rfl rfl rfl rfl rfl (o_field_obj rfl fo38_1) ⟨rfl, rfl, trivial⟩ ?_;refine DN.sg11 2 rfl rfl rfl rfl rfl rfl (o_load_obj rfl sz3 nfs rfl) ⟨rfl, rfl, trivial⟩ ?_;refine DN.sg00 rfl rfl rfl rfl rfl (o_field_obj rfl fo43_3) ⟨rfl, rfl, trivial⟩ ?_;refine DN.sg11 0 rfl rfl rfl rfl rfl rfl (o_load_obj rfl sz3 nfs rfl) ⟨rfl, rfl, trivial⟩ ?_;refine df mixed ?_;refine gb (o_eql rfl) ?_;refine gb (o_pick_f rfl) ?_;refine pt ?_;refine aq (nl ?_);exact jz ((), decide (x1.2.1 = x3.2.2.2.1)) h [1]
  ·replace h := b_ifn (v_f hb) h;iterate 4 refine dg ?_
   refine du ?_;refine du ?_;refine du ?_;iterate 2 refine dg ?_
   refine du ?_;refine du ?_;refine du ?_;refine du ?_;refine df mixed ?_;refine gu ?_;refine gn ?_;refine pf ?_;refine aq (nl ?_);exact jz ((), false) h [1]
 ·
  refine JC.ret ?_;cases h;exact JN.ret () [_] 1 ⟨rfl, trivial⟩ rfl


def chg_quick_plans_1_1_l2 {σ : Type} (k : Nat) (a0 : Int) (a2 : (dChange × (List (Bool × Int)) × (List Int))) (self : Int → (List dStep) → σ → Option (Bool × (List dStep) × σ)) (y6 : (List dStep) × Int × σ) (x10 : (Bool × Int)) : Nat → ((List dStep) × Int × σ) → Option (Except (Bool × (List dStep) × σ) ((List dStep) × σ))
 | 0, _ => none
 | n + 1, y16 =>
  if y16.2.1 < (a2.1.2.1.length : Int) then (bE (α := (List dStep) × σ) ((chg_quick_can k ((a2.1.1, a2.1.2.1, a2.1.2.2.1, a2.1.2.2.2), a2.2.1, a2.2.2) y16.2.1 x10).bind fun r20 =>
  if ¬ (r20 = true) then (some (.ok (y16.1, y16.2.2))) else ((chkP (okLen (List.length y16.1 + List.length [(y6.2.1, y16.2.1)]))).bind fun _ =>
  (chg_of k [y6.2.1]).bind fun r24 =>
  (self (ior .u8 a0 r24) (y16.1 ++ [(y6.2.1, y16.2.1)]) y16.2.2).bind fun r25 =>
  (ck ((r25.2.1.length : Int) - (1 : Int))).bind fun x27 =>
  (chkP (0 ≤ x27 ∧ x27 ≤ (r25.2.1.length : Int))).bind fun _ =>
  if ¬ (r25.1 = true) then (some (.error (false, List.take (Int.toNat x27) r25.2.1, r25.2.2))) else (some (.ok (List.take (Int.toNat x27) r25.2.1, r25.2.2))))) (fun e => some (.error e)) fun x18 =>
  (ck (y16.2.1 + (1 : Int))).bind fun x31 =>
  chg_quick_plans_1_1_l2 k a0 a2 self y6 x10 n (x18.1, x31, x18.2)) else (some (.ok (y16.1, y16.2.2)))

def chg_quick_plans_1_1_l1 {σ : Type} (k : Nat) (a0 : Int) (a2 : (dChange × (List (Bool × Int)) × (List Int))) (self : Int → (List dStep) → σ → Option (Bool × (List dStep) × σ)) : Nat → ((List dStep) × Int × σ) → Option (Except (Bool × (List dStep) × σ) ((List dStep) × σ))
 | 0, _ => none
 | n + 1, y6 =>
  if y6.2.1 < (a2.2.1.length : Int) then (bE (α := (List dStep) × σ) ((geti a2.2.1 y6.2.1).bind fun x10 =>
  (((chg_set_has k a0 y6.2.1).bind fun r13 =>
  if r13 = true then (some (true, y6.2.2)) else ((chkP (0 ≤ y6.2.1 ∧ y6.2.1 < 8)).bind fun _ =>
  (geti a2.2.2 y6.2.1).bind fun x15 =>
  some (!decide ((iandn .u8 x15 a0) = (0 : Int)), y6.2.2))) : Option (Bool × σ)).bind fun x11 =>
  if x11.1 = true then (some (.ok (y6.1, x11.2))) else (chg_quick_plans_1_1_l2 k a0 a2 self y6 x10 k (y6.1, (0 : Int), x11.2))) (fun e => some (.error e)) fun x8 =>
  (ck (y6.2.1 + (1 : Int))).bind fun x32 =>
  chg_quick_plans_1_1_l1 k a0 a2 self n (x8.1, x32, x8.2)) else (some (.ok (y6.1, y6.2.2)))
def chg_quick_plans_1_1 {σ : Type} (k : Nat) (Y : σ → (List dStep) → Option (σ × Bool)) (a2 : (dChange × (List (Bool × Int)) × (List Int))) : Nat → Int → (List dStep) → σ → Option (Bool × (List dStep) × σ)
 | 0, _, _, _ => none
 | m0 + 1, a0, a1, s0 =>
  if (a1.length : Int) = (a2.2.1.length : Int) then ((slc_Clone_Step k a1).bind fun r1 =>
  (Y s0 r1).bind fun r2 =>
  some (r2.2, a1, r2.1)) else (bE (α := (List dStep) × σ) (chg_quick_plans_1_1_l1 k a0 a2 (chg_quick_plans_1_1 k Y a2 m0) k (a1, (0 : Int), s0)) (some) fun x4 =>
  some (true, x4.1, x4.2))

theorem chg_quick_plans_1_1_ok {M : Md Try.prog} {σ Z : Type} (E : Z → σ → List D) (l : Nat) (Y : σ → (List dStep) → Option (σ × Bool)) (k : Nat) (c_a1 : Nat) (a2 : (dChange × (List (Bool × Int)) × (List Int))) (b_a2 : Nat) (m_a2 : Value) (c_a2 : Nat) (c_a3 : Nat) (c_a4 : Nat) (hY : ∀ z s p r, Y s p = some r → YT M l [Rs tStep p] ([.obj b_a2 98 (Qq a2 (.eq m_a2))] ++ E z s) (fun z' : Z => (.eq (.bool r.2), [.obj b_a2 98 (Qq a2 (.eq m_a2))] ++ E z' r.1))) :
 ∀ (n : Nat) (a0 : Int) (a1 : (List dStep)) (v_a1 : Value) (z0 : Z) (s0 : σ) (r : Bool × (List dStep) × σ), chg_quick_plans_1_1 k Y a2 n a0 a1 s0 = some r → CtrM M 65 [.eq (.int .u8 a0), Pt c_a1, Pt c_a2, Pt c_a3, Pt c_a4] ([.sl v_a1 59 tStep a1, .obj c_a1 33 (.eq v_a1), .obj c_a2 83 (Pt b_a2), .obj c_a3 133 (.eq (.func (.yield l) #[] #[])), .obj c_a4 134 (.eq (.func (.func 65) #[] #[(Pv c_a1), (Pv c_a2), (Pv c_a3), (Pv c_a4)])), .obj b_a2 98 (Qq a2 (.eq m_a2))] ++ E z0 s0) (fun z : Value × Z => (resA [.eq (.bool r.1)], [.sl z.1 59 tStep r.2.1, .obj c_a1 33 (.eq z.1), .obj c_a2 83 (Pt b_a2), .obj c_a3 133 (.eq (.func (.yield l) #[] #[])), .obj c_a4 134 (.eq (.func (.func 65) #[] #[(Pv c_a1), (Pv c_a2), (Pv c_a3), (Pv c_a4)])), .obj b_a2 98 (Qq a2 (.eq m_a2))] ++ E z.2 r.2.2)) := by
 intro n
 induction n with
 | zero => intro a0 a1 v_a1 z0 s0 r h; cases h
 | succ m0 ih =>
  intro a0 a1 v_a1 z0 s0 r h;rw [chg_quick_plans_1_1] at h;replace h := b_top h;refine CtrM.of 83 Try.func65 rfl Try.ntmps65 rfl fun S w0 => ?_;refine sr (cq (nt (JC.seq (JC.seq ?_))));refine JC.drawN ?_;refine ea 1 (o_load_obj rfl sz33 nfs rfl) ?_;refine ea 0 (o_len_own rfl rfl U33) ?_;refine ea 2 (o_load_obj rfl sz83 nfs rfl) ?_;refine da (o_nil_obj rfl) ?_;refine da (o_field_obj rfl fo98_1) ?_;refine ea 5 (o_load_obj rfl sz93 nfs rfl) ?_;refine da (o_len rfl rfl U93) ?_;refine df mixed ?_;refine jb (o_eql rfl) ?_;refine nt (ci h (fun h => ?_) (fun h => ?_))
  ·refine JC.seq (JC.drawN ?_);refine ea 3 (o_load_obj rfl sz133 nfs rfl) ?_;refine ea 1 (o_load_obj rfl sz33 nfs rfl) ?_;obtain ⟨r1, er1, h⟩ := b_bind h;refine DN.s11 0 rfl rfl rfl rfl (OpT.frzB (OpT.borrow (N := [(.tmp 20, .eq v_a1)]) (o_call [.tmp 20] rfl rfl en66 rfl (slc_Clone_Step_ok k a1 r1 er1)) (fun _ _ _ hv hn => ⟨(lend hn.1 hv), trivial⟩) (fun _ => ⟨rfl, flat_all (by simp [D.flat, A.flat, Ty.flat])⟩))) ⟨rfl, trivial⟩ ?_;refine df mixed ?_;obtain ⟨r2, er2, h⟩ := b_bind h;refine fr 4 ?_;refine fr 4 ?_;refine fr 4 ?_;refine fr 4 ?_;refine fr 4 ?_;refine JO.stepT [.sl v_a1 59 tStep a1, .obj c_a1 33 (.eq v_a1), .obj c_a2 83 (Pt b_a2), .obj c_a3 133 (.eq (.func (.yield l) #[] #[])), .obj c_a4 134 (.eq (.func (.func 65) #[] #[(Pv c_a1), (Pv c_a2), (Pv c_a3), (Pv c_a4)]))] rfl rfl rfl (o_yield [.tmp 21] rfl rfl rfl (hY z0 s0 r1 r2 er2)) ⟨rfl, rfl, trivial⟩ fun z3 => ?_;refine aq (nt (rx ?_));cases h;exact JN.retA (v_a1, z3) [_] ⟨rfl, trivial⟩ rfl
  ·refine sk (JC.cutE (Z := Value × Z) (α := (List dStep) × σ) (fun z5 x4 => []) (fun z5 x4 => [.obj c_a1 33 (.eq z5.1), .sl z5.1 59 tStep x4.1, .obj c_a2 83 (Pt b_a2), .obj b_a2 98 (Qq a2 (.eq m_a2)), .obj c_a3 133 (.eq (.func (.yield l) #[] #[])), .obj c_a4 134 (.eq (.func (.func 65) #[] #[(Pv c_a1), (Pv c_a2), (Pv c_a3), (Pv c_a4)]))] ++ E z5.2 x4.2) (fun e => e = r) h (fun e h => Option.some.inj h) (fun K hR h => ?_) (fun z5 x4 h => ?_))
   ·refine sr (fr 2 ?_);refine lo sz83 ?_;refine ja (o_nil_obj rfl) ?_;refine fl fo98_1 ?_;refine fr 5 ?_;refine lo sz93 ?_;refine ol U93 ?_;refine JO.mc rfl ?_;refine nt (JC.block (JC.loopB (Z := Value × Z) (α := (List dStep) × Int × σ) (fun z7 y6 => [(0, .eq (.int .u8 a0)), (1, Pt c_a1), (2, Pt c_a2), (4, Pt c_a4), (26, .rep (.slice (.tag 109 111)) a2.2.1), (27, I (a2.2.1.length : Int)), (28, I y6.2.1)]) (fun z7 y6 => [.obj c_a1 33 (.eq z7.1), .sl z7.1 59 tStep y6.1, .obj c_a2 83 (Pt b_a2), .obj b_a2 98 (Qq a2 (.eq m_a2)), .obj c_a4 134 (.eq (.func (.func 65) #[] #[(Pv c_a1), (Pv c_a2), (Pv c_a3), (Pv c_a4)])), .obj c_a3 133 (.eq (.func (.yield l) #[] #[]))] ++ E z7.2 y6.2.2) (chg_quick_plans_1_1_l1 k a0 a2 (chg_quick_plans_1_1 k Y a2 m0)) k (v_a1, z0) (a1, (0 : Int), s0) (fun _ => rfl) h (SE.finT [.obj b_a2 98 (Qq a2 (.eq m_a2)), .obj c_a2 83 (Pt b_a2), .sl v_a1 59 tStep a1, .obj c_a1 33 (.eq v_a1), .obj c_a3 133 (.eq (.func (.yield l) #[] #[])), .obj c_a4 134 (.eq (.func (.func 65) #[] #[(Pv c_a1), (Pv c_a2), (Pv c_a3), (Pv c_a4)]))] (E z0 s0) [3, 2, 1, 0, 5, 4] ⟨rfl, rfl, rfl, rfl, rfl, rfl, rfl, trivial⟩ rfl) (fun n z7 y6 h => ?_)));unfold chg_quick_plans_1_1_l1 at h;refine sr (jb (o_lss rfl) ?_);refine nt (JC.seq (ci h (fun h => ?_) (fun h => ?_)))
    ·refine sk (JC.cutE (Z := Value × Z) (α := (List dStep) × σ) (fun z9 x8 => [(0, .eq (.int .u8 a0)), (1, Pt c_a1), (2, Pt c_a2), (4, Pt c_a4), (26, .rep (.slice (.tag 109 111)) a2.2.1), (27, I (a2.2.1.length : Int)), (28, I y6.2.1)]) (fun z9 x8 => [.obj c_a1 33 (.eq z9.1), .sl z9.1 59 tStep x8.1, .obj c_a2 83 (Pt b_a2), .obj b_a2 98 (Qq a2 (.eq m_a2)), .obj c_a4 134 (.eq (.func (.func 65) #[] #[(Pv c_a1), (Pv c_a2), (Pv c_a3), (Pv c_a4)])), .obj c_a3 133 (.eq (.func (.yield l) #[] #[]))] ++ E z9.2 x8.2) (fun e => e = r) h (fun e h => hR e h) (fun K hR h => ?_) (fun z9 x8 h => ?_))
     ·refine JC.block (sr (mq ?_));obtain ⟨x10, ex10, h⟩ := b_bind h;refine jb (o_index (t := (.tag 109 111)) rfl U93 sz108 ex10) ?_;refine ja (o_load_at (t := (.tag 109 111)) rfl sz108 rfl) ?_;refine aq ?_;refine aq (nt (JC.seq ?_));refine JC.cutB (Z := Z) (α := Bool × σ) (fun z12 x11 => [(0, .eq (.int .u8 a0)), (1, Pt c_a1), (2, Pt c_a2), (4, Pt c_a4), (7, I y6.2.1), (8, .rep (.tag 109 111) x10), (26, .rep (.slice (.tag 109 111)) a2.2.1), (27, I (a2.2.1.length : Int)), (28, I y6.2.1), (46, .eq (.bool x11.1))]) (fun z12 x11 => [.obj c_a1 33 (.eq z7.1), .sl z7.1 59 tStep y6.1, .obj c_a2 83 (Pt b_a2), .obj b_a2 98 (Qq a2 (.eq m_a2)), .obj c_a4 134 (.eq (.func (.func 65) #[] #[(Pv c_a1), (Pv c_a2), (Pv c_a3), (Pv c_a4)])), .obj c_a3 133 (.eq (.func (.yield l) #[] #[]))] ++ E z12 x11.2) h (fun K h => ?_) (fun z12 x11 h => ?_)
      ·refine JC.region ?_;iterate 2 refine mq ?_
       obtain ⟨r13, er13, h⟩ := b_bind h;refine jb (o_call [.tmp 33, .tmp 34] rfl rfl en49 rfl (chg_set_has_ok k a0 y6.2.1 r13 er13)) ?_;refine mq ?_;refine JO.bool (s := 36) rfl (fun hb => ?_) (fun hb => ?_)
       ·replace h := b_if (v_t hb) h;iterate 9 refine gn ?_
        refine pt (nl ?_);exact JN.z (z7.2, (true, y6.2.2)) h (SE.finT [.obj c_a1 33 (.eq z7.1), .sl z7.1 59 tStep y6.1, .obj c_a2 83 (Pt b_a2), .obj b_a2 98 (Qq a2 (.eq m_a2)), .obj c_a4 134 (.eq (.func (.func 65) #[] #[(Pv c_a1), (Pv c_a2), (Pv c_a3), (Pv c_a4)])), .obj c_a3 133 (.eq (.func (.yield l) #[] #[]))] (E z7.2 y6.2.2) [0, 1, 2, 3, 4, 5] ⟨rfl, rfl, rfl, rfl, rfl, rfl, rfl, rfl, rfl, rfl, trivial⟩ rfl)
       ·replace h := b_ifn (v_f hb) h;refine fr 2 ?_;refine JO.g11 rfl rfl rfl rfl rfl rfl (o_load_obj rfl sz83 nfs rfl) ⟨rfl, trivial⟩ ?_;refine gm ?_;refine ga (o_nil_obj rfl) ?_;refine ga (o_field_obj rfl fo98_2) ?_;obtain ⟨u14, eu14, h⟩ := b_bind h;refine gb (o_index_arr rfl U95 sz94 (chkP_some eu14).1 (chkP_some eu14).2) ?_;obtain ⟨x15, ex15, h⟩ := b_bind h;refine fr 3 ?_;refine JO.g11 rfl rfl rfl rfl rfl rfl (o_load_arr (t := (.int .u8)) (off := 5) (i := y6.2.1) (N := 8) rfl sz94 (fun _ => rfl) rfl rfl rfl rfl ex15) ⟨rfl, trivial⟩ ?_;refine gm ?_;refine gb (o_andn rfl) ?_;refine gb (o_neq rfl) ?_;refine pf (nl ?_);exact JN.z (z7.2, (!decide ((iandn .u8 x15 a0) = (0 : Int)), y6.2.2)) h (SE.finT [.obj b_a2 98 (Qq a2 (.eq m_a2)), .obj c_a2 83 (Pt b_a2), .obj c_a1 33 (.eq z7.1), .sl z7.1 59 tStep y6.1, .obj c_a4 134 (.eq (.func (.func 65) #[] #[(Pv c_a1), (Pv c_a2), (Pv c_a3), (Pv c_a4)])), .obj c_a3 133 (.eq (.func (.yield l) #[] #[]))] (E z7.2 y6.2.2) [2, 3, 1, 0, 4, 5] ⟨rfl, rfl, rfl, rfl, rfl, rfl, rfl, rfl, rfl, rfl, trivial⟩ rfl)
      ·refine cv h (fun h => ?_) (fun h => ?_)
       ·refine JC.exit (JN.then_x (JN.blk_hit (JN.then_n ?_)));exact JN.z ((z7.1, z12), (y6.1, x11.2)) h (SE.finT [.obj c_a1 33 (.eq z7.1), .sl z7.1 59 tStep y6.1, .obj c_a2 83 (Pt b_a2), .obj b_a2 98 (Qq a2 (.eq m_a2)), .obj c_a4 134 (.eq (.func (.func 65) #[] #[(Pv c_a1), (Pv c_a2), (Pv c_a3), (Pv c_a4)])), .obj c_a3 133 (.eq (.func (.yield l) #[] #[]))] (E z12 x11.2) [0, 1, 2, 3, 4, 5] ⟨rfl, rfl, rfl, rfl, rfl, rfl, rfl, trivial⟩ rfl)
       ·refine sk (sr (fr 2 ?_));refine lo sz83 ?_;refine ja (o_nil_obj rfl) ?_;refine fl fo98_0 ?_;refine fl fo26_1 ?_;refine fr 3 ?_;refine lo sz24 ?_;refine ol U24 ?_;refine JO.mc rfl ?_;refine nt (JC.block (JC.loopB (Z := Value × Z) (α := (List dStep) × Int × σ) (fun z17 y16 => [(0, .eq (.int .u8 a0)), (1, Pt c_a1), (2, Pt c_a2), (4, Pt c_a4), (7, I y6.2.1), (8, .rep (.tag 109 111) x10), (26, .rep (.slice (.tag 109 111)) a2.2.1), (27, I (a2.2.1.length : Int)), (28, I y6.2.1), (52, I (a2.1.2.1.length : Int)), (53, I y16.2.1)]) (fun z17 y16 => [.obj c_a1 33 (.eq z17.1), .sl z17.1 59 tStep y16.1, .obj c_a2 83 (Pt b_a2), .obj b_a2 98 (Qq a2 (.eq m_a2)), .obj c_a4 134 (.eq (.func (.func 65) #[] #[(Pv c_a1), (Pv c_a2), (Pv c_a3), (Pv c_a4)])), .obj c_a3 133 (.eq (.func (.yield l) #[] #[]))] ++ E z17.2 y16.2.2) (chg_quick_plans_1_1_l2 k a0 a2 (chg_quick_plans_1_1 k Y a2 m0) y6 x10) k (z7.1, z12) (y6.1, (0 : Int), x11.2) (fun _ => rfl) h (SE.finT [.obj b_a2 98 (Qq a2 (.eq m_a2)), .obj c_a2 83 (Pt b_a2), .obj c_a1 33 (.eq z7.1), .sl z7.1 59 tStep y6.1, .obj c_a4 134 (.eq (.func (.func 65) #[] #[(Pv c_a1), (Pv c_a2), (Pv c_a3), (Pv c_a4)])), .obj c_a3 133 (.eq (.func (.yield l) #[] #[]))] (E z12 x11.2) [2, 3, 1, 0, 4, 5] ⟨rfl, rfl, rfl, rfl, rfl, rfl, rfl, rfl, rfl, rfl, rfl, trivial⟩ rfl) (fun n z17 y16 h => ?_)));unfold chg_quick_plans_1_1_l2 at h;refine sr (jb (o_lss rfl) ?_);refine nt (JC.seq (ci h (fun h => ?_) (fun h => ?_)))
        ·refine sk (JC.cutE (Z := Value × Z) (α := (List dStep) × σ) (fun z19 x18 => [(0, .eq (.int .u8 a0)), (1, Pt c_a1), (2, Pt c_a2), (4, Pt c_a4), (7, I y6.2.1), (8, .rep (.tag 109 111) x10), (26, .rep (.slice (.tag 109 111)) a2.2.1), (27, I (a2.2.1.length : Int)), (28, I y6.2.1), (52, I (a2.1.2.1.length : Int)), (53, I y16.2.1)]) (fun z19 x18 => [.obj c_a1 33 (.eq z19.1), .sl z19.1 59 tStep x18.1, .obj c_a2 83 (Pt b_a2), .obj b_a2 98 (Qq a2 (.eq m_a2)), .obj c_a4 134 (.eq (.func (.func 65) #[] #[(Pv c_a1), (Pv c_a2), (Pv c_a3), (Pv c_a4)])), .obj c_a3 133 (.eq (.func (.yield l) #[] #[]))] ++ E z19.2 x18.2) (fun e => e = r) h (fun e h => hR e h) (fun K hR h => ?_) (fun z19 x18 h => ?_))
         ·refine JC.block (sr (mq ?_));refine aq (nt (JC.seq (sr ?_)));refine fr 2 ?_;refine lo sz83 ?_;iterate 2 refine mq ?_
          obtain ⟨r20, er20, h⟩ := b_bind h;refine fr 3 ?_;refine kc (o_call [.tmp 56, .tmp 57, .tmp 58] rfl rfl en67 rfl (chg_quick_can_ok k ((a2.1.1, a2.1.2.1, a2.1.2.2.1, a2.1.2.2.2), a2.2.1, a2.2.2) b_a2 m_a2 y16.2.1 x10 r20 er20)) ?_;refine ja (o_not rfl) ?_;refine nt (cw h (fun h => ?_) (fun h => ?_))
          ·refine JC.exit (JN.then_x (JN.blk_hit (JN.then_n ?_)));exact JN.z ((z17.1, z17.2), (y16.1, y16.2.2)) h (SE.finT [.obj b_a2 98 (Qq a2 (.eq m_a2)), .obj c_a2 83 (Pt b_a2), .obj c_a1 33 (.eq z17.1), .sl z17.1 59 tStep y16.1, .obj c_a4 134 (.eq (.func (.func 65) #[] #[(Pv c_a1), (Pv c_a2), (Pv c_a3), (Pv c_a4)])), .obj c_a3 133 (.eq (.func (.yield l) #[] #[]))] (E z17.2 y16.2.2) [2, 3, 1, 0, 4, 5] ⟨rfl, rfl, rfl, rfl, rfl, rfl, rfl, rfl, rfl, rfl, rfl, trivial⟩ rfl)
          ·refine sk (sr (fr 2 ?_));refine lo sz33 ?_;iterate 2 refine mq ?_
           refine jb (o_buildT [(0, .tmp 62, _), (1, .tmp 63, _)] rfl pl59 za59 alb59 (stors ⟨rfl, rfl, trivial⟩) rfl) ?_;refine ja (o_litB (t := tStep) [(.tmp 64, _)] [(y6.2.1, y16.2.1)] rfl rfl sl33 (.cons trivial (.agg (.pair .int .int)) .nil) rfl rfl) ?_;obtain ⟨u21, eu21, h⟩ := b_bind h;refine fr 3 ?_;refine JO.s1x rfl rfl rfl (o_append rfl rfl sl33 (chkP_some eu21)) ⟨rfl, rfl, trivial⟩ fun v22 => ?_;refine JO.one fun o23 => ?_;refine fr 1 ?_;refine JO.n11 rfl rfl (o_store rfl sz33 o23 rfl rfl) ⟨rfl, rfl, trivial⟩ ?_;refine nt (JC.seq (JC.drawN ?_));refine ea 4 (o_load_obj rfl sz134 nfs rfl) ?_;refine dm ?_;refine dm ?_;refine da (o_litB (t := (.int .i64)) [(.tmp 69, _)] [y6.2.1] rfl rfl sl22 (.cons rfl .int .nil) rfl rfl) ?_;obtain ⟨r24, er24, h⟩ := b_bind h;refine da (o_call [.tmp 70] rfl rfl en40 rfl (chg_of_ok k [y6.2.1] r24 er24)) ?_;refine db (o_or rfl) ?_;refine df mixed ?_;obtain ⟨r25, er25, h⟩ := b_bind h;refine fr 2 ?_;refine fr 4 ?_;refine fr 5 ?_;refine fr 5 ?_;refine fr 4 ?_;refine fr 5 ?_;refine JO.stepA rfl rfl rfl (o_callvM (fs := []) (cs := [(Pv c_a1), (Pv c_a2), (Pv c_a3), (Pv c_a4)]) (ags := [.eq (.int .u8 (ior .u8 a0 r24))]) [.tmp 72] rfl rfl en65 rfl (ih (ior .u8 a0 r24) (y16.1 ++ [(y6.2.1, y16.2.1)]) v22 z17.2 y16.2.2 r25 er25)) ⟨rfl, rfl, trivial⟩ fun z26 => ?_;refine aq (nt (sr ?_));refine fr 1 ?_;refine lo sz33 ?_;refine lo sz33 ?_;refine fr 1 ?_;refine ka (o_len_own rfl rfl U33) ?_;obtain ⟨x27, ex27, h⟩ := b_bind h;refine jb (o_sub rfl ex27) ?_;obtain ⟨u28, eu28, h⟩ := b_bind h;refine JO.s1x rfl rfl rfl (o_slice_own (t := tStep) rfl U33 sz59 (chkP_some eu28).1 (chkP_some eu28).2) ⟨rfl, rfl, trivial⟩ fun v29 => ?_;refine JO.one fun o30 => ?_;refine fr 1 ?_;refine JO.n11 rfl rfl (o_store rfl sz33 o30 rfl rfl) ⟨rfl, rfl, trivial⟩ ?_;refine nt (sr (mq ?_));refine ja (o_not rfl) ?_;refine nt (cw h (fun h => ?_) (fun h => ?_))
           ·refine sr (cq (nt (JC.ret (br (JN.blk_r (br (JN.blk_r (JN.then_r ?_))))))));refine JN.se (SE.finT (Γ' := [(6, _)]) [.obj c_a1 33 (.eq v29), .sl v29 59 tStep (List.take (Int.toNat x27) r25.2.1), .obj c_a2 83 (Pt b_a2), .obj c_a3 133 (.eq (.func (.yield l) #[] #[])), .obj c_a4 134 (.eq (.func (.func 65) #[] #[(Pv c_a1), (Pv c_a2), (Pv c_a3), (Pv c_a4)])), .obj b_a2 98 (Qq a2 (.eq m_a2))] (E z26.2 r25.2.2) [1, 0, 2, 3, 4, 5] ⟨rfl, trivial⟩ rfl) ?_;obtain rfl := hR _ h;exact JN.retA (v29, z26.2) [_] ⟨rfl, trivial⟩ rfl
           ·refine JC.skip (bn ?_);exact JN.z ((v29, z26.2), (List.take (Int.toNat x27) r25.2.1, r25.2.2)) h (SE.finT [.obj c_a1 33 (.eq v29), .sl v29 59 tStep (List.take (Int.toNat x27) r25.2.1), .obj c_a2 83 (Pt b_a2), .obj c_a3 133 (.eq (.func (.yield l) #[] #[])), .obj c_a4 134 (.eq (.func (.func 65) #[] #[(Pv c_a1), (Pv c_a2), (Pv c_a3), (Pv c_a4)])), .obj b_a2 98 (Qq a2 (.eq m_a2))] (E z26.2 r25.2.2) [0, 1, 2, 5, 4, 3] ⟨rfl, rfl, rfl, rfl, rfl, rfl, rfl, rfl, rfl, rfl, rfl, trivial⟩ rfl)
         ·refine JC.region ?_;obtain ⟨x31, ex31, h⟩ := b_bind h;refine jb (o_add rfl ex31) ?_;refine mq (nl ?_);exact JN.z ((z19.1, z19.2), (x18.1, x31, x18.2)) h (SE.finT [.obj c_a1 33 (.eq z19.1), .sl z19.1 59 tStep x18.1, .obj c_a2 83 (Pt b_a2), .obj b_a2 98 (Qq a2 (.eq m_a2)), .obj c_a4 134 (.eq (.func (.func 65) #[] #[(Pv c_a1), (Pv c_a2), (Pv c_a3), (Pv c_a4)])), .obj c_a3 133 (.eq (.func (.yield l) #[] #[]))] (E z19.2 x18.2) [0, 1, 2, 3, 4, 5] ⟨rfl, rfl, rfl, rfl, rfl, rfl, rfl, rfl, rfl, rfl, rfl, trivial⟩ rfl)
        ·refine JC.exit (JN.then_x (JN.then_x (JN.blk_hit (bn ?_))));exact JN.z ((z17.1, z17.2), (y16.1, y16.2.2)) h (SE.finT [.obj c_a1 33 (.eq z17.1), .sl z17.1 59 tStep y16.1, .obj c_a2 83 (Pt b_a2), .obj b_a2 98 (Qq a2 (.eq m_a2)), .obj c_a4 134 (.eq (.func (.func 65) #[] #[(Pv c_a1), (Pv c_a2), (Pv c_a3), (Pv c_a4)])), .obj c_a3 133 (.eq (.func (.yield l) #[] #[]))] (E z17.2 y16.2.2) [0, 1, 2, 3, 4, 5] ⟨rfl, rfl, rfl, rfl, rfl, rfl, rfl, trivial⟩ rfl)
     ·refine JC.region ?_;obtain ⟨x32, ex32, h⟩ := b_bind h;refine jb (o_add rfl ex32) ?_;refine mq (nl ?_);exact JN.z ((z9.1, z9.2), (x8.1, x32, x8.2)) h (SE.finT [.obj c_a1 33 (.eq z9.1), .sl z9.1 59 tStep x8.1, .obj c_a2 83 (Pt b_a2), .obj b_a2 98 (Qq a2 (.eq m_a2)), .obj c_a4 134 (.eq (.func (.func 65) #[] #[(Pv c_a1), (Pv c_a2), (Pv c_a3), (Pv c_a4)])), .obj c_a3 133 (.eq (.func (.yield l) #[] #[]))] (E z9.2 x8.2) [0, 1, 2, 3, 4, 5] ⟨rfl, rfl, rfl, rfl, rfl, rfl, rfl, trivial⟩ rfl)
    ·refine xa ?_;exact JN.z ((z7.1, z7.2), (y6.1, y6.2.2)) h (SE.finT [.obj c_a1 33 (.eq z7.1), .sl z7.1 59 tStep y6.1, .obj c_a2 83 (Pt b_a2), .obj b_a2 98 (Qq a2 (.eq m_a2)), .obj c_a4 134 (.eq (.func (.func 65) #[] #[(Pv c_a1), (Pv c_a2), (Pv c_a3), (Pv c_a4)])), .obj c_a3 133 (.eq (.func (.yield l) #[] #[]))] (E z7.2 y6.2.2) [0, 1, 2, 3, 5, 4] trivial rfl)
   ·refine sr (cq (nt (JC.ret ?_)));refine JN.se (SE.finT (Γ' := [(6, _)]) [.obj c_a1 33 (.eq z5.1), .sl z5.1 59 tStep x4.1, .obj c_a2 83 (Pt b_a2), .obj b_a2 98 (Qq a2 (.eq m_a2)), .obj c_a3 133 (.eq (.func (.yield l) #[] #[])), .obj c_a4 134 (.eq (.func (.func 65) #[] #[(Pv c_a1), (Pv c_a2), (Pv c_a3), (Pv c_a4)]))] (E z5.2 x4.2) [1, 0, 2, 4, 5, 3] ⟨rfl, trivial⟩ rfl) ?_;cases h;exact JN.retA (z5.1, z5.2) [_] ⟨rfl, trivial⟩ rfl


def chg_quick_plans_1 {σ : Type} (k : Nat) (Y : σ → (List dStep) → Option (σ × Bool)) (a1 : (dChange × (List (Bool × Int)) × (List Int))) (s0 : σ) : Option (σ) :=
 (chg_quick_plans_1_1 k Y ((a1.1.1, a1.1.2.1, a1.1.2.2.1, a1.1.2.2.2), a1.2.1, a1.2.2) k (0 : Int) ([] : (List dStep)) s0).bind fun r4 =>
 some r4.2.2

theorem chg_quick_plans_1_ok {M : Md Try.prog} {σ Z : Type} (E : Z → σ → List D) (l : Nat) (Y : σ → (List dStep) → Option (σ × Bool)) (k : Nat) (a1 : (dChange × (List (Bool × Int)) × (List Int))) (b_a1 : Nat) (m_a1 : Value) (c_a1 : Nat) (hY : ∀ z s p r, Y s p = some r → YT M l [Rs tStep p] ([.obj b_a1 98 (Qq a1 (.eq m_a1))] ++ E z s) (fun z' : Z => (.eq (.bool r.2), [.obj b_a1 98 (Qq a1 (.eq m_a1))] ++ E z' r.1))) :
 ∀ (z0 : Z) (s0 : σ) (r : σ), chg_quick_plans_1 k Y a1 s0 = some r → CtrM M 64 [.eq (.func (.yield l) #[] #[]), Pt c_a1] ([.obj c_a1 83 (Pt b_a1), .obj b_a1 98 (Qq a1 (.eq m_a1))] ++ E z0 s0) (fun z : Z => (resA [], [.obj c_a1 83 (Pt b_a1), .obj b_a1 98 (Qq a1 (.eq m_a1))] ++ E z r)) := by
 intro z0 s0 r h
 unfold chg_quick_plans_1 at h
 replace h := b_top h
 refine CtrM.of 8 Try.func64 rfl Try.ntmps64 rfl fun S w0 => ?_
 refine sr ?_
 refine bx fun b1 => ?_
 refine nt ?_
 refine sr ?_
 refine JO.s01 rfl rfl rfl (o_alloc rfl za33 al33) trivial fun b2 => ?_
 refine nt ?_
 refine sr ?_
 refine JO.s01 rfl rfl rfl (o_alloc rfl za134 al134) trivial fun b3 => ?_
 refine nt ?_
 refine sr ?_
 refine JO.s rfl (o_mkfn [] [.tmp 3, .tmp 1, .tmp 2, .tmp 4] [] [(Pv b2), (Pv c_a1), (Pv b1), (Pv b3)] rfl rfl rfl) ⟨rfl, rfl, rfl, rfl, trivial⟩ ?_
 refine JO.n11 rfl rfl (o_store rfl sz134 rfl rfl rfl) ⟨rfl, rfl, trivial⟩ ?_
 refine nt ?_
 refine JC.region ?_
 refine lo sz134 ?_
 refine JO.se (SE.nil 59 tStep) ?_
 obtain ⟨r4, er4, h⟩ := b_bind h
 have cr4 := chg_quick_plans_1_1_ok E l Y k b2 ((a1.1.1, a1.1.2.1, a1.1.2.2.1, a1.1.2.2.2), a1.2.1, a1.2.2) b_a1 m_a1 c_a1 b1 b3 hY k (0 : Int) ([] : (List dStep)) (.slice none 0 0) z0 s0 r4 er4
 refine fr 5 ?_
 refine fr 2 ?_
 refine fr 4 ?_
 refine fr 5 ?_
 refine fr 5 ?_
 refine fr 5 ?_
 refine JO.stepA rfl rfl rfl (o_callvM (fs := []) (cs := [(Pv b2), (Pv c_a1), (Pv b1), (Pv b3)]) (ags := [.eq (.int .u8 (0 : Int))]) [.const (.int .u8 (0))] rfl rfl en65 rfl cr4) ⟨rfl, rfl, trivial⟩ fun z5 => ?_
 refine JO.nil ?_
 refine JN.end_n ?_
 refine JN.se (SE.finT (Γ' := []) [.sl z5.1 59 tStep r4.2.1, .obj b2 33 (.eq z5.1), .obj c_a1 83 (Pt b_a1), .obj b1 133 (.eq (.func (.yield l) #[] #[])), .obj b3 134 (.eq (.func (.func 65) #[] #[(Pv b2), (Pv c_a1), (Pv b1), (Pv b3)])), .obj b_a1 98 (Qq a1 (.eq m_a1))] (E z5.2 r4.2.2) [2, 5] trivial rfl) ?_
 cases h
 exact JN.retA z5.2 [] trivial rfl



theorem chg_quick_plans_ok (b : Nat) : Ctr Try.prog 36 [Pt b] [] (fun z : Nat => (resA [.eq (.func (.func 64) #[] #[(Pv z)])], [.obj z 83 (Pt b)])) := by
 refine Ctr.of 4 Try.func36 rfl Try.ntmps36 rfl fun S w0 => ?_;refine sr (bx fun z => ?_);refine cq (nt (sr ?_));refine ja (o_mkfn [] [.tmp 1] [] [(Pv z)] rfl rfl rfl) ?_;refine aq (nt (JC.ret ?_));exact JN.ret z [_] 1 ⟨rfl, trivial⟩ rfl


def chg_quick_bars (k : Nat) (a0 : (dChange × (List (Bool × Int)) × (List Int))) (a1 : (Bool × Int)) : Option Int :=
 (cond a1.1 (chg_on_thing k a1.2) (chg_off_thing k a1.2)).bind fun r1 =>
 (geti a0.1.1 r1).bind fun x2 =>
 if a1.1 = true then (some x2.2.2.1) else (some x2.2.1)

theorem chg_quick_bars_ok (k : Nat) (a0 : (dChange × (List (Bool × Int)) × (List Int))) (b_a0 : Nat) (m_a0 : Value) (a1 : (Bool × Int)) (r : Int) (h : chg_quick_bars k a0 a1 = some r) :
 Ctr Try.prog 72 [Pt b_a0, .rep (.tag 109 111) a1] [.obj b_a0 98 (Qq a0 (.eq m_a0))] (fun _ : Unit => (resA [I r], [.obj b_a0 98 (Qq a0 (.eq m_a0))])) := by
 unfold chg_quick_bars at h
 replace h := b_top h
 refine Ctr.of 27 Try.func72 rfl Try.ntmps72 rfl fun S w0 => ?_
 refine sr ?_
 refine cq ?_
 refine nt ?_
 refine JC.seq ?_
 refine JC.drawW ?_
 refine DW.t00 rfl rfl rfl (o_move rfl) ⟨rfl, trivial⟩ ?_
 refine DW.t00 rfl rfl rfl (o_nil_obj rfl) ⟨rfl, trivial⟩ ?_
 refine DW.t00 rfl rfl rfl (o_field_obj rfl fo98_0) ⟨rfl, trivial⟩ ?_
 refine DW.t00 rfl rfl rfl (o_field_obj rfl fo26_0) ⟨rfl, trivial⟩ ?_
 refine DW.t11 0 rfl rfl rfl rfl (o_load_obj rfl sz23 nfs rfl) ⟨rfl, trivial⟩ ?_
 refine DW.t00 rfl rfl rfl (o_move rfl) ⟨rfl, trivial⟩ ?_
 obtain ⟨r1, er1, h⟩ := b_bind h
 refine DW.t00 rfl rfl rfl (o_invoke rfl rfl mt109_thing mt111_thing (ctr_cond (fun hb => chg_off_thing_ok k a1.2 r1 (by simpa [hb] using er1)) (fun hb => chg_on_thing_ok k a1.2 r1 (by simpa [hb] using er1)))) ⟨rfl, trivial⟩ ?_
 obtain ⟨x2, ex2, h⟩ := b_bind h
 refine DW.t00 rfl rfl rfl (o_index (t := tThing) rfl U23 sz43 ex2) ⟨rfl, rfl, trivial⟩ ?_
 refine DW.t00 rfl rfl rfl (o_load_at (t := tThing) rfl sz43 rfl) ⟨rfl, trivial⟩ ?_
 refine DW.tNew (ptrD 43 (.agg (.pair (.eq (.slice none 0 0)) (.pair (I (0 : Int)) (.pair (I (0 : Int)) (.pair (I (0 : Int)) (I (0 : Int)))))))) (fun _ => rfl) rfl rfl rfl (o_alloc rfl za43 al43) trivial ?_
 refine DW.fin 10 [true, true, true, true, true, true, true, true, true, true] [] [] [] rfl (by kernel_rfl) (by kernel_rfl) (by kernel_rfl) mixed (fun vs hv hB => ?_)
 obtain ⟨w0, vs1, rfl, hv1⟩ := len_cons hv
 obtain ⟨w1, vs2, rfl, hv2⟩ := len_cons hv1
 obtain ⟨w2, vs3, rfl, hv3⟩ := len_cons hv2
 obtain ⟨w3, vs4, rfl, hv4⟩ := len_cons hv3
 obtain ⟨w4, vs5, rfl, hv5⟩ := len_cons hv4
 obtain ⟨w5, vs6, rfl, hv6⟩ := len_cons hv5
 obtain ⟨w6, vs7, rfl, hv7⟩ := len_cons hv6
 obtain ⟨w7, vs8, rfl, hv8⟩ := len_cons hv7
 obtain ⟨w8, vs9, rfl, hv9⟩ := len_cons hv8
 obtain ⟨w9, vs10, rfl, hv10⟩ := len_cons hv9
 obtain rfl := len_nil hv10
 obtain ⟨b3, rfl⟩ := ptr_of hB.2.2.2.2.2.2.2.2.2.1
 refine ⟨[0, 1], [.obj b_a0 98 (Qq a0 (.eq m_a0)), .obj b3 43 (.agg (.pair (.eq (.slice none 0 0)) (.pair (I (0 : Int)) (.pair (I (0 : Int)) (.pair (I (0 : Int)) (I (0 : Int)))))))], by kernel_rfl, by decide, ?_⟩
 refine JT.front 1 rfl ?_
 refine JT.n11 rfl rfl (o_store rfl sz43 rfl rfl rfl) ⟨rfl, rfl, trivial⟩ (by kernel_rfl) ?_
 refine JT.nil ?_
 refine JN.se (SE.fin (Γ' := [(1, .rep (.tag 109 111) a1), (5, Pt b3)]) (Δ' := [.obj b3 43 (.rep tThing x2), .obj b_a0 98 (Qq a0 (.eq m_a0))]) [0, 1] ⟨rfl, rfl, trivial⟩ rfl) ?_
 refine tn ?_
 refine JC.seq ?_
 refine sr ?_
 refine mq ?_
 refine JO.s rfl (o_as1 rfl ta111 (by decide)) ⟨rfl, trivial⟩ ?_
 refine mq ?_
 refine xr ?_
 refine xr ?_
 refine aq ?_
 refine aq ?_
 refine nt ?_
 refine sr ?_
 refine mq ?_
 refine nt ?_
 refine cv h (fun h => ?_) (fun h => ?_)
 ·
  refine sr (fl fo43_2 ?_);refine lo sz3 ?_;refine aq (nt (rx ?_));refine JN.se (SE.fin (Γ' := [(4, _)]) [1, 0] ⟨rfl, trivial⟩ rfl) ?_;cases h;exact JN.ret () [_] 1 ⟨rfl, trivial⟩ rfl
 ·
  refine sk (sr (fl fo43_1 ?_));refine lo sz3 ?_;refine aq (nt (JC.ret ?_));refine JN.se (SE.fin (Γ' := [(4, _)]) [1, 0] ⟨rfl, trivial⟩ rfl) ?_;cases h;exact JN.ret () [_] 1 ⟨rfl, trivial⟩ rfl


def chg_quick_begins_l1 (k : Nat) (a0 : (dChange × (List (Bool × Int)) × (List Int))) : Nat → ((List Int) × Int) → Option (List Int)
 | 0, _ => none
 | n + 1, y6 =>
  if y6.2 < (a0.1.2.1.length : Int) then ((geti a0.1.2.1 y6.2).bind fun x8 =>
  (chkP (0 ≤ y6.2 ∧ y6.2 < 3)).bind fun _ =>
  (ck (y6.2 + (1 : Int))).bind fun x11 =>
  chg_quick_begins_l1 k a0 n (List.set y6.1 (Int.toNat y6.2) x8.2.2, x11)) else (some y6.1)

def chg_quick_begins_l3 (k : Nat) (y14 : (List Int) × (List Int) × (List Int) × Int) (r26 : (List Int)) : Nat → (Int × Int) → Option Int
 | 0, _ => none
 | n + 1, y27 =>
  if y27.2 < (r26.length : Int) then ((geti r26 y27.2).bind fun x29 =>
  (chkP (0 ≤ x29 ∧ x29 < 4)).bind fun _ =>
  (geti y14.2.1 x29).bind fun x31 =>
  (ck (y27.2 + (1 : Int))).bind fun x32 =>
  chg_quick_begins_l3 k y14 r26 n (imax y27.1 x31, x32)) else (some y27.1)

def chg_quick_begins_l2 (k : Nat) (a0 : (dChange × (List (Bool × Int)) × (List Int))) (a1 : (List dStep)) : Nat → ((List Int) × (List Int) × (List Int) × Int) → Option ((List Int) × (List Int))
 | 0, _ => none
 | n + 1, y14 =>
  if y14.2.2.2 < (a1.length : Int) then ((((geti a1 y14.2.2.2).bind fun x18 =>
  (chkP (0 ≤ x18.2 ∧ x18.2 < 3)).bind fun _ =>
  (geti y14.2.2.1 x18.2).bind fun x21 =>
  (((chkP (0 ≤ x18.1 ∧ x18.1 < 8)).bind fun _ =>
  (geti a0.2.2 x18.1).bind fun x25 =>
  (chg_set_list k x25).bind fun r26 =>
  chg_quick_begins_l3 k y14 r26 k (x21, (0 : Int))) : Option (Int)).bind fun x22 =>
  (geti a0.2.1 x18.1).bind fun x33 =>
  (chg_quick_bars k ((a0.1.1, a0.1.2.1, a0.1.2.2.1, a0.1.2.2.2), a0.2.1, a0.2.2) x33).bind fun r34 =>
  (ck (x22 + r34)).bind fun x35 =>
  (chkP (okLen (List.length y14.1 + List.length [x22]))).bind fun _ =>
  (chkP (0 ≤ x18.1 ∧ x18.1 < 4)).bind fun _ =>
  (chkP (0 ≤ x18.2 ∧ x18.2 < 3)).bind fun _ =>
  some (y14.1 ++ [x22], List.set y14.2.1 (Int.toNat x18.1) x35, List.set y14.2.2.1 (Int.toNat x18.2) x35)) : Option ((List Int) × (List Int) × (List Int))).bind fun x16 =>
  (ck (y14.2.2.2 + (1 : Int))).bind fun x40 =>
  chg_quick_begins_l2 k a0 a1 n (x16.1, x16.2.1, x16.2.2, x40)) else (some (y14.1, y14.2.1))
def chg_quick_begins (k : Nat) (a0 : (dChange × (List (Bool × Int)) × (List Int))) (a1 : (List dStep)) : Option ((List Int) × (List Int)) :=
 ((chg_quick_begins_l1 k a0 k ([(0 : Int), (0 : Int), (0 : Int)], (0 : Int))) : Option ((List Int))).bind fun x4 =>
 ((chg_quick_begins_l2 k a0 a1 k (([] : (List Int)), [(0 : Int), (0 : Int), (0 : Int), (0 : Int)], x4, (0 : Int))) : Option ((List Int) × (List Int))).bind fun x12 =>
 some (x12.1, x12.2)

theorem chg_quick_begins_ok (k : Nat) (a0 : (dChange × (List (Bool × Int)) × (List Int))) (b_a0 : Nat) (m_a0 : Value) (a1 : (List dStep)) (r : (List Int) × (List Int)) (h : chg_quick_begins k a0 a1 = some r) :
 Ctr Try.prog 51 [Pt b_a0, Rs tStep a1] [.obj b_a0 98 (Qq a0 (.eq m_a0))] (fun _ : Unit => (resA [Ri r.1, .rep (.arr 4 (.int .i64)) r.2], [.obj b_a0 98 (Qq a0 (.eq m_a0))])) := by
 unfold chg_quick_begins at h
 replace h := b_top h
 refine Ctr.of 89 Try.func51 rfl Try.ntmps51 rfl fun S w0 => ?_
 refine sr ?_
 refine cq ?_
 refine JO.s01 rfl rfl rfl (o_alloc rfl za113 al113) trivial fun b1 => ?_
 refine nt ?_
 refine sr ?_
 refine cq ?_
 refine nt ?_
 refine sr ?_
 refine JO.s01 rfl rfl rfl (o_alloc rfl za113 al113) trivial fun b2 => ?_
 refine nt ?_
 refine sr ?_
 refine JO.s01 rfl rfl rfl (o_alloc rfl za143 al143) trivial fun b3 => ?_
 refine nt ?_
 refine JC.cutB (Z := Unit) (α := (List Int)) (fun z5 x4 => [(0, Pt b_a0), (1, Rs tStep a1), (5, Pt b1), (6, .eq (.slice none 0 0)), (7, Pt b2), (8, Pt b3)]) (fun z5 x4 => [.obj b_a0 98 (Qq a0 (.eq m_a0)), .obj b1 113 (.rep (.arr 4 (.int .i64)) [(0 : Int), (0 : Int), (0 : Int), (0 : Int)]), .obj b2 113 (.rep (.arr 4 (.int .i64)) [(0 : Int), (0 : Int), (0 : Int), (0 : Int)]), .obj b3 143 (.rep (.arr 3 (.int .i64)) x4)]) h (fun K h => ?_) (fun z5 x4 h => ?_)
 ·
  refine sr (mq ?_);refine ja (o_nil_obj rfl) ?_;refine fl fo98_0 ?_;refine fl fo26_1 ?_;refine fr 3 ?_;refine lo sz24 ?_;refine ol U24 ?_;refine JO.mc rfl ?_;refine nt (JC.block (JC.loopB (Z := Unit) (α := (List Int) × Int) (fun z7 y6 => [(0, Pt b_a0), (1, Rs tStep a1), (5, Pt b1), (6, .eq (.slice none 0 0)), (7, Pt b2), (8, Pt b3), (21, Rs tDresser a0.1.2.1), (22, I (a0.1.2.1.length : Int)), (23, I y6.2)]) (fun z7 y6 => [.obj b_a0 98 (Qq a0 (.eq m_a0)), .obj b1 113 (.rep (.arr 4 (.int .i64)) [(0 : Int), (0 : Int), (0 : Int), (0 : Int)]), .obj b2 113 (.rep (.arr 4 (.int .i64)) [(0 : Int), (0 : Int), (0 : Int), (0 : Int)]), .obj b3 143 (.rep (.arr 3 (.int .i64)) y6.1)]) (chg_quick_begins_l1 k a0) k () ([(0 : Int), (0 : Int), (0 : Int)], (0 : Int)) (fun _ => rfl) h (SE.fin [0, 3, 2, 1] ⟨rfl, rfl, rfl, rfl, rfl, rfl, rfl, rfl, rfl, trivial⟩ rfl) (fun n z7 y6 h => ?_)));unfold chg_quick_begins_l1 at h;refine sr (jb (o_lss rfl) ?_);refine nt (JC.seq (ci h (fun h => ?_) (fun h => ?_)))
  ·refine sk (JC.seq (JC.block (sr (mq ?_))));obtain ⟨x8, ex8, h⟩ := b_bind h;refine jb (o_index (t := tDresser) rfl U24 sz38 ex8) ?_;refine ja (o_load_at (t := tDresser) rfl sz38 rfl) ?_;refine JO.s01 rfl rfl rfl (o_alloc rfl za38 al38) trivial fun b9 => ?_;refine aq ?_;refine JO.n11 rfl rfl (o_store rfl sz38 rfl rfl rfl) ⟨rfl, rfl, trivial⟩ ?_;refine nt (JC.region (mq ?_));refine fl fo38_2 ?_;refine lo sz3 ?_;obtain ⟨u10, eu10, h⟩ := b_bind h;refine jb (o_index_arr rfl U143 sz3 (chkP_some eu10).1 (chkP_some eu10).2) ?_;refine fr 4 ?_;refine JO.n11 rfl rfl (o_store_arr (t := (.int .i64)) (off := 0) (i := y6.2) (N := 3) rfl sz3 .int rfl rfl rfl rfl (chkP_some eu10).1 (chkP_some eu10).2 rfl) ⟨rfl, rfl, trivial⟩ ?_;refine JO.nil (JN.blk_n (tn (JC.region ?_)));obtain ⟨x11, ex11, h⟩ := b_bind h;refine jb (o_add rfl ex11) ?_;refine mq (nl ?_);exact jz ((), (List.set y6.1 (Int.toNat y6.2) x8.2.2, x11)) h [2, 3, 4, 0]
  ·refine xa ?_;exact jz ((), y6.1) h [0, 1, 2, 3]
 ·
  refine JC.cutB (Z := Value) (α := (List Int) × (List Int)) (fun z13 x12 => [(5, Pt b1), (6, .eq z13), (7, Pt b2)]) (fun z13 x12 => [.obj b1 113 (.rep (.arr 4 (.int .i64)) [(0 : Int), (0 : Int), (0 : Int), (0 : Int)]), .sl z13 3 (.int .i64) x12.1, .obj b2 113 (.rep (.arr 4 (.int .i64)) x12.2), .obj b_a0 98 (Qq a0 (.eq m_a0))]) h (fun K h => ?_) (fun z13 x12 h => ?_)
  ·refine sr (mq ?_);refine ol U33 ?_;refine JO.mc rfl ?_;refine nt (JC.block (JC.se (SE.nil 3 (.int .i64)) ?_));refine JC.loopB (Z := Value) (α := (List Int) × (List Int) × (List Int) × Int) (fun z15 y14 => [(0, Pt b_a0), (5, Pt b1), (6, .eq z15), (7, Pt b2), (8, Pt b3), (33, Rs tStep a1), (34, I (a1.length : Int)), (35, I y14.2.2.2)]) (fun z15 y14 => [.obj b_a0 98 (Qq a0 (.eq m_a0)), .obj b1 113 (.rep (.arr 4 (.int .i64)) [(0 : Int), (0 : Int), (0 : Int), (0 : Int)]), .sl z15 3 (.int .i64) y14.1, .obj b2 113 (.rep (.arr 4 (.int .i64)) y14.2.1), .obj b3 143 (.rep (.arr 3 (.int .i64)) y14.2.2.1)]) (chg_quick_begins_l2 k a0 a1) k (.slice none 0 0) (([] : (List Int)), [(0 : Int), (0 : Int), (0 : Int), (0 : Int)], x4, (0 : Int)) (fun _ => rfl) h (SE.fin [1, 2, 0, 3, 4] ⟨rfl, rfl, rfl, rfl, rfl, rfl, rfl, rfl, trivial⟩ rfl) (fun n z15 y14 h => ?_);unfold chg_quick_begins_l2 at h;refine sr (jb (o_lss rfl) ?_);refine nt (JC.seq (ci h (fun h => ?_) (fun h => ?_)))
   ·refine sk (JC.cutB (Z := Value) (α := (List Int) × (List Int) × (List Int)) (fun z17 x16 => [(0, Pt b_a0), (5, Pt b1), (6, .eq z17), (7, Pt b2), (8, Pt b3), (33, Rs tStep a1), (34, I (a1.length : Int)), (35, I y14.2.2.2)]) (fun z17 x16 => [.obj b_a0 98 (Qq a0 (.eq m_a0)), .obj b1 113 (.rep (.arr 4 (.int .i64)) [(0 : Int), (0 : Int), (0 : Int), (0 : Int)]), .sl z17 3 (.int .i64) x16.1, .obj b2 113 (.rep (.arr 4 (.int .i64)) x16.2.1), .obj b3 143 (.rep (.arr 3 (.int .i64)) x16.2.2)]) h (fun K h => ?_) (fun z17 x16 h => ?_))
    ·refine JC.block (sr ?_);obtain ⟨x18, ex18, h⟩ := b_bind h;refine jb (o_index (t := tStep) rfl U33 sz59 ex18) ?_;refine ja (o_load_at (t := tStep) rfl sz59 rfl) ?_;refine JO.s01 rfl rfl rfl (o_alloc rfl za59 al59) trivial fun b19 => ?_;refine JO.n11 rfl rfl (o_store rfl sz59 rfl rfl rfl) ⟨rfl, rfl, trivial⟩ ?_;refine nt (sr (fl fo59_1 ?_));refine lo sz3 ?_;obtain ⟨u20, eu20, h⟩ := b_bind h;refine jb (o_index_arr rfl U143 sz3 (chkP_some eu20).1 (chkP_some eu20).2) ?_;obtain ⟨x21, ex21, h⟩ := b_bind h;refine fr 5 ?_;refine ka (o_load_arr (t := (.int .i64)) (off := 0) (i := x18.2) (N := 3) rfl sz3 (fun _ => rfl) rfl rfl rfl rfl ex21) ?_;refine aq (nt ?_);refine JC.cutB (Z := Unit) (α := Int) (fun z23 x22 => [(0, Pt b_a0), (5, Pt b1), (6, .eq z15), (7, Pt b2), (8, Pt b3), (12, Pt b19), (13, I x22), (33, Rs tStep a1), (34, I (a1.length : Int)), (35, I y14.2.2.2)]) (fun z23 x22 => [.obj b_a0 98 (Qq a0 (.eq m_a0)), .obj b1 113 (.rep (.arr 4 (.int .i64)) [(0 : Int), (0 : Int), (0 : Int), (0 : Int)]), .sl z15 3 (.int .i64) y14.1, .obj b2 113 (.rep (.arr 4 (.int .i64)) y14.2.1), .obj b3 143 (.rep (.arr 3 (.int .i64)) y14.2.2.1), .obj b19 59 (.rep tStep x18)]) h (fun K h => ?_) (fun z23 x22 h => ?_)
     ·refine JC.seq (JC.drawN ?_);refine dm ?_;refine da (o_field_obj rfl fo59_0) ?_;refine ea 1 (o_load_obj rfl sz3 nfs rfl) ?_;refine da (o_nil_obj rfl) ?_;refine da (o_field_obj rfl fo98_2) ?_;obtain ⟨u24, eu24, h⟩ := b_bind h;refine db (o_index_arr rfl U95 sz94 (chkP_some eu24).1 (chkP_some eu24).2) ?_;obtain ⟨x25, ex25, h⟩ := b_bind h;refine ea 2 (o_load_arr (t := (.int .u8)) (off := 5) (i := x18.1) (N := 8) rfl sz94 (fun _ => rfl) rfl rfl rfl rfl ex25) ?_;obtain ⟨r26, er26, h⟩ := b_bind h;refine da (o_call [.tmp 49] rfl rfl en41 rfl (chg_set_list_ok k x25 r26 er26)) ?_;refine da (o_len rfl rfl U22) ?_;refine dm ?_;refine df mixed ?_;refine nt (JC.block (JC.loopB (Z := Unit) (α := Int × Int) (fun z28 y27 => [(0, Pt b_a0), (5, Pt b1), (6, .eq z15), (7, Pt b2), (8, Pt b3), (12, Pt b19), (13, I y27.1), (33, Rs tStep a1), (34, I (a1.length : Int)), (35, I y14.2.2.2), (50, Ri r26), (51, I (r26.length : Int)), (52, I y27.2)]) (fun z28 y27 => [.obj b_a0 98 (Qq a0 (.eq m_a0)), .obj b1 113 (.rep (.arr 4 (.int .i64)) [(0 : Int), (0 : Int), (0 : Int), (0 : Int)]), .sl z15 3 (.int .i64) y14.1, .obj b2 113 (.rep (.arr 4 (.int .i64)) y14.2.1), .obj b3 143 (.rep (.arr 3 (.int .i64)) y14.2.2.1), .obj b19 59 (.rep tStep x18)]) (chg_quick_begins_l3 k y14 r26) k () (x21, (0 : Int)) (fun _ => rfl) h (SE.fin [2, 3, 4, 5, 0, 1] ⟨rfl, rfl, rfl, rfl, rfl, rfl, rfl, rfl, rfl, rfl, rfl, rfl, rfl, trivial⟩ rfl) (fun n z28 y27 h => ?_)));unfold chg_quick_begins_l3 at h;refine sr (jb (o_lss rfl) ?_);refine nt (JC.seq (ci h (fun h => ?_) (fun h => ?_)))
      ·refine sk (JC.seq (JC.block (sr ?_)));obtain ⟨x29, ex29, h⟩ := b_bind h;refine jb (o_index (t := (.int .i64)) rfl U22 sz3 ex29) ?_;refine ja (o_load_at (t := (.int .i64)) rfl sz3 rfl) ?_;refine aq (nt (JC.region ?_));iterate 2 refine mq ?_
       obtain ⟨u30, eu30, h⟩ := b_bind h;refine jb (o_index_arr rfl U113 sz3 (chkP_some eu30).1 (chkP_some eu30).2) ?_;obtain ⟨x31, ex31, h⟩ := b_bind h;refine fr 3 ?_;refine ka (o_load_arr (t := (.int .i64)) (off := 0) (i := x29) (N := 4) rfl sz3 (fun _ => rfl) rfl rfl rfl rfl ex31) ?_;refine jb (o_max rfl rfl) ?_;refine aq (JO.nil (JN.blk_n (tn (JC.region ?_))));obtain ⟨x32, ex32, h⟩ := b_bind h;refine jb (o_add rfl ex32) ?_;refine mq (nl ?_);exact jz ((), (imax y27.1 x31, x32)) h [1, 2, 3, 0, 4, 5]
      ·refine xa ?_;exact jz ((), y27.1) h [0, 1, 2, 3, 4, 5]
     ·refine JC.seq (JC.drawN ?_);refine dm ?_;refine dm ?_;refine dm ?_;refine da (o_nil_obj rfl) ?_;refine da (o_field_obj rfl fo98_1) ?_;refine ea 0 (o_load_obj rfl sz93 nfs rfl) ?_;refine da (o_field_obj rfl fo59_0) ?_;refine ea 5 (o_load_obj rfl sz3 nfs rfl) ?_;obtain ⟨x33, ex33, h⟩ := b_bind h;refine db (o_index (t := (.tag 109 111)) rfl U93 sz108 ex33) ?_;refine da (o_load_at (t := (.tag 109 111)) rfl sz108 rfl) ?_;obtain ⟨r34, er34, h⟩ := b_bind h;refine eb 0 (o_call [.tmp 63, .tmp 71] rfl rfl en72 rfl (chg_quick_bars_ok k ((a0.1.1, a0.1.2.1, a0.1.2.2.1, a0.1.2.2.2), a0.2.1, a0.2.2) b_a0 m_a0 x33 r34 er34)) ?_;refine df mixed ?_;obtain ⟨x35, ex35, h⟩ := b_bind h;refine jb (o_add rfl ex35) ?_;refine aq (nt ?_);refine JC.drawW ?_;refine DW.t00 rfl rfl rfl (o_field_obj rfl fo59_0) ⟨rfl, trivial⟩ ?_;refine DW.t11 5 rfl rfl rfl rfl (o_load_obj rfl sz3 nfs rfl) ⟨rfl, trivial⟩ ?_;refine DW.t00 rfl rfl rfl (o_field_obj rfl fo59_1) ⟨rfl, trivial⟩ ?_;refine DW.t11 5 rfl rfl rfl rfl (o_load_obj rfl sz3 nfs rfl) ⟨rfl, trivial⟩ ?_;refine DW.t00 rfl rfl rfl (o_move rfl) ⟨rfl, trivial⟩ ?_;refine DW.t00 rfl rfl rfl (o_move rfl) ⟨rfl, trivial⟩ ?_;refine DW.t00 rfl rfl rfl (o_litB (t := (.int .i64)) [(.tmp 79, _)] [x22] rfl rfl sl22 (.cons rfl .int .nil) rfl rfl) ⟨rfl, trivial⟩ ?_;obtain ⟨u36, eu36, h⟩ := b_bind h;refine DW.tTurn 2 rfl (fun v => [.sl v 3 (.int .i64) (y14.1 ++ [x22])]) (fun _ => rfl) rfl rfl rfl (o_append rfl rfl sl22 (chkP_some eu36)) ⟨rfl, rfl, trivial⟩ ?_;refine DW.t00 rfl rfl rfl (o_move rfl) ⟨rfl, trivial⟩ ?_;refine DW.t00 rfl rfl rfl (o_move rfl) ⟨rfl, trivial⟩ ?_;refine DW.fin 10 [false, false, false, false, true, true, true, true, false, false] [6, 84] [5] [.obj b19 59 (.rep tStep x18)] rfl (by kernel_rfl) (by kernel_rfl) (by kernel_rfl) mixed (fun vs hv hB => ?_);obtain ⟨w0, vs1, rfl, hv1⟩ := len_cons hv;obtain ⟨w1, vs2, rfl, hv2⟩ := len_cons hv1;obtain ⟨w2, vs3, rfl, hv3⟩ := len_cons hv2;obtain ⟨w3, vs4, rfl, hv4⟩ := len_cons hv3;obtain ⟨w4, vs5, rfl, hv5⟩ := len_cons hv4;obtain ⟨w5, vs6, rfl, hv6⟩ := len_cons hv5;obtain ⟨w6, vs7, rfl, hv7⟩ := len_cons hv6;obtain ⟨v37, vs8, rfl, hv8⟩ := len_cons hv7;obtain ⟨w8, vs9, rfl, hv9⟩ := len_cons hv8;obtain ⟨w9, vs10, rfl, hv10⟩ := len_cons hv9;obtain rfl := len_nil hv10;refine ⟨[4, 0, 1, 2, 3, 5], [.obj b_a0 98 (Qq a0 (.eq m_a0)), .obj b1 113 (.rep (.arr 4 (.int .i64)) [(0 : Int), (0 : Int), (0 : Int), (0 : Int)]), .obj b2 113 (.rep (.arr 4 (.int .i64)) y14.2.1), .obj b3 143 (.rep (.arr 3 (.int .i64)) y14.2.2.1), .sl v37 3 (.int .i64) (y14.1 ++ [x22])], by kernel_rfl, by decide, ?_⟩;refine JT.y00 rfl rfl rfl rfl (o_assign rfl) ⟨rfl, trivial⟩ (by kernel_rfl) ?_;obtain ⟨u38, eu38, h⟩ := b_bind h;refine JT.y00 rfl rfl rfl rfl (o_index_arr rfl U113 sz3 (chkP_some eu38).1 (chkP_some eu38).2) ⟨rfl, rfl, trivial⟩ (by kernel_rfl) ?_;refine JT.front 2 rfl ?_;refine JT.n11 rfl rfl (o_store_arr (t := (.int .i64)) (off := 0) (i := x18.1) (N := 4) rfl sz3 .int rfl rfl rfl rfl (chkP_some eu38).1 (chkP_some eu38).2 rfl) ⟨rfl, rfl, trivial⟩ (by kernel_rfl) ?_;refine JT.all (by kernel_rfl) ?_;obtain ⟨u39, eu39, h⟩ := b_bind h;refine jb (o_index_arr rfl U143 sz3 (chkP_some eu39).1 (chkP_some eu39).2) ?_;refine fr 4 ?_;refine JO.n11 rfl rfl (o_store_arr (t := (.int .i64)) (off := 0) (i := x18.2) (N := 3) rfl sz3 .int rfl rfl rfl rfl (chkP_some eu39).1 (chkP_some eu39).2 rfl) ⟨rfl, rfl, trivial⟩ ?_;refine JO.nil (bn ?_);exact jz (v37, (y14.1 ++ [x22], List.set y14.2.1 (Int.toNat x18.1) x35, List.set y14.2.2.1 (Int.toNat x18.2) x35)) h [3, 4, 5, 2, 0]
    ·refine JC.region ?_;obtain ⟨x40, ex40, h⟩ := b_bind h;refine jb (o_add rfl ex40) ?_;refine mq (nl ?_);exact jz (z17, (x16.1, x16.2.1, x16.2.2, x40)) h [0, 1, 2, 3, 4]
   ·refine xa ?_;exact jz (z15, (y14.1, y14.2.1)) h [1, 2, 3, 0]
  ·refine JC.seq (JC.drawN ?_);refine dm ?_;refine ea 2 (o_load_obj rfl sz113 (nfn) rfl) ?_;refine da (o_assign rfl) ?_;refine df mixed ?_;refine JO.n11 rfl rfl (o_store rfl sz113 rfl rfl rfl) ⟨rfl, rfl, trivial⟩ ?_;refine nt (JC.ret (JN.front 1 rfl ?_));refine JN.se (SE.frz [4, 6, 87] ⟨rfl, rfl, rfl, trivial⟩) ?_;refine JN.se (SE.fin (Γ' := [(4, _), (5, _)]) [2, 0, 1] ⟨rfl, rfl, trivial⟩ rfl) ?_;cases h;exact JN.ret () [_, .rep (.arr 4 (.int .i64)) x12.2] 1 ⟨rfl, ⟨_, _, _, _, _, rfl, (.tail _ (.head _)), sz113, (nfn), rfl⟩, trivial⟩ rfl


def chg_keyOf_l1 (k : Nat) : Nat → ((List dStep) × Int) → Option (List dStep)
 | 0, _ => none
 | n + 1, y5 =>
  if y5.2 < (4 : Int) then ((chkP (0 ≤ y5.2 ∧ y5.2 < 4)).bind fun _ =>
  (ck (y5.2 + (1 : Int))).bind fun x8 =>
  chg_keyOf_l1 k n (List.set y5.1 (Int.toNat y5.2) ((-1 : Int), (-1 : Int)), x8)) else (some y5.1)
def chg_keyOf (k : Nat) (a0 : (List dStep)) : Option (List dStep) :=
 ((chg_keyOf_l1 k k ([((0 : Int), (0 : Int)), ((0 : Int), (0 : Int)), ((0 : Int), (0 : Int)), ((0 : Int), (0 : Int))], (0 : Int))) : Option ((List dStep))).bind fun x3 =>
 some (List.take 4 a0 ++ List.drop (List.length a0) x3)

theorem chg_keyOf_ok (k : Nat) (a0 : (List dStep)) (r : (List dStep)) (h : chg_keyOf k a0 = some r) :
 Ctr Try.prog 68 [Rs tStep a0] [] (fun _ : Unit => (resA [.rep (.arr 4 tStep) r], [])) := by
 unfold chg_keyOf at h
 replace h := b_top h
 refine Ctr.of 16 Try.func68 rfl Try.ntmps68 rfl fun S w0 => ?_
 refine sr ?_
 refine JO.s01 rfl rfl rfl (o_alloc rfl za138 al138) trivial fun b1 => ?_
 refine nt ?_
 refine sr ?_
 refine JO.s01 rfl rfl rfl (o_alloc rfl za138 al138) trivial fun b2 => ?_
 refine nt ?_
 refine JC.cutB (Z := Unit) (α := (List dStep)) (fun z4 x3 => [(0, Rs tStep a0), (2, Pt b1), (3, Pt b2)]) (fun z4 x3 => [.obj b1 138 (.rep (.arr 4 tStep) [((0 : Int), (0 : Int)), ((0 : Int), (0 : Int)), ((0 : Int), (0 : Int)), ((0 : Int), (0 : Int))]), .obj b2 138 (.rep (.arr 4 tStep) x3)]) h (fun K h => ?_) (fun z4 x3 h => ?_)
 ·
  refine sr (JO.mc rfl ?_);refine nt (JC.block (JC.loopB (Z := Unit) (α := (List dStep) × Int) (fun z6 y5 => [(0, Rs tStep a0), (2, Pt b1), (3, Pt b2), (5, I y5.2)]) (fun z6 y5 => [.obj b1 138 (.rep (.arr 4 tStep) [((0 : Int), (0 : Int)), ((0 : Int), (0 : Int)), ((0 : Int), (0 : Int)), ((0 : Int), (0 : Int))]), .obj b2 138 (.rep (.arr 4 tStep) y5.1)]) (chg_keyOf_l1 k) k () ([((0 : Int), (0 : Int)), ((0 : Int), (0 : Int)), ((0 : Int), (0 : Int)), ((0 : Int), (0 : Int))], (0 : Int)) (fun _ => rfl) h (SE.fin [1, 0] ⟨rfl, rfl, rfl, rfl, trivial⟩ rfl) (fun n z6 y5 h => ?_)));unfold chg_keyOf_l1 at h;refine sr (jb (o_lss rfl) ?_);refine nt (JC.seq (ci h (fun h => ?_) (fun h => ?_)))
  ·refine sk (JC.seq (JC.block (sr (mq ?_))));refine aq (nt (JC.region ?_));refine mq ?_;refine jb (o_buildT [(0, .const (.int .i64 (-1)), _), (1, .const (.int .i64 (-1)), _)] rfl pl59 za59 alb59 (stors ⟨rfl, rfl, trivial⟩) rfl) ?_;obtain ⟨u7, eu7, h⟩ := b_bind h;refine jb (o_index_arr rfl U138 sz59 (chkP_some eu7).1 (chkP_some eu7).2) ?_;refine fr 1 ?_;refine JO.n11 rfl rfl (o_store_arr (t := tStep) (off := 0) (i := y5.2) (N := 4) rfl sz59 (.agg (.pair .int .int)) trivial rfl rfl rfl (chkP_some eu7).1 (chkP_some eu7).2 rfl) ⟨rfl, rfl, trivial⟩ ?_;refine JO.nil (JN.blk_n (tn (JC.region ?_)));obtain ⟨x8, ex8, h⟩ := b_bind h;refine jb (o_add rfl ex8) ?_;refine mq (nl ?_);exact jz ((), (List.set y5.1 (Int.toNat y5.2) ((-1 : Int), (-1 : Int)), x8)) h [1, 0]
  ·refine xa ?_;exact jz ((), y5.1) h [0, 1]
 ·
  refine sr (ja (o_slice_arr rfl U138 sz59) ?_);refine mq ?_;refine fr 1 ?_;refine kb (o_copy_arr rfl rfl U33 sz59) ?_;refine nt (sr (lo sz138 ?_));refine fr 1 ?_;refine JO.n11 rfl rfl (o_store rfl sz138 rfl rfl rfl) ⟨rfl, rfl, trivial⟩ ?_;refine nt (JC.ret ?_);cases h;exact JN.ret () [.rep (.arr 4 tStep) (List.take 4 a0 ++ List.drop (List.length a0) x3)] 0 ⟨⟨_, _, _, _, _, rfl, (.head _), sz138, (nfn), rfl⟩, trivial⟩ rfl


def slc_Max_int_l1 (k : Nat) (a0 : (List Int)) : Nat → (Int × Int) → Option Int
 | 0, _ => none
 | n + 1, y4 =>
  if y4.2 < (a0.length : Int) then ((geti a0 y4.2).bind fun x6 =>
  (ck (y4.2 + (1 : Int))).bind fun x7 =>
  slc_Max_int_l1 k a0 n (imax y4.1 x6, x7)) else (some y4.1)
def slc_Max_int (k : Nat) (a0 : (List Int)) : Option Int :=
 if (a0.length : Int) < (1 : Int) then (none) else ((geti a0 (0 : Int)).bind fun x1 =>
 ((slc_Max_int_l1 k a0 k (x1, (1 : Int))) : Option (Int)).bind fun x2 =>
 some x2)

theorem slc_Max_int_ok (k : Nat) (a0 : (List Int)) (r : Int) (h : slc_Max_int k a0 = some r) :
 Ctr Try.prog 69 [Ri a0] [] (fun _ : Unit => (resA [I r], [])) := by
 unfold slc_Max_int at h
 replace h := b_top h
 refine Ctr.of 25 Try.func69 rfl Try.ntmps69 rfl fun S w0 => ?_
 refine sr ?_
 refine cq ?_
 refine nt ?_
 refine JC.seq ?_
 refine sr ?_
 refine mq ?_
 refine ol U22 ?_
 refine jb (o_lss rfl) ?_
 refine nt ?_
 refine ci h (fun h => ?_) (fun h => ?_)
 ·
  refine JC.region ?_;cases h
 ·
  refine sk (sr (mq ?_));obtain ⟨x1, ex1, h⟩ := b_bind h;refine jb (o_index (t := (.int .i64)) rfl U22 sz3 ex1) ?_;refine ja (o_load_at (t := (.int .i64)) rfl sz3 rfl) ?_;refine aq (nt ?_);refine JC.cutB (Z := Unit) (α := Int) (fun z3 x2 => [(3, I x2)]) (fun z3 x2 => []) h (fun K h => ?_) (fun z3 x2 h => ?_)
  ·refine sr (cq (nt (JC.block ?_)));refine JC.loopB (Z := Unit) (α := Int × Int) (fun z5 y4 => [(0, Ri a0), (3, I y4.1), (4, I y4.2)]) (fun z5 y4 => []) (slc_Max_int_l1 k a0) k () (x1, (1 : Int)) (fun _ => rfl) h (SE.fin [] ⟨rfl, rfl, rfl, trivial⟩ rfl) (fun n z5 y4 h => ?_);unfold slc_Max_int_l1 at h;refine JC.seq (sr ?_);iterate 2 refine mq ?_
   refine ol U22 ?_;refine jb (o_lss rfl) ?_;refine nt (ci h (fun h => ?_) (fun h => ?_))
   ·refine sk (JC.seq (JC.block (JC.region ?_)));iterate 3 refine mq ?_
    obtain ⟨x6, ex6, h⟩ := b_bind h;refine jb (o_index (t := (.int .i64)) rfl U22 sz3 ex6) ?_;refine ja (o_load_at (t := (.int .i64)) rfl sz3 rfl) ?_;refine jb (o_max rfl rfl) ?_;refine aq (JO.nil (JN.blk_n (tn (JC.region ?_))));refine mq ?_;obtain ⟨x7, ex7, h⟩ := b_bind h;refine jb (o_add rfl ex7) ?_;refine aq (nl ?_);exact jz ((), (imax y4.1 x6, x7)) h []
   ·refine xa ?_;exact jz ((), y4.1) h []
  ·refine sr (mq ?_);refine aq (nt (JC.ret ?_));cases h;exact ra


/-! The bars of a plan, known or not. -/
def lineV (l : List (Int × Int)) : Value := .agg (l.flatMap fun s => [Value.int .i64 s.1, Value.int .i64 s.2]).toArray

theorem lineV_nop (l : List (Int × Int)) : nop (lineV l) = true := by
 show ((l.flatMap fun s => [Value.int .i64 s.1, Value.int .i64 s.2]).toArray.toList.all one0) = true
 induction l with
 | nil => rfl
 | cons s l _ => simp [one0]
theorem lineV_inj : ∀ {l l' : List (Int × Int)}, lineV l = lineV l' → l = l' := by
 have key : ∀ {l l' : List (Int × Int)}, (l.flatMap fun s => [Value.int .i64 s.1, Value.int .i64 s.2]) = (l'.flatMap fun s => [Value.int .i64 s.1, Value.int .i64 s.2]) → l = l' := by
  intro l
  induction l with
  | nil => intro l' h; cases l' with
   | nil => rfl
   | cons s l' => simp at h
  | cons s l ih => intro l' h; cases l' with
   | nil => simp at h
   | cons s' l' =>
    obtain ⟨a, b⟩ := s;obtain ⟨a', b'⟩ := s';simp only [List.flatMap_cons, List.cons_append, List.nil_append, List.cons.injEq, Value.int.injEq, true_and] at h;rw [h.1, h.2.1, ih h.2.2]
 intro l l' h;simp only [lineV, Value.agg.injEq] at h;exact key (by simpa using congrArg Array.toList h)

theorem line_holds {S : FS} {w : World} {u : Value} {l : List dStep} (h : (A.rep (.arr 4 tStep) l).holds S w u) : u = lineV l := by
 obtain ⟨cs, ⟨_, h1⟩, h2⟩ := h
 have key : ∀ {l : List dStep} {cs : List Value}, rdAll (rd S w tStep) l cs → cs = l.flatMap fun s => [Value.int .i64 s.1, Value.int .i64 s.2] := by
  intro l
  induction l with
  | nil => intro cs h; exact h
  | cons s l ih =>
   rintro cs ⟨c1, c2, rfl, h1, h2⟩;have e1 : c1 = [Value.int .i64 s.1, Value.int .i64 s.2] := rd_enc tStep rfl h1;rw [e1, ih h2];rfl
 rw [h2, key h1];rfl

/-- The key of a plan. -/
def keyL (p : List dStep) : List dStep := p ++ List.replicate (4 - p.length) (-1, -1)

def lenGuard (a0 : (dChange × (List (Bool × Int)) × (List Int))) (p : List dStep) : Prop := p.length = a0.2.1.length ∧ p.length ≤ 4 ∧ ∀ s ∈ p, 0 ≤ s.1 ∧ s.1 < 8 ∧ 0 ≤ s.2 ∧ s.2 < 8
instance (a0 : (dChange × (List (Bool × Int)) × (List Int))) (p : List dStep) : Decidable (lenGuard a0 p) := by unfold lenGuard; infer_instance

theorem keyL_inj {a0 : (dChange × (List (Bool × Int)) × (List Int))} {p q : List dStep} (hp : lenGuard a0 p) (hq : lenGuard a0 q) (h : keyL p = keyL q) : p = q := by
 have hl : p.length = q.length := hp.1.trans hq.1.symm;unfold keyL at h;exact (List.append_inj h hl).1

theorem keyL_nil {a0 : (dChange × (List (Bool × Int)) × (List Int))} {p : List dStep} (hp : lenGuard a0 p) (h : keyL p = keyL []) : p = [] := by
 cases p with
 | nil => rfl
 | cons s p =>
  exfalso;have h0 := (hp.2.2 s (by simp)).1;have h1 : (keyL (s :: p))[0]? = (keyL [])[0]? := by rw [h]
  simp [keyL] at h1;rw [h1] at h0;omega

theorem keyL_len {p : List dStep} (h : p.length ≤ 4) : (keyL p).length = 4 := by simp [keyL]; omega

theorem typesN : Try.prog.types.size + 2 ≤ 10000 := Nat.le_of_ble_eq_true (by kernel_rfl)
theorem typesLine : 138 < Try.prog.types.size := Nat.lt_of_lt_of_le (Nat.lt_succ_self 138) (Nat.le_of_ble_eq_true (by kernel_rfl))
theorem klawLine : WideMaps.KeyLaw Try.prog 138 := deep_law_gate (by kernel_rfl) typesN (Nat.lt_of_lt_of_le (Nat.lt_succ_self 138) (Nat.le_of_ble_eq_true (by kernel_rfl))) (by kernel_rfl) (by kernel_rfl)

theorem key_line {l : List dStep} (h4 : l.length = 4) (hw : ∀ s ∈ l, (Lit.int .i64 s.1).wf = true ∧ (Lit.int .i64 s.2).wf = true) : ∃ lt, keyOf Try.prog 138 (lineV l) = some lt := by
 match l, h4, hw with
 | [(a0, a1), (b0, b1), (c0, c1), (d0, d1)], _, hw =>
  have h1 := hw (a0, a1) (by simp);have h2 := hw (b0, b1) (by simp);have h3 := hw (c0, c1) (by simp);have h4 := hw (d0, d1) (by simp)
  have hint : ∀ (d : Nat) (n : Int), (Lit.int .i64 n).wf = true → Try.prog.keyLits (d + 1) 3 [.int .i64 n] = some [.int .i64 n] := fun d n h => by
   simp only [Program.keyLits, U3, h, and_self, if_true]
  have hstep : ∀ (d : Nat) (n m : Int), (Lit.int .i64 n).wf = true → (Lit.int .i64 m).wf = true → Try.prog.keyLits (d + 2) 59 [.int .i64 n, .int .i64 m] = some [.int .i64 n, .int .i64 m] := fun d n m g1 g2 => by
   have hc : Try.prog.cellsOf 59 = 2 := by kernel_rfl
   have hc3 : Try.prog.cellsOf 3 = 1 := by kernel_rfl
   simp [Program.keyLits, U59, hc, hc3, g1, g2, U3]
  obtain ⟨d, hd⟩ : ∃ d, Try.prog.types.size + 1 = d + 3 := ⟨Try.prog.types.size - 2, by have := typesLine; omega⟩;have hc : Try.prog.cellsOf 138 = 8 := by kernel_rfl
  have hc2 : Try.prog.cellsOf 59 = 2 := by kernel_rfl
  have hk : Try.prog.keyType 138 = true := by kernel_rfl
  have hr : List.range 4 = [0, 1, 2, 3] := by decide
  have hL : Try.prog.keyLits (Try.prog.types.size + 1) 138 (lineV [(a0, a1), (b0, b1), (c0, c1), (d0, d1)]).cells.toList = some [.int .i64 a0, .int .i64 a1, .int .i64 b0, .int .i64 b1, .int .i64 c0, .int .i64 c1, .int .i64 d0, .int .i64 d1] := by
   rw [hd];unfold Program.keyLits;simp [lineV, Value.cells, U138, hc, hc2, hr, hstep, h1, h2, h3, h4]
  refine ⟨.string (keyBytes [.int .i64 a0, .int .i64 a1, .int .i64 b0, .int .i64 b1, .int .i64 c0, .int .i64 c1, .int .i64 d0, .int .i64 d1]), ?_⟩;unfold keyOf;rw [U138];have hf : (lineV [(a0, a1), (b0, b1), (c0, c1), (d0, d1)]).formed Try.prog 138 = true := by simp [lineV, Value.formed, U138, hc]
  simp only [hk, hf, Bool.and_self, if_true, hL, Option.map_some]

theorem wf_small {n : Int} (h1 : -1 ≤ n) (h2 : n < 8) : (Lit.int .i64 n).wf = true := by
 simp only [Lit.wf, Bool.and_eq_true, decide_eq_true_eq];exact ⟨Int.le_trans (by decide) h1, Int.le_trans (Int.le_of_lt h2) (by decide)⟩

theorem key_plan {a0 : (dChange × (List (Bool × Int)) × (List Int))} {p : List dStep} (h : lenGuard a0 p) : ∃ lt, keyOf Try.prog 138 (lineV (keyL p)) = some lt := by
 refine key_line (keyL_len h.2.1) fun s hs => ?_;simp only [keyL, List.mem_append, List.mem_replicate] at hs;rcases hs with hs | ⟨_, rfl⟩
 ·obtain ⟨h1, h2, h3, h4⟩ := h.2.2 s hs;exact ⟨wf_small (by omega) h2, wf_small (by omega) h4⟩
 ·exact ⟨wf_small (by decide) (by decide), wf_small (by decide) (by decide)⟩

def chg_quick_length (k : Nat) (a0 : (dChange × (List (Bool × Int)) × (List Int))) (a1 : List dStep) : Option Int :=
 (chkP (lenGuard a0 a1)).bind fun _ =>
 (chg_keyOf k a1).bind fun ky =>
 (chkP (ky = keyL a1)).bind fun _ =>
 (chg_keyOf k []).bind fun k0 =>
 (chkP (k0 = keyL [])).bind fun _ =>
 if a1 = [] then some 0 else (chg_quick_begins k a0 a1).bind fun r => (slc_Max_int k r.2).bind fun n => some n

/-- What the map of the bars holds. -/
def Known (k : Nat) (a0 : (dChange × (List (Bool × Int)) × (List Int))) : Obj → Prop := MapInv Try.prog 138 fun kv n => ∃ p, lenGuard a0 p ∧ kv = lineV (keyL p) ∧ chg_quick_length k a0 p = some n
theorem known_nil {k : Nat} {a0 : (dChange × (List (Bool × Int)) × (List Int))} : Known k a0 (.map #[] 0) := MapInv.nil
theorem known_fun {k : Nat} {a0 : (dChange × (List (Bool × Int)) × (List Int))} {kv : Value} : ∀ n n' : Int, (∃ p, lenGuard a0 p ∧ kv = lineV (keyL p) ∧ chg_quick_length k a0 p = some n) → (∃ p, lenGuard a0 p ∧ kv = lineV (keyL p) ∧ chg_quick_length k a0 p = some n') → n = n' := by
 rintro n n' ⟨p, h1, h2, h3⟩ ⟨q, h4, h5, h6⟩;obtain rfl := keyL_inj h1 h4 (lineV_inj (h2.symm.trans h5));exact Option.some.inj (h3.symm.trans h6)

theorem chg_quick_length_ok (k : Nat) (a0 : (dChange × (List (Bool × Int)) × (List Int))) (b_a0 z_a0 : Nat) (a1 : (List dStep)) (r : Int) (h : chg_quick_length k a0 a1 = some r) :
 Ctr Try.prog 37 [Pt b_a0, Rs tStep a1] [.obj b_a0 98 (Qq a0 (.eq (.map (some z_a0)))), .inv z_a0 (Known k a0)] (fun _ : Unit => (resA [I r], [.obj b_a0 98 (Qq a0 (.eq (.map (some z_a0)))), .inv z_a0 (Known k a0)])) := by
 have h0 := h
 unfold chg_quick_length at h
 replace h := b_top h
 obtain ⟨u1, eg, h⟩ := b_bind h
 have hg := chkP_some eg
 obtain ⟨ky, eky, h⟩ := b_bind h
 obtain ⟨u2, e2, h⟩ := b_bind h
 have hky := chkP_some e2
 obtain ⟨k0, ek0, h⟩ := b_bind h
 obtain ⟨u3, e3, h⟩ := b_bind h
 have hk0 := chkP_some e3
 have gk := key_plan hg
 have g0 : ∃ lt, keyOf Try.prog 138 (lineV (keyL [])) = some lt := key_line (keyL_len (by simp)) (fun s hs => by simp [keyL] at hs; subst hs; exact ⟨by decide, by decide⟩)
 rw [← hky] at gk
 rw [← hk0] at g0
 refine Ctr.of 42 Try.func37 rfl Try.ntmps37 rfl fun S w0 => ?_
 refine sr ?_
 refine cq ?_
 refine nt ?_
 refine sr ?_
 refine mq ?_
 refine ja (o_call [.tmp 11] rfl rfl en68 rfl (chg_keyOf_ok k a1 ky eky)) ?_
 refine JO.s01 rfl rfl rfl (o_alloc rfl za138 al138) trivial fun b1 => ?_
 refine JO.n11 rfl rfl (o_store rfl sz138 rfl rfl rfl) ⟨rfl, rfl, trivial⟩ ?_
 refine nt ?_
 refine JC.seq ?_
 refine JC.seq ?_
 refine JC.drawN ?_
 refine ea 0 (o_load_obj rfl sz138 (nfn) rfl) ?_
 refine da (OpT.need (N := [(.const (.slice none 0 0), .eq (.slice none 0 0))]) (o_call [.const (.slice none 0 0)] rfl rfl en68 rfl (chg_keyOf_ok k [] k0 ek0)) fun _ _ _ hn => ⟨(ent_holds (t := (.slice tStep)) (x := ([] : (List dStep))) .nil rfl rfl hn.1), trivial⟩) ?_
 refine df mixed ?_
 refine JO.stepG (Δ := []) (F := _) (fun _ _ _ => wanted_none rfl _) rfl rfl (o_eqkey (kv := lineV ky) (kw := lineV k0) (lineV_nop _) (lineV_nop _) rfl (by kernel_rfl) (by kernel_rfl) klawLine (by kernel_rfl) (fun _ _ _ hh => line_holds hh) (fun _ _ _ hh => line_holds hh) gk g0) ⟨rfl, rfl, trivial⟩ fun q5 => ?_
 refine nt ?_
 refine JC.cond rfl (fun hb => ?_) (fun hb => ?_)
 ·
  have hn : a1 = [] := keyL_nil hg (by rw [← hky, ← hk0]; exact lineV_inj (q5.2.1 hb));replace h := b_if hn h;refine sr (cq (nt (rx ?_)));refine JN.se (SE.fin (Γ' := [(4, _)]) [1, 2, 0] ⟨rfl, trivial⟩ rfl) ?_;cases h;exact JN.ret () [_] 2 ⟨rfl, trivial⟩ rfl
 ·
  have hn : ¬ a1 = [] := fun e => by rw [q5.2.2 (by rw [hky, hk0, e])] at hb; cases hb
  replace h := b_ifn hn h;refine sk (JC.seq (JC.seq (JC.front 2 rfl ?_)));refine JC.openInv fun ob hob => ?_;obtain ⟨lnn, lbb, hlR, hlk⟩ := lookup_cases (z := z_a0) U96 zvLine klawLine gk known_fun hob;refine JC.drawN ?_;refine dm ?_;refine da (o_nil_obj rfl) ?_;refine da (o_field_obj rfl fo98_3) ?_;refine ea 2 (o_load_obj rfl sz96 nfs rfl) ?_;refine ea 1 (o_load_obj rfl sz138 (nfn) rfl) ?_;refine eb 0 (o_lookupD (kv := lineV ky) (lineV_nop _) (MapInv.calm hob) rfl (fun _ _ _ hh => line_holds hh) hlk) ?_;refine dm ?_;refine da (o_extract rfl rfl) ?_;refine da (o_extract rfl rfl) ?_;refine da (o_assign rfl) ?_;refine df mixed ?_;refine aq (nt (sr ?_));refine mq (nt ?_);refine JC.se (SE.rawInv (Known k a0) hob) ?_;refine JC.cond rfl (fun hb => ?_) (fun hb => ?_)
  ·obtain ⟨p, hp, he, hl⟩ := hlR hb;have hpa : p = a1 := keyL_inj hp hg (by rw [← hky]; exact (lineV_inj he).symm);rw [hpa] at hl;replace h : (some lnn : Option Int).bind some = some r := hl.symm.trans h0;refine sr (mq ?_);refine aq (nt (rx ?_));refine JN.se (SE.fin (Γ' := [(4, _)]) [2, 0, 1] ⟨rfl, trivial⟩ rfl) ?_;cases h;exact JN.ret () [_] 2 ⟨rfl, trivial⟩ rfl
  ·refine sk (sr ?_);iterate 2 refine mq ?_
   obtain ⟨r2, er2, h⟩ := b_bind h;refine fr 2 ?_;refine kb (o_call [.tmp 28, .tmp 29] rfl rfl en51 rfl (chg_quick_begins_ok k ((a0.1.1, a0.1.2.1, a0.1.2.2.1, a0.1.2.2.2), a0.2.1, a0.2.2) b_a0 (.map (some z_a0)) a1 r2 er2)) ?_;refine mq ?_;refine xr ?_;refine xr ?_;refine JO.s01 rfl rfl rfl (o_alloc rfl za113 al113) trivial fun b3 => ?_;refine aq ?_;refine JO.n11 rfl rfl (o_store rfl sz113 rfl rfl rfl) ⟨rfl, rfl, trivial⟩ ?_;refine nt (sr (ja (o_slice_arr rfl U113 sz3) ?_));refine JO.se (SE.arrSl' (by decide)) ?_;obtain ⟨r4, er4, h⟩ := b_bind h;refine ka (OpT.borrow (N := [(.tmp 33, .eq (.slice (some ⟨b3, 0, none⟩) 4 4))]) (o_call [.tmp 33] rfl rfl en69 rfl (slc_Max_int_ok k r2.2 r4 er4)) (fun _ _ _ hv hn => ⟨(lend hn.1 hv), trivial⟩) (fun _ => ⟨rfl, flat_nil⟩)) ?_;refine JO.se SE.slArr' ?_;refine aq (nt (JC.seq ?_));refine JC.drawN ?_;refine dm ?_;refine da (o_nil_obj rfl) ?_;refine da (o_field_obj rfl fo98_3) ?_;refine ea 1 (o_load_obj rfl sz96 nfs rfl) ?_;refine ea 3 (o_load_obj rfl sz138 (nfn) rfl) ?_;refine dm ?_;refine df mixed ?_;refine fr 2 ?_;have hl : chg_quick_length k a0 a1 = some r4 := h0.trans (show some r = some r4 from h.symm);refine JO.n11 rfl rfl (o_mapUpdate (kv := lineV ky) (lineV_nop _) rfl U96 klawLine (fun _ _ _ hh => line_holds hh) gk ⟨a1, hg, by rw [hky], hl⟩) ⟨rfl, rfl, rfl, trivial⟩ ?_;refine nt (sr (mq ?_));refine aq (nt (JC.ret ?_));refine JN.se (SE.fin (Γ' := [(4, _)]) [2, 0, 1, 3] ⟨rfl, trivial⟩ rfl) ?_;cases h;exact JN.ret () [_] 2 ⟨rfl, trivial⟩ rfl


def chg_least (k : Nat) (a0 : (dChange × (List (Bool × Int)) × (List Int))) : Option ((List dStep) × Int × Bool) :=
 (chg_quick_plans_1 k (stopY (fun (y5 : Bool × Int × (List dStep)) (p7 : (List dStep)) =>
  (chg_quick_length k ((a0.1.1, a0.1.2.1, a0.1.2.2.1, a0.1.2.2.2), a0.2.1, a0.2.2) p7).bind fun r9 =>
  ((if ¬ (y5.1 = true) then (some true) else (some (decide (r9 < y5.2.1)))) : Option (Bool)).bind fun x10 =>
  if x10 = true then (some ((true, r9, p7), true)) else (some ((y5.1, y5.2.1, y5.2.2), true)))) ((a0.1.1, a0.1.2.1, a0.1.2.2.1, a0.1.2.2.2), a0.2.1, a0.2.2) ((false, (0 : Int), []), false)).bind fun r8 =>
 if r8.2 = true then (none) else (some (r8.1.2.2, r8.1.2.1, r8.1.1))

theorem chg_least_ok (k : Nat) (a0 : (dChange × (List (Bool × Int)) × (List Int))) (b_a0 z_a0 : Nat) (c_a0 : Nat) (r : (List dStep) × Int × Bool) (h : chg_least k a0 = some r) :
 Ctr Try.prog 35 [.eq (.func (.func 64) #[] #[(Pv c_a0)]), .eq (.func (.func 37) #[(Pv b_a0)] #[])] [.obj b_a0 98 (Qq a0 (.eq (.map (some z_a0)))), .inv z_a0 (Known k a0), .obj c_a0 83 (Pt b_a0)] (fun _ : Unit => (resA [Rs tStep r.1, I r.2.1, .eq (.bool r.2.2)], [.obj b_a0 98 (Qq a0 (.eq (.map (some z_a0)))), .inv z_a0 (Known k a0), .obj c_a0 83 (Pt b_a0)])) := by
 unfold chg_least at h
 replace h := b_top h
 refine Ctr.ofM 29 Try.func35 rfl Try.ntmps35 rfl fun {M} S w0 => ?_
 refine sr ?_
 refine bx fun b1 => ?_
 refine cq ?_
 refine cq ?_
 refine cq ?_
 refine nt ?_
 refine sr ?_
 refine JO.s01 rfl rfl rfl (o_alloc rfl za33 al33) trivial fun b2 => ?_
 refine nt ?_
 refine sr ?_
 refine JO.s01 rfl rfl rfl (o_alloc rfl za3 al3) trivial fun b3 => ?_
 refine JO.s01 rfl rfl rfl (o_alloc rfl za4 al4) trivial fun b4 => ?_
 refine fr 1 ?_
 refine JO.n11 rfl rfl (o_store rfl sz3 rfl rfl rfl) ⟨rfl, rfl, trivial⟩ ?_
 refine fr 1 ?_
 refine JO.n11 rfl rfl (o_store rfl sz4 rfl rfl rfl) ⟨rfl, rfl, trivial⟩ ?_
 refine nt ?_
 refine JC.seq ?_
 refine sr ?_
 refine mq ?_
 refine nt ?_
 refine JC.block ?_
 refine JC.front 2 rfl ?_
 refine JC.se (SE.objE (a := .eq (.slice none 0 0)) (a' := Rs tStep []) (AE.ent .nil)) ?_
 refine JC.front 5 rfl ?_
 refine JC.front 4 rfl ?_
 refine JC.front 2 rfl ?_
 refine JC.front 4 rfl ?_
 refine JC.front 4 rfl ?_
 refine JC.front 5 rfl ?_
 refine JC.front 6 rfl ?_
 obtain ⟨r8, er8, h⟩ := b_bind h
 refine JC.rangeFunc (Δ := [.obj c_a0 83 (Pt b_a0), .obj b_a0 98 (Qq a0 (.eq (.map (some z_a0)))), .obj b4 4 (.eq (.bool false)), .obj b3 3 (I (0 : Int)), .obj b2 33 (Rs tStep []), .obj b1 91 (.eq (.func (.func 37) #[(Pv b_a0)] #[])), .inv z_a0 (Known k a0)]) (F := []) (X := Unit) (J := fun _ => jOf r8.2) (E := fun _ => [.obj c_a0 83 (Pt b_a0), .obj b_a0 98 (Qq a0 (.eq (.map (some z_a0)))), .obj b4 4 (.eq (.bool r8.1.1)), .obj b3 3 (I r8.1.2.1), .obj b2 33 (Rs tStep r8.1.2.2), .obj b1 91 (.eq (.func (.func 37) #[(Pv b_a0)] #[])), .inv z_a0 (Known k a0)]) (r0 := fun _ => .tup .any) rfl rfl en64 (fun rec hp ha hb hs hpe hN hv l => ?_) (fun dl _ => stop_cases (fun hj => ?_) (fun hj => ?_))
 ·
  rcases rec with ⟨st0, pe0, fn0, tm0, ps0, as0, bd0, df0⟩;dsimp only at hp ha hb hs hpe hN hv;subst hp hs hpe;have vN : Vals tm0 [(3, Pt b1), (7, Pt b2), (8, Pt b3), (9, Pt b4)] := ⟨congrArg A.eq (hv 3 _ rfl).symm, congrArg A.eq (hv 7 _ rfl).symm, congrArg A.eq (hv 8 _ rfl).symm, congrArg A.eq (hv 9 _ rfl).symm, trivial⟩;refine CtrM.pick (M := M) [1, 2, 0, 3, 4, 5, 6, 7] [2, 0, 1, 3, 4, 5, 6, 7] (chg_quick_plans_1_ok (fun (_ : Unit) (q : (Bool × Int × (List dStep)) × Bool) => [.raw l (.loop (recEnd ⟨.ready, none, fn0, tm0, #[13], as0, bd0, df0⟩ (jOf q.2))), .obj b4 4 (.eq (.bool q.1.1)), .obj b3 3 (I q.1.2.1), .obj b2 33 (Rs tStep q.1.2.2), .obj b1 91 (.eq (.func (.func 37) #[(Pv b_a0)] #[])), .inv z_a0 (Known k a0)]) l (stopY (fun (y5 : Bool × Int × (List dStep)) (p7 : (List dStep)) =>
  (chg_quick_length k ((a0.1.1, a0.1.2.1, a0.1.2.2.1, a0.1.2.2.2), a0.2.1, a0.2.2) p7).bind fun r9 =>
  ((if ¬ (y5.1 = true) then (some true) else (some (decide (r9 < y5.2.1)))) : Option (Bool)).bind fun x10 =>
  if x10 = true then (some ((true, r9, p7), true)) else (some ((y5.1, y5.2.1, y5.2.2), true)))) k ((a0.1.1, a0.1.2.1, a0.1.2.2.1, a0.1.2.2.2), a0.2.1, a0.2.2) b_a0 (.map (some z_a0)) c_a0 (fun z q p r' h => ?_) () ((false, (0 : Int), []), false) r8 er8) rfl (fun _ => rfl) (fun _ => rfl)
  obtain ⟨r2, hq, h2, rfl⟩ := stopY_some h;obtain ⟨y5, b5⟩ := q;obtain rfl : b5 = false := hq;replace h := b_top h2;obtain ⟨p7, hpv⟩ : ∃ x, x = p := ⟨_, rfl⟩;subst hpv;refine YT.pick (R' := (fun _ : Unit => (.eq (.bool r2.2), [.raw l (.loop (recEnd ⟨.ready, none, fn0, tm0, #[13], as0, bd0, df0⟩ (jOf (!r2.2)))), .obj b_a0 98 (Qq a0 (.eq (.map (some z_a0)))), .obj b4 4 (.eq (.bool r2.1.1)), .obj b3 3 (I r2.1.2.1), .obj b2 33 (Rs tStep r2.1.2.2), .obj b1 91 (.eq (.func (.func 37) #[(Pv b_a0)] #[])), .inv z_a0 (Known k a0)]))) [1, 0, 2, 3, 4, 5, 6] [1, 0, 2, 3, 4, 5, 6] (YT.of' ha hb (N := 29) (Γ := [(3, Pt b1), (7, Pt b2), (8, Pt b3), (9, Pt b4)]) rfl hN (by decide) vN (fun S w => ?_)) rfl (fun _ => rfl) (fun _ => rfl);refine JC.region (aq (nl ?_));refine JN.begin rfl rfl ?_;refine JC.block (sr (fr 5 ?_));refine lo sz91 ?_;refine mq ?_;obtain ⟨r9, er9, h⟩ := b_bind h;refine fr 6 ?_;refine fr 3 ?_;refine JO.stepG (Δ := [_, _]) (F := _) (fun _ _ _ => wanted_none rfl _) rfl rfl (o_callv (fs := [(Pv b_a0)]) (cs := []) (ags := [Rs tStep p7]) [.tmp 15] rfl rfl en37 rfl (chg_quick_length_ok k ((a0.1.1, a0.1.2.1, a0.1.2.2.1, a0.1.2.2.2), a0.2.1, a0.2.2) b_a0 z_a0 p7 r9 er9)) ⟨rfl, rfl, trivial⟩ fun _ => ?_;refine aq (nt ?_);refine JC.cutB (Z := Unit) (α := Bool) (fun z11 x10 => [(7, Pt b2), (8, Pt b3), (9, Pt b4), (10, Rs tStep p7), (11, I r9), (23, .eq (.bool x10))]) (fun z11 x10 => [.obj b2 33 (Rs tStep y5.2.2), .obj b3 3 (I y5.2.1), .obj b4 4 (.eq (.bool y5.1)), .obj b_a0 98 (Qq a0 (.eq (.map (some z_a0)))), .inv z_a0 (Known k a0), .obj b1 91 (.eq (.func (.func 37) #[(Pv b_a0)] #[])), .raw l (.loop (⟨.busy, none, fn0, tm0, #[13], as0, bd0, df0⟩ : Loop))]) h (fun K h => ?_) (fun z11 x10 h => ?_)
  ·refine JC.region (fr 4 ?_);refine lo sz4 ?_;refine ja (o_not rfl) ?_;refine mq ?_;refine JO.bool (s := 19) rfl (fun hb => ?_) (fun hb => ?_)
   ·replace h := b_if (nv_t hb) h;iterate 3 refine gn ?_
    refine pt (nl ?_);exact jz ((), true) h [6, 5, 0, 1, 2, 3, 4]
   ·replace h := b_ifn (nv_fn hb) h;refine gm ?_;refine fr 5 ?_;refine JO.g11 rfl rfl rfl rfl rfl rfl (o_load_obj rfl sz3 nfs rfl) ⟨rfl, trivial⟩ ?_;refine gb (o_lss rfl) ?_;refine pf (nl ?_);exact jz ((), decide (r9 < y5.2.1)) h [6, 0, 1, 2, 3, 4, 5]
  ·refine cv h (fun h => ?_) (fun h => ?_)
   ·refine JC.region ?_;iterate 2 refine mq ?_
    refine JO.n11 rfl rfl (o_store rfl sz33 rfl rfl rfl) ⟨rfl, rfl, trivial⟩ ?_;refine fr 1 ?_;refine JO.n11 rfl rfl (o_store rfl sz3 rfl rfl rfl) ⟨rfl, rfl, trivial⟩ ?_;refine fr 2 ?_;refine JO.n11 rfl rfl (o_store rfl sz4 rfl rfl rfl) ⟨rfl, rfl, trivial⟩ ?_;refine JO.nil (JN.blk_n (JN.front 4 rfl ?_));refine JN.front 5 rfl ?_;refine JN.front 4 rfl ?_;refine JN.front 4 rfl ?_;refine JN.front 4 rfl ?_;refine JN.front 5 rfl ?_;refine JN.front 6 rfl ?_;cases h;exact JN.roundN () 6 rfl
   ·refine JC.skip (JN.blk_n (JN.front 4 rfl ?_));refine JN.front 5 rfl ?_;refine JN.front 2 rfl ?_;refine JN.front 3 rfl ?_;refine JN.front 4 rfl ?_;refine JN.front 5 rfl ?_;refine JN.front 6 rfl ?_;cases h;exact JN.roundN () 6 rfl
 ·
  replace h := b_ifn (v_f hj) h;refine JN.blk_n (tn (JC.seq (JC.drawN ?_)));refine ea 5 (o_load_obj rfl sz33 nfs rfl) ?_;refine ea 4 (o_load_obj rfl sz3 nfs rfl) ?_;refine ea 3 (o_load_obj rfl sz4 nfs rfl) ?_;refine da (o_assign rfl) ?_;refine da (o_assign rfl) ?_;refine df mixed ?_;refine aq (nt (JC.ret ?_));refine JN.retM ?_;refine JN.se (SE.fin (Γ' := [(4, _), (5, _), (6, _)]) [1, 6, 0, 2, 3, 4, 5] ⟨rfl, rfl, rfl, trivial⟩ rfl) ?_;cases h;exact JN.ret () [_, _, _] 3 ⟨rfl, rfl, rfl, trivial⟩ rfl
 ·
  replace h := b_if (v_t hj) h;cases h


def slc_Clone_Dresser (k : Nat) (a0 : List dDresser) : Option (List dDresser) :=
 (chkP (okLen (List.length a0))).bind fun _ => some a0

theorem slc_Clone_Dresser_ok (k : Nat) (a0 : List dDresser) (r : List dDresser) (h : slc_Clone_Dresser k a0 = some r) :
 Ctr Try.prog 55 [Rs tDresser a0] [] (fun z : Value => (resA [.eq z], [.sl z 38 tDresser r])) := by
 unfold slc_Clone_Dresser at h
 replace h := b_top h
 refine Ctr.of 8 Try.func55 rfl Try.ntmps55 rfl fun S w0 => ?_
 obtain ⟨u1, eu1, h⟩ := b_bind h
 cases h
 refine sr ?_
 refine cq ?_
 refine nt ?_
 refine JC.seq ?_
 refine sr ?_
 refine mq ?_
 refine JO.stepG (Δ := []) (F := _) (fun _ _ _ => wanted_none rfl _) rfl rfl (o_eqnil rfl U24) ⟨rfl, rfl, trivial⟩ fun b => ?_
 refine nt ?_
 refine JC.cond rfl (fun hb => ?_) (fun hb => ?_)
 ·
  refine sr (cq (nt (rx ?_)));obtain rfl := b.2 hb;refine JN.se (SE.nil 38 tDresser) ?_;exact JN.ret (.slice none 0 0) [.eq (.slice none 0 0)] 1 ⟨rfl, trivial⟩ rfl
 ·
  refine sk (sr (JO.s01 rfl rfl rfl (o_litB_own (t := tDresser) [] [] rfl rfl sl24 .nil rfl rfl) trivial fun v1 => ?_));refine mq ?_;refine JO.s1x rfl rfl rfl (o_append rfl rfl sl24 (by simpa using chkP_some eu1)) ⟨rfl, rfl, trivial⟩ fun v2 => ?_;refine aq (nt (JC.ret ?_));exact JN.ret v2 [.eq v2] 1 ⟨rfl, trivial⟩ rfl


def chg_quick_without (k : Nat) (a0 : dquick) (a1 : Int) : Option (Int × Bool) :=
 (slc_Clone_Dresser k a0.1.2.1).bind fun r3 =>
 (geti r3 a1).bind fun x6 =>
 (chg_least k ((a0.1.1, List.set r3 (Int.toNat a1) ([], x6.2.1, x6.2.2), a0.1.2.2), a0.2.1, a0.2.2.1)).bind fun r8 =>
 some (r8.2.1, r8.2.2)

theorem chg_quick_without_ok (k : Nat) (a0 : dquick) (a1 : Int) (r : Int × Bool) (h : chg_quick_without k a0 a1 = some r) :
 Ctr Try.prog 39 [.at tquick a0, I a1] [] (fun _ : Unit => (resA [I r.1, .eq (.bool r.2)], [])) := by
 unfold chg_quick_without at h
 replace h := b_top h
 refine Ctr.of 54 Try.func39 rfl Try.ntmps39 rfl fun S w0 => ?_
 refine sr ?_
 refine cq ?_
 refine cq ?_
 refine nt ?_
 refine JC.seq ?_
 refine JC.drawW ?_
 refine DW.t00 rfl rfl rfl (o_move rfl) ⟨rfl, trivial⟩ ?_
 refine DW.t00 rfl rfl rfl (o_nil_at rfl) ⟨rfl, trivial⟩ ?_
 refine DW.t00 rfl rfl rfl (o_field_at 4 true rfl fo98_0 rfl) ⟨rfl, trivial⟩ ?_
 refine DW.t00 rfl rfl rfl (o_load_at (t := tChange) rfl sz26 rfl) ⟨rfl, trivial⟩ ?_
 refine DW.t00 rfl rfl rfl (o_move rfl) ⟨rfl, trivial⟩ ?_
 refine DW.t00 rfl rfl rfl (o_nil_at rfl) ⟨rfl, trivial⟩ ?_
 refine DW.t00 rfl rfl rfl (o_field_at 1 false rfl fo98_1 rfl) ⟨rfl, trivial⟩ ?_
 refine DW.t00 rfl rfl rfl (o_load_at (t := (.slice (.tag 109 111))) rfl sz93 rfl) ⟨rfl, trivial⟩ ?_
 refine DW.t00 rfl rfl rfl (o_move rfl) ⟨rfl, trivial⟩ ?_
 refine DW.t00 rfl rfl rfl (o_nil_at rfl) ⟨rfl, trivial⟩ ?_
 refine DW.t00 rfl rfl rfl (o_field_at 8 true rfl fo98_2 rfl) ⟨rfl, trivial⟩ ?_
 refine DW.t00 rfl rfl rfl (o_load_at (t := (.arr 8 (.int .u8))) rfl sz95 rfl) ⟨rfl, trivial⟩ ?_
 refine DW.tNew mapD (fun _ => rfl) rfl rfl rfl (o_makeMap rfl) trivial ?_
 refine DW.fin 13 [true, true, true, true, true, true, true, true, true, true, true, true, true] [6, 23, 24] [] [] rfl (by kernel_rfl) (by kernel_rfl) (by kernel_rfl) mixed (fun vs hv hB => ?_)
 obtain ⟨w0, vs1, rfl, hv1⟩ := len_cons hv
 obtain ⟨w1, vs2, rfl, hv2⟩ := len_cons hv1
 obtain ⟨w2, vs3, rfl, hv3⟩ := len_cons hv2
 obtain ⟨w3, vs4, rfl, hv4⟩ := len_cons hv3
 obtain ⟨w4, vs5, rfl, hv5⟩ := len_cons hv4
 obtain ⟨w5, vs6, rfl, hv6⟩ := len_cons hv5
 obtain ⟨w6, vs7, rfl, hv7⟩ := len_cons hv6
 obtain ⟨w7, vs8, rfl, hv8⟩ := len_cons hv7
 obtain ⟨w8, vs9, rfl, hv9⟩ := len_cons hv8
 obtain ⟨w9, vs10, rfl, hv10⟩ := len_cons hv9
 obtain ⟨w10, vs11, rfl, hv11⟩ := len_cons hv10
 obtain ⟨w11, vs12, rfl, hv12⟩ := len_cons hv11
 obtain ⟨w12, vs13, rfl, hv13⟩ := len_cons hv12
 obtain rfl := len_nil hv13
 obtain ⟨z1, rfl⟩ := map_of hB.2.2.2.2.2.2.2.2.2.2.2.2.1
 refine ⟨[0], [.raw z1 (.map #[] 0)], by kernel_rfl, by decide, ?_⟩
 refine JT.y00 rfl rfl rfl rfl (o_buildT [(0, .tmp 13, _), (1, .tmp 17, _), (2, .tmp 21, _), (3, .tmp 22, _)] rfl pl98 za98 alb98 (stors ⟨rfl, rfl, rfl, rfl, trivial⟩) rfl) ⟨rfl, rfl, rfl, rfl, trivial⟩ (by kernel_rfl) ?_
 refine JT.y01 rfl rfl rfl rfl (o_box rfl trivial) ⟨rfl, trivial⟩ (by kernel_rfl) fun b2 => ?_
 refine JT.y00 rfl rfl rfl rfl (o_assign rfl) ⟨rfl, trivial⟩ (by kernel_rfl) ?_
 refine JT.nil ?_
 refine JN.se (SE.fin (Γ' := [(0, .at tquick a0), (1, I a1), (6, Pt b2)]) (Δ' := [.obj b2 98 (.agg (.pair (.rep tChange a0.1) (.pair (.rep (.slice (.tag 109 111)) a0.2.1) (.pair (.rep (.arr 8 (.int .u8)) a0.2.2.1) (.eq (.map (some z1))))))), .raw z1 (.map #[] 0)]) [0, 1] ⟨rfl, rfl, rfl, trivial⟩ rfl) ?_
 refine tn ?_
 refine sr ?_
 iterate 2 refine mq ?_
 refine ja (o_nil_at rfl) ?_
 refine ja (o_field_at 4 true rfl fo98_0 rfl) ?_
 refine ja (o_field_at 1 false rfl fo26_1 rfl) ?_
 refine ja (o_load_at (t := (.slice tDresser)) rfl sz24 rfl) ?_
 obtain ⟨r3, er3, h⟩ := b_bind h
 have cr3 := slc_Clone_Dresser_ok k a0.1.2.1 r3 er3
 refine JO.s01 rfl rfl rfl (o_call [.tmp 30] rfl rfl en55 rfl cr3) ⟨rfl, trivial⟩ fun v4 => ?_
 refine ja (o_nil_obj rfl) ?_
 refine fl fo98_0 ?_
 refine fl fo26_1 ?_
 refine JO.one fun o5 => ?_
 refine fr 1 ?_
 refine JO.n11 rfl rfl (o_store rfl sz24 o5 rfl rfl) ⟨rfl, rfl, trivial⟩ ?_
 refine nt ?_
 refine sr ?_
 refine mq ?_
 refine ja (o_nil_obj rfl) ?_
 refine fl fo98_0 ?_
 refine fl fo26_1 ?_
 refine lo sz24 ?_
 refine mq ?_
 obtain ⟨x6, ex6, h⟩ := b_bind h
 refine fr 1 ?_
 refine kb (o_index_own (t := tDresser) rfl U24 sz38 ex6) ?_
 refine ka (o_field_el rfl fo38_0 (geti_ne ex6)) ?_
 refine JO.n11 rfl rfl (o_store_el (i := Int.toNat a1) (off := 0) rfl sz22 rfl (geti_some ex6).2.2 .nil rfl (.agg (.left .whole))) ⟨rfl, rfl, trivial⟩ ?_
 refine nt ?_
 refine sr ?_
 refine mq ?_
 refine JO.s01 rfl rfl rfl (o_call [.tmp 44] rfl rfl en36 rfl (chg_quick_plans_ok b2)) ⟨rfl, trivial⟩ fun b7 => ?_
 refine mq ?_
 refine ja (o_mkfn [.tmp 46] [] [(Pv b2)] [] rfl rfl rfl) ?_
 refine fr 2 ?_
 refine fr 2 ?_
 refine JO.se (SE.frzBoth (off := 1) [31, 39] ⟨rfl, rfl, trivial⟩ rfl rfl) ?_
 refine JO.se (SE.objE (a := .agg (.pair (.agg (.pair (Rs tThing a0.1.1) (.pair (Rs tDresser (List.set r3 (Int.toNat a1) ([], x6.2.1, x6.2.2))) (.rep (.pair (.slice (.int .i64)) (.slice (.int .i64))) a0.1.2.2)))) (.pair (.rep (.slice (.tag 109 111)) a0.2.1) (.pair (.rep (.arr 8 (.int .u8)) a0.2.2.1) (.eq (.map (some z1))))))) (a' := .agg (.pair (.agg (.pair (Rs tThing a0.1.1) (.pair (Rs tDresser (List.set r3 (Int.toNat a1) ([], x6.2.1, x6.2.2))) (.pair (Ri a0.1.2.2.1) (Ri a0.1.2.2.2))))) (.pair (.rep (.slice (.tag 109 111)) a0.2.1) (.pair (.rep (.arr 8 (.int .u8)) a0.2.2.1) (.eq (.map (some z1))))))) (AE.agg (AE.pair (AE.agg (AE.pair AE.rfl (AE.pair AE.rfl AE.split))) AE.rfl))) ?_
 refine fr 2 ?_
 refine JO.se (SE.rawInv (Known k ((a0.1.1, List.set r3 (Int.toNat a1) ([], x6.2.1, x6.2.2), a0.1.2.2), a0.2.1, a0.2.2.1)) known_nil) ?_
 obtain ⟨r8, er8, h⟩ := b_bind h
 have cr8 := chg_least_ok k ((a0.1.1, List.set r3 (Int.toNat a1) ([], x6.2.1, x6.2.2), a0.1.2.2), a0.2.1, a0.2.2.1) b2 z1 b7 r8 er8
 refine fr 2 ?_
 refine fr 1 ?_
 refine fr 2 ?_
 refine JO.stepG (Δ := [_, _, _]) (F := _) (fun _ _ _ => wanted_none rfl _) rfl rfl (o_call [.tmp 45, .tmp 47] rfl rfl en35 rfl cr8) ⟨rfl, rfl, trivial⟩ fun _ => ?_
 refine mq ?_
 refine xr ?_
 refine xr ?_
 refine xr ?_
 refine aq ?_
 refine aq ?_
 refine aq ?_
 refine nt ?_
 refine sr ?_
 iterate 2 refine mq ?_
 refine aq ?_
 refine aq ?_
 refine nt ?_
 refine JC.ret ?_
 cases h
 exact rb


def chg_Fewest (k : Nat) (a0 : dChange) : Option ((List dStep) × Int × Int) :=
 (chg_begin k a0).bind fun r2 =>
 casesO r2.1 (if ¬ (r2.2 = (0 : Int)) then (some ([], (0 : Int), r2.2)) else (none)) (fun q3 => if ¬ (r2.2 = (0 : Int)) then (some ([], (0 : Int), r2.2)) else ((chg_least k ((q3.1.1, q3.1.2.1, q3.1.2.2.1, q3.1.2.2.2), q3.2.1, q3.2.2)).bind fun r6 =>
 if ¬ (r6.2.2 = true) then (some ([], (0 : Int), (11 : Int))) else (some (r6.1, r6.2.1, (0 : Int)))))

theorem chg_Fewest_ok (k : Nat) (a0 : dChange) (r : (List dStep) × Int × Int) (h : chg_Fewest k a0 = some r) :
 Ctr Try.prog 8 [.rep tChange a0] [] (fun _ : Unit => (resA [Rs tStep r.1, I r.2.1, I r.2.2], [])) := by
 unfold chg_Fewest at h
 replace h := b_top h
 refine Ctr.of 31 Try.func8 rfl Try.ntmps8 rfl fun S w0 => ?_
 refine sr ?_
 refine bx fun b1 => ?_
 refine cq ?_
 refine cq ?_
 refine cq ?_
 refine nt ?_
 refine sr ?_
 refine lo sz26 ?_
 obtain ⟨r2, er2, h⟩ := b_bind h
 have cr2 := chg_begin_ok k a0 r2 er2
 rcases hr : r2.1 with _ | q3
 ·
  rw [hr] at h cr2; replace h := co_n h;refine JO.stepG (Δ := []) (F := _) (fun _ _ _ => wanted_none rfl _) rfl rfl (o_call [.tmp 11] rfl rfl en34 rfl cr2) ⟨rfl, trivial⟩ fun _ => ?_;refine mq ?_;refine xr ?_;refine xr ?_;refine aq ?_;refine aq (nt (JC.seq (sr ?_)));refine mq ?_;refine jb (o_neq rfl) ?_;refine nt (cn h (fun h => ?_) (fun h => ?_))
  ·refine sr (mq ?_);refine cq ?_;refine cq ?_;refine aq (nt (rx ?_));refine JN.se (SE.ent (t := (.slice tStep)) (x := []) 2 rfl .nil rfl rfl) ?_;cases h;exact JN.ret () [_, _, _] 0 ⟨rfl, rfl, rfl, trivial⟩ rfl
  ·refine sk (sr (mq ?_));cases h
 ·
  rw [hr] at h cr2; replace h := co_s h;refine JO.stepG (Δ := []) (F := _) (fun _ _ _ => wanted_none rfl _) rfl rfl (o_call [.tmp 11] rfl rfl en34 rfl cr2) ⟨rfl, trivial⟩ fun z4 => ?_;refine mq ?_;refine xr ?_;refine xr ?_;refine aq ?_;refine aq (nt (JC.seq (sr ?_)));refine mq ?_;refine jb (o_neq rfl) ?_;refine nt (cn h (fun h => ?_) (fun h => ?_))
  ·refine sr (mq ?_);refine cq ?_;refine cq ?_;refine aq (nt (rx ?_));refine JN.se (SE.ent (t := (.slice tStep)) (x := []) 2 rfl .nil rfl rfl) ?_;cases h;exact JN.ret () [_, _, _] 0 ⟨rfl, rfl, rfl, trivial⟩ rfl
  ·refine sk (sr (mq ?_));refine JO.s01 rfl rfl rfl (o_call [.tmp 19] rfl rfl en36 rfl (chg_quick_plans_ok z4.1)) ⟨rfl, trivial⟩ fun b5 => ?_;refine mq ?_;refine ja (o_mkfn [.tmp 21] [] [(.pointer (some ⟨z4.1, 0, none⟩))] [] rfl rfl rfl) ?_;refine fr 2 ?_;refine JO.se (SE.rawInv (Known k ((q3.1.1, q3.1.2.1, q3.1.2.2.1, q3.1.2.2.2), q3.2.1, q3.2.2)) known_nil) ?_;obtain ⟨r6, er6, h⟩ := b_bind h;refine fr 1 ?_;refine fr 1 ?_;refine fr 2 ?_;refine JO.stepG (Δ := [_, _, _]) (F := _) (fun _ _ _ => wanted_none rfl _) rfl rfl (o_call [.tmp 20, .tmp 22] rfl rfl en35 rfl (chg_least_ok k ((q3.1.1, q3.1.2.1, q3.1.2.2.1, q3.1.2.2.2), q3.2.1, q3.2.2) z4.1 z4.2 b5 r6 er6)) ⟨rfl, rfl, trivial⟩ fun _ => ?_;refine mq ?_;refine xr ?_;refine xr ?_;refine xr ?_;refine aq ?_;refine aq ?_;refine aq (nt (JC.seq (sr ?_)));refine mq ?_;refine ja (o_not rfl) ?_;refine nt (cw h (fun h => ?_) (fun h => ?_))
   ·refine sr (cq ?_);refine cq ?_;refine cq (nt (rx ?_));refine JN.se (SE.ent (t := (.slice tStep)) (x := []) 2 rfl .nil rfl rfl) ?_;cases h;exact JN.ret () [_, _, _] 0 ⟨rfl, rfl, rfl, trivial⟩ rfl
   ·refine sk (sr ?_);iterate 2 refine mq ?_
    refine aq ?_;refine aq ?_;refine cq (nt (JC.ret ?_));cases h;exact JN.ret () [_, _, _] 0 ⟨rfl, rfl, rfl, trivial⟩ rfl


def law_quick (k : Nat) (a0 : Int) (a1 : Int) (a2 : (List Int)) : Option dChange :=
 some ([([(1 : Int)], (2 : Int), (2 : Int), (0 : Int), (0 : Int)), ([], (1 : Int), (1 : Int), (1 : Int), a0), ([], (1 : Int), (1 : Int), (2 : Int), (2 : Int)), ([], (3 : Int), (3 : Int), (0 : Int), (0 : Int))], [([(0 : Int), (1 : Int), (2 : Int)], (1 : Int), a1), (a2, (0 : Int), (1 : Int))], [(0 : Int), (1 : Int)], [(1 : Int), (2 : Int)])

theorem law_quick_ok (k : Nat) (a0 : Int) (a1 : Int) (a2 : (List Int)) (r : dChange) (h : law_quick k a0 a1 a2 = some r) :
 Ctr Try.prog 11 [I a0, I a1, Ri a2] [] (fun _ : Unit => (resA [.rep tChange r], [])) := by
 unfold law_quick at h
 replace h := b_top h
 refine Ctr.of 23 Try.func11 rfl Try.ntmps11 rfl fun S w0 => ?_
 refine sr ?_
 refine JO.s01 rfl rfl rfl (o_alloc rfl za26 al26) trivial fun b1 => ?_
 refine nt ?_
 refine sr ?_
 refine ja (o_litB (t := (.int .i64)) [(.const (.int .i64 (1)), _)] [(1 : Int)] rfl rfl sl22 (.cons rfl .int .nil) rfl rfl) ?_
 refine jc (o_buildT [(0, .tmp 7, _), (1, .const (.int .i64 (2)), _), (2, .const (.int .i64 (2)), _)] rfl pl43 za43 alb43 (stors ⟨rfl, rfl, rfl, trivial⟩) rfl) ?_
 refine mq ?_
 refine JO.s rfl (o_buildT [(1, .const (.int .i64 (1)), _), (2, .const (.int .i64 (1)), _), (3, .const (.int .i64 (1)), _), (4, .tmp 9, _)] rfl pl43 za43 alb43 (stors ⟨rfl, rfl, rfl, rfl, trivial⟩) rfl) ⟨rfl, rfl, rfl, rfl, trivial⟩ ?_
 refine JO.s rfl (o_buildT [(1, .const (.int .i64 (1)), _), (2, .const (.int .i64 (1)), _), (3, .const (.int .i64 (2)), _), (4, .const (.int .i64 (2)), _)] rfl pl43 za43 alb43 (stors ⟨rfl, rfl, rfl, rfl, trivial⟩) rfl) ⟨rfl, rfl, rfl, rfl, trivial⟩ ?_
 refine jb (o_buildT [(1, .const (.int .i64 (3)), _), (2, .const (.int .i64 (3)), _)] rfl pl43 za43 alb43 (stors ⟨rfl, rfl, trivial⟩) rfl) ?_
 refine JO.s rfl (o_litB (t := tThing) [(.tmp 8, _), (.tmp 10, _), (.tmp 11, _), (.tmp 12, _)] [([(1 : Int)], (2 : Int), (2 : Int), (0 : Int), (0 : Int)), ([], (1 : Int), (1 : Int), (1 : Int), a0), ([], (1 : Int), (1 : Int), (2 : Int), (2 : Int)), ([], (3 : Int), (3 : Int), (0 : Int), (0 : Int))] rfl rfl sl23 (.cons trivial (.agg (.pair .rep (.pair .int (.pair .int (.pair .int .int))))) (.cons trivial (.agg (.pair .nil (.pair .int (.pair .int (.pair .int .int))))) (.cons trivial (.agg (.pair .nil (.pair .int (.pair .int (.pair .int .int))))) (.cons trivial (.agg (.pair .nil (.pair .int (.pair .int (.pair .int .int))))) .nil)))) rfl rfl) ⟨rfl, rfl, rfl, rfl, trivial⟩ ?_
 refine jc (o_litB (t := (.int .i64)) [(.const (.int .i64 (0)), _), (.const (.int .i64 (1)), _), (.const (.int .i64 (2)), _)] [(0 : Int), (1 : Int), (2 : Int)] rfl rfl sl22 (.cons rfl .int (.cons rfl .int (.cons rfl .int .nil))) rfl rfl) ?_
 refine mq ?_
 refine jc (o_buildT [(0, .tmp 14, _), (1, .const (.int .i64 (1)), _), (2, .tmp 15, _)] rfl pl38 za38 alb38 (stors ⟨rfl, rfl, rfl, trivial⟩) rfl) ?_
 refine mq ?_
 refine jb (o_buildT [(0, .tmp 17, _), (2, .const (.int .i64 (1)), _)] rfl pl38 za38 alb38 (stors ⟨rfl, rfl, trivial⟩) rfl) ?_
 refine jb (o_litB (t := tDresser) [(.tmp 16, _), (.tmp 18, _)] [([(0 : Int), (1 : Int), (2 : Int)], (1 : Int), a1), (a2, (0 : Int), (1 : Int))] rfl rfl sl24 (.cons trivial (.agg (.pair .rep (.pair .int .int))) (.cons trivial (.agg (.pair .rep (.pair .int .int))) .nil)) rfl rfl) ?_
 refine jb (o_litB (t := (.int .i64)) [(.const (.int .i64 (0)), _), (.const (.int .i64 (1)), _)] [(0 : Int), (1 : Int)] rfl rfl sl22 (.cons rfl .int (.cons rfl .int .nil)) rfl rfl) ?_
 refine jb (o_litB (t := (.int .i64)) [(.const (.int .i64 (1)), _), (.const (.int .i64 (2)), _)] [(1 : Int), (2 : Int)] rfl rfl sl22 (.cons rfl .int (.cons rfl .int .nil)) rfl rfl) ?_
 refine JO.s rfl (o_buildT [(0, .tmp 13, _), (1, .tmp 19, _), (2, .tmp 20, _), (3, .tmp 21, _)] rfl pl26 za26 alb26 (stors ⟨rfl, rfl, rfl, rfl, trivial⟩) rfl) ⟨rfl, rfl, rfl, rfl, trivial⟩ ?_
 refine JO.n11 rfl rfl (o_store rfl sz26 trivial rfl rfl) ⟨rfl, rfl, trivial⟩ ?_
 refine nt ?_
 refine JC.ret ?_
 refine JN.se (SE.objE (a := .agg (.pair (Rs tThing [([(1 : Int)], (2 : Int), (2 : Int), (0 : Int), (0 : Int)), ([], (1 : Int), (1 : Int), (1 : Int), a0), ([], (1 : Int), (1 : Int), (2 : Int), (2 : Int)), ([], (3 : Int), (3 : Int), (0 : Int), (0 : Int))]) (.pair (Rs tDresser [([(0 : Int), (1 : Int), (2 : Int)], (1 : Int), a1), (a2, (0 : Int), (1 : Int))]) (.pair (Ri [(0 : Int), (1 : Int)]) (Ri [(1 : Int), (2 : Int)]))))) (a' := .rep tChange ([([(1 : Int)], (2 : Int), (2 : Int), (0 : Int), (0 : Int)), ([], (1 : Int), (1 : Int), (1 : Int), a0), ([], (1 : Int), (1 : Int), (2 : Int), (2 : Int)), ([], (3 : Int), (3 : Int), (0 : Int), (0 : Int))], [([(0 : Int), (1 : Int), (2 : Int)], (1 : Int), a1), (a2, (0 : Int), (1 : Int))], [(0 : Int), (1 : Int)], [(1 : Int), (2 : Int)])) (AE.ent (.agg (.pair .rep (.pair .rep (.pair .rep .rep)))))) ?_
 cases h
 exact JN.ret () [.rep tChange ([([(1 : Int)], (2 : Int), (2 : Int), (0 : Int), (0 : Int)), ([], (1 : Int), (1 : Int), (1 : Int), a0), ([], (1 : Int), (1 : Int), (2 : Int), (2 : Int)), ([], (3 : Int), (3 : Int), (0 : Int), (0 : Int))], [([(0 : Int), (1 : Int), (2 : Int)], (1 : Int), a1), (a2, (0 : Int), (1 : Int))], [(0 : Int), (1 : Int)], [(1 : Int), (2 : Int)])] 0 ⟨⟨_, _, _, _, _, rfl, (.head _), sz26, (nfn), rfl⟩, trivial⟩ rfl


def law_quickF (k : Nat) (a0 : Int) (a1 : Int) (a2 : (List Int)) : Option dChange :=
 some ([([(1 : Int)], (2 : Int), (2 : Int), (0 : Int), (0 : Int)), ([], (1 : Int), (1 : Int), (1 : Int), a0), ([], (1 : Int), (1 : Int), (2 : Int), (2 : Int)), ([], (3 : Int), (3 : Int), (0 : Int), (0 : Int))], [([(0 : Int), (1 : Int), (2 : Int)], (1 : Int), a1), (a2, (0 : Int), (1 : Int))], [(0 : Int), (1 : Int)], [(1 : Int), (2 : Int)])

theorem law_quickF_ok (k : Nat) (a0 : Int) (a1 : Int) (a2 : (List Int)) (r : dChange) (h : law_quickF k a0 a1 a2 = some r) :
 Ctr Try.prog 11 [I a0, I a1, Ri a2] [] (fun z : Value => (resA [.agg (.pair (.eq z) (.pair (Rs tDresser r.2.1) (.pair (Ri r.2.2.1) (Ri r.2.2.2))))], [.sl z 43 tThing r.1])) := by
 unfold law_quickF at h
 replace h := b_top h
 refine Ctr.of 23 Try.func11 rfl Try.ntmps11 rfl fun S w0 => ?_
 refine sr ?_
 refine JO.s01 rfl rfl rfl (o_alloc rfl za26 al26) trivial fun b1 => ?_
 refine nt ?_
 refine sr ?_
 refine ja (o_litB (t := (.int .i64)) [(.const (.int .i64 (1)), _)] [(1 : Int)] rfl rfl sl22 (.cons rfl .int .nil) rfl rfl) ?_
 refine jc (o_buildT [(0, .tmp 7, _), (1, .const (.int .i64 (2)), _), (2, .const (.int .i64 (2)), _)] rfl pl43 za43 alb43 (stors ⟨rfl, rfl, rfl, trivial⟩) rfl) ?_
 refine mq ?_
 refine JO.s rfl (o_buildT [(1, .const (.int .i64 (1)), _), (2, .const (.int .i64 (1)), _), (3, .const (.int .i64 (1)), _), (4, .tmp 9, _)] rfl pl43 za43 alb43 (stors ⟨rfl, rfl, rfl, rfl, trivial⟩) rfl) ⟨rfl, rfl, rfl, rfl, trivial⟩ ?_
 refine JO.s rfl (o_buildT [(1, .const (.int .i64 (1)), _), (2, .const (.int .i64 (1)), _), (3, .const (.int .i64 (2)), _), (4, .const (.int .i64 (2)), _)] rfl pl43 za43 alb43 (stors ⟨rfl, rfl, rfl, rfl, trivial⟩) rfl) ⟨rfl, rfl, rfl, rfl, trivial⟩ ?_
 refine jb (o_buildT [(1, .const (.int .i64 (3)), _), (2, .const (.int .i64 (3)), _)] rfl pl43 za43 alb43 (stors ⟨rfl, rfl, trivial⟩) rfl) ?_
 refine JO.s01 rfl rfl rfl (o_litB_own (t := tThing) [(.tmp 8, _), (.tmp 10, _), (.tmp 11, _), (.tmp 12, _)] [([(1 : Int)], (2 : Int), (2 : Int), (0 : Int), (0 : Int)), ([], (1 : Int), (1 : Int), (1 : Int), a0), ([], (1 : Int), (1 : Int), (2 : Int), (2 : Int)), ([], (3 : Int), (3 : Int), (0 : Int), (0 : Int))] rfl rfl sl23 (.cons trivial (.agg (.pair .rep (.pair .int (.pair .int (.pair .int .int))))) (.cons trivial (.agg (.pair .nil (.pair .int (.pair .int (.pair .int .int))))) (.cons trivial (.agg (.pair .nil (.pair .int (.pair .int (.pair .int .int))))) (.cons trivial (.agg (.pair .nil (.pair .int (.pair .int (.pair .int .int))))) .nil)))) rfl rfl) ⟨rfl, rfl, rfl, rfl, trivial⟩ fun v2 => ?_
 refine jc (o_litB (t := (.int .i64)) [(.const (.int .i64 (0)), _), (.const (.int .i64 (1)), _), (.const (.int .i64 (2)), _)] [(0 : Int), (1 : Int), (2 : Int)] rfl rfl sl22 (.cons rfl .int (.cons rfl .int (.cons rfl .int .nil))) rfl rfl) ?_
 refine mq ?_
 refine jc (o_buildT [(0, .tmp 14, _), (1, .const (.int .i64 (1)), _), (2, .tmp 15, _)] rfl pl38 za38 alb38 (stors ⟨rfl, rfl, rfl, trivial⟩) rfl) ?_
 refine mq ?_
 refine jb (o_buildT [(0, .tmp 17, _), (2, .const (.int .i64 (1)), _)] rfl pl38 za38 alb38 (stors ⟨rfl, rfl, trivial⟩) rfl) ?_
 refine jb (o_litB (t := tDresser) [(.tmp 16, _), (.tmp 18, _)] [([(0 : Int), (1 : Int), (2 : Int)], (1 : Int), a1), (a2, (0 : Int), (1 : Int))] rfl rfl sl24 (.cons trivial (.agg (.pair .rep (.pair .int .int))) (.cons trivial (.agg (.pair .rep (.pair .int .int))) .nil)) rfl rfl) ?_
 refine jb (o_litB (t := (.int .i64)) [(.const (.int .i64 (0)), _), (.const (.int .i64 (1)), _)] [(0 : Int), (1 : Int)] rfl rfl sl22 (.cons rfl .int (.cons rfl .int .nil)) rfl rfl) ?_
 refine jb (o_litB (t := (.int .i64)) [(.const (.int .i64 (1)), _), (.const (.int .i64 (2)), _)] [(1 : Int), (2 : Int)] rfl rfl sl22 (.cons rfl .int (.cons rfl .int .nil)) rfl rfl) ?_
 refine JO.one fun o3 => ?_
 refine JO.s rfl (o_buildT [(0, .tmp 13, _), (1, .tmp 19, _), (2, .tmp 20, _), (3, .tmp 21, _)] rfl pl26 za26 alb26 (stors ⟨o3, rfl, rfl, rfl, trivial⟩) rfl) ⟨rfl, rfl, rfl, rfl, trivial⟩ ?_
 refine fr 1 ?_
 refine JO.n11 rfl rfl (o_store rfl sz26 trivial rfl rfl) ⟨rfl, rfl, trivial⟩ ?_
 refine nt ?_
 refine JC.ret ?_
 refine JN.se (SE.fin (Γ' := [(6, _)]) [1, 0] ⟨rfl, trivial⟩ rfl) ?_
 cases h
 exact JN.ret v2 [.agg (.pair (.eq v2) (.pair (Rs tDresser [([(0 : Int), (1 : Int), (2 : Int)], (1 : Int), a1), (a2, (0 : Int), (1 : Int))]) (.pair (Ri [(0 : Int), (1 : Int)]) (Ri [(1 : Int), (2 : Int)]))))] 1 ⟨⟨_, _, _, _, _, rfl, (.tail _ (.head _)), sz26, (nfn), rfl⟩, trivial⟩ rfl


def law_first (k : Nat) : Option (List dStep) :=
 some [((1 : Int), (0 : Int)), ((0 : Int), (0 : Int)), ((2 : Int), (0 : Int)), ((3 : Int), (1 : Int))]

theorem law_first_ok (k : Nat) (r : (List dStep)) (h : law_first k = some r) :
 Ctr Try.prog 16 [] [] (fun _ : Unit => (resA [Rs tStep r], [])) := by
 unfold law_first at h
 replace h := b_top h
 refine Ctr.of 6 Try.func16 rfl Try.ntmps16 rfl fun S w0 => ?_
 refine sr ?_
 refine cq ?_
 refine nt ?_
 refine sr ?_
 refine jb (o_buildT [(0, .const (.int .i64 (1)), _), (1, .const (.int .i64 (0)), _)] rfl pl59 za59 alb59 (stors ⟨rfl, rfl, trivial⟩) rfl) ?_
 refine jb (o_buildT [(0, .const (.int .i64 (0)), _), (1, .const (.int .i64 (0)), _)] rfl pl59 za59 alb59 (stors ⟨rfl, rfl, trivial⟩) rfl) ?_
 refine jb (o_buildT [(0, .const (.int .i64 (2)), _), (1, .const (.int .i64 (0)), _)] rfl pl59 za59 alb59 (stors ⟨rfl, rfl, trivial⟩) rfl) ?_
 refine jb (o_buildT [(0, .const (.int .i64 (3)), _), (1, .const (.int .i64 (1)), _)] rfl pl59 za59 alb59 (stors ⟨rfl, rfl, trivial⟩) rfl) ?_
 refine JO.s rfl (o_litB (t := tStep) [(.tmp 1, _), (.tmp 2, _), (.tmp 3, _), (.tmp 4, _)] [((1 : Int), (0 : Int)), ((0 : Int), (0 : Int)), ((2 : Int), (0 : Int)), ((3 : Int), (1 : Int))] rfl rfl sl33 (.cons trivial (.agg (.pair .int .int)) (.cons trivial (.agg (.pair .int .int)) (.cons trivial (.agg (.pair .int .int)) (.cons trivial (.agg (.pair .int .int)) .nil)))) rfl rfl) ⟨rfl, rfl, rfl, rfl, trivial⟩ ?_
 refine aq ?_
 refine nt ?_
 refine JC.ret ?_
 cases h
 exact ra



theorem catch80 : CatchOk Try.prog 80 152 30 := by
 refine ⟨en80, fun M e0 => ?_, fun M e0 n => ?_⟩
 ·refine CatchRun.of (M := M) (m := .returning) (m1 := .returning) (val := .nilIface) Try.func80 rfl rfl (by decide) rfl rfl (by decide) (fun ρ => rfl) (fun fr b cs hb hm => rec_none hb hm rfl) (.inl rfl) fun b S w0 => ?_;refine ja (o_taNil rfl ta152) ?_;refine mq ?_;refine xr ?_;refine xr ?_;refine aq ?_;refine aq (nt (sr ?_));refine mq (nt ?_);refine JC.cond rfl (fun hb => by cases hb) (fun hb => ?_);refine JC.skip ?_;exact JN.end_n (JN.ret () [] 1 trivial rfl)
 ·refine CatchRun.of (M := M) (m := .panicking (chain1 152 n false)) (m1 := .panicking (chain1 152 n true)) (val := .iface 152 (.int .i64 n)) Try.func80 rfl rfl (by decide) rfl rfl (by decide) (fun ρ => rfl) (fun fr b cs hb hm => rec_some hb hm) (.inr ⟨_, _, rfl⟩) fun b S w0 => ?_;refine ja (o_taNum rfl ta152) ?_;refine mq ?_;refine xr ?_;refine xr ?_;refine aq ?_;refine aq (nt (sr ?_));refine mq (nt ?_);refine JC.cond rfl (fun hb => ?_) (fun hb => by cases hb);refine JC.region (mq ?_);refine JO.n11 rfl rfl (o_store rfl sz30 rfl rfl rfl) ⟨rfl, rfl, trivial⟩ ?_;refine JO.nil ?_;exact JN.end_n (JN.ret () [] 1 trivial rfl)



def chg_quick_checkPlan_l1 (k : Nat) (a0 : (dChange × (List (Bool × Int)) × (List Int))) (a1 : (List dStep)) : Nat → (Int × Int) → Option (Except Int Unit)
 | 0, _ => none
 | n + 1, y4 =>
  if y4.2 < (a1.length : Int) then ((geti a1 y4.2).bind fun x6 =>
  (ck ((a0.2.1.length : Int) - (1 : Int))).bind fun x8 =>
  (chg_outside k x6.1 (0 : Int) x8).bind fun r9 =>
  if r9 = true then (some (.error (3 : Int))) else ((chg_set_has k y4.1 x6.1).bind fun r10 =>
  if r10 = true then (some (.error (4 : Int))) else ((ck ((a0.1.2.1.length : Int) - (1 : Int))).bind fun x11 =>
  (chg_outside k x6.2 (0 : Int) x11).bind fun r12 =>
  if r12 = true then (some (.error (3 : Int))) else ((geti a0.2.1 x6.1).bind fun x13 =>
  (chg_quick_can k ((a0.1.1, a0.1.2.1, a0.1.2.2.1, a0.1.2.2.2), a0.2.1, a0.2.2) x6.2 x13).bind fun r14 =>
  if ¬ (r14 = true) then (some (.error (8 : Int))) else ((chkP (0 ≤ x6.1 ∧ x6.1 < 8)).bind fun _ =>
  (geti a0.2.2 x6.1).bind fun x16 =>
  if ¬ ((iandn .u8 x16 y4.1) = (0 : Int)) then (some (.error (5 : Int))) else ((chg_of k [x6.1]).bind fun r17 =>
  (ck (y4.2 + (1 : Int))).bind fun x18 =>
  chg_quick_checkPlan_l1 k a0 a1 n (ior .u8 y4.1 r17, x18))))))) else (some (.ok ()))
def chg_quick_checkPlan (k : Nat) (a0 : (dChange × (List (Bool × Int)) × (List Int))) (a1 : (List dStep)) : Option Int :=
 if (a1.length : Int) < (a0.2.1.length : Int) then (some (7 : Int)) else (if (a0.2.1.length : Int) < (a1.length : Int) then (some (6 : Int)) else (bE (α := Unit) (chg_quick_checkPlan_l1 k a0 a1 k ((0 : Int), (0 : Int))) (some) fun _ =>
 some (0 : Int)))

theorem chg_quick_checkPlan_ok (k : Nat) (a0 : (dChange × (List (Bool × Int)) × (List Int))) (b_a0 : Nat) (m_a0 : Value) (a1 : (List dStep)) (r : Int) (h : chg_quick_checkPlan k a0 a1 = some r) :
 Ctr Try.prog 71 [Pt b_a0, Rs tStep a1] [.obj b_a0 98 (Qq a0 (.eq m_a0))] (fun _ : Unit => (resA [I r], [.obj b_a0 98 (Qq a0 (.eq m_a0))])) := by
 unfold chg_quick_checkPlan at h
 replace h := b_top h
 refine Ctr.ofD 96 Try.func71 rfl Try.ntmps71 rfl fun S w0 => ?_
 refine sr ?_
 refine JO.s01 rfl rfl rfl (o_alloc rfl za30 al30) trivial fun b1 => ?_
 refine nt ?_
 refine sr ?_
 refine ja (o_mkfn [] [.tmp 4] [] [(Pv b1)] rfl rfl rfl) ?_
 refine JO.defer rfl rfl rfl rfl rfl ?_
 refine nt ?_
 refine JC.seq ?_
 refine sr ?_
 refine mq ?_
 refine ol U33 ?_
 refine mq ?_
 refine ja (o_nil_obj rfl) ?_
 refine fl fo98_1 ?_
 refine fr 1 ?_
 refine lo sz93 ?_
 refine ol U93 ?_
 refine jb (o_lss rfl) ?_
 refine nt ?_
 refine ci h (fun h => ?_) (fun h => ?_)
 ·
  refine JC.region (ja (o_iface rfl U152) ?_);refine JO.panicN rfl rfl rfl rfl ?_;refine JN.then_p ?_;refine JN.front 1 rfl ?_;refine JN.panicD catch80 ?_;refine JN.se (SE.fin (Γ' := [(4, _)]) [1, 0] ⟨rfl, trivial⟩ rfl) ?_;cases h;exact JN.ret () [_] 1 ⟨⟨_, _, _, _, _, rfl, (.tail _ (.head _)), sz30, (fun _ => rfl), rfl⟩, trivial⟩ rfl
 ·
  refine sk (JC.seq (sr (mq ?_)));refine ol U33 ?_;refine mq ?_;refine ja (o_nil_obj rfl) ?_;refine fl fo98_1 ?_;refine lo sz93 ?_;refine ol U93 ?_;refine jb (o_gtr rfl) ?_;refine nt (ci h (fun h => ?_) (fun h => ?_))
  ·refine JC.region (ja (o_iface rfl U152) ?_);refine JO.panicN rfl rfl rfl rfl ?_;refine JN.then_p ?_;refine JN.front 1 rfl ?_;refine JN.panicD catch80 ?_;refine JN.se (SE.fin (Γ' := [(4, _)]) [1, 0] ⟨rfl, trivial⟩ rfl) ?_;cases h;exact JN.ret () [_] 1 ⟨⟨_, _, _, _, _, rfl, (.tail _ (.head _)), sz30, (fun _ => rfl), rfl⟩, trivial⟩ rfl
  ·refine sk (sr (cq (nt ?_)));refine JC.cutE (Z := Unit) (α := Unit) (fun z3 x2 => [(4, Pt b1)]) (fun z3 x2 => [.obj b1 30 (I (0 : Int)), .obj b_a0 98 (Qq a0 (.eq m_a0))]) (fun e => e = r) h (fun e h => Option.some.inj h) (fun K hR h => ?_) (fun z3 x2 h => ?_)
   ·refine sr (mq ?_);refine ol U33 ?_;refine JO.mc rfl ?_;refine nt (JC.block (JC.loopB (Z := Unit) (α := Int × Int) (fun z5 y4 => [(0, Pt b_a0), (4, Pt b1), (5, .eq (.int .u8 y4.1)), (27, Rs tStep a1), (28, I (a1.length : Int)), (29, I y4.2)]) (fun z5 y4 => [.obj b_a0 98 (Qq a0 (.eq m_a0)), .obj b1 30 (I (0 : Int))]) (chg_quick_checkPlan_l1 k a0 a1) k () ((0 : Int), (0 : Int)) (fun _ => rfl) h (SE.fin [0, 1] ⟨rfl, rfl, rfl, rfl, rfl, rfl, trivial⟩ rfl) (fun n z5 y4 h => ?_)));unfold chg_quick_checkPlan_l1 at h;refine sr (jb (o_lss rfl) ?_);refine nt (JC.seq (ci h (fun h => ?_) (fun h => ?_)))
    ·refine sk (JC.seq (JC.block (sr ?_)));obtain ⟨x6, ex6, h⟩ := b_bind h;refine jb (o_index (t := tStep) rfl U33 sz59 ex6) ?_;refine ja (o_load_at (t := tStep) rfl sz59 rfl) ?_;refine JO.s01 rfl rfl rfl (o_alloc rfl za59 al59) trivial fun b7 => ?_;refine JO.n11 rfl rfl (o_store rfl sz59 rfl rfl rfl) ⟨rfl, rfl, trivial⟩ ?_;refine nt (JC.seq (JC.block (JC.seq (JC.drawN ?_))));refine da (o_field_obj rfl fo59_0) ?_;refine ea 0 (o_load_obj rfl sz3 nfs rfl) ?_;refine dm ?_;refine da (o_nil_obj rfl) ?_;refine da (o_field_obj rfl fo98_1) ?_;refine ea 1 (o_load_obj rfl sz93 nfs rfl) ?_;refine da (o_len rfl rfl U93) ?_;obtain ⟨x8, ex8, h⟩ := b_bind h;refine db (o_sub rfl ex8) ?_;refine df mixed ?_;obtain ⟨r9, er9, h⟩ := b_bind h;refine jc (o_call [.tmp 35, .const (.int .i64 (0)), .tmp 41] rfl rfl en46 rfl (chg_outside_ok k x6.1 (0 : Int) x8 r9 er9)) ?_;refine aq (nt ?_);refine cv h (fun h => ?_) (fun h => ?_)
     ·refine JC.region (ja (o_iface rfl U152) ?_);refine JO.panicN rfl rfl rfl rfl ?_;refine JN.blk_p ?_;refine JN.then_p ?_;refine JN.blk_p ?_;refine JN.then_p ?_;refine JN.then_p ?_;refine JN.blk_p ?_;refine JN.then_p ?_;refine JN.front 2 rfl ?_;refine JN.panicD catch80 ?_;refine JN.se (SE.fin (Γ' := [(4, _)]) [2, 0, 1] ⟨rfl, trivial⟩ rfl) ?_;obtain rfl := hR _ h;exact JN.ret () [_] 1 ⟨⟨_, _, _, _, _, rfl, (.tail _ (.head _)), sz30, (fun _ => rfl), rfl⟩, trivial⟩ rfl
     ·refine sr (mq ?_);refine fl fo59_0 ?_;refine lo sz3 ?_;obtain ⟨r10, er10, h⟩ := b_bind h;refine jb (o_call [.tmp 45, .tmp 47] rfl rfl en49 rfl (chg_set_has_ok k y4.1 x6.1 r10 er10)) ?_;refine aq (nt ?_);refine cv h (fun h => ?_) (fun h => ?_)
      ·refine JC.region (ja (o_iface rfl U152) ?_);refine JO.panicN rfl rfl rfl rfl ?_;refine JN.blk_p ?_;refine JN.then_p ?_;refine JN.blk_p ?_;refine JN.then_p ?_;refine JN.then_p ?_;refine JN.blk_p ?_;refine JN.then_p ?_;refine JN.front 2 rfl ?_;refine JN.panicD catch80 ?_;refine JN.se (SE.fin (Γ' := [(4, _)]) [2, 0, 1] ⟨rfl, trivial⟩ rfl) ?_;obtain rfl := hR _ h;exact JN.ret () [_] 1 ⟨⟨_, _, _, _, _, rfl, (.tail _ (.head _)), sz30, (fun _ => rfl), rfl⟩, trivial⟩ rfl
      ·refine JC.seq (JC.drawN ?_);refine da (o_field_obj rfl fo59_1) ?_;refine ea 0 (o_load_obj rfl sz3 nfs rfl) ?_;refine dm ?_;refine da (o_nil_obj rfl) ?_;refine da (o_field_obj rfl fo98_0) ?_;refine da (o_field_obj rfl fo26_1) ?_;refine ea 1 (o_load_obj rfl sz24 nfs rfl) ?_;refine da (o_len rfl rfl U24) ?_;obtain ⟨x11, ex11, h⟩ := b_bind h;refine db (o_sub rfl ex11) ?_;refine df mixed ?_;obtain ⟨r12, er12, h⟩ := b_bind h;refine jc (o_call [.tmp 52, .const (.int .i64 (0)), .tmp 59] rfl rfl en46 rfl (chg_outside_ok k x6.2 (0 : Int) x11 r12 er12)) ?_;refine aq (nt ?_);refine cv h (fun h => ?_) (fun h => ?_)
       ·refine JC.region (ja (o_iface rfl U152) ?_);refine JO.panicN rfl rfl rfl rfl ?_;refine JN.blk_p ?_;refine JN.then_p ?_;refine JN.blk_p ?_;refine JN.then_p ?_;refine JN.then_p ?_;refine JN.blk_p ?_;refine JN.then_p ?_;refine JN.front 2 rfl ?_;refine JN.panicD catch80 ?_;refine JN.se (SE.fin (Γ' := [(4, _)]) [2, 0, 1] ⟨rfl, trivial⟩ rfl) ?_;obtain rfl := hR _ h;exact JN.ret () [_] 1 ⟨⟨_, _, _, _, _, rfl, (.tail _ (.head _)), sz30, (fun _ => rfl), rfl⟩, trivial⟩ rfl
       ·refine JC.seq (JC.drawN ?_);refine dm ?_;refine da (o_field_obj rfl fo59_1) ?_;refine ea 0 (o_load_obj rfl sz3 nfs rfl) ?_;refine dm ?_;refine da (o_nil_obj rfl) ?_;refine da (o_field_obj rfl fo98_1) ?_;refine ea 1 (o_load_obj rfl sz93 nfs rfl) ?_;refine da (o_field_obj rfl fo59_0) ?_;refine ea 0 (o_load_obj rfl sz3 nfs rfl) ?_;obtain ⟨x13, ex13, h⟩ := b_bind h;refine db (o_index (t := (.tag 109 111)) rfl U93 sz108 ex13) ?_;refine da (o_load_at (t := (.tag 109 111)) rfl sz108 rfl) ?_;refine df mixed ?_;obtain ⟨r14, er14, h⟩ := b_bind h;refine fr 1 ?_;refine kc (o_call [.tmp 63, .tmp 65, .tmp 73] rfl rfl en67 rfl (chg_quick_can_ok k ((a0.1.1, a0.1.2.1, a0.1.2.2.1, a0.1.2.2.2), a0.2.1, a0.2.2) b_a0 m_a0 x6.2 x13 r14 er14)) ?_;refine ja (o_not rfl) ?_;refine aq (nt ?_);refine cw h (fun h => ?_) (fun h => ?_)
        ·refine JC.region (ja (o_iface rfl U152) ?_);refine JO.panicN rfl rfl rfl rfl ?_;refine JN.blk_p ?_;refine JN.then_p ?_;refine JN.blk_p ?_;refine JN.then_p ?_;refine JN.then_p ?_;refine JN.blk_p ?_;refine JN.then_p ?_;refine JN.front 2 rfl ?_;refine JN.panicD catch80 ?_;refine JN.se (SE.fin (Γ' := [(4, _)]) [1, 0, 2] ⟨rfl, trivial⟩ rfl) ?_;obtain rfl := hR _ h;exact JN.ret () [_] 1 ⟨⟨_, _, _, _, _, rfl, (.tail _ (.head _)), sz30, (fun _ => rfl), rfl⟩, trivial⟩ rfl
        ·refine JC.seq (JC.drawN ?_);refine dm ?_;refine da (o_field_obj rfl fo59_0) ?_;refine ea 1 (o_load_obj rfl sz3 nfs rfl) ?_;refine da (o_nil_obj rfl) ?_;refine da (o_field_obj rfl fo98_2) ?_;obtain ⟨u15, eu15, h⟩ := b_bind h;refine db (o_index_arr rfl U95 sz94 (chkP_some eu15).1 (chkP_some eu15).2) ?_;obtain ⟨x16, ex16, h⟩ := b_bind h;refine ea 0 (o_load_arr (t := (.int .u8)) (off := 5) (i := x6.1) (N := 8) rfl sz94 (fun _ => rfl) rfl rfl rfl rfl ex16) ?_;refine dm ?_;refine df mixed ?_;refine jb (o_andn rfl) ?_;refine jb (o_neq rfl) ?_;refine aq (nt ?_);refine cn h (fun h => ?_) (fun h => ?_)
         ·refine JC.region (ja (o_iface rfl U152) ?_);refine JO.panicN rfl rfl rfl rfl ?_;refine JN.blk_p ?_;refine JN.then_p ?_;refine JN.blk_p ?_;refine JN.then_p ?_;refine JN.then_p ?_;refine JN.blk_p ?_;refine JN.then_p ?_;refine JN.front 2 rfl ?_;refine JN.panicD catch80 ?_;refine JN.se (SE.fin (Γ' := [(4, _)]) [1, 0, 2] ⟨rfl, trivial⟩ rfl) ?_;obtain rfl := hR _ h;exact JN.ret () [_] 1 ⟨⟨_, _, _, _, _, rfl, (.tail _ (.head _)), sz30, (fun _ => rfl), rfl⟩, trivial⟩ rfl
         ·refine JC.skip (JN.blk_n (tn (JC.region (mq ?_))));refine fl fo59_0 ?_;refine fr 1 ?_;refine lo sz3 ?_;refine ja (o_litB (t := (.int .i64)) [(.tmp 91, _)] [x6.1] rfl rfl sl22 (.cons rfl .int .nil) rfl rfl) ?_;obtain ⟨r17, er17, h⟩ := b_bind h;refine ja (o_call [.tmp 92] rfl rfl en40 rfl (chg_of_ok k [x6.1] r17 er17)) ?_;refine jb (o_or rfl) ?_;refine aq (JO.nil (JN.blk_n (tn (JC.region ?_))));obtain ⟨x18, ex18, h⟩ := b_bind h;refine jb (o_add rfl ex18) ?_;refine mq (nl ?_);exact jz ((), (ior .u8 y4.1 r17, x18)) h [1, 2]
    ·refine xa ?_;exact jz ((), ()) h [1, 0]
   ·refine sr (JO.n11 rfl rfl (o_store rfl sz30 rfl rfl rfl) ⟨rfl, rfl, trivial⟩ ?_);refine nt (JC.ret (JN.retD catch80 ?_));refine JN.se (SE.fin (Γ' := [(4, _)]) [1, 0] ⟨rfl, trivial⟩ rfl) ?_;cases h;exact JN.ret () [_] 1 ⟨⟨_, _, _, _, _, rfl, (.tail _ (.head _)), sz30, (fun _ => rfl), rfl⟩, trivial⟩ rfl


def chg_asked (k : Nat) (a0 : dChange) (a1 : (List dStep)) : Option ((Option (dChange × (List (Bool × Int)) × (List Int))) × Int) :=
 (chg_begin k a0).bind fun r2 =>
 casesO r2.1 (if ¬ (r2.2 = (0 : Int)) then (some (none, r2.2)) else (none)) (fun q3 => if ¬ (r2.2 = (0 : Int)) then (some (none, r2.2)) else ((chg_quick_checkPlan k ((q3.1.1, q3.1.2.1, q3.1.2.2.1, q3.1.2.2.2), q3.2.1, q3.2.2) a1).bind fun r5 =>
 some (some ((q3.1.1, q3.1.2.1, q3.1.2.2.1, q3.1.2.2.2), q3.2.1, q3.2.2), r5)))

theorem chg_asked_ok (k : Nat) (a0 : dChange) (a1 : (List dStep)) (r : (Option (dChange × (List (Bool × Int)) × (List Int))) × Int) (h : chg_asked k a0 a1 = some r) :
 Ctr Try.prog 50 [.rep tChange a0, Rs tStep a1] [] (fun z : Nat × Nat => (resA [optA r.1 z.1, I r.2], optD r.1 fun q => [.obj z.1 98 (Qq q (.eq (.map (some z.2)))), .raw z.2 (.map #[] 0)])) := by
 unfold chg_asked at h
 replace h := b_top h
 refine Ctr.of 20 Try.func50 rfl Try.ntmps50 rfl fun S w0 => ?_
 refine sr ?_
 refine bx fun b1 => ?_
 refine cq ?_
 refine cq ?_
 refine nt ?_
 refine sr ?_
 refine lo sz26 ?_
 obtain ⟨r2, er2, h⟩ := b_bind h
 have cr2 := chg_begin_ok k a0 r2 er2
 rcases hr : r2.1 with _ | q3
 ·
  rw [hr] at h cr2; replace h := co_n h;refine JO.stepG (Δ := []) (F := _) (fun _ _ _ => wanted_none rfl _) rfl rfl (o_call [.tmp 9] rfl rfl en34 rfl cr2) ⟨rfl, trivial⟩ fun _ => ?_;refine mq ?_;refine xr ?_;refine xr ?_;refine aq ?_;refine aq (nt (JC.seq (sr ?_)));refine mq ?_;refine jb (o_neq rfl) ?_;refine nt (cn h (fun h => ?_) (fun h => ?_))
  ·refine sr (mq ?_);refine cq ?_;refine aq (nt (rx ?_));cases h;exact JN.ret (0, 0) [.eq (.pointer none), _] 0 ⟨rfl, rfl, trivial⟩ rfl
  ·refine sk (sr ?_);iterate 3 refine mq ?_
   cases h
 ·
  rw [hr] at h cr2; replace h := co_s h;refine JO.stepG (Δ := []) (F := _) (fun _ _ _ => wanted_none rfl _) rfl rfl (o_call [.tmp 9] rfl rfl en34 rfl cr2) ⟨rfl, trivial⟩ fun z4 => ?_;refine mq ?_;refine xr ?_;refine xr ?_;refine aq ?_;refine aq (nt (JC.seq (sr ?_)));refine mq ?_;refine jb (o_neq rfl) ?_;refine nt (cn h (fun h => ?_) (fun h => ?_))
  ·refine sr (mq ?_);refine cq ?_;refine aq (nt (rx ?_));cases h;exact JN.ret (0, 0) [.eq (.pointer none), _] 0 ⟨rfl, rfl, trivial⟩ rfl
  ·refine sk (sr ?_);iterate 3 refine mq ?_
   obtain ⟨r5, er5, h⟩ := b_bind h;refine kb (o_call [.tmp 17, .tmp 18] rfl rfl en71 rfl (chg_quick_checkPlan_ok k ((q3.1.1, q3.1.2.1, q3.1.2.2.1, q3.1.2.2.2), q3.2.1, q3.2.2) z4.1 (.map (some z4.2)) a1 r5 er5)) ?_;refine aq ?_;refine aq (nt (JC.ret ?_));cases h;exact JN.ret (z4.1, z4.2) [.eq (.pointer (some ⟨z4.1, 0, none⟩)), _] 2 ⟨rfl, rfl, trivial⟩ rfl


def chg_Begins (k : Nat) (a0 : dChange) (a1 : (List dStep)) : Option ((List Int) × Int) :=
 (chg_asked k a0 a1).bind fun r2 =>
 casesO r2.1 (if ¬ (r2.2 = (0 : Int)) then (some ([], r2.2)) else (none)) (fun q3 => if ¬ (r2.2 = (0 : Int)) then (some ([], r2.2)) else ((chg_quick_begins k ((q3.1.1, q3.1.2.1, q3.1.2.2.1, q3.1.2.2.2), q3.2.1, q3.2.2) a1).bind fun r5 =>
 some (r5.1, (0 : Int))))

theorem chg_Begins_ok (k : Nat) (a0 : dChange) (a1 : (List dStep)) (r : (List Int) × Int) (h : chg_Begins k a0 a1 = some r) :
 Ctr Try.prog 19 [.rep tChange a0, Rs tStep a1] [] (fun _ : Unit => (resA [Ri r.1, I r.2], [])) := by
 unfold chg_Begins at h
 replace h := b_top h
 refine Ctr.of 26 Try.func19 rfl Try.ntmps19 rfl fun S w0 => ?_
 refine sr ?_
 refine bx fun b1 => ?_
 refine cq ?_
 refine cq ?_
 refine nt ?_
 refine sr ?_
 refine lo sz26 ?_
 refine mq ?_
 obtain ⟨r2, er2, h⟩ := b_bind h
 have cr2 := chg_asked_ok k a0 a1 r2 er2
 rcases hr : r2.1 with _ | q3
 ·
  rw [hr] at h cr2; replace h := co_n h;refine JO.stepG (Δ := []) (F := _) (fun _ _ _ => wanted_none rfl _) rfl rfl (o_call [.tmp 11, .tmp 12] rfl rfl en50 rfl cr2) ⟨rfl, rfl, trivial⟩ fun _ => ?_;refine mq ?_;refine xr ?_;refine xr ?_;refine aq ?_;refine aq (nt (JC.seq (sr ?_)));refine mq ?_;refine jb (o_neq rfl) ?_;refine nt (cn h (fun h => ?_) (fun h => ?_))
  ·refine sr (mq ?_);refine cq ?_;refine aq (nt (rx ?_));refine JN.se (SE.ent (t := (.slice (.int .i64))) (x := []) 4 rfl .nil rfl rfl) ?_;cases h;exact rb
  ·refine sk (sr ?_);iterate 2 refine mq ?_
   cases h
 ·
  rw [hr] at h cr2; replace h := co_s h;refine JO.stepG (Δ := []) (F := _) (fun _ _ _ => wanted_none rfl _) rfl rfl (o_call [.tmp 11, .tmp 12] rfl rfl en50 rfl cr2) ⟨rfl, rfl, trivial⟩ fun z4 => ?_;refine mq ?_;refine xr ?_;refine xr ?_;refine aq ?_;refine aq (nt (JC.seq (sr ?_)));refine mq ?_;refine jb (o_neq rfl) ?_;refine nt (cn h (fun h => ?_) (fun h => ?_))
  ·refine sr (mq ?_);refine cq ?_;refine aq (nt (rx ?_));refine JN.se (SE.ent (t := (.slice (.int .i64))) (x := []) 4 rfl .nil rfl rfl) ?_;cases h;exact rb
  ·refine sk (sr ?_);iterate 2 refine mq ?_
   obtain ⟨r5, er5, h⟩ := b_bind h;refine kb (o_call [.tmp 20, .tmp 21] rfl rfl en51 rfl (chg_quick_begins_ok k ((q3.1.1, q3.1.2.1, q3.1.2.2.1, q3.1.2.2.2), q3.2.1, q3.2.2) z4.1 (.map (some z4.2)) a1 r5 er5)) ?_;refine mq ?_;refine xr ?_;refine xr ?_;refine JO.s01 rfl rfl rfl (o_alloc rfl za113 al113) trivial fun b6 => ?_;refine aq ?_;refine JO.n11 rfl rfl (o_store rfl sz113 rfl rfl rfl) ⟨rfl, rfl, trivial⟩ ?_;refine nt (sr (mq ?_));refine aq ?_;refine cq (nt (JC.ret ?_));cases h;exact rb


def chg_quick_late_l1 (k : Nat) (a0 : (dChange × (List (Bool × Int)) × (List Int))) (a1 : (List dStep)) (a2 : Int) (r1 : (List Int) × (List Int)) : Nat → Int → Option (Except (Int × Int) Unit)
 | 0, _ => none
 | n + 1, y5 =>
  if y5 < (a1.length : Int) then ((geti a1 y5).bind fun x7 =>
  (geti a0.2.1 x7.1).bind fun x9 =>
  (cond x9.1 (chg_on_thing k x9.2) (chg_off_thing k x9.2)).bind fun r10 =>
  (geti a0.1.1 r10).bind fun x11 =>
  ((if x9.1 = true then (if (0 : Int) < x11.2.2.2.2 then ((chkP (0 ≤ x7.1 ∧ x7.1 < 4)).bind fun _ =>
  (geti r1.2 x7.1).bind fun x15 =>
  if x11.2.2.2.2 < x15 then ((cond x9.1 (chg_on_thing k x9.2) (chg_off_thing k x9.2)).bind fun r16 =>
  (chg_set_has k a2 r16).bind fun r17 =>
  some (!r17)) else (some false)) else (some false)) else (some false)) : Option (Bool)).bind fun x12 =>
  if x12 = true then (some (.error (y5, x11.2.2.2.2))) else ((ck (y5 + (1 : Int))).bind fun x18 =>
  chg_quick_late_l1 k a0 a1 a2 r1 n x18)) else (some (.ok ()))
def chg_quick_late (k : Nat) (a0 : (dChange × (List (Bool × Int)) × (List Int))) (a1 : (List dStep)) (a2 : Int) : Option (Int × Int) :=
 (chg_quick_begins k ((a0.1.1, a0.1.2.1, a0.1.2.2.1, a0.1.2.2.2), a0.2.1, a0.2.2) a1).bind fun r1 =>
 bE (α := Unit) (chg_quick_late_l1 k a0 a1 a2 r1 k (0 : Int)) (some) fun _ =>
 some ((-1 : Int), (0 : Int))

theorem chg_quick_late_ok (k : Nat) (a0 : (dChange × (List (Bool × Int)) × (List Int))) (b_a0 : Nat) (m_a0 : Value) (a1 : (List dStep)) (a2 : Int) (r : Int × Int) (h : chg_quick_late k a0 a1 a2 = some r) :
 Ctr Try.prog 52 [Pt b_a0, Rs tStep a1, .eq (.int .u8 a2)] [.obj b_a0 98 (Qq a0 (.eq m_a0))] (fun _ : Unit => (resA [I r.1, I r.2], [.obj b_a0 98 (Qq a0 (.eq m_a0))])) := by
 unfold chg_quick_late at h
 replace h := b_top h
 refine Ctr.of 75 Try.func52 rfl Try.ntmps52 rfl fun S w0 => ?_
 refine sr ?_
 refine cq ?_
 refine cq ?_
 refine nt ?_
 refine sr ?_
 iterate 2 refine mq ?_
 obtain ⟨r1, er1, h⟩ := b_bind h
 have cr1 := chg_quick_begins_ok k ((a0.1.1, a0.1.2.1, a0.1.2.2.1, a0.1.2.2.2), a0.2.1, a0.2.2) b_a0 m_a0 a1 r1 er1
 refine kb (o_call [.tmp 17, .tmp 18] rfl rfl en51 rfl cr1) ?_
 refine mq ?_
 refine xr ?_
 refine xr ?_
 refine JO.s01 rfl rfl rfl (o_alloc rfl za113 al113) trivial fun b2 => ?_
 refine aq ?_
 refine JO.n11 rfl rfl (o_store rfl sz113 rfl rfl rfl) ⟨rfl, rfl, trivial⟩ ?_
 refine nt ?_
 refine JC.cutE (Z := Unit) (α := Unit) (fun z4 x3 => []) (fun z4 x3 => [.obj b_a0 98 (Qq a0 (.eq m_a0))]) (fun e => e = r) h (fun e h => Option.some.inj h) (fun K hR h => ?_) (fun z4 x3 h => ?_)
 ·
  refine sr (mq ?_);refine ol U33 ?_;refine JO.mc rfl ?_;refine nt (JC.block (JC.loopB (Z := Unit) (α := Int) (fun z6 y5 => [(0, Pt b_a0), (2, .eq (.int .u8 a2)), (9, Pt b2), (22, Rs tStep a1), (23, I (a1.length : Int)), (24, I y5)]) (fun z6 y5 => [.obj b_a0 98 (Qq a0 (.eq m_a0)), .obj b2 113 (.rep (.arr 4 (.int .i64)) r1.2)]) (chg_quick_late_l1 k a0 a1 a2 r1) k () (0 : Int) (fun _ => rfl) h (SE.fin [1, 0] ⟨rfl, rfl, rfl, rfl, rfl, rfl, trivial⟩ rfl) (fun n z6 y5 h => ?_)));unfold chg_quick_late_l1 at h;refine sr (jb (o_lss rfl) ?_);refine nt (JC.seq (ci h (fun h => ?_) (fun h => ?_)))
  ·refine sk (JC.seq (JC.block (sr (mq ?_))));obtain ⟨x7, ex7, h⟩ := b_bind h;refine jb (o_index (t := tStep) rfl U33 sz59 ex7) ?_;refine ja (o_load_at (t := tStep) rfl sz59 rfl) ?_;refine JO.s01 rfl rfl rfl (o_alloc rfl za59 al59) trivial fun b8 => ?_;refine aq ?_;refine JO.n11 rfl rfl (o_store rfl sz59 rfl rfl rfl) ⟨rfl, rfl, trivial⟩ ?_;refine nt (JC.seq (JC.drawN ?_));refine dm ?_;refine da (o_nil_obj rfl) ?_;refine da (o_field_obj rfl fo98_1) ?_;refine ea 1 (o_load_obj rfl sz93 nfs rfl) ?_;refine da (o_field_obj rfl fo59_0) ?_;refine ea 0 (o_load_obj rfl sz3 nfs rfl) ?_;refine df mixed ?_;obtain ⟨x9, ex9, h⟩ := b_bind h;refine jb (o_index (t := (.tag 109 111)) rfl U93 sz108 ex9) ?_;refine ja (o_load_at (t := (.tag 109 111)) rfl sz108 rfl) ?_;refine aq (nt (JC.seq ?_));refine JC.drawN ?_;refine dm ?_;refine da (o_nil_obj rfl) ?_;refine da (o_field_obj rfl fo98_0) ?_;refine da (o_field_obj rfl fo26_0) ?_;refine ea 1 (o_load_obj rfl sz23 nfs rfl) ?_;refine dm ?_;obtain ⟨r10, er10, h⟩ := b_bind h;refine DN.s00 rfl rfl rfl (o_invoke rfl rfl mt109_thing mt111_thing (ctr_cond (fun hb => chg_off_thing_ok k x9.2 r10 (by simpa [hb] using er10)) (fun hb => chg_on_thing_ok k x9.2 r10 (by simpa [hb] using er10)))) ⟨rfl, trivial⟩ ?_;refine df mixed ?_;obtain ⟨x11, ex11, h⟩ := b_bind h;refine jb (o_index (t := tThing) rfl U23 sz43 ex11) ?_;refine ja (o_field_at 1 false rfl fo43_4 rfl) ?_;refine ja (o_load_at (t := (.int .i64)) rfl sz3 rfl) ?_;refine aq (nt (sr ?_));refine mq ?_;refine JO.s rfl (o_as1 rfl ta111 (by decide)) ⟨rfl, trivial⟩ ?_;refine mq ?_;refine xr ?_;refine xr ?_;refine aq ?_;refine aq (nt ?_);refine JC.cutB (Z := Unit) (α := Bool) (fun z13 x12 => [(0, Pt b_a0), (2, .eq (.int .u8 a2)), (9, Pt b2), (10, I y5), (13, I x11.2.2.2.2), (22, Rs tStep a1), (23, I (a1.length : Int)), (24, I y5), (71, .eq (.bool x12))]) (fun z13 x12 => [.obj b_a0 98 (Qq a0 (.eq m_a0)), .obj b2 113 (.rep (.arr 4 (.int .i64)) r1.2)]) h (fun K h => ?_) (fun z13 x12 h => ?_)
   ·refine JC.region ?_;iterate 2 refine mq ?_
    refine JO.bool (s := 53) rfl (fun hb => ?_) (fun hb => ?_)
    ·replace h := b_if (v_t hb) h;refine gm ?_;refine gb (o_gtr rfl) ?_;refine pt ?_;refine mq ?_;refine JO.bool (s := 57) rfl (fun hb => ?_) (fun hb => ?_)
     ·replace h := b_if (d_t hb) h;refine ga (o_field_obj rfl fo59_0) ?_;refine JO.g11 rfl rfl rfl rfl rfl rfl (o_load_obj rfl sz3 nfs rfl) ⟨rfl, trivial⟩ ?_;obtain ⟨u14, eu14, h⟩ := b_bind h;refine gb (o_index_arr rfl U113 sz3 (chkP_some eu14).1 (chkP_some eu14).2) ?_;obtain ⟨x15, ex15, h⟩ := b_bind h;refine fr 2 ?_;refine JO.g11 rfl rfl rfl rfl rfl rfl (o_load_arr (t := (.int .i64)) (off := 0) (i := x7.1) (N := 4) rfl sz3 (fun _ => rfl) rfl rfl rfl rfl ex15) ⟨rfl, trivial⟩ ?_;refine gm ?_;refine gb (o_gtr rfl) ?_;refine pt ?_;refine mq ?_;refine JO.bool (s := 65) rfl (fun hb => ?_) (fun hb => ?_)
      ·replace h := b_if (d_t hb) h;refine gm ?_;refine gm ?_;obtain ⟨r16, er16, h⟩ := b_bind h;refine JO.g00 rfl rfl rfl rfl rfl rfl (o_invoke rfl rfl mt109_thing mt111_thing (ctr_cond (fun hb => chg_off_thing_ok k x9.2 r16 (by simpa [hb] using er16)) (fun hb => chg_on_thing_ok k x9.2 r16 (by simpa [hb] using er16)))) ⟨rfl, trivial⟩ ?_;obtain ⟨r17, er17, h⟩ := b_bind h;refine gb (o_call [.tmp 66, .tmp 68] rfl rfl en49 rfl (chg_set_has_ok k a2 r16 r17 er17)) ?_;refine ga (o_not rfl) ?_;refine pt (nl ?_);exact jz ((), !r17) h [2, 0]
      ·replace h := b_ifn (d_f hb) h;iterate 5 refine gn ?_
       refine pf (nl ?_);exact jz ((), false) h [2, 0]
     ·replace h := b_ifn (d_f hb) h;iterate 6 refine gn ?_
      refine pf ?_;refine mq ?_;iterate 5 refine gn ?_
      refine pf (nl ?_);exact jz ((), false) h [1, 2]
    ·replace h := b_ifn (v_f hb) h;iterate 2 refine gn ?_
     refine pf ?_;refine mq ?_;iterate 6 refine gn ?_
     refine pf ?_;refine mq ?_;iterate 5 refine gn ?_
     refine pf (nl ?_);exact jz ((), false) h [1, 2]
   ·refine cv h (fun h => ?_) (fun h => ?_)
    ·refine sr ?_;iterate 2 refine mq ?_
     refine aq ?_;refine aq (nt (JC.ret (br (JN.blk_r (JN.then_r ?_)))));obtain rfl := hR _ h;exact JN.ret () [_, _] 1 ⟨rfl, rfl, trivial⟩ rfl
    ·refine JC.skip (JN.blk_n (tn (JC.region ?_)));obtain ⟨x18, ex18, h⟩ := b_bind h;refine jb (o_add rfl ex18) ?_;refine mq (nl ?_);exact jz ((), x18) h [0, 1]
  ·refine xa ?_;exact jz ((), ()) h [0]
 ·
  refine sr (cq ?_);refine cq (nt (JC.ret ?_));cases h;exact JN.ret () [_, _] 1 ⟨rfl, rfl, trivial⟩ rfl


def chg_Late (k : Nat) (a0 : dChange) (a1 : (List dStep)) : Option (Int × Int × Int) :=
 (chg_asked k a0 a1).bind fun r2 =>
 casesO r2.1 (if ¬ (r2.2 = (0 : Int)) then (some ((0 : Int), (0 : Int), r2.2)) else (none)) (fun q3 => if ¬ (r2.2 = (0 : Int)) then (some ((0 : Int), (0 : Int), r2.2)) else ((chg_quick_late k ((q3.1.1, q3.1.2.1, q3.1.2.2.1, q3.1.2.2.2), q3.2.1, q3.2.2) a1 (0 : Int)).bind fun r5 =>
 some (r5.1, r5.2, (0 : Int))))

theorem chg_Late_ok (k : Nat) (a0 : dChange) (a1 : (List dStep)) (r : Int × Int × Int) (h : chg_Late k a0 a1 = some r) :
 Ctr Try.prog 20 [.rep tChange a0, Rs tStep a1] [] (fun _ : Unit => (resA [I r.1, I r.2.1, I r.2.2], [])) := by
 unfold chg_Late at h
 replace h := b_top h
 refine Ctr.of 28 Try.func20 rfl Try.ntmps20 rfl fun S w0 => ?_
 refine sr ?_
 refine bx fun b1 => ?_
 refine cq ?_
 refine cq ?_
 refine cq ?_
 refine nt ?_
 refine sr ?_
 refine lo sz26 ?_
 refine mq ?_
 obtain ⟨r2, er2, h⟩ := b_bind h
 have cr2 := chg_asked_ok k a0 a1 r2 er2
 rcases hr : r2.1 with _ | q3
 ·
  rw [hr] at h cr2; replace h := co_n h;refine JO.stepG (Δ := []) (F := _) (fun _ _ _ => wanted_none rfl _) rfl rfl (o_call [.tmp 12, .tmp 13] rfl rfl en50 rfl cr2) ⟨rfl, rfl, trivial⟩ fun _ => ?_;refine mq ?_;refine xr ?_;refine xr ?_;refine aq ?_;refine aq (nt (JC.seq (sr ?_)));refine mq ?_;refine jb (o_neq rfl) ?_;refine nt (cn h (fun h => ?_) (fun h => ?_))
  ·refine sr (mq ?_);refine cq ?_;refine cq ?_;refine aq (nt (rx ?_));cases h;exact JN.ret () [_, _, _] 0 ⟨rfl, rfl, rfl, trivial⟩ rfl
  ·refine sk (sr ?_);iterate 2 refine mq ?_
   cases h
 ·
  rw [hr] at h cr2; replace h := co_s h;refine JO.stepG (Δ := []) (F := _) (fun _ _ _ => wanted_none rfl _) rfl rfl (o_call [.tmp 12, .tmp 13] rfl rfl en50 rfl cr2) ⟨rfl, rfl, trivial⟩ fun z4 => ?_;refine mq ?_;refine xr ?_;refine xr ?_;refine aq ?_;refine aq (nt (JC.seq (sr ?_)));refine mq ?_;refine jb (o_neq rfl) ?_;refine nt (cn h (fun h => ?_) (fun h => ?_))
  ·refine sr (mq ?_);refine cq ?_;refine cq ?_;refine aq (nt (rx ?_));cases h;exact JN.ret () [_, _, _] 0 ⟨rfl, rfl, rfl, trivial⟩ rfl
  ·refine sk (sr ?_);iterate 2 refine mq ?_
   obtain ⟨r5, er5, h⟩ := b_bind h;refine kc (o_call [.tmp 21, .tmp 22, .const (.int .u8 (0))] rfl rfl en52 rfl (chg_quick_late_ok k ((q3.1.1, q3.1.2.1, q3.1.2.2.1, q3.1.2.2.2), q3.2.1, q3.2.2) z4.1 (.map (some z4.2)) a1 (0 : Int) r5 er5)) ?_;refine mq ?_;refine xr ?_;refine xr ?_;refine aq ?_;refine aq (nt (sr ?_));iterate 2 refine mq ?_
   refine aq ?_;refine aq ?_;refine cq (nt (JC.ret ?_));cases h;exact JN.ret () [_, _, _] 0 ⟨rfl, rfl, rfl, trivial⟩ rfl


def kit_SameSteps_l1 (k : Nat) (a0 : (List dStep)) (a1 : (List dStep)) : Nat → Int → Option (Except Bool Unit)
 | 0, _ => none
 | n + 1, y3 =>
  if y3 < (a0.length : Int) then ((geti a0 y3).bind fun x5 =>
  (geti a1 y3).bind fun x6 =>
  if ¬ (x5 = x6) then (some (.error false)) else ((ck (y3 + (1 : Int))).bind fun x7 =>
  kit_SameSteps_l1 k a0 a1 n x7)) else (some (.ok ()))
def kit_SameSteps (k : Nat) (a0 : (List dStep)) (a1 : (List dStep)) : Option Bool :=
 if ¬ ((a0.length : Int) = (a1.length : Int)) then (some false) else (bE (α := Unit) (kit_SameSteps_l1 k a0 a1 k (0 : Int)) (some) fun _ =>
 some true)

theorem kit_SameSteps_ok (k : Nat) (a0 : (List dStep)) (a1 : (List dStep)) (r : Bool) (h : kit_SameSteps k a0 a1 = some r) :
 Ctr Try.prog 22 [Rs tStep a0, Rs tStep a1] [] (fun _ : Unit => (resA [.eq (.bool r)], [])) := by
 unfold kit_SameSteps at h
 replace h := b_top h
 refine Ctr.of 26 Try.func22 rfl Try.ntmps22 rfl fun S w0 => ?_
 refine sr ?_
 refine cq ?_
 refine nt ?_
 refine JC.seq ?_
 refine sr ?_
 refine mq ?_
 refine ol U33 ?_
 refine mq ?_
 refine ol U33 ?_
 refine jb (o_neq rfl) ?_
 refine nt ?_
 refine cn h (fun h => ?_) (fun h => ?_)
 ·
  refine sr (cq (nt (rx ?_)));cases h;exact ra
 ·
  refine sk (JC.cutE (Z := Unit) (α := Unit) (fun z2 x1 => []) (fun z2 x1 => []) (fun e => e = r) h (fun e h => Option.some.inj h) (fun K hR h => ?_) (fun z2 x1 h => ?_))
  ·refine sr (cq (nt (JC.block ?_)));refine JC.loopB (Z := Unit) (α := Int) (fun z4 y3 => [(0, Rs tStep a0), (1, Rs tStep a1), (5, I y3)]) (fun z4 y3 => []) (kit_SameSteps_l1 k a0 a1) k () (0 : Int) (fun _ => rfl) h (SE.fin [] ⟨rfl, rfl, rfl, trivial⟩ rfl) (fun n z4 y3 h => ?_);unfold kit_SameSteps_l1 at h;refine JC.seq (sr ?_);iterate 2 refine mq ?_
   refine ol U33 ?_;refine jb (o_lss rfl) ?_;refine nt (ci h (fun h => ?_) (fun h => ?_))
   ·refine sk (JC.seq (JC.block (JC.seq (JC.drawN ?_))));refine dm ?_;refine dm ?_;obtain ⟨x5, ex5, h⟩ := b_bind h;refine db (o_index (t := tStep) rfl U33 sz59 ex5) ?_;refine da (o_load_at (t := tStep) rfl sz59 rfl) ?_;refine dm ?_;refine dm ?_;obtain ⟨x6, ex6, h⟩ := b_bind h;refine db (o_index (t := tStep) rfl U33 sz59 ex6) ?_;refine da (o_load_at (t := tStep) rfl sz59 rfl) ?_;refine df mixed ?_;refine jb (o_neqs rfl eq59 rfl) ?_;refine nt (cn h (fun h => ?_) (fun h => ?_))
    ·refine sr (cq (nt (JC.ret (br (JN.blk_r (JN.then_r ?_))))));obtain rfl := hR _ h;exact ra
    ·refine JC.skip (JN.blk_n (tn (JC.region (mq ?_))));obtain ⟨x7, ex7, h⟩ := b_bind h;refine jb (o_add rfl ex7) ?_;refine aq (nl ?_);exact jz ((), x7) h []
   ·refine xa ?_;exact jz ((), ()) h []
  ·refine sr (cq (nt (JC.ret ?_)));cases h;exact ra


def chg_quick_fewest (k : Nat) (a0 : (dChange × (List (Bool × Int)) × (List Int))) (a1 : (List dDresser)) : Option (Int × Bool) :=
 (chg_begin k (a0.1.1, a1, a0.1.2.2.1, a0.1.2.2.2)).bind fun r2 =>
 casesO r2.1 (if ¬ (r2.2 = (0 : Int)) then (some ((0 : Int), false)) else (none)) (fun q3 => if ¬ (r2.2 = (0 : Int)) then (some ((0 : Int), false)) else ((chg_least k ((q3.1.1, q3.1.2.1, q3.1.2.2.1, q3.1.2.2.2), q3.2.1, q3.2.2)).bind fun r6 =>
 some (r6.2.1, r6.2.2)))

theorem chg_quick_fewest_ok (k : Nat) (a0 : (dChange × (List (Bool × Int)) × (List Int))) (b_a0 : Nat) (m_a0 : Value) (a1 : (List dDresser)) (r : Int × Bool) (h : chg_quick_fewest k a0 a1 = some r) :
 Ctr Try.prog 56 [Pt b_a0, Rs tDresser a1] [.obj b_a0 98 (Qq a0 (.eq m_a0))] (fun _ : Unit => (resA [I r.1, .eq (.bool r.2)], [.obj b_a0 98 (Qq a0 (.eq m_a0))])) := by
 unfold chg_quick_fewest at h
 replace h := b_top h
 refine Ctr.of 36 Try.func56 rfl Try.ntmps56 rfl fun S w0 => ?_
 refine sr ?_
 refine cq ?_
 refine cq ?_
 refine nt ?_
 refine sr ?_
 refine mq ?_
 refine ja (o_nil_obj rfl) ?_
 refine fl fo98_0 ?_
 refine lo sz26 ?_
 refine JO.s01 rfl rfl rfl (o_alloc rfl za26 al26) trivial fun b1 => ?_
 refine JO.n11 rfl rfl (o_store rfl sz26 trivial rfl rfl) ⟨rfl, rfl, trivial⟩ ?_
 refine nt ?_
 refine sr ?_
 refine mq ?_
 refine fl fo26_1 ?_
 refine JO.n11 rfl rfl (o_store rfl sz24 rfl rfl rfl) ⟨rfl, rfl, trivial⟩ ?_
 refine nt ?_
 refine sr ?_
 refine lo sz26 ?_
 obtain ⟨r2, er2, h⟩ := b_bind h
 have cr2 := chg_begin_ok k (a0.1.1, a1, a0.1.2.2.1, a0.1.2.2.2) r2 er2
 rcases hr : r2.1 with _ | q3
 ·
  rw [hr] at h cr2; replace h := co_n h;refine JO.stepG (Δ := []) (F := _) (fun _ _ _ => wanted_none rfl _) rfl rfl (OpT.need (N := [(.tmp 19, .agg (.pair (Rs tThing a0.1.1) (.pair (Rs tDresser a1) (.pair (Ri a0.1.2.2.1) (Ri a0.1.2.2.2)))))]) (o_call [.tmp 19] rfl rfl en34 rfl cr2) fun _ _ _ hn => ⟨(ent_holds (t := tChange) (x := (a0.1.1, a1, a0.1.2.2.1, a0.1.2.2.2)) (.agg (.pair .rep (.pair .rep (.pair .rep .rep)))) trivial rfl hn.1), trivial⟩) ⟨rfl, trivial⟩ fun _ => ?_;refine mq ?_;refine xr ?_;refine xr ?_;refine aq ?_;refine aq (nt (JC.seq (sr ?_)));refine mq ?_;refine jb (o_neq rfl) ?_;refine nt (cn h (fun h => ?_) (fun h => ?_))
  ·refine sr (cq ?_);refine cq (nt (rx ?_));refine JN.se (SE.fin (Γ' := [(4, _), (5, _)]) [1, 0] ⟨rfl, rfl, trivial⟩ rfl) ?_;cases h;exact JN.ret () [_, _] 1 ⟨rfl, rfl, trivial⟩ rfl
  ·refine sk (sr (mq ?_));cases h
 ·
  rw [hr] at h cr2; replace h := co_s h;refine JO.stepG (Δ := []) (F := _) (fun _ _ _ => wanted_none rfl _) rfl rfl (OpT.need (N := [(.tmp 19, .agg (.pair (Rs tThing a0.1.1) (.pair (Rs tDresser a1) (.pair (Ri a0.1.2.2.1) (Ri a0.1.2.2.2)))))]) (o_call [.tmp 19] rfl rfl en34 rfl cr2) fun _ _ _ hn => ⟨(ent_holds (t := tChange) (x := (a0.1.1, a1, a0.1.2.2.1, a0.1.2.2.2)) (.agg (.pair .rep (.pair .rep (.pair .rep .rep)))) trivial rfl hn.1), trivial⟩) ⟨rfl, trivial⟩ fun z4 => ?_;refine mq ?_;refine xr ?_;refine xr ?_;refine aq ?_;refine aq (nt (JC.seq (sr ?_)));refine mq ?_;refine jb (o_neq rfl) ?_;refine nt (cn h (fun h => ?_) (fun h => ?_))
  ·refine sr (cq ?_);refine cq (nt (rx ?_));refine JN.se (SE.fin (Γ' := [(4, _), (5, _)]) [3, 0, 1, 2] ⟨rfl, rfl, trivial⟩ rfl) ?_;cases h;exact JN.ret () [_, _] 1 ⟨rfl, rfl, trivial⟩ rfl
  ·refine sk (sr (mq ?_));refine JO.s01 rfl rfl rfl (o_call [.tmp 26] rfl rfl en36 rfl (chg_quick_plans_ok z4.1)) ⟨rfl, trivial⟩ fun b5 => ?_;refine mq ?_;refine ja (o_mkfn [.tmp 28] [] [(.pointer (some ⟨z4.1, 0, none⟩))] [] rfl rfl rfl) ?_;refine fr 2 ?_;refine JO.se (SE.rawInv (Known k ((q3.1.1, q3.1.2.1, q3.1.2.2.1, q3.1.2.2.2), q3.2.1, q3.2.2)) known_nil) ?_;obtain ⟨r6, er6, h⟩ := b_bind h;refine fr 1 ?_;refine fr 1 ?_;refine fr 2 ?_;refine JO.stepG (Δ := [_, _, _]) (F := _) (fun _ _ _ => wanted_none rfl _) rfl rfl (o_call [.tmp 27, .tmp 29] rfl rfl en35 rfl (chg_least_ok k ((q3.1.1, q3.1.2.1, q3.1.2.2.1, q3.1.2.2.2), q3.2.1, q3.2.2) z4.1 z4.2 b5 r6 er6)) ⟨rfl, rfl, trivial⟩ fun _ => ?_;refine mq ?_;refine xr ?_;refine xr ?_;refine xr ?_;refine aq ?_;refine aq ?_;refine aq (nt (sr ?_));iterate 2 refine mq ?_
   refine aq ?_;refine aq (nt (JC.ret ?_));refine JN.se (SE.fin (Γ' := [(4, _), (5, _)]) [4, 0, 1, 2, 3] ⟨rfl, rfl, trivial⟩ rfl) ?_;cases h;exact JN.ret () [_, _] 1 ⟨rfl, rfl, trivial⟩ rfl


def chg_quick_fewestF (k : Nat) (a0 : dquick) (a1 : (List dDresser)) : Option (Int × Bool) :=
 (chg_begin k (a0.1.1, a1, a0.1.2.2)).bind fun r2 =>
 casesO r2.1 (if ¬ (r2.2 = (0 : Int)) then (some ((0 : Int), false)) else (none)) (fun q3 => if ¬ (r2.2 = (0 : Int)) then (some ((0 : Int), false)) else ((chg_least k ((q3.1.1, q3.1.2.1, q3.1.2.2.1, q3.1.2.2.2), q3.2.1, q3.2.2)).bind fun r6 =>
 some (r6.2.1, r6.2.2)))

theorem chg_quick_fewestF_ok (k : Nat) (a0 : dquick) (a1 : (List dDresser)) (r : Int × Bool) (h : chg_quick_fewestF k a0 a1 = some r) :
 Ctr Try.prog 56 [.at tquick a0, Rs tDresser a1] [] (fun _ : Unit => (resA [I r.1, .eq (.bool r.2)], [])) := by
 unfold chg_quick_fewestF at h
 replace h := b_top h
 refine Ctr.of 36 Try.func56 rfl Try.ntmps56 rfl fun S w0 => ?_
 refine sr ?_
 refine cq ?_
 refine cq ?_
 refine nt ?_
 refine sr ?_
 refine mq ?_
 refine ja (o_nil_at rfl) ?_
 refine ja (o_field_at 4 true rfl fo98_0 rfl) ?_
 refine ja (o_load_at (t := tChange) rfl sz26 rfl) ?_
 refine JO.s01 rfl rfl rfl (o_alloc rfl za26 al26) trivial fun b1 => ?_
 refine JO.n11 rfl rfl (o_store rfl sz26 rfl rfl rfl) ⟨rfl, rfl, trivial⟩ ?_
 refine nt ?_
 refine sr ?_
 refine mq ?_
 refine fl fo26_1 ?_
 refine JO.n11 rfl rfl (o_store rfl sz24 rfl rfl rfl) ⟨rfl, rfl, trivial⟩ ?_
 refine nt ?_
 refine sr ?_
 refine lo sz26 ?_
 obtain ⟨r2, er2, h⟩ := b_bind h
 have cr2 := chg_begin_ok k (a0.1.1, a1, a0.1.2.2) r2 er2
 rcases hr : r2.1 with _ | q3
 ·
  rw [hr] at h cr2; replace h := co_n h;refine JO.stepG (Δ := []) (F := _) (fun _ _ _ => wanted_none rfl _) rfl rfl (OpT.need (N := [(.tmp 19, .agg (.pair (Rs tThing a0.1.1) (.pair (Rs tDresser a1) (.rep (.pair (.slice (.int .i64)) (.slice (.int .i64))) a0.1.2.2))))]) (o_call [.tmp 19] rfl rfl en34 rfl cr2) fun _ _ _ hn => ⟨(ent_holds (t := tChange) (x := (a0.1.1, a1, a0.1.2.2)) (.agg (.pair .rep (.pair .rep .rep))) trivial rfl hn.1), trivial⟩) ⟨rfl, trivial⟩ fun _ => ?_;refine mq ?_;refine xr ?_;refine xr ?_;refine aq ?_;refine aq (nt (JC.seq (sr ?_)));refine mq ?_;refine jb (o_neq rfl) ?_;refine nt (cn h (fun h => ?_) (fun h => ?_))
  ·refine sr (cq ?_);refine cq (nt (rx ?_));cases h;exact rb
  ·refine sk (sr (mq ?_));cases h
 ·
  rw [hr] at h cr2; replace h := co_s h;refine JO.stepG (Δ := []) (F := _) (fun _ _ _ => wanted_none rfl _) rfl rfl (OpT.need (N := [(.tmp 19, .agg (.pair (Rs tThing a0.1.1) (.pair (Rs tDresser a1) (.rep (.pair (.slice (.int .i64)) (.slice (.int .i64))) a0.1.2.2))))]) (o_call [.tmp 19] rfl rfl en34 rfl cr2) fun _ _ _ hn => ⟨(ent_holds (t := tChange) (x := (a0.1.1, a1, a0.1.2.2)) (.agg (.pair .rep (.pair .rep .rep))) trivial rfl hn.1), trivial⟩) ⟨rfl, trivial⟩ fun z4 => ?_;refine mq ?_;refine xr ?_;refine xr ?_;refine aq ?_;refine aq (nt (JC.seq (sr ?_)));refine mq ?_;refine jb (o_neq rfl) ?_;refine nt (cn h (fun h => ?_) (fun h => ?_))
  ·refine sr (cq ?_);refine cq (nt (rx ?_));cases h;exact rb
  ·refine sk (sr (mq ?_));refine JO.s01 rfl rfl rfl (o_call [.tmp 26] rfl rfl en36 rfl (chg_quick_plans_ok z4.1)) ⟨rfl, trivial⟩ fun b5 => ?_;refine mq ?_;refine ja (o_mkfn [.tmp 28] [] [(.pointer (some ⟨z4.1, 0, none⟩))] [] rfl rfl rfl) ?_;refine fr 2 ?_;refine JO.se (SE.rawInv (Known k ((q3.1.1, q3.1.2.1, q3.1.2.2.1, q3.1.2.2.2), q3.2.1, q3.2.2)) known_nil) ?_;obtain ⟨r6, er6, h⟩ := b_bind h;refine fr 1 ?_;refine fr 1 ?_;refine fr 2 ?_;refine JO.stepG (Δ := [_, _, _]) (F := _) (fun _ _ _ => wanted_none rfl _) rfl rfl (o_call [.tmp 27, .tmp 29] rfl rfl en35 rfl (chg_least_ok k ((q3.1.1, q3.1.2.1, q3.1.2.2.1, q3.1.2.2.2), q3.2.1, q3.2.2) z4.1 z4.2 b5 r6 er6)) ⟨rfl, rfl, trivial⟩ fun _ => ?_;refine mq ?_;refine xr ?_;refine xr ?_;refine xr ?_;refine aq ?_;refine aq ?_;refine aq (nt (sr ?_));iterate 2 refine mq ?_
   refine aq ?_;refine aq (nt (JC.ret ?_));cases h;exact rb


def chg_Spare_j1 (k : Nat) (a1 : Int) (q3 : (dChange × (List (Bool × Int)) × (List Int))) (r8 : (List dStep) × Int × Bool) : Nat → (Int × (List dDresser)) → Option (Int × Int)
 | 0, _ => none
 | n + 1, y11 =>
  (geti y11.2 a1).bind fun x13 =>
  (chg_quick_fewestF k ((q3.1.1, q3.1.2.1, q3.1.2.2.1, q3.1.2.2.2), q3.2.1, q3.2.2, ()) (List.set y11.2 (Int.toNat a1) (x13.1, x13.2.1, y11.1))).bind fun r14 =>
  if r8.2.1 < r14.1 then ((ck (y11.1 - (1 : Int))).bind fun x15 =>
  chg_Spare_j1 k a1 q3 r8 n (x15, List.set y11.2 (Int.toNat a1) (x13.1, x13.2.1, y11.1))) else (some (y11.1, (0 : Int)))
def chg_Spare (k : Nat) (a0 : dChange) (a1 : Int) : Option (Int × Int) :=
 (chg_begin k a0).bind fun r2 =>
 casesO r2.1 (if ¬ (r2.2 = (0 : Int)) then (some ((0 : Int), r2.2)) else (none)) (fun q3 => if ¬ (r2.2 = (0 : Int)) then (some ((0 : Int), r2.2)) else ((ck ((q3.1.2.1.length : Int) - (1 : Int))).bind fun x5 =>
 (chg_outside k a1 (0 : Int) x5).bind fun r6 =>
 if r6 = true then (some ((0 : Int), (3 : Int))) else ((chg_least k ((q3.1.1, q3.1.2.1, q3.1.2.2.1, q3.1.2.2.2), q3.2.1, q3.2.2)).bind fun r8 =>
 if ¬ (r8.2.2 = true) then (some ((0 : Int), (11 : Int))) else ((slc_Clone_Dresser k q3.1.2.1).bind fun r9 =>
 chg_Spare_j1 k a1 q3 r8 k ((9 : Int), r9)))))

theorem chg_Spare_ok (k : Nat) (a0 : dChange) (a1 : Int) (r : Int × Int) (h : chg_Spare k a0 a1 = some r) :
 Ctr Try.prog 24 [.rep tChange a0, I a1] [] (fun _ : Unit => (resA [I r.1, I r.2], [])) := by
 unfold chg_Spare at h
 replace h := b_top h
 refine Ctr.of 66 Try.func24 rfl Try.ntmps24 rfl fun S w0 => ?_
 refine sr ?_
 refine bx fun b1 => ?_
 refine cq ?_
 refine cq ?_
 refine nt ?_
 refine JC.scopeS rfl (fl_miss (by kernel_rfl) (fl_miss (by kernel_rfl) (fl_miss (by kernel_rfl) (fl_miss (by kernel_rfl) (fl_miss (by kernel_rfl) (fl_miss (by kernel_rfl) (fl_miss (by kernel_rfl) (fl_hit fl_lab)))))))) ?_
 refine sr ?_
 refine lo sz26 ?_
 obtain ⟨r2, er2, h⟩ := b_bind h
 have cr2 := chg_begin_ok k a0 r2 er2
 rcases hr : r2.1 with _ | q3
 ·
  rw [hr] at h cr2; replace h := co_n h;refine JO.stepG (Δ := []) (F := _) (fun _ _ _ => wanted_none rfl _) rfl rfl (o_call [.tmp 16] rfl rfl en34 rfl cr2) ⟨rfl, trivial⟩ fun _ => ?_;refine mq ?_;refine xr ?_;refine xr ?_;refine aq ?_;refine aq (nt (JC.seq (sr ?_)));refine mq ?_;refine jb (o_neq rfl) ?_;refine nt (cn h (fun h => ?_) (fun h => ?_))
  ·refine sr (mq ?_);refine cq ?_;refine aq (nt (rx ?_));refine JN.jmp_r ?_;cases h;exact rb
  ·refine sk (JC.seq (sr ?_));iterate 2 refine mq ?_
   cases h
 ·
  rw [hr] at h cr2; replace h := co_s h;refine JO.stepG (Δ := []) (F := _) (fun _ _ _ => wanted_none rfl _) rfl rfl (o_call [.tmp 16] rfl rfl en34 rfl cr2) ⟨rfl, trivial⟩ fun z4 => ?_;refine mq ?_;refine xr ?_;refine xr ?_;refine aq ?_;refine aq (nt (JC.seq (sr ?_)));refine mq ?_;refine jb (o_neq rfl) ?_;refine nt (cn h (fun h => ?_) (fun h => ?_))
  ·refine sr (mq ?_);refine cq ?_;refine aq (nt (rx ?_));refine JN.jmp_r ?_;cases h;exact rb
  ·refine sk (JC.seq (sr ?_));iterate 2 refine mq ?_
   refine ja (o_nil_obj rfl) ?_;refine fl fo98_0 ?_;refine fl fo26_1 ?_;refine lo sz24 ?_;refine ol U24 ?_;obtain ⟨x5, ex5, h⟩ := b_bind h;refine jb (o_sub rfl ex5) ?_;obtain ⟨r6, er6, h⟩ := b_bind h;refine jc (o_call [.tmp 23, .const (.int .i64 (0)), .tmp 30] rfl rfl en46 rfl (chg_outside_ok k a1 (0 : Int) x5 r6 er6)) ?_;refine nt (cv h (fun h => ?_) (fun h => ?_))
   ·refine sr (cq ?_);refine cq (nt (rx ?_));refine JN.jmp_r ?_;cases h;exact rb
   ·refine sk (sr (mq ?_));refine JO.s01 rfl rfl rfl (o_call [.tmp 33] rfl rfl en36 rfl (chg_quick_plans_ok z4.1)) ⟨rfl, trivial⟩ fun b7 => ?_;refine mq ?_;refine ja (o_mkfn [.tmp 35] [] [(.pointer (some ⟨z4.1, 0, none⟩))] [] rfl rfl rfl) ?_;refine fr 2 ?_;refine JO.se (SE.rawInv (Known k ((q3.1.1, q3.1.2.1, q3.1.2.2.1, q3.1.2.2.2), q3.2.1, q3.2.2)) known_nil) ?_;obtain ⟨r8, er8, h⟩ := b_bind h;refine fr 1 ?_;refine fr 1 ?_;refine fr 2 ?_;refine JO.stepG (Δ := [_, _, _]) (F := _) (fun _ _ _ => wanted_none rfl _) rfl rfl (o_call [.tmp 34, .tmp 36] rfl rfl en35 rfl (chg_least_ok k ((q3.1.1, q3.1.2.1, q3.1.2.2.1, q3.1.2.2.2), q3.2.1, q3.2.2) z4.1 z4.2 b7 r8 er8)) ⟨rfl, rfl, trivial⟩ fun _ => ?_;refine mq ?_;refine xr ?_;refine xr ?_;refine xr ?_;refine aq ?_;refine aq ?_;refine aq (nt (JC.seq (sr ?_)));refine mq ?_;refine ja (o_not rfl) ?_;refine nt (cw h (fun h => ?_) (fun h => ?_))
    ·refine sr (cq ?_);refine cq (nt (rx ?_));refine JN.jmp_r ?_;cases h;exact rb
    ·refine sk (sr (cq (nt (sr ?_))));refine mq ?_;refine ja (o_nil_obj rfl) ?_;refine fl fo98_0 ?_;refine fl fo26_1 ?_;refine lo sz24 ?_;obtain ⟨r9, er9, h⟩ := b_bind h;refine JO.s01 rfl rfl rfl (o_call [.tmp 47] rfl rfl en55 rfl (slc_Clone_Dresser_ok k q3.1.2.1 r9 er9)) ⟨rfl, trivial⟩ fun v10 => ?_;refine aq (nt (JC.seq ?_));refine JC.label ?_;refine tn (JC.front 1 rfl ?_);refine JC.se (SE.frzObj (t := tquick) (x := ((q3.1.1, q3.1.2.1, q3.1.2.2.1, q3.1.2.2.2), q3.2.1, q3.2.2, ())) [6, 18, 24, 25, 26, 33, 35, 43, 44, 45] (.agg (.pair (.agg (.pair .rep (.pair .rep (.pair .rep .rep)))) (.pair .rep (.pair .rep (.ign rfl))))) ⟨rfl, rfl, rfl, rfl, rfl, rfl, rfl, rfl, rfl, rfl, trivial⟩) ?_;refine JC.atLabel (Z := Unit) (α := Int × (List dDresser)) rfl (fun z12 y11 => [(1, I a1), (6, .at tquick ((q3.1.1, q3.1.2.1, q3.1.2.2.1, q3.1.2.2.2), q3.2.1, q3.2.2, ())), (9, I r8.2.1), (11, I y11.1), (12, .eq v10)]) (fun z12 y11 => [.sl v10 38 tDresser y11.2, .inv z4.2 (Known k ((q3.1.1, q3.1.2.1, q3.1.2.2.1, q3.1.2.2.2), q3.2.1, q3.2.2))]) (chg_Spare_j1 k a1 q3 r8) k () ((9 : Int), r9) (fun _ => rfl) h (SE.fin [0, 1] ⟨rfl, rfl, rfl, rfl, rfl, trivial⟩ rfl) (fun n z12 y11 h => ?_);unfold chg_Spare_j1 at h;refine sr ?_;iterate 3 refine mq ?_
     obtain ⟨x13, ex13, h⟩ := b_bind h;refine kb (o_index_own (t := tDresser) rfl U24 sz38 ex13) ?_;refine ka (o_field_el rfl fo38_2 (geti_ne ex13)) ?_;refine JO.n11 rfl rfl (o_store_el (i := Int.toNat a1) (off := 2) rfl sz3 rfl (geti_some ex13).2.2 .int rfl (.agg (.right (.right .whole rfl) rfl))) ⟨rfl, rfl, trivial⟩ ?_;refine nt (JC.seq (sr ?_));iterate 2 refine mq ?_
     obtain ⟨r14, er14, h⟩ := b_bind h;refine kb (OpT.borrow (N := [(.tmp 55, .at tquick ((q3.1.1, q3.1.2.1, q3.1.2.2.1, q3.1.2.2.2), q3.2.1, q3.2.2, ())), (.tmp 56, .eq v10)]) (o_call [.tmp 55, .tmp 56] rfl rfl en56 rfl (chg_quick_fewestF_ok k ((q3.1.1, q3.1.2.1, q3.1.2.2.1, q3.1.2.2.2), q3.2.1, q3.2.2, ()) (List.set y11.2 (Int.toNat a1) (x13.1, x13.2.1, y11.1)) r14 er14)) (fun _ _ _ hv hn => ⟨hn.1, (lend hn.2.1 hv), trivial⟩) (fun _ => ⟨rfl, flat_nil⟩)) ?_;refine mq ?_;refine xr ?_;refine xr ?_;refine aq ?_;refine aq (nt (sr ?_));iterate 2 refine mq ?_
     refine jb (o_gtr rfl) ?_;refine nt (ci h (fun h => ?_) (fun h => ?_))
     ·refine sr (mq ?_);obtain ⟨x15, ex15, h⟩ := b_bind h;refine jb (o_sub rfl ex15) ?_;refine aq (nt ?_);refine JC.goto ?_;refine JN.then_g ?_;exact JN.jmpz ((), (x15, List.set y11.2 (Int.toNat a1) (x13.1, x13.2.1, y11.1))) h (SE.fin [0, 1] ⟨rfl, rfl, rfl, rfl, rfl, trivial⟩ rfl)
     ·refine sk (sr (mq ?_));refine aq ?_;refine cq (nt (JC.ret ?_));refine JN.jmp_r ?_;cases h;exact rb


def slc_Clone_int (k : Nat) (a0 : List Int) : Option (List Int) :=
 (chkP (okLen (List.length a0))).bind fun _ => some a0

theorem slc_Clone_int_ok (k : Nat) (a0 : List Int) (r : List Int) (h : slc_Clone_int k a0 = some r) :
 Ctr Try.prog 58 [Ri a0] [] (fun z : Value => (resA [.eq z], [.sl z 3 (.int .i64) r])) := by
 unfold slc_Clone_int at h
 replace h := b_top h
 refine Ctr.of 8 Try.func58 rfl Try.ntmps58 rfl fun S w0 => ?_
 obtain ⟨u1, eu1, h⟩ := b_bind h
 cases h
 refine sr ?_
 refine cq ?_
 refine nt ?_
 refine JC.seq ?_
 refine sr ?_
 refine mq ?_
 refine JO.stepG (Δ := []) (F := _) (fun _ _ _ => wanted_none rfl _) rfl rfl (o_eqnil rfl U22) ⟨rfl, rfl, trivial⟩ fun b => ?_
 refine nt ?_
 refine JC.cond rfl (fun hb => ?_) (fun hb => ?_)
 ·
  refine sr (cq (nt (rx ?_)));obtain rfl := b.2 hb;refine JN.se (SE.nil 3 (.int .i64)) ?_;exact JN.ret (.slice none 0 0) [.eq (.slice none 0 0)] 1 ⟨rfl, trivial⟩ rfl
 ·
  refine sk (sr (JO.s01 rfl rfl rfl (o_litB_own (t := (.int .i64)) [] [] rfl rfl sl22 .nil rfl rfl) trivial fun v1 => ?_));refine mq ?_;refine JO.s1x rfl rfl rfl (o_append rfl rfl sl22 (by simpa using chkP_some eu1)) ⟨rfl, rfl, trivial⟩ fun v2 => ?_;refine aq (nt (JC.ret ?_));exact JN.ret v2 [.eq v2] 1 ⟨rfl, trivial⟩ rfl


def cmp_isNaN (k : Nat) (a0 : Int) : Option Bool :=
 some (!decide (a0 = a0))

theorem cmp_isNaN_ok (k : Nat) (a0 : Int) (r : Bool) (h : cmp_isNaN k a0 = some r) :
 Ctr Try.prog 97 [I a0] [] (fun _ : Unit => (resA [.eq (.bool r)], [])) := by
 unfold cmp_isNaN at h
 replace h := b_top h
 refine Ctr.of 6 Try.func97 rfl Try.ntmps97 rfl fun S w0 => ?_
 refine sr ?_
 refine cq ?_
 refine nt ?_
 refine sr ?_
 iterate 2 refine mq ?_
 refine jb (o_neq rfl) ?_
 refine aq ?_
 refine nt ?_
 refine JC.ret ?_
 cases h
 exact ra


def cmp_Less (k : Nat) (a0 : Int) (a1 : Int) : Option Bool :=
 (((cmp_isNaN k a0).bind fun r3 =>
 if r3 = true then ((cmp_isNaN k a1).bind fun r4 =>
 if ¬ (r4 = true) then (some true) else (some (decide (a0 < a1)))) else (some (decide (a0 < a1)))) : Option (Bool)).bind fun x1 =>
 some x1

theorem cmp_Less_ok (k : Nat) (a0 : Int) (a1 : Int) (r : Bool) (h : cmp_Less k a0 a1 = some r) :
 Ctr Try.prog 87 [I a0, I a1] [] (fun _ : Unit => (resA [.eq (.bool r)], [])) := by
 unfold cmp_Less at h
 replace h := b_top h
 refine Ctr.of 17 Try.func87 rfl Try.ntmps87 rfl fun S w0 => ?_
 refine sr ?_
 refine cq ?_
 refine nt ?_
 refine JC.cutB (Z := Unit) (α := Bool) (fun z2 x1 => [(4, .eq (.bool x1))]) (fun z2 x1 => []) h (fun K h => ?_) (fun z2 x1 h => ?_)
 ·
  refine JC.region (mq ?_);obtain ⟨r3, er3, h⟩ := b_bind h;refine ja (o_call [.tmp 5] rfl rfl en97 rfl (cmp_isNaN_ok k a0 r3 er3)) ?_;refine mq ?_;refine JO.bool (s := 7) rfl (fun hb => ?_) (fun hb => ?_)
  ·replace h := b_if (v_t hb) h;refine gm ?_;obtain ⟨r4, er4, h⟩ := b_bind h;refine ga (o_call [.tmp 8] rfl rfl en97 rfl (cmp_isNaN_ok k a1 r4 er4)) ?_;refine ga (o_not rfl) ?_;refine pt ?_;refine mq ?_;refine JO.bool (s := 12) rfl (fun hb => ?_) (fun hb => ?_)
   ·replace h := b_if (nv_t hb) h;iterate 3 refine gn ?_
    refine pt ?_;refine aq (nl ?_);exact jz ((), true) h []
   ·replace h := b_ifn (nv_fn hb) h;refine gm ?_;refine gm ?_;refine gb (o_lss rfl) ?_;refine pf ?_;refine aq (nl ?_);exact jz ((), decide (a0 < a1)) h []
  ·replace h := b_ifn (v_f hb) h;iterate 3 refine gn ?_
   refine pf ?_;refine mq ?_;refine gm ?_;refine gm ?_;refine gb (o_lss rfl) ?_;refine pf ?_;refine aq (nl ?_);exact jz ((), decide (a0 < a1)) h []
 ·
  refine JC.ret ?_;cases h;exact ra


def slc_insertionSortOrdered_l2 (k : Nat) (a1 : Int) : Nat → ((List Int) × Int) → Option (List Int)
 | 0, _ => none
 | n + 1, y6 =>
  ((if a1 < y6.2 then ((geti y6.1 y6.2).bind fun x10 =>
  (ck (y6.2 - (1 : Int))).bind fun x11 =>
  (geti y6.1 x11).bind fun x12 =>
  (cmp_Less k x10 x12).bind fun r13 =>
  some r13) else (some false)) : Option (Bool)).bind fun x8 =>
  if x8 = true then ((ck (y6.2 - (1 : Int))).bind fun x14 =>
  (ck (y6.2 - (1 : Int))).bind fun x15 =>
  (geti y6.1 x15).bind fun x16 =>
  (geti y6.1 y6.2).bind fun x17 =>
  (geti y6.1 y6.2).bind fun x18 =>
  (geti (List.set y6.1 (Int.toNat y6.2) x16) x14).bind fun x19 =>
  (ck (y6.2 - (1 : Int))).bind fun x20 =>
  slc_insertionSortOrdered_l2 k a1 n (List.set (List.set y6.1 (Int.toNat y6.2) x16) (Int.toNat x14) x17, x20)) else (some y6.1)

def slc_insertionSortOrdered_l1 (k : Nat) (a1 : Int) (a2 : Int) : Nat → ((List Int) × Int) → Option (List Int)
 | 0, _ => none
 | n + 1, y2 =>
  if y2.2 < a2 then (((slc_insertionSortOrdered_l2 k a1 k (y2.1, y2.2)) : Option ((List Int))).bind fun x4 =>
  (ck (y2.2 + (1 : Int))).bind fun x21 =>
  slc_insertionSortOrdered_l1 k a1 a2 n (x4, x21)) else (some y2.1)
def slc_insertionSortOrdered (k : Nat) (a0 : (List Int)) (a1 : Int) (a2 : Int) : Option (List Int) :=
 (ck (a1 + (1 : Int))).bind fun x1 =>
 slc_insertionSortOrdered_l1 k a1 a2 k (a0, x1)

theorem slc_insertionSortOrdered_ok (k : Nat) (a0 : (List Int)) (v_a0 : Value) (a1 : Int) (a2 : Int) (r : (List Int)) (h : slc_insertionSortOrdered k a0 a1 a2 = some r) :
 Ctr Try.prog 81 [.eq v_a0, I a1, I a2] [.sl v_a0 3 (.int .i64) a0] (fun _ : Unit => (resA [], [.sl v_a0 3 (.int .i64) r])) := by
 unfold slc_insertionSortOrdered at h
 replace h := b_top h
 refine Ctr.of 49 Try.func81 rfl Try.ntmps81 rfl fun S w0 => ?_
 refine sr ?_
 refine mq ?_
 obtain ⟨x1, ex1, h⟩ := b_bind h
 refine jb (o_add rfl ex1) ?_
 refine aq ?_
 refine nt ?_
 refine JC.block ?_
 refine JC.loopB (Z := Unit) (α := (List Int) × Int) (fun z3 y2 => [(0, .eq v_a0), (1, I a1), (2, I a2), (6, I y2.2)]) (fun z3 y2 => [.sl v_a0 3 (.int .i64) y2.1]) (slc_insertionSortOrdered_l1 k a1 a2) k () (a0, x1) (fun _ => rfl) h (SE.fin [0] ⟨rfl, rfl, rfl, rfl, trivial⟩ rfl) (fun n z3 y2 h => ?_)
 unfold slc_insertionSortOrdered_l1 at h
 refine JC.seq ?_
 refine sr ?_
 iterate 2 refine mq ?_
 refine jb (o_lss rfl) ?_
 refine nt ?_
 refine ci h (fun h => ?_) (fun h => ?_)
 ·
  refine sk (JC.cutB (Z := Unit) (α := (List Int)) (fun z5 x4 => [(0, .eq v_a0), (1, I a1), (2, I a2), (6, I y2.2)]) (fun z5 x4 => [.sl v_a0 3 (.int .i64) x4]) h (fun K h => ?_) (fun z5 x4 h => ?_))
  ·refine JC.block (sr (mq ?_));refine aq (nt (JC.block ?_));refine JC.loopB (Z := Unit) (α := (List Int) × Int) (fun z7 y6 => [(0, .eq v_a0), (1, I a1), (2, I a2), (6, I y2.2), (7, I y6.2)]) (fun z7 y6 => [.sl v_a0 3 (.int .i64) y6.1]) (slc_insertionSortOrdered_l2 k a1) k () (y2.1, y2.2) (fun _ => rfl) h (SE.fin [0] ⟨rfl, rfl, rfl, rfl, rfl, trivial⟩ rfl) (fun n z7 y6 h => ?_);unfold slc_insertionSortOrdered_l2 at h;refine JC.seq (JC.cutB (Z := Unit) (α := Bool) (fun z9 x8 => [(0, .eq v_a0), (1, I a1), (2, I a2), (6, I y2.2), (7, I y6.2), (30, .eq (.bool x8))]) (fun z9 x8 => [.sl v_a0 3 (.int .i64) y6.1]) h (fun K h => ?_) (fun z9 x8 h => ?_))
   ·refine JC.drawN ?_;refine dm ?_;refine dm ?_;refine db (o_gtr rfl) ?_;refine DN.fork rfl rfl rfl (o_move rfl) ⟨rfl, trivial⟩ (fun hb => ?_) (fun hb => ?_)
    ·replace h := b_if (d_t hb) h;refine DN.sg00 rfl rfl rfl rfl rfl (o_move rfl) ⟨rfl, rfl, trivial⟩ ?_;refine DN.sg00 rfl rfl rfl rfl rfl (o_move rfl) ⟨rfl, rfl, trivial⟩ ?_;obtain ⟨x10, ex10, h⟩ := b_bind h;refine DN.sg11 0 rfl rfl rfl rfl rfl rfl (o_index_own (t := (.int .i64)) rfl U22 sz3 ex10) ⟨rfl, rfl, rfl, trivial⟩ ?_;refine DN.sg11 0 rfl rfl rfl rfl rfl rfl (o_load_el (i := Int.toNat y6.2) (off := 0) rfl sz3 (fun _ => rfl) rfl (geti_some ex10).2.2 rfl) ⟨rfl, rfl, trivial⟩ ?_;refine DN.sg00 rfl rfl rfl rfl rfl (o_move rfl) ⟨rfl, rfl, trivial⟩ ?_;refine DN.sg00 rfl rfl rfl rfl rfl (o_move rfl) ⟨rfl, rfl, trivial⟩ ?_;obtain ⟨x11, ex11, h⟩ := b_bind h;refine DN.sg00 rfl rfl rfl rfl rfl (o_sub rfl ex11) ⟨rfl, rfl, rfl, trivial⟩ ?_;obtain ⟨x12, ex12, h⟩ := b_bind h;refine DN.sg11 0 rfl rfl rfl rfl rfl rfl (o_index_own (t := (.int .i64)) rfl U22 sz3 ex12) ⟨rfl, rfl, rfl, trivial⟩ ?_;refine DN.sg11 0 rfl rfl rfl rfl rfl rfl (o_load_el (i := Int.toNat x11) (off := 0) rfl sz3 (fun _ => rfl) rfl (geti_some ex12).2.2 rfl) ⟨rfl, rfl, trivial⟩ ?_;refine df mixed ?_;obtain ⟨r13, er13, h⟩ := b_bind h;refine gb (o_call [.tmp 23, .tmp 28] rfl rfl en87 rfl (cmp_Less_ok k x10 x12 r13 er13)) ?_;refine pt (nl ?_);exact jz ((), r13) h [0]
    ·replace h := b_ifn (d_f hb) h;iterate 9 refine dg ?_
     refine df mixed ?_;refine gn ?_;refine pf (nl ?_);exact jz ((), false) h [0]
   ·refine cv h (fun h => ?_) (fun h => ?_)
    ·refine sk (JC.seq (JC.block (JC.drawW ?_)));refine DW.t00 rfl rfl rfl (o_move rfl) ⟨rfl, trivial⟩ ?_;refine DW.t00 rfl rfl rfl (o_move rfl) ⟨rfl, trivial⟩ ?_;refine DW.t00 rfl rfl rfl (o_move rfl) ⟨rfl, trivial⟩ ?_;refine DW.t00 rfl rfl rfl (o_move rfl) ⟨rfl, trivial⟩ ?_;obtain ⟨x14, ex14, h⟩ := b_bind h;refine DW.t00 rfl rfl rfl (o_sub rfl ex14) ⟨rfl, rfl, trivial⟩ ?_;refine DW.t00 rfl rfl rfl (o_move rfl) ⟨rfl, trivial⟩ ?_;refine DW.t00 rfl rfl rfl (o_move rfl) ⟨rfl, trivial⟩ ?_;obtain ⟨x15, ex15, h⟩ := b_bind h;refine DW.t00 rfl rfl rfl (o_sub rfl ex15) ⟨rfl, rfl, trivial⟩ ?_;obtain ⟨x16, ex16, h⟩ := b_bind h;refine DW.t11 0 rfl rfl rfl rfl (o_index_own (t := (.int .i64)) rfl U22 sz3 ex16) ⟨rfl, rfl, trivial⟩ ?_;refine DW.t11 0 rfl rfl rfl rfl (o_load_el (i := Int.toNat x15) (off := 0) rfl sz3 (fun _ => rfl) rfl (geti_some ex16).2.2 rfl) ⟨rfl, trivial⟩ ?_;refine DW.t00 rfl rfl rfl (o_move rfl) ⟨rfl, trivial⟩ ?_;refine DW.t00 rfl rfl rfl (o_move rfl) ⟨rfl, trivial⟩ ?_;obtain ⟨x17, ex17, h⟩ := b_bind h;refine DW.t11 0 rfl rfl rfl rfl (o_index_own (t := (.int .i64)) rfl U22 sz3 ex17) ⟨rfl, rfl, trivial⟩ ?_;refine DW.t11 0 rfl rfl rfl rfl (o_load_el (i := Int.toNat y6.2) (off := 0) rfl sz3 (fun _ => rfl) rfl (geti_some ex17).2.2 rfl) ⟨rfl, trivial⟩ ?_;obtain ⟨x18, ex18, h⟩ := b_bind h;refine DW.t11 0 rfl rfl rfl rfl (o_index_own (t := (.int .i64)) rfl U22 sz3 ex18) ⟨rfl, rfl, trivial⟩ ?_;refine DW.fin 15 [true, true, false, false, false, true, true, true, true, true, true, true, true, true, true] [48] [] [] rfl (by kernel_rfl) (by kernel_rfl) (by kernel_rfl) mixed (fun vs hv hB => ?_);obtain ⟨w0, vs1, rfl, hv1⟩ := len_cons hv;obtain ⟨w1, vs2, rfl, hv2⟩ := len_cons hv1;obtain ⟨w2, vs3, rfl, hv3⟩ := len_cons hv2;obtain ⟨w3, vs4, rfl, hv4⟩ := len_cons hv3;obtain ⟨w4, vs5, rfl, hv5⟩ := len_cons hv4;obtain ⟨w5, vs6, rfl, hv6⟩ := len_cons hv5;obtain ⟨w6, vs7, rfl, hv7⟩ := len_cons hv6;obtain ⟨w7, vs8, rfl, hv8⟩ := len_cons hv7;obtain ⟨w8, vs9, rfl, hv9⟩ := len_cons hv8;obtain ⟨w9, vs10, rfl, hv10⟩ := len_cons hv9;obtain ⟨w10, vs11, rfl, hv11⟩ := len_cons hv10;obtain ⟨w11, vs12, rfl, hv12⟩ := len_cons hv11;obtain ⟨w12, vs13, rfl, hv13⟩ := len_cons hv12;obtain ⟨w13, vs14, rfl, hv14⟩ := len_cons hv13;obtain ⟨w14, vs15, rfl, hv15⟩ := len_cons hv14;obtain rfl := len_nil hv15;refine ⟨[0], [.sl v_a0 3 (.int .i64) y6.1], by kernel_rfl, by decide, ?_⟩;refine JT.n11 rfl rfl (o_store_elW (i := Int.toNat y6.2) rfl sz3 rfl (geti_lt ex18) rfl .int rfl) ⟨rfl, rfl, trivial⟩ (by kernel_rfl) ?_;obtain ⟨x19, ex19, h⟩ := b_bind h;refine JT.y11 rfl rfl rfl rfl (o_index_own (t := (.int .i64)) rfl U22 sz3 ex19) ⟨rfl, rfl, trivial⟩ (by kernel_rfl) ?_;refine JT.n11 rfl rfl (o_store_elW (i := Int.toNat x14) rfl sz3 rfl (geti_lt ex19) rfl .int rfl) ⟨rfl, rfl, trivial⟩ (by kernel_rfl) ?_;refine JT.nil ?_;refine JN.se (SE.fin (Γ' := [(0, .eq v_a0), (1, I a1), (2, I a2), (6, I y2.2), (7, I y6.2)]) (Δ' := [.sl v_a0 3 (.int .i64) (List.set (List.set y6.1 (Int.toNat y6.2) x16) (Int.toNat x14) x17)]) [0] ⟨rfl, rfl, rfl, rfl, rfl, trivial⟩ rfl) ?_;refine JN.blk_n (tn (JC.region (mq ?_)));obtain ⟨x20, ex20, h⟩ := b_bind h;refine jb (o_sub rfl ex20) ?_;refine aq (nl ?_);exact jz ((), (List.set (List.set y6.1 (Int.toNat y6.2) x16) (Int.toNat x14) x17, x20)) h [0]
    ·refine JC.exit (JN.then_x (JN.then_x (JN.blk_hit (bn ?_))));exact jz ((), y6.1) h [0]
  ·refine JC.region (mq ?_);obtain ⟨x21, ex21, h⟩ := b_bind h;refine jb (o_add rfl ex21) ?_;refine aq (nl ?_);exact jz ((), (x4, x21)) h [0]
 ·
  refine JC.exit (JN.then_x (JN.then_x (JN.blk_hit (JN.end_n ?_))));cases h;exact JN.ret () [] 1 trivial rfl


def math_bits_Len64 (k : Nat) (a0 : Int) : Option Int :=
 ((if (4294967296 : Int) ≤ a0 then (some (ishr .u64 a0 (32 : Int), (32 : Int))) else (some (a0, (0 : Int)))) : Option (Int × Int)).bind fun x1 =>
 ((if (65536 : Int) ≤ x1.1 then ((ck (x1.2 + (16 : Int))).bind fun x5 =>
 some (ishr .u64 x1.1 (16 : Int), x5)) else (some (x1.1, x1.2))) : Option (Int × Int)).bind fun x3 =>
 ((if (256 : Int) ≤ x3.1 then ((ck (x3.2 + (8 : Int))).bind fun x8 =>
 some (ishr .u64 x3.1 (8 : Int), x8)) else (some (x3.1, x3.2))) : Option (Int × Int)).bind fun x6 =>
 (idxStr len8tab (IntKind.u8.wrap x6.1)).bind fun x9 =>
 (ck (x9.toNat : Int)).bind fun x10 =>
 (ck (x6.2 + x10)).bind fun x11 =>
 some x11

theorem math_bits_Len64_ok (k : Nat) (a0 : Int) (r : Int) (h : math_bits_Len64 k a0 = some r) :
 Ctr Try.prog 91 [.eq (.int .u64 a0)] [] (fun _ : Unit => (resA [I r], [])) := by
 unfold math_bits_Len64 at h
 replace h := b_top h
 refine Ctr.of 25 Try.func91 rfl Try.ntmps91 rfl fun S w0 => ?_
 refine sr ?_
 refine cq ?_
 refine nt ?_
 refine JC.cutB (Z := Unit) (α := Int × Int) (fun z2 x1 => [(0, .eq (.int .u64 x1.1)), (2, I x1.2)]) (fun z2 x1 => []) h (fun K h => ?_) (fun z2 x1 h => ?_)
 ·
  refine sr (mq ?_);refine jb (o_geq rfl) ?_;refine nt (ci h (fun h => ?_) (fun h => ?_))
  ·refine sr (mq ?_);refine JO.s rfl (o_shr rfl (by decide)) ⟨rfl, rfl, trivial⟩ ?_;refine aq (nt (JC.region ?_));refine cq (nl ?_);exact jz ((), (ishr .u64 a0 (32 : Int), (32 : Int))) h []
  ·refine JC.skip (JN.then_n ?_);exact jz ((), (a0, (0 : Int))) h []
 ·
  refine JC.cutB (Z := Unit) (α := Int × Int) (fun z4 x3 => [(0, .eq (.int .u64 x3.1)), (2, I x3.2)]) (fun z4 x3 => []) h (fun K h => ?_) (fun z4 x3 h => ?_)
  ·refine sr (mq ?_);refine jb (o_geq rfl) ?_;refine nt (ci h (fun h => ?_) (fun h => ?_))
   ·refine sr (mq ?_);refine JO.s rfl (o_shr rfl (by decide)) ⟨rfl, rfl, trivial⟩ ?_;refine aq (nt (JC.region ?_));refine mq ?_;obtain ⟨x5, ex5, h⟩ := b_bind h;refine jb (o_add rfl ex5) ?_;refine aq (nl ?_);exact jz ((), (ishr .u64 x1.1 (16 : Int), x5)) h []
   ·refine JC.skip (JN.then_n ?_);exact jz ((), (x1.1, x1.2)) h []
  ·refine JC.cutB (Z := Unit) (α := Int × Int) (fun z7 x6 => [(0, .eq (.int .u64 x6.1)), (2, I x6.2)]) (fun z7 x6 => []) h (fun K h => ?_) (fun z7 x6 h => ?_)
   ·refine sr (mq ?_);refine jb (o_geq rfl) ?_;refine nt (ci h (fun h => ?_) (fun h => ?_))
    ·refine sr (mq ?_);refine JO.s rfl (o_shr rfl (by decide)) ⟨rfl, rfl, trivial⟩ ?_;refine aq (nt (JC.region ?_));refine mq ?_;obtain ⟨x8, ex8, h⟩ := b_bind h;refine jb (o_add rfl ex8) ?_;refine aq (nl ?_);exact jz ((), (ishr .u64 x3.1 (8 : Int), x8)) h []
    ·refine JC.skip (JN.then_n ?_);exact jz ((), (x3.1, x3.2)) h []
   ·refine sr ?_;iterate 2 refine mq ?_
    refine ja (o_conv rfl U80 U5) ?_;obtain ⟨x9, ex9, h⟩ := b_bind h;refine ja (o_index_str rfl U9 ex9) ?_;obtain ⟨x10, ex10, h⟩ := b_bind h;refine ja (o_conv64 rfl U5 U3 ex10) ?_;obtain ⟨x11, ex11, h⟩ := b_bind h;refine jb (o_add rfl ex11) ?_;refine aq (nt (JC.ret ?_));cases h;exact ra


def bit_Len (k : Nat) (a0 : Int) : Option Int :=
 (math_bits_Len64 k a0).bind fun r1 =>
 some r1

theorem bit_Len_ok (k : Nat) (a0 : Int) (r : Int) (h : bit_Len k a0 = some r) :
 Ctr Try.prog 77 [.eq (.int .u64 a0)] [] (fun _ : Unit => (resA [I r], [])) := by
 unfold bit_Len at h
 replace h := b_top h
 refine Ctr.of 8 Try.func77 rfl Try.ntmps77 rfl fun S w0 => ?_
 refine sr ?_
 refine cq ?_
 refine nt ?_
 refine JC.seq ?_
 refine JC.condc (fun hb => (by cases hb)) (fun hb => ?_)
 refine sk ?_
 refine sr ?_
 refine mq ?_
 obtain ⟨r1, er1, h⟩ := b_bind h
 have cr1 := math_bits_Len64_ok k a0 r1 er1
 refine ja (o_call [.tmp 6] rfl rfl en91 rfl cr1) ?_
 refine aq ?_
 refine nt ?_
 refine JC.ret ?_
 cases h
 exact ra


def slc_pdqsortOrdered_l1 (k : Nat) (a0 : (List Int)) (a1 : Int) (a2 : Int) (a3 : Int) : Nat → Unit → Option (List Int)
 | 0, _ => none
 | n + 1, y1 =>
  (ck (a2 - a1)).bind fun x3 =>
  if x3 ≤ (12 : Int) then ((slc_insertionSortOrdered k a0 a1 a2).bind fun r4 =>
  some r4) else (if a3 = (0 : Int) then (none) else (none))
def slc_pdqsortOrdered (k : Nat) (a0 : (List Int)) (a1 : Int) (a2 : Int) (a3 : Int) : Option (List Int) :=
 slc_pdqsortOrdered_l1 k a0 a1 a2 a3 k ()

theorem slc_pdqsortOrdered_ok (k : Nat) (a0 : (List Int)) (v_a0 : Value) (a1 : Int) (a2 : Int) (a3 : Int) (r : (List Int)) (h : slc_pdqsortOrdered k a0 a1 a2 a3 = some r) :
 Ctr Try.prog 76 [.eq v_a0, I a1, I a2, I a3] [.sl v_a0 3 (.int .i64) a0] (fun _ : Unit => (resA [], [.sl v_a0 3 (.int .i64) r])) := by
 unfold slc_pdqsortOrdered at h
 replace h := b_top h
 refine Ctr.of 134 Try.func76 rfl Try.ntmps76 rfl fun S w0 => ?_
 refine sr ?_
 refine cq ?_
 refine nt ?_
 refine sr ?_
 refine cq ?_
 refine nt ?_
 refine JC.block ?_
 refine JC.loopB (Z := Unit) (α := Unit) (fun z2 y1 => [(0, .eq v_a0), (1, I a1), (2, I a2), (3, I a3), (8, .eq (.bool true)), (9, .eq (.bool true))]) (fun z2 y1 => [.sl v_a0 3 (.int .i64) a0]) (slc_pdqsortOrdered_l1 k a0 a1 a2 a3) k () () (fun _ => rfl) h (SE.fin [0] ⟨rfl, rfl, rfl, rfl, rfl, rfl, trivial⟩ rfl) (fun n z2 y1 h => ?_)
 unfold slc_pdqsortOrdered_l1 at h
 refine JC.block ?_
 refine sr ?_
 iterate 2 refine mq ?_
 obtain ⟨x3, ex3, h⟩ := b_bind h
 refine jb (o_sub rfl ex3) ?_
 refine aq ?_
 refine nt ?_
 refine JC.seq ?_
 refine sr ?_
 refine mq ?_
 refine jb (o_leq rfl) ?_
 refine nt ?_
 refine ci h (fun h => ?_) (fun h => ?_)
 ·
  refine sr ?_;iterate 3 refine mq ?_
  obtain ⟨r4, er4, h⟩ := b_bind h;refine kc (o_call [.tmp 24, .tmp 25, .tmp 26] rfl rfl en81 rfl (slc_insertionSortOrdered_ok k a0 v_a0 a1 a2 r4 er4)) ?_;refine nt (rx (JN.blk_r (JN.then_r (JN.blk_r ?_))));cases h;exact JN.ret () [] 1 trivial rfl
 ·
  refine sk (JC.seq (sr (mq ?_)));refine jb (o_eql rfl) ?_;refine nt (ci h (fun h => ?_) (fun h => ?_))
  ·refine sr ?_;iterate 3 refine mq ?_
   cases h
  ·refine sk (JC.seq (sr (mq ?_)));refine ja (o_not rfl) ?_;refine nt (JC.cond rfl (fun hb => (by cases hb)) (fun hb => ?_));refine sk (sr ?_);iterate 3 refine mq ?_
   cases h


def slc_Sort_int (k : Nat) (a0 : (List Int)) : Option (List Int) :=
 (bit_Len k (IntKind.u64.wrap (a0.length : Int))).bind fun r1 =>
 (slc_pdqsortOrdered k a0 (0 : Int) (a0.length : Int) r1).bind fun r2 =>
 some r2

theorem slc_Sort_int_ok (k : Nat) (a0 : (List Int)) (v_a0 : Value) (r : (List Int)) (h : slc_Sort_int k a0 = some r) :
 Ctr Try.prog 59 [.eq v_a0] [.sl v_a0 3 (.int .i64) a0] (fun _ : Unit => (resA [], [.sl v_a0 3 (.int .i64) r])) := by
 unfold slc_Sort_int at h
 replace h := b_top h
 refine Ctr.of 11 Try.func59 rfl Try.ntmps59 rfl fun S w0 => ?_
 refine sr ?_
 refine mq ?_
 refine ka (o_len_own rfl rfl U22) ?_
 refine aq ?_
 refine nt ?_
 refine JC.region ?_
 iterate 3 refine mq ?_
 refine ja (o_conv rfl U3 U149) ?_
 obtain ⟨r1, er1, h⟩ := b_bind h
 have cr1 := bit_Len_ok k (IntKind.u64.wrap (a0.length : Int)) r1 er1
 refine ja (o_call [.tmp 8] rfl rfl en77 rfl cr1) ?_
 obtain ⟨r2, er2, h⟩ := b_bind h
 have cr2 := slc_pdqsortOrdered_ok k a0 v_a0 (0 : Int) (a0.length : Int) r1 r2 er2
 refine JO.s11 rfl rfl rfl (o_call [.tmp 5, .const (.int .i64 (0)), .tmp 6, .tmp 9] rfl rfl en76 rfl cr2) ⟨rfl, rfl, rfl, rfl, trivial⟩ ?_
 refine JO.nil ?_
 refine JN.end_n ?_
 cases h
 exact JN.ret () [] 1 trivial rfl


def chg_Learn_l2 (k : Nat) (q3 : (dChange × (List (Bool × Int)) × (List Int))) (y9 : Int × Bool × Int × Int × Int) : Nat → (Int × Bool × Int × Int × Int) → Option (Int × Bool × Int × Int)
 | 0, _ => none
 | n + 1, y13 =>
  if y13.2.2.2.2 < (q3.1.1.length : Int) then ((((geti q3.1.2.1 y9.2.2.2.2).bind fun x17 =>
  (slc_Contains_int k x17.1 y13.2.2.2.2).bind fun r18 =>
  if r18 = true then (some (y13.1, y13.2.1, y13.2.2.1, y13.2.2.2.1)) else ((slc_Clone_Dresser k q3.1.2.1).bind fun r19 =>
  (geti r19 y9.2.2.2.2).bind fun x21 =>
  (slc_Clone_int k x21.1).bind fun r22 =>
  (chkP (okLen (List.length r22 + List.length [y13.2.2.2.2]))).bind fun _ =>
  (geti r19 y9.2.2.2.2).bind fun x26 =>
  (slc_Sort_int k (r22 ++ [y13.2.2.2.2])).bind fun r28 =>
  (chg_quick_fewest k ((q3.1.1, q3.1.2.1, q3.1.2.2.1, q3.1.2.2.2), q3.2.1, q3.2.2) (List.set r19 (Int.toNat y9.2.2.2.2) (r28, x26.2.1, x26.2.2))).bind fun r29 =>
  ((if r29.2 = true then (if ¬ (y13.2.1 = true) then (some true) else (some (decide (r29.1 < y13.1)))) else (some false)) : Option (Bool)).bind fun x30 =>
  if x30 = true then (some (r29.1, true, y9.2.2.2.2, y13.2.2.2.2)) else (some (y13.1, y13.2.1, y13.2.2.1, y13.2.2.2.1)))) : Option (Int × Bool × Int × Int)).bind fun x15 =>
  (ck (y13.2.2.2.2 + (1 : Int))).bind fun x32 =>
  chg_Learn_l2 k q3 y9 n (x15.1, x15.2.1, x15.2.2.1, x15.2.2.2, x32)) else (some (y13.1, y13.2.1, y13.2.2.1, y13.2.2.2.1))

def chg_Learn_l1 (k : Nat) (q3 : (dChange × (List (Bool × Int)) × (List Int))) : Nat → (Int × Bool × Int × Int × Int) → Option (Int × Int × Int)
 | 0, _ => none
 | n + 1, y9 =>
  if y9.2.2.2.2 < (q3.1.2.1.length : Int) then (((chg_Learn_l2 k q3 y9 k (y9.1, y9.2.1, y9.2.2.1, y9.2.2.2.1, (0 : Int))) : Option (Int × Bool × Int × Int)).bind fun x11 =>
  (ck (y9.2.2.2.2 + (1 : Int))).bind fun x33 =>
  chg_Learn_l1 k q3 n (x11.1, x11.2.1, x11.2.2.1, x11.2.2.2, x33)) else (some (y9.1, y9.2.2.1, y9.2.2.2.1))
def chg_Learn (k : Nat) (a0 : dChange) : Option (Int × Int × Int × Int) :=
 (chg_begin k a0).bind fun r2 =>
 casesO r2.1 (if ¬ (r2.2 = (0 : Int)) then (some ((0 : Int), (0 : Int), (0 : Int), r2.2)) else (none)) (fun q3 => if ¬ (r2.2 = (0 : Int)) then (some ((0 : Int), (0 : Int), (0 : Int), r2.2)) else ((chg_least k ((q3.1.1, q3.1.2.1, q3.1.2.2.1, q3.1.2.2.2), q3.2.1, q3.2.2)).bind fun r6 =>
 ((chg_Learn_l1 k q3 k (r6.2.1, r6.2.2, (-1 : Int), (-1 : Int), (0 : Int))) : Option (Int × Int × Int)).bind fun x7 =>
 if x7.2.1 < (0 : Int) then (some ((0 : Int), (0 : Int), (0 : Int), (11 : Int))) else (some (x7.2.1, x7.2.2, x7.1, (0 : Int)))))

theorem chg_Learn_ok (k : Nat) (a0 : dChange) (r : Int × Int × Int × Int) (h : chg_Learn k a0 = some r) :
 Ctr Try.prog 25 [.rep tChange a0] [] (fun _ : Unit => (resA [I r.1, I r.2.1, I r.2.2.1, I r.2.2.2], [])) := by
 unfold chg_Learn at h
 replace h := b_top h
 refine Ctr.of 115 Try.func25 rfl Try.ntmps25 rfl fun S w0 => ?_
 refine sr ?_
 refine bx fun b1 => ?_
 refine cq ?_
 refine cq ?_
 refine cq ?_
 refine cq ?_
 refine nt ?_
 refine sr ?_
 refine lo sz26 ?_
 obtain ⟨r2, er2, h⟩ := b_bind h
 have cr2 := chg_begin_ok k a0 r2 er2
 rcases hr : r2.1 with _ | q3
 ·
  rw [hr] at h cr2; replace h := co_n h;refine JO.stepG (Δ := []) (F := _) (fun _ _ _ => wanted_none rfl _) rfl rfl (o_call [.tmp 19] rfl rfl en34 rfl cr2) ⟨rfl, trivial⟩ fun _ => ?_;refine mq ?_;refine xr ?_;refine xr ?_;refine aq ?_;refine aq (nt (JC.seq (sr ?_)));refine mq ?_;refine jb (o_neq rfl) ?_;refine nt (cn h (fun h => ?_) (fun h => ?_))
  ·refine sr (mq ?_);refine cq ?_;refine cq ?_;refine cq ?_;refine aq (nt (rx ?_));cases h;exact JN.ret () [_, _, _, _] 0 ⟨rfl, rfl, rfl, rfl, trivial⟩ rfl
  ·refine sk (sr (mq ?_));cases h
 ·
  rw [hr] at h cr2; replace h := co_s h;refine JO.stepG (Δ := []) (F := _) (fun _ _ _ => wanted_none rfl _) rfl rfl (o_call [.tmp 19] rfl rfl en34 rfl cr2) ⟨rfl, trivial⟩ fun z4 => ?_;refine mq ?_;refine xr ?_;refine xr ?_;refine aq ?_;refine aq (nt (JC.seq (sr ?_)));refine mq ?_;refine jb (o_neq rfl) ?_;refine nt (cn h (fun h => ?_) (fun h => ?_))
  ·refine sr (mq ?_);refine cq ?_;refine cq ?_;refine cq ?_;refine aq (nt (rx ?_));cases h;exact JN.ret () [_, _, _, _] 0 ⟨rfl, rfl, rfl, rfl, trivial⟩ rfl
  ·refine sk (sr (mq ?_));refine JO.s01 rfl rfl rfl (o_call [.tmp 27] rfl rfl en36 rfl (chg_quick_plans_ok z4.1)) ⟨rfl, trivial⟩ fun b5 => ?_;refine mq ?_;refine ja (o_mkfn [.tmp 29] [] [(.pointer (some ⟨z4.1, 0, none⟩))] [] rfl rfl rfl) ?_;refine fr 2 ?_;refine JO.se (SE.rawInv (Known k ((q3.1.1, q3.1.2.1, q3.1.2.2.1, q3.1.2.2.2), q3.2.1, q3.2.2)) known_nil) ?_;obtain ⟨r6, er6, h⟩ := b_bind h;refine fr 1 ?_;refine fr 1 ?_;refine fr 2 ?_;refine JO.stepG (Δ := [_, _, _]) (F := _) (fun _ _ _ => wanted_none rfl _) rfl rfl (o_call [.tmp 28, .tmp 30] rfl rfl en35 rfl (chg_least_ok k ((q3.1.1, q3.1.2.1, q3.1.2.2.1, q3.1.2.2.2), q3.2.1, q3.2.2) z4.1 z4.2 b5 r6 er6)) ⟨rfl, rfl, trivial⟩ fun _ => ?_;refine mq ?_;refine xr ?_;refine xr ?_;refine xr ?_;refine aq ?_;refine aq ?_;refine aq (nt (sr ?_));refine cq ?_;refine cq (nt ?_);refine JC.cutB (Z := Unit) (α := Int × Int × Int) (fun z8 x7 => [(9, I x7.1), (11, I x7.2.1), (12, I x7.2.2)]) (fun z8 x7 => [.inv z4.2 (Known k ((q3.1.1, q3.1.2.1, q3.1.2.2.1, q3.1.2.2.2), q3.2.1, q3.2.2))]) h (fun K h => ?_) (fun z8 x7 h => ?_)
   ·refine sr (mq ?_);refine ja (o_nil_obj rfl) ?_;refine fl fo98_0 ?_;refine fl fo26_1 ?_;refine lo sz24 ?_;refine ol U24 ?_;refine JO.mc rfl ?_;refine nt (JC.block (JC.loopB (Z := Unit) (α := Int × Bool × Int × Int × Int) (fun z10 y9 => [(6, .eq (.pointer (some ⟨z4.1, 0, none⟩))), (9, I y9.1), (10, .eq (.bool y9.2.1)), (11, I y9.2.2.1), (12, I y9.2.2.2.1), (40, I (q3.1.2.1.length : Int)), (41, I y9.2.2.2.2)]) (fun z10 y9 => [.obj z4.1 98 (Qq q3 (.eq (.map (some z4.2)))), .inv z4.2 (Known k ((q3.1.1, q3.1.2.1, q3.1.2.2.1, q3.1.2.2.2), q3.2.1, q3.2.2))]) (chg_Learn_l1 k q3) k () (r6.2.1, r6.2.2, (-1 : Int), (-1 : Int), (0 : Int)) (fun _ => rfl) h (SE.fin [0, 1] ⟨rfl, rfl, rfl, rfl, rfl, rfl, rfl, trivial⟩ rfl) (fun n z10 y9 h => ?_)));unfold chg_Learn_l1 at h;refine sr (jb (o_lss rfl) ?_);refine nt (JC.seq (ci h (fun h => ?_) (fun h => ?_)))
    ·refine sk (JC.cutB (Z := Unit) (α := Int × Bool × Int × Int) (fun z12 x11 => [(6, .eq (.pointer (some ⟨z4.1, 0, none⟩))), (9, I x11.1), (10, .eq (.bool x11.2.1)), (11, I x11.2.2.1), (12, I x11.2.2.2), (40, I (q3.1.2.1.length : Int)), (41, I y9.2.2.2.2)]) (fun z12 x11 => [.obj z4.1 98 (Qq q3 (.eq (.map (some z4.2)))), .inv z4.2 (Known k ((q3.1.1, q3.1.2.1, q3.1.2.2.1, q3.1.2.2.2), q3.2.1, q3.2.2))]) h (fun K h => ?_) (fun z12 x11 h => ?_))
     ·refine JC.block (sr (mq ?_));refine aq (nt ?_);refine JC.scopeS rfl (fl_hit fl_lab) ?_;refine JC.seq (JC.label ?_);refine tn (sr (mq ?_));refine ja (o_nil_obj rfl) ?_;refine fl fo98_0 ?_;refine fl fo26_0 ?_;refine lo sz23 ?_;refine ol U23 ?_;refine JO.mc rfl ?_;refine nt (JC.block (JC.loopB (Z := Unit) (α := Int × Bool × Int × Int × Int) (fun z14 y13 => [(6, .eq (.pointer (some ⟨z4.1, 0, none⟩))), (9, I y13.1), (10, .eq (.bool y13.2.1)), (11, I y13.2.2.1), (12, I y13.2.2.2.1), (13, I y9.2.2.2.2), (40, I (q3.1.2.1.length : Int)), (41, I y9.2.2.2.2), (49, I (q3.1.1.length : Int)), (50, I y13.2.2.2.2)]) (fun z14 y13 => [.obj z4.1 98 (Qq q3 (.eq (.map (some z4.2)))), .inv z4.2 (Known k ((q3.1.1, q3.1.2.1, q3.1.2.2.1, q3.1.2.2.2), q3.2.1, q3.2.2))]) (chg_Learn_l2 k q3 y9) k () (y9.1, y9.2.1, y9.2.2.1, y9.2.2.2.1, (0 : Int)) (fun _ => rfl) h (SE.fin [0, 1] ⟨rfl, rfl, rfl, rfl, rfl, rfl, rfl, rfl, rfl, rfl, trivial⟩ rfl) (fun n z14 y13 h => ?_)));unfold chg_Learn_l2 at h;refine sr (jb (o_lss rfl) ?_);refine nt (JC.seq (ci h (fun h => ?_) (fun h => ?_)))
      ·refine sk (JC.cutB (Z := Unit) (α := Int × Bool × Int × Int) (fun z16 x15 => [(6, .eq (.pointer (some ⟨z4.1, 0, none⟩))), (9, I x15.1), (10, .eq (.bool x15.2.1)), (11, I x15.2.2.1), (12, I x15.2.2.2), (13, I y9.2.2.2.2), (40, I (q3.1.2.1.length : Int)), (41, I y9.2.2.2.2), (49, I (q3.1.1.length : Int)), (50, I y13.2.2.2.2)]) (fun z16 x15 => [.obj z4.1 98 (Qq q3 (.eq (.map (some z4.2)))), .inv z4.2 (Known k ((q3.1.1, q3.1.2.1, q3.1.2.2.1, q3.1.2.2.2), q3.2.1, q3.2.2))]) h (fun K h => ?_) (fun z16 x15 h => ?_))
       ·refine JC.block (sr (mq ?_));refine aq (nt (JC.seq (sr ?_)));refine mq ?_;refine ja (o_nil_obj rfl) ?_;refine fl fo98_0 ?_;refine fl fo26_1 ?_;refine lo sz24 ?_;refine mq ?_;obtain ⟨x17, ex17, h⟩ := b_bind h;refine jb (o_index (t := tDresser) rfl U24 sz38 ex17) ?_;refine ja (o_field_at 1 false rfl fo38_0 rfl) ?_;refine ja (o_load_at (t := (.slice (.int .i64))) rfl sz22 rfl) ?_;refine mq ?_;obtain ⟨r18, er18, h⟩ := b_bind h;refine jb (o_call [.tmp 61, .tmp 62] rfl rfl en57 rfl (slc_Contains_int_ok k x17.1 y13.2.2.2.2 r18 er18)) ?_;refine nt (cv h (fun h => ?_) (fun h => ?_))
        ·refine JC.exit (JN.then_x (JN.blk_hit (JN.then_n ?_)));exact jz ((), (y13.1, y13.2.1, y13.2.2.1, y13.2.2.2.1)) h [0, 1]
        ·refine sk (sr (mq ?_));refine ja (o_nil_obj rfl) ?_;refine fl fo98_0 ?_;refine fl fo26_1 ?_;refine lo sz24 ?_;obtain ⟨r19, er19, h⟩ := b_bind h;refine JO.s01 rfl rfl rfl (o_call [.tmp 68] rfl rfl en55 rfl (slc_Clone_Dresser_ok k q3.1.2.1 r19 er19)) ⟨rfl, trivial⟩ fun v20 => ?_;refine aq (nt (sr ?_));iterate 4 refine mq ?_
         obtain ⟨x21, ex21, h⟩ := b_bind h;refine kb (o_index_own (t := tDresser) rfl U24 sz38 ex21) ?_;refine ka (o_field_el rfl fo38_0 (geti_ne ex21)) ?_;refine ka (o_load_el (i := Int.toNat y9.2.2.2.2) (off := 0) rfl sz22 (fun _ => rfl) rfl (geti_some ex21).2.2 rfl) ?_;obtain ⟨r22, er22, h⟩ := b_bind h;refine JO.s01 rfl rfl rfl (o_call [.tmp 76] rfl rfl en58 rfl (slc_Clone_int_ok k x21.1 r22 er22)) ⟨rfl, trivial⟩ fun v23 => ?_;refine mq ?_;refine ja (o_litB (t := (.int .i64)) [(.tmp 78, _)] [y13.2.2.2.2] rfl rfl sl22 (.cons rfl .int .nil) rfl rfl) ?_;obtain ⟨u24, eu24, h⟩ := b_bind h;refine JO.s1x rfl rfl rfl (o_append rfl rfl sl22 (chkP_some eu24)) ⟨rfl, rfl, trivial⟩ fun v25 => ?_;refine fr 1 ?_;refine JO.se SE.toAlt ?_;obtain ⟨x26, ex26, h⟩ := b_bind h;have ax26 := geti_map (f := altF) ex26;refine kb (o_index_own (t := (.agg (.pair (.alt (.slice (.int .i64))) (.pair (.int .i64) (.int .i64))))) rfl U24 sz38 ax26) ?_;refine ka (o_field_el rfl fo38_0 (geti_ne ax26)) ?_;refine fr 1 ?_;refine JO.one fun o27 => ?_;refine fr 1 ?_;refine JO.n11 rfl rfl (o_store_el (d' := ((Sum.inr v25), x26.2.1, x26.2.2)) (i := Int.toNat y9.2.2.2.2) (off := 0) rfl sz22 rfl (geti_some ax26).2.2 (.altR o27) o27 (.agg (.left .whole))) ⟨rfl, rfl, trivial⟩ ?_;refine nt (sr ?_);iterate 2 refine mq ?_
         have bx26 := geti_set ((Sum.inr v25), x26.2.1, x26.2.2) ax26;refine kb (o_index_own (t := (.agg (.pair (.alt (.slice (.int .i64))) (.pair (.int .i64) (.int .i64))))) rfl U24 sz38 bx26) ?_;refine ka (o_field_el rfl fo38_0 (geti_ne bx26)) ?_;refine ka (o_load_el (i := Int.toNat y9.2.2.2.2) (off := 0) rfl sz22 (fun _ => rfl) rfl (geti_some bx26).2.2 rfl) ?_;refine JO.se (SE.altR 87 rfl rfl) ?_;obtain ⟨r28, er28, h⟩ := b_bind h;refine fr 1 ?_;refine ka (o_call [.tmp 87] rfl rfl en59 rfl (slc_Sort_int_ok k (r22 ++ [y13.2.2.2.2]) v25 r28 er28)) ?_;refine fr 1 ?_;refine fr 1 ?_;refine JO.se SE.ofAlt ?_;refine nt (sr ?_);iterate 2 refine mq ?_
         refine JO.se (SE.frz [15, 69, 70, 72, 83, 91] ⟨rfl, rfl, rfl, rfl, rfl, rfl, trivial⟩) ?_;obtain ⟨r29, er29, h⟩ := b_bind h;refine kb (o_call [.tmp 90, .tmp 91] rfl rfl en56 rfl (chg_quick_fewest_ok k ((q3.1.1, q3.1.2.1, q3.1.2.2.1, q3.1.2.2.2), q3.2.1, q3.2.2) z4.1 (.map (some z4.2)) (List.set r19 (Int.toNat y9.2.2.2.2) (r28, x26.2.1, x26.2.2)) r29 er29)) ?_;refine mq ?_;refine xr ?_;refine xr ?_;refine aq ?_;refine aq (nt ?_);refine JC.cutB (Z := Unit) (α := Bool) (fun z31 x30 => [(6, .eq (.pointer (some ⟨z4.1, 0, none⟩))), (9, I y13.1), (10, .eq (.bool y13.2.1)), (11, I y13.2.2.1), (12, I y13.2.2.2.1), (13, I y9.2.2.2.2), (14, I y13.2.2.2.2), (16, I r29.1), (40, I (q3.1.2.1.length : Int)), (41, I y9.2.2.2.2), (49, I (q3.1.1.length : Int)), (50, I y13.2.2.2.2), (104, .eq (.bool x30))]) (fun z31 x30 => [.obj z4.1 98 (Qq q3 (.eq (.map (some z4.2)))), .inv z4.2 (Known k ((q3.1.1, q3.1.2.1, q3.1.2.2.1, q3.1.2.2.2), q3.2.1, q3.2.2))]) h (fun K h => ?_) (fun z31 x30 h => ?_)
         ·refine JC.region ?_;iterate 2 refine mq ?_
          refine JO.bool (s := 96) rfl (fun hb => ?_) (fun hb => ?_)
          ·replace h := b_if (v_t hb) h;refine gm ?_;refine ga (o_not rfl) ?_;refine gm ?_;refine JO.bool (s := 99) rfl (fun hb => ?_) (fun hb => ?_)
           ·replace h := b_if (nv_t hb) h;iterate 3 refine gn ?_
            refine gb (o_pick_t rfl) ?_;refine pt (nl ?_);exact jz ((), true) h [0, 1]
           ·replace h := b_ifn (nv_fn hb) h;refine gm ?_;refine gm ?_;refine gb (o_lss rfl) ?_;refine gb (o_pick_f rfl) ?_;refine pt (nl ?_);exact jz ((), decide (r29.1 < y13.1)) h [0, 1]
          ·replace h := b_ifn (v_f hb) h;iterate 3 refine gn ?_
           refine gu ?_;refine gu ?_;refine gu ?_;refine gn ?_;refine pf (nl ?_);exact jz ((), false) h [0, 1]
         ·refine cv h (fun h => ?_) (fun h => ?_)
          ·refine JC.region ?_;iterate 3 refine mq ?_
           refine aq ?_;refine aq ?_;refine aq ?_;refine cq (JO.nil (bn ?_));exact jz ((), (r29.1, true, y9.2.2.2.2, y13.2.2.2.2)) h [0, 1]
          ·refine JC.skip (bn ?_);exact jz ((), (y13.1, y13.2.1, y13.2.2.1, y13.2.2.2.1)) h [0, 1]
       ·refine JC.region ?_;obtain ⟨x32, ex32, h⟩ := b_bind h;refine jb (o_add rfl ex32) ?_;refine mq (nl ?_);exact jz ((), (x15.1, x15.2.1, x15.2.2.1, x15.2.2.2, x32)) h [0, 1]
      ·refine JC.exit (JN.then_x (JN.then_x (JN.blk_hit (JN.jmp_n ?_))));refine bn ?_;exact jz ((), (y13.1, y13.2.1, y13.2.2.1, y13.2.2.2.1)) h [0, 1]
     ·refine JC.region ?_;obtain ⟨x33, ex33, h⟩ := b_bind h;refine jb (o_add rfl ex33) ?_;refine mq (nl ?_);exact jz ((), (x11.1, x11.2.1, x11.2.2.1, x11.2.2.2, x33)) h [0, 1]
    ·refine xa ?_;exact jz ((), (y9.1, y9.2.2.1, y9.2.2.2.1)) h [1]
   ·refine JC.seq (sr (mq ?_));refine jb (o_lss rfl) ?_;refine nt (ci h (fun h => ?_) (fun h => ?_))
    ·refine sr (cq ?_);refine cq ?_;refine cq ?_;refine cq (nt (rx ?_));cases h;exact JN.ret () [_, _, _, _] 0 ⟨rfl, rfl, rfl, rfl, trivial⟩ rfl
    ·refine sk (sr ?_);iterate 3 refine mq ?_
     refine aq ?_;refine aq ?_;refine aq ?_;refine cq (nt (JC.ret ?_));cases h;exact JN.ret () [_, _, _, _] 0 ⟨rfl, rfl, rfl, rfl, trivial⟩ rfl


end Go.Proofs.Ytopgphikdglphaa
