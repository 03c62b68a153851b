/- The program's functions, part 2: what each computes, and that the code computes it. Printed by a program of this proof's own. -/
import Derived.Test.YtopgphikdglphaaP1
set_option linter.unusedVariables false
set_option maxRecDepth 4000
namespace Go.Proofs.Ytopgphikdglphaa
open K Go Go.Proofs
def kit_SameInts_l1 (k : Nat) (a0 : (List Int)) (a1 : (List Int)) : Nat → Int → Option (Except Bool Unit)
 | 0, _ => none
 | n + 1, y3 =>
  if y3 < (a0.length : Int) then ((geti a0 y3).bind fun x5 =>
  (geti a1 y3).bind fun x6 =>
  if ¬ (x5 = x6) then (some (.error false)) else ((ck (y3 + (1 : Int))).bind fun x7 =>
  kit_SameInts_l1 k a0 a1 n x7)) else (some (.ok ()))
def kit_SameInts (k : Nat) (a0 : (List Int)) (a1 : (List Int)) : Option Bool :=
 if ¬ ((a0.length : Int) = (a1.length : Int)) then (some false) else (bE (α := Unit) (kit_SameInts_l1 k a0 a1 k (0 : Int)) (some) fun _ =>
 some true)

theorem kit_SameInts_ok (k : Nat) (a0 : (List Int)) (a1 : (List Int)) (r : Bool) (h : kit_SameInts k a0 a1 = some r) :
 Ctr Try.prog 26 [Ri a0, Ri a1] [] (fun _ : Unit => (resA [.eq (.bool r)], [])) := by
 unfold kit_SameInts at h
 replace h := b_top h
 refine Ctr.of 26 Try.func26 rfl Try.ntmps26 rfl fun S w0 => ?_
 refine sr ?_
 refine cq ?_
 refine nt ?_
 refine JC.seq ?_
 refine sr ?_
 refine mq ?_
 refine ol U22 ?_
 refine mq ?_
 refine ol U22 ?_
 refine jb (o_neq rfl) ?_
 refine nt ?_
 refine cn h (fun h => ?_) (fun h => ?_)
 ·
  refine sr (cq (nt (rx ?_)));cases h;exact ra
 ·
  refine sk (JC.cutE (Z := Unit) (α := Unit) (fun z2 x1 => []) (fun z2 x1 => []) (fun e => e = r) h (fun e h => Option.some.inj h) (fun K hR h => ?_) (fun z2 x1 h => ?_))
  ·refine sr (cq (nt (JC.block ?_)));refine JC.loopB (Z := Unit) (α := Int) (fun z4 y3 => [(0, Ri a0), (1, Ri a1), (5, I y3)]) (fun z4 y3 => []) (kit_SameInts_l1 k a0 a1) k () (0 : Int) (fun _ => rfl) h (SE.fin [] ⟨rfl, rfl, rfl, trivial⟩ rfl) (fun n z4 y3 h => ?_);unfold kit_SameInts_l1 at h;refine JC.seq (sr ?_);iterate 2 refine mq ?_
   refine ol U22 ?_;refine jb (o_lss rfl) ?_;refine nt (ci h (fun h => ?_) (fun h => ?_))
   ·refine sk (JC.seq (JC.block (JC.seq (JC.drawN ?_))));refine dm ?_;refine dm ?_;obtain ⟨x5, ex5, h⟩ := b_bind h;refine db (o_index (t := (.int .i64)) rfl U22 sz3 ex5) ?_;refine da (o_load_at (t := (.int .i64)) rfl sz3 rfl) ?_;refine dm ?_;refine dm ?_;obtain ⟨x6, ex6, h⟩ := b_bind h;refine db (o_index (t := (.int .i64)) rfl U22 sz3 ex6) ?_;refine da (o_load_at (t := (.int .i64)) rfl sz3 rfl) ?_;refine df mixed ?_;refine jb (o_neq rfl) ?_;refine nt (cn h (fun h => ?_) (fun h => ?_))
    ·refine sr (cq (nt (JC.ret (br (JN.blk_r (JN.then_r ?_))))));obtain rfl := hR _ h;exact ra
    ·refine JC.skip (JN.blk_n (tn (JC.region (mq ?_))));obtain ⟨x7, ex7, h⟩ := b_bind h;refine jb (o_add rfl ex7) ?_;refine aq (nl ?_);exact jz ((), x7) h []
   ·refine xa ?_;exact jz ((), ()) h []
  ·refine sr (cq (nt (JC.ret ?_)));cases h;exact ra


def chg_Wearing_l1 (k : Nat) (a1 : (List dStep)) (a2 : Int) (q3 : (dChange × (List (Bool × Int)) × (List Int))) (r6 : (List Int) × (List Int)) : Nat → (Int × Int × Int) → Option (Int × Int)
 | 0, _ => none
 | n + 1, y10 =>
  if y10.2.2 < (a1.length : Int) then ((((geti a1 y10.2.2).bind fun x14 =>
  (geti q3.2.1 x14.1).bind fun x16 =>
  if ¬ (x16.1 = true) then ((geti r6.1 y10.2.2).bind fun x17 =>
  if x17 ≤ a2 then ((cond x16.1 (chg_on_thing k x16.2) (chg_off_thing k x16.2)).bind fun r18 =>
  (chg_of k [r18]).bind fun r19 =>
  some (iandn .u8 y10.1 r19, y10.2.1)) else (some (y10.1, y10.2.1))) else ((chkP (0 ≤ x14.1 ∧ x14.1 < 4)).bind fun _ =>
  (geti r6.2 x14.1).bind fun x21 =>
  if x21 ≤ a2 then ((cond x16.1 (chg_on_thing k x16.2) (chg_off_thing k x16.2)).bind fun r22 =>
  (chg_of k [r22]).bind fun r23 =>
  some (y10.1, ior .u8 y10.2.1 r23)) else (some (y10.1, y10.2.1)))) : Option (Int × Int)).bind fun x12 =>
  (ck (y10.2.2 + (1 : Int))).bind fun x24 =>
  chg_Wearing_l1 k a1 a2 q3 r6 n (x12.1, x12.2, x24)) else (some (y10.1, y10.2.1))
def chg_Wearing (k : Nat) (a0 : dChange) (a1 : (List dStep)) (a2 : Int) : Option ((List Int) × Int) :=
 (chg_asked k a0 a1).bind fun r2 =>
 casesO r2.1 (if ¬ (r2.2 = (0 : Int)) then (some ([], r2.2)) else (if a2 < (0 : Int) then (some ([], (1 : Int))) else (none))) (fun q3 => if ¬ (r2.2 = (0 : Int)) then (some ([], r2.2)) else (if a2 < (0 : Int) then (some ([], (1 : Int))) else ((chg_of k q3.1.2.2.1).bind fun r5 =>
 (chg_quick_begins k ((q3.1.1, q3.1.2.1, q3.1.2.2.1, q3.1.2.2.2), q3.2.1, q3.2.2) a1).bind fun r6 =>
 ((chg_Wearing_l1 k a1 a2 q3 r6 k (r5, (0 : Int), (0 : Int))) : Option (Int × Int)).bind fun x8 =>
 (chg_set_list k (ior .u8 x8.1 x8.2)).bind fun r25 =>
 some (r25, (0 : Int)))))

theorem chg_Wearing_ok (k : Nat) (a0 : dChange) (a1 : (List dStep)) (a2 : Int) (r : (List Int) × Int) (h : chg_Wearing k a0 a1 a2 = some r) :
 Ctr Try.prog 27 [.rep tChange a0, Rs tStep a1, I a2] [] (fun _ : Unit => (resA [Ri r.1, I r.2], [])) := by
 unfold chg_Wearing at h
 replace h := b_top h
 refine Ctr.of 88 Try.func27 rfl Try.ntmps27 rfl fun S w0 => ?_
 refine sr ?_
 refine bx fun b1 => ?_
 refine cq ?_
 refine cq ?_
 refine nt ?_
 refine sr ?_
 refine lo sz26 ?_
 refine mq ?_
 obtain ⟨r2, er2, h⟩ := b_bind h
 have cr2 := chg_asked_ok k a0 a1 r2 er2
 rcases hr : r2.1 with _ | q3
 ·
  rw [hr] at h cr2; replace h := co_n h;refine JO.stepG (Δ := []) (F := _) (fun _ _ _ => wanted_none rfl _) rfl rfl (o_call [.tmp 18, .tmp 19] rfl rfl en50 rfl cr2) ⟨rfl, rfl, trivial⟩ fun _ => ?_;refine mq ?_;refine xr ?_;refine xr ?_;refine aq ?_;refine aq (nt (JC.seq (sr ?_)));refine mq ?_;refine jb (o_neq rfl) ?_;refine nt (cn h (fun h => ?_) (fun h => ?_))
  ·refine sr (mq ?_);refine cq ?_;refine aq (nt (rx ?_));refine JN.se (SE.ent (t := (.slice (.int .i64))) (x := []) 6 rfl .nil rfl rfl) ?_;cases h;exact rb
  ·refine sk (JC.seq (sr (mq ?_)));refine jb (o_lss rfl) ?_;refine nt (ci h (fun h => ?_) (fun h => ?_))
   ·refine sr (cq ?_);refine cq (nt (rx ?_));refine JN.se (SE.ent (t := (.slice (.int .i64))) (x := []) 6 rfl .nil rfl rfl) ?_;cases h;exact rb
   ·refine sk (sr (mq ?_));cases h
 ·
  rw [hr] at h cr2; replace h := co_s h;refine JO.stepG (Δ := []) (F := _) (fun _ _ _ => wanted_none rfl _) rfl rfl (o_call [.tmp 18, .tmp 19] rfl rfl en50 rfl cr2) ⟨rfl, rfl, trivial⟩ fun z4 => ?_;refine mq ?_;refine xr ?_;refine xr ?_;refine aq ?_;refine aq (nt (JC.seq (sr ?_)));refine mq ?_;refine jb (o_neq rfl) ?_;refine nt (cn h (fun h => ?_) (fun h => ?_))
  ·refine sr (mq ?_);refine cq ?_;refine aq (nt (rx ?_));refine JN.se (SE.ent (t := (.slice (.int .i64))) (x := []) 6 rfl .nil rfl rfl) ?_;cases h;exact rb
  ·refine sk (JC.seq (sr (mq ?_)));refine jb (o_lss rfl) ?_;refine nt (ci h (fun h => ?_) (fun h => ?_))
   ·refine sr (cq ?_);refine cq (nt (rx ?_));refine JN.se (SE.ent (t := (.slice (.int .i64))) (x := []) 6 rfl .nil rfl rfl) ?_;cases h;exact rb
   ·refine sk (sr (mq ?_));refine ja (o_nil_obj rfl) ?_;refine fl fo98_0 ?_;refine fl fo26_2 ?_;refine lo sz22 ?_;obtain ⟨r5, er5, h⟩ := b_bind h;refine ja (o_call [.tmp 32] rfl rfl en40 rfl (chg_of_ok k q3.1.2.2.1 r5 er5)) ?_;refine aq (nt (sr ?_));iterate 2 refine mq ?_
    obtain ⟨r6, er6, h⟩ := b_bind h;refine kb (o_call [.tmp 35, .tmp 36] rfl rfl en51 rfl (chg_quick_begins_ok k ((q3.1.1, q3.1.2.1, q3.1.2.2.1, q3.1.2.2.2), q3.2.1, q3.2.2) z4.1 (.map (some z4.2)) a1 r6 er6)) ?_;refine mq ?_;refine xr ?_;refine xr ?_;refine JO.s01 rfl rfl rfl (o_alloc rfl za113 al113) trivial fun b7 => ?_;refine aq ?_;refine JO.n11 rfl rfl (o_store rfl sz113 rfl rfl rfl) ⟨rfl, rfl, trivial⟩ ?_;refine nt (sr (cq (nt ?_)));refine JC.cutB (Z := Unit) (α := Int × Int) (fun z9 x8 => [(10, .eq (.int .u8 x8.1)), (13, .eq (.int .u8 x8.2))]) (fun z9 x8 => [.raw z4.2 (.map #[] 0)]) h (fun K h => ?_) (fun z9 x8 h => ?_)
    ·refine sr (mq ?_);refine ol U33 ?_;refine JO.mc rfl ?_;refine nt (JC.block (JC.loopB (Z := Unit) (α := Int × Int × Int) (fun z11 y10 => [(2, I a2), (8, .eq (.pointer (some ⟨z4.1, 0, none⟩))), (10, .eq (.int .u8 y10.1)), (11, Ri r6.1), (12, Pt b7), (13, .eq (.int .u8 y10.2.1)), (40, Rs tStep a1), (41, I (a1.length : Int)), (42, I y10.2.2)]) (fun z11 y10 => [.obj z4.1 98 (Qq q3 (.eq (.map (some z4.2)))), .obj b7 113 (.rep (.arr 4 (.int .i64)) r6.2), .raw z4.2 (.map #[] 0)]) (chg_Wearing_l1 k a1 a2 q3 r6) k () (r5, (0 : Int), (0 : Int)) (fun _ => rfl) h (SE.fin [1, 0, 2] ⟨rfl, rfl, rfl, rfl, rfl, rfl, rfl, rfl, rfl, trivial⟩ rfl) (fun n z11 y10 h => ?_)));unfold chg_Wearing_l1 at h;refine sr (jb (o_lss rfl) ?_);refine nt (JC.seq (ci h (fun h => ?_) (fun h => ?_)))
     ·refine sk (JC.cutB (Z := Unit) (α := Int × Int) (fun z13 x12 => [(2, I a2), (8, .eq (.pointer (some ⟨z4.1, 0, none⟩))), (10, .eq (.int .u8 x12.1)), (11, Ri r6.1), (12, Pt b7), (13, .eq (.int .u8 x12.2)), (40, Rs tStep a1), (41, I (a1.length : Int)), (42, I y10.2.2)]) (fun z13 x12 => [.obj z4.1 98 (Qq q3 (.eq (.map (some z4.2)))), .obj b7 113 (.rep (.arr 4 (.int .i64)) r6.2), .raw z4.2 (.map #[] 0)]) h (fun K h => ?_) (fun z13 x12 h => ?_))
      ·refine JC.block (sr (mq ?_));obtain ⟨x14, ex14, h⟩ := b_bind h;refine jb (o_index (t := tStep) rfl U33 sz59 ex14) ?_;refine ja (o_load_at (t := tStep) rfl sz59 rfl) ?_;refine JO.s01 rfl rfl rfl (o_alloc rfl za59 al59) trivial fun b15 => ?_;refine aq ?_;refine JO.n11 rfl rfl (o_store rfl sz59 rfl rfl rfl) ⟨rfl, rfl, trivial⟩ ?_;refine nt (JC.seq (JC.drawN ?_));refine dm ?_;refine da (o_nil_obj rfl) ?_;refine da (o_field_obj rfl fo98_1) ?_;refine ea 1 (o_load_obj rfl sz93 nfs rfl) ?_;refine da (o_field_obj rfl fo59_0) ?_;refine ea 0 (o_load_obj rfl sz3 nfs rfl) ?_;refine df mixed ?_;obtain ⟨x16, ex16, h⟩ := b_bind h;refine jb (o_index (t := (.tag 109 111)) rfl U93 sz108 ex16) ?_;refine ja (o_load_at (t := (.tag 109 111)) rfl sz108 rfl) ?_;refine aq (nt (sr ?_));refine mq (nt (JC.block (sr ?_)));refine JO.s rfl (o_as0 rfl ta109 (by decide)) ⟨rfl, trivial⟩ ?_;refine xr ?_;refine xr ?_;refine nt (cw h (fun h => ?_) (fun h => ?_))
       ·refine sr ?_;iterate 2 refine mq ?_
        obtain ⟨x17, ex17, h⟩ := b_bind h;refine jb (o_index (t := (.int .i64)) rfl U22 sz3 ex17) ?_;refine ja (o_load_at (t := (.int .i64)) rfl sz3 rfl) ?_;refine mq ?_;refine jb (o_leq rfl) ?_;refine nt (ci h (fun h => ?_) (fun h => ?_))
        ·refine JC.region ?_;iterate 2 refine mq ?_
         obtain ⟨r18, er18, h⟩ := b_bind h;refine JO.s rfl (o_invoke rfl rfl mt109_thing mt111_thing (ctr_cond (fun hb => chg_off_thing_ok k x16.2 r18 (by simpa [hb] using er18)) (fun hb => chg_on_thing_ok k x16.2 r18 (by simpa [hb] using er18)))) ⟨rfl, trivial⟩ ?_;refine ja (o_litB (t := (.int .i64)) [(.tmp 79, _)] [r18] rfl rfl sl22 (.cons rfl .int .nil) rfl rfl) ?_;obtain ⟨r19, er19, h⟩ := b_bind h;refine ja (o_call [.tmp 80] rfl rfl en40 rfl (chg_of_ok k [r18] r19 er19)) ?_;refine jb (o_andn rfl) ?_;refine aq (JO.nil (JN.blk_n (bn ?_)));exact jz ((), (iandn .u8 y10.1 r19, y10.2.1)) h [1, 2, 3]
        ·refine JC.skip (JN.blk_n (bn ?_));exact jz ((), (y10.1, y10.2.1)) h [1, 2, 3]
       ·refine sr (fl fo59_0 ?_);refine lo sz3 ?_;obtain ⟨u20, eu20, h⟩ := b_bind h;refine jb (o_index_arr rfl U113 sz3 (chkP_some eu20).1 (chkP_some eu20).2) ?_;obtain ⟨x21, ex21, h⟩ := b_bind h;refine fr 2 ?_;refine ka (o_load_arr (t := (.int .i64)) (off := 0) (i := x14.1) (N := 4) rfl sz3 (fun _ => rfl) rfl rfl rfl rfl ex21) ?_;refine mq ?_;refine jb (o_leq rfl) ?_;refine nt (ci h (fun h => ?_) (fun h => ?_))
        ·refine JC.region ?_;iterate 2 refine mq ?_
         obtain ⟨r22, er22, h⟩ := b_bind h;refine JO.s rfl (o_invoke rfl rfl mt109_thing mt111_thing (ctr_cond (fun hb => chg_off_thing_ok k x16.2 r22 (by simpa [hb] using er22)) (fun hb => chg_on_thing_ok k x16.2 r22 (by simpa [hb] using er22)))) ⟨rfl, trivial⟩ ?_;refine ja (o_litB (t := (.int .i64)) [(.tmp 64, _)] [r22] rfl rfl sl22 (.cons rfl .int .nil) rfl rfl) ?_;obtain ⟨r23, er23, h⟩ := b_bind h;refine ja (o_call [.tmp 65] rfl rfl en40 rfl (chg_of_ok k [r22] r23 er23)) ?_;refine jb (o_or rfl) ?_;refine aq (JO.nil (JN.blk_n (bn ?_)));exact jz ((), (y10.1, ior .u8 y10.2.1 r23)) h [2, 0, 3]
        ·refine JC.skip (JN.blk_n (bn ?_));exact jz ((), (y10.1, y10.2.1)) h [2, 0, 3]
      ·refine JC.region ?_;obtain ⟨x24, ex24, h⟩ := b_bind h;refine jb (o_add rfl ex24) ?_;refine mq (nl ?_);exact jz ((), (x12.1, x12.2, x24)) h [0, 1, 2]
     ·refine xa ?_;exact jz ((), (y10.1, y10.2.1)) h [2]
    ·refine sr ?_;iterate 2 refine mq ?_
     refine jb (o_or rfl) ?_;obtain ⟨r25, er25, h⟩ := b_bind h;refine ja (o_call [.tmp 86] rfl rfl en41 rfl (chg_set_list_ok k (ior .u8 x8.1 x8.2) r25 er25)) ?_;refine aq ?_;refine cq (nt (JC.ret ?_));cases h;exact rb


def chg_Through_l1 (k : Nat) (a0 : (List dChange)) : Nat → ((List dquick) × Int) → Option (Except ((List Int) × Int) (List dquick))
 | 0, _ => none
 | n + 1, y4 =>
  if y4.2 < (a0.length : Int) then ((geti a0 y4.2).bind fun x6 =>
  (chg_begin k x6).bind fun r8 =>
  casesO r8.1 (if ¬ (r8.2 = (0 : Int)) then (some (.error ([], r8.2))) else (none)) (fun q9 => if ¬ (r8.2 = (0 : Int)) then (some (.error ([], r8.2))) else ((chkP (okLen (List.length y4.1 + List.length [((q9.1.1, q9.1.2.1, q9.1.2.2.1, q9.1.2.2.2), q9.2.1, q9.2.2, ())]))).bind fun _ =>
  (ck (y4.2 + (1 : Int))).bind fun x13 =>
  chg_Through_l1 k a0 n (y4.1 ++ [((q9.1.1, q9.1.2.1, q9.1.2.2.1, q9.1.2.2.2), q9.2.1, q9.2.2, ())], x13)))) else (some (.ok y4.1))

def chg_Through_l2 (k : Nat) (x2 : (List dquick)) : Nat → Int → Option (Except ((List Int) × Int) Unit)
 | 0, _ => none
 | n + 1, y16 =>
  if y16 < (x2.length : Int) then ((geti x2 y16).bind fun x18 =>
  (geti x2 (0 : Int)).bind fun x19 =>
  if ¬ ((x18.1.2.1.length : Int) = (x19.1.2.1.length : Int)) then (some (.error ([], (9 : Int)))) else ((ck (y16 + (1 : Int))).bind fun x20 =>
  chg_Through_l2 k x2 n x20)) else (some (.ok ()))

def chg_Through_l3 (k : Nat) (a1 : (List Int)) : Nat → Int → Option (Except ((List Int) × Int) Unit)
 | 0, _ => none
 | n + 1, y24 =>
  if y24 < (a1.length : Int) then ((geti a1 y24).bind fun x26 =>
  (chg_outside k x26 (0 : Int) (20 : Int)).bind fun r27 =>
  if r27 = true then (some (.error ([], (1 : Int)))) else ((ck (y24 + (1 : Int))).bind fun x28 =>
  chg_Through_l3 k a1 n x28)) else (some (.ok ()))

def chg_Through_l5 (k : Nat) (x36 : Int) (r41 : (List dDresser)) : Nat → ((List dDresser) × Int) → Option (List dDresser)
 | 0, _ => none
 | n + 1, y45 =>
  if y45.2 < (r41.length : Int) then ((geti y45.1 y45.2).bind fun x47 =>
  (ck (x47.2.2 - x36)).bind fun x48 =>
  (geti y45.1 y45.2).bind fun x49 =>
  (ck (y45.2 + (1 : Int))).bind fun x50 =>
  chg_Through_l5 k x36 r41 n (List.set y45.1 (Int.toNat y45.2) (x49.1, x49.2.1, imax (0 : Int) x48), x50)) else (some y45.1)

def chg_Through_l4 (k : Nat) (a1 : (List Int)) (x2 : (List dquick)) : Nat → ((List Int) × Int × Int) → Option (Except ((List Int) × Int) (List Int))
 | 0, _ => none
 | n + 1, y31 =>
  if y31.2.2 < (x2.length : Int) then (bE (α := (List Int) × Int) ((geti x2 y31.2.2).bind fun x35 =>
  ((if (0 : Int) < y31.2.2 then ((ck (y31.2.2 - (1 : Int))).bind fun x38 =>
  (geti a1 x38).bind fun x39 =>
  (ck (y31.2.1 + x39)).bind fun x40 =>
  some x40) else (some y31.2.1)) : Option (Int)).bind fun x36 =>
  (slc_Clone_Dresser k x35.1.2.1).bind fun r41 =>
  ((chg_Through_l5 k x36 r41 k (r41, (0 : Int))) : Option ((List dDresser))).bind fun x43 =>
  (chg_quick_fewestF k x35 x43).bind fun r51 =>
  if ¬ (r51.2 = true) then (some (.error ([], (11 : Int)))) else ((ck (x36 + r51.1)).bind fun x52 =>
  (chkP (okLen (List.length y31.1 + List.length [x52]))).bind fun _ =>
  some (.ok (y31.1 ++ [x52], x52)))) (fun e => some (.error e)) fun x33 =>
  (ck (y31.2.2 + (1 : Int))).bind fun x55 =>
  chg_Through_l4 k a1 x2 n (x33.1, x33.2, x55)) else (some (.ok y31.1))
def chg_Through (k : Nat) (a0 : (List dChange)) (a1 : (List Int)) : Option ((List Int) × Int) :=
 (chg_sized k (a0.length : Int) (3 : Int)).bind fun r1 =>
 if ¬ (r1 = (0 : Int)) then (some ([], r1)) else (bE (α := (List dquick)) (chg_Through_l1 k a0 k (([] : (List dquick)), (0 : Int))) (some) fun x2 =>
 bE (α := Unit) (chg_Through_l2 k x2 k (0 : Int)) (some) fun _ =>
 (ck ((a0.length : Int) - (1 : Int))).bind fun x21 =>
 if ¬ ((a1.length : Int) = x21) then (some ([], (9 : Int))) else (bE (α := Unit) (chg_Through_l3 k a1 k (0 : Int)) (some) fun _ =>
 bE (α := (List Int)) (chg_Through_l4 k a1 x2 k (([] : (List Int)), (0 : Int), (0 : Int))) (some) fun x29 =>
 some (x29, (0 : Int))))

theorem chg_Through_ok (k : Nat) (a0 : (List dChange)) (a1 : (List Int)) (r : (List Int) × Int) (h : chg_Through k a0 a1 = some r) :
 Ctr Try.prog 28 [Rs tChange a0, Ri a1] [] (fun _ : Unit => (resA [Ri r.1, I r.2], [])) := by
 unfold chg_Through at h
 replace h := b_top h
 refine Ctr.of 143 Try.func28 rfl Try.ntmps28 rfl fun S w0 => ?_
 refine sr ?_
 refine cq ?_
 refine cq ?_
 refine nt ?_
 refine JC.seq ?_
 refine sr ?_
 refine mq ?_
 refine ol U74 ?_
 obtain ⟨r1, er1, h⟩ := b_bind h
 have cr1 := chg_sized_ok k (a0.length : Int) (3 : Int) r1 er1
 refine jb (o_call [.tmp 25, .const (.int .i64 (3))] rfl rfl en44 rfl cr1) ?_
 refine aq ?_
 refine nt ?_
 refine sr ?_
 refine mq ?_
 refine jb (o_neq rfl) ?_
 refine nt ?_
 refine cn h (fun h => ?_) (fun h => ?_)
 ·
  refine sr (mq ?_);refine cq ?_;refine aq (nt (rx ?_));refine JN.se (SE.ent (t := (.slice (.int .i64))) (x := []) 4 rfl .nil rfl rfl) ?_;cases h;exact rb
 ·
  refine sk (sr (cq (nt ?_)));refine JC.cutE (Z := Value) (α := (List dquick)) (fun z3 x2 => [(0, Rs tChange a0), (1, Ri a1), (7, .eq z3)]) (fun z3 x2 => [.sl z3 83 (.ptr tquick) x2]) (fun e => e = r) h (fun e h => Option.some.inj h) (fun K hR h => ?_) (fun z3 x2 h => ?_)
  ·refine sr (mq ?_);refine ol U74 ?_;refine JO.mc rfl ?_;refine nt (JC.block (JC.se (SE.nil 83 (.ptr tquick)) ?_));refine JC.loopB (Z := Value) (α := (List dquick) × Int) (fun z5 y4 => [(0, Rs tChange a0), (1, Ri a1), (7, .eq z5), (30, Rs tChange a0), (31, I (a0.length : Int)), (32, I y4.2)]) (fun z5 y4 => [.sl z5 83 (.ptr tquick) y4.1]) (chg_Through_l1 k a0) k (.slice none 0 0) (([] : (List dquick)), (0 : Int)) (fun _ => rfl) h (SE.fin [0] ⟨rfl, rfl, rfl, rfl, rfl, rfl, trivial⟩ rfl) (fun n z5 y4 h => ?_);unfold chg_Through_l1 at h;refine sr (jb (o_lss rfl) ?_);refine nt (JC.seq (ci h (fun h => ?_) (fun h => ?_)))
   ·refine sk (JC.seq (JC.block (sr ?_)));obtain ⟨x6, ex6, h⟩ := b_bind h;refine jb (o_index (t := tChange) rfl U74 sz26 ex6) ?_;refine ja (o_load_at (t := tChange) rfl sz26 rfl) ?_;refine JO.s01 rfl rfl rfl (o_alloc rfl za26 al26) trivial fun b7 => ?_;refine JO.n11 rfl rfl (o_store rfl sz26 rfl rfl rfl) ⟨rfl, rfl, trivial⟩ ?_;refine nt (sr (lo sz26 ?_));obtain ⟨r8, er8, h⟩ := b_bind h;have cr8 := chg_begin_ok k x6 r8 er8;rcases hr : r8.1 with _ | q9
    ·rw [hr] at h cr8; replace h := co_n h;refine JO.stepG (Δ := []) (F := _) (fun _ _ _ => wanted_none rfl _) rfl rfl (o_call [.tmp 37] rfl rfl en34 rfl cr8) ⟨rfl, trivial⟩ fun _ => ?_;refine mq ?_;refine xr ?_;refine xr ?_;refine aq ?_;refine aq (nt (JC.seq (sr ?_)));refine mq ?_;refine jb (o_neq rfl) ?_;refine nt (cn h (fun h => ?_) (fun h => ?_))
     ·refine sr (mq ?_);refine cq ?_;refine aq (nt (rx (br (JN.blk_r (JN.then_r ?_)))));refine JN.se (SE.ent (t := (.slice (.int .i64))) (x := []) 4 rfl .nil rfl rfl) ?_;obtain rfl := hR _ h;exact rb
     ·refine sk (JC.region ?_);iterate 2 refine mq ?_
      cases h
    ·rw [hr] at h cr8; replace h := co_s h;refine JO.stepG (Δ := []) (F := _) (fun _ _ _ => wanted_none rfl _) rfl rfl (o_call [.tmp 37] rfl rfl en34 rfl cr8) ⟨rfl, trivial⟩ fun z10 => ?_;refine mq ?_;refine xr ?_;refine xr ?_;refine aq ?_;refine aq (nt (JC.seq (sr ?_)));refine mq ?_;refine jb (o_neq rfl) ?_;refine nt (cn h (fun h => ?_) (fun h => ?_))
     ·refine sr (mq ?_);refine cq ?_;refine aq (nt (rx (br (JN.blk_r (JN.then_r ?_)))));refine JN.se (SE.ent (t := (.slice (.int .i64))) (x := []) 4 rfl .nil rfl rfl) ?_;obtain rfl := hR _ h;exact rb
     ·refine sk (JC.region ?_);iterate 2 refine mq ?_
      refine JO.se (SE.frzObj (t := tquick) (x := ((q9.1.1, q9.1.2.1, q9.1.2.2.1, q9.1.2.2.2), q9.2.1, q9.2.2, ())) [10, 39, 45] (.agg (.pair (.agg (.pair .rep (.pair .rep (.pair .rep .rep)))) (.pair .rep (.pair .rep (.ign rfl))))) ⟨rfl, rfl, rfl, trivial⟩) ?_;refine ja (o_litB (t := (.ptr tquick)) [(.tmp 45, _)] [((q9.1.1, q9.1.2.1, q9.1.2.2.1, q9.1.2.2.2), q9.2.1, q9.2.2, ())] rfl rfl sl128 (.cons trivial .ptr .nil) rfl rfl) ?_;obtain ⟨u11, eu11, h⟩ := b_bind h;refine fr 2 ?_;refine JO.s1x rfl rfl rfl (o_append rfl rfl sl128 (chkP_some eu11)) ⟨rfl, rfl, trivial⟩ fun v12 => ?_;refine aq (JO.nil (JN.blk_n (tn (JC.region ?_))));obtain ⟨x13, ex13, h⟩ := b_bind h;refine jb (o_add rfl ex13) ?_;refine mq (nl ?_);exact jz (v12, (y4.1 ++ [((q9.1.1, q9.1.2.1, q9.1.2.2.1, q9.1.2.2.2), q9.2.1, q9.2.2, ())], x13)) h [0]
   ·refine xa ?_;exact jz (z5, y4.1) h [0]
  ·refine JC.cutE (Z := Unit) (α := Unit) (fun z15 x14 => [(0, Rs tChange a0), (1, Ri a1), (7, .eq z3)]) (fun z15 x14 => [.sl z3 83 (.ptr tquick) x2]) (fun e => e = r) h (fun e h => Option.some.inj h) (fun K hR h => ?_) (fun z15 x14 h => ?_)
   ·refine sr (mq ?_);refine ka (o_len_own rfl rfl U128) ?_;refine JO.mc rfl ?_;refine nt (JC.block (JC.loopB (Z := Unit) (α := Int) (fun z17 y16 => [(0, Rs tChange a0), (1, Ri a1), (7, .eq z3), (49, .eq z3), (50, I (x2.length : Int)), (51, I y16)]) (fun z17 y16 => [.sl z3 83 (.ptr tquick) x2]) (chg_Through_l2 k x2) k () (0 : Int) (fun _ => rfl) h (SE.fin [0] ⟨rfl, rfl, rfl, rfl, rfl, rfl, trivial⟩ rfl) (fun n z17 y16 h => ?_)));unfold chg_Through_l2 at h;refine sr (jb (o_lss rfl) ?_);refine nt (JC.seq (ci h (fun h => ?_) (fun h => ?_)))
    ·refine sk (JC.seq (JC.block (sr ?_)));obtain ⟨x18, ex18, h⟩ := b_bind h;refine kb (o_index_own (t := (.ptr tquick)) rfl U128 sz83 ex18) ?_;refine ka (o_load_el (i := Int.toNat y16) (off := 0) rfl sz83 (fun _ => rfl) rfl (geti_some ex18).2.2 rfl) ?_;refine aq (nt (JC.seq ?_));refine JC.drawN ?_;refine dm ?_;refine da (o_nil_at rfl) ?_;refine da (o_field_at 4 true rfl fo98_0 rfl) ?_;refine da (o_field_at 1 false rfl fo26_1 rfl) ?_;refine da (o_load_at (t := (.slice tDresser)) rfl sz24 rfl) ?_;refine da (o_len rfl rfl U24) ?_;refine dm ?_;obtain ⟨x19, ex19, h⟩ := b_bind h;refine eb 0 (o_index_own (t := (.ptr tquick)) rfl U128 sz83 ex19) ?_;refine ea 0 (o_load_el (i := Int.toNat (0 : Int)) (off := 0) rfl sz83 (fun _ => rfl) rfl (geti_some ex19).2.2 rfl) ?_;refine da (o_nil_at rfl) ?_;refine da (o_field_at 4 true rfl fo98_0 rfl) ?_;refine da (o_field_at 1 false rfl fo26_1 rfl) ?_;refine da (o_load_at (t := (.slice tDresser)) rfl sz24 rfl) ?_;refine da (o_len rfl rfl U24) ?_;refine df mixed ?_;refine jb (o_neq rfl) ?_;refine nt (cn h (fun h => ?_) (fun h => ?_))
     ·refine sr (cq ?_);refine cq (nt (JC.ret (br (JN.blk_r (JN.then_r ?_)))));refine JN.se (SE.ent (t := (.slice (.int .i64))) (x := []) 4 rfl .nil rfl rfl) ?_;obtain rfl := hR _ h;exact rb
     ·refine JC.skip (JN.blk_n (tn (JC.region ?_)));obtain ⟨x20, ex20, h⟩ := b_bind h;refine jb (o_add rfl ex20) ?_;refine mq (nl ?_);exact jz ((), x20) h [0]
    ·refine xa ?_;exact jz ((), ()) h [0]
   ·refine JC.seq (sr (mq ?_));refine ol U22 ?_;refine mq ?_;refine ol U74 ?_;obtain ⟨x21, ex21, h⟩ := b_bind h;refine jb (o_sub rfl ex21) ?_;refine jb (o_neq rfl) ?_;refine nt (cn h (fun h => ?_) (fun h => ?_))
    ·refine sr (cq ?_);refine cq (nt (rx ?_));refine JN.se (SE.ent (t := (.slice (.int .i64))) (x := []) 4 rfl .nil rfl rfl) ?_;cases h;exact rb
    ·refine sk (JC.cutE (Z := Unit) (α := Unit) (fun z23 x22 => [(1, Ri a1), (7, .eq z3)]) (fun z23 x22 => [.sl z3 83 (.ptr tquick) x2]) (fun e => e = r) h (fun e h => Option.some.inj h) (fun K hR h => ?_) (fun z23 x22 h => ?_))
     ·refine sr (mq ?_);refine ol U22 ?_;refine JO.mc rfl ?_;refine nt (JC.block (JC.loopB (Z := Unit) (α := Int) (fun z25 y24 => [(1, Ri a1), (7, .eq z3), (77, Ri a1), (78, I (a1.length : Int)), (79, I y24)]) (fun z25 y24 => [.sl z3 83 (.ptr tquick) x2]) (chg_Through_l3 k a1) k () (0 : Int) (fun _ => rfl) h (SE.fin [0] ⟨rfl, rfl, rfl, rfl, rfl, trivial⟩ rfl) (fun n z25 y24 h => ?_)));unfold chg_Through_l3 at h;refine sr (jb (o_lss rfl) ?_);refine nt (JC.seq (ci h (fun h => ?_) (fun h => ?_)))
      ·refine sk (JC.seq (JC.block (sr ?_)));obtain ⟨x26, ex26, h⟩ := b_bind h;refine jb (o_index (t := (.int .i64)) rfl U22 sz3 ex26) ?_;refine ja (o_load_at (t := (.int .i64)) rfl sz3 rfl) ?_;refine aq (nt (sr ?_));refine mq ?_;obtain ⟨r27, er27, h⟩ := b_bind h;refine jc (o_call [.tmp 83, .const (.int .i64 (0)), .const (.int .i64 (20))] rfl rfl en46 rfl (chg_outside_ok k x26 (0 : Int) (20 : Int) r27 er27)) ?_;refine nt (cv h (fun h => ?_) (fun h => ?_))
       ·refine sr (cq ?_);refine cq (nt (JC.ret (br (JN.blk_r (JN.then_r ?_)))));refine JN.se (SE.ent (t := (.slice (.int .i64))) (x := []) 4 rfl .nil rfl rfl) ?_;obtain rfl := hR _ h;exact rb
       ·refine JC.skip (JN.blk_n (tn (JC.region ?_)));obtain ⟨x28, ex28, h⟩ := b_bind h;refine jb (o_add rfl ex28) ?_;refine mq (nl ?_);exact jz ((), x28) h [0]
      ·refine xa ?_;exact jz ((), ()) h [0]
     ·refine sr (cq (nt (sr ?_)));refine cq (nt ?_);refine JC.cutE (Z := Value) (α := (List Int)) (fun z30 x29 => [(16, .eq z30)]) (fun z30 x29 => [.sl z30 3 (.int .i64) x29]) (fun e => e = r) h (fun e h => Option.some.inj h) (fun K hR h => ?_) (fun z30 x29 h => ?_)
      ·refine sr (mq ?_);refine ka (o_len_own rfl rfl U128) ?_;refine JO.mc rfl ?_;refine nt (JC.block (JC.se (SE.nil 3 (.int .i64)) ?_));refine JC.loopB (Z := Value) (α := (List Int) × Int × Int) (fun z32 y31 => [(1, Ri a1), (16, .eq z32), (17, I y31.2.1), (86, .eq z3), (87, I (x2.length : Int)), (88, I y31.2.2)]) (fun z32 y31 => [.sl z32 3 (.int .i64) y31.1, .sl z3 83 (.ptr tquick) x2]) (chg_Through_l4 k a1 x2) k (.slice none 0 0) (([] : (List Int)), (0 : Int), (0 : Int)) (fun _ => rfl) h (SE.fin [0, 1] ⟨rfl, rfl, rfl, rfl, rfl, rfl, trivial⟩ rfl) (fun n z32 y31 h => ?_);unfold chg_Through_l4 at h;refine sr (jb (o_lss rfl) ?_);refine nt (JC.seq (ci h (fun h => ?_) (fun h => ?_)))
       ·refine sk (JC.cutE (Z := Value) (α := (List Int) × Int) (fun z34 x33 => [(1, Ri a1), (16, .eq z34), (17, I x33.2), (86, .eq z3), (87, I (x2.length : Int)), (88, I y31.2.2)]) (fun z34 x33 => [.sl z34 3 (.int .i64) x33.1, .sl z3 83 (.ptr tquick) x2]) (fun e => e = r) h (fun e h => hR e h) (fun K hR h => ?_) (fun z34 x33 h => ?_))
        ·refine JC.block (sr (mq ?_));obtain ⟨x35, ex35, h⟩ := b_bind h;refine fr 1 ?_;refine kb (o_index_own (t := (.ptr tquick)) rfl U128 sz83 ex35) ?_;refine ka (o_load_el (i := Int.toNat y31.2.2) (off := 0) rfl sz83 (fun _ => rfl) rfl (geti_some ex35).2.2 rfl) ?_;refine aq ?_;refine aq (nt ?_);refine JC.cutB (Z := Unit) (α := Int) (fun z37 x36 => [(1, Ri a1), (16, .eq z32), (17, I x36), (19, .at tquick x35), (86, .eq z3), (87, I (x2.length : Int)), (88, I y31.2.2)]) (fun z37 x36 => [.sl z32 3 (.int .i64) y31.1, .sl z3 83 (.ptr tquick) x2]) h (fun K h => ?_) (fun z37 x36 h => ?_)
         ·refine sr (mq ?_);refine jb (o_gtr rfl) ?_;refine nt (ci h (fun h => ?_) (fun h => ?_))
          ·refine JC.region ?_;iterate 3 refine mq ?_
           obtain ⟨x38, ex38, h⟩ := b_bind h;refine jb (o_sub rfl ex38) ?_;obtain ⟨x39, ex39, h⟩ := b_bind h;refine jb (o_index (t := (.int .i64)) rfl U22 sz3 ex39) ?_;refine ja (o_load_at (t := (.int .i64)) rfl sz3 rfl) ?_;obtain ⟨x40, ex40, h⟩ := b_bind h;refine jb (o_add rfl ex40) ?_;refine aq (nl ?_);exact jz ((), x40) h [1, 0]
          ·refine JC.skip (JN.then_n ?_);exact jz ((), y31.2.1) h [1, 0]
         ·refine sr (mq ?_);refine ja (o_nil_at rfl) ?_;refine ja (o_field_at 4 true rfl fo98_0 rfl) ?_;refine ja (o_field_at 1 false rfl fo26_1 rfl) ?_;refine ja (o_load_at (t := (.slice tDresser)) rfl sz24 rfl) ?_;obtain ⟨r41, er41, h⟩ := b_bind h;refine JO.s01 rfl rfl rfl (o_call [.tmp 106] rfl rfl en55 rfl (slc_Clone_Dresser_ok k x35.1.2.1 r41 er41)) ⟨rfl, trivial⟩ fun v42 => ?_;refine aq (nt ?_);refine JC.cutB (Z := Unit) (α := (List dDresser)) (fun z44 x43 => [(1, Ri a1), (16, .eq z32), (17, I x36), (19, .at tquick x35), (20, .eq v42), (86, .eq z3), (87, I (x2.length : Int)), (88, I y31.2.2)]) (fun z44 x43 => [.sl z32 3 (.int .i64) y31.1, .sl v42 38 tDresser x43, .sl z3 83 (.ptr tquick) x2]) h (fun K h => ?_) (fun z44 x43 h => ?_)
          ·refine sr (mq ?_);refine ka (o_len_own rfl rfl U24) ?_;refine JO.mc rfl ?_;refine nt (JC.block (JC.loopB (Z := Unit) (α := (List dDresser) × Int) (fun z46 y45 => [(1, Ri a1), (16, .eq z32), (17, I x36), (19, .at tquick x35), (20, .eq v42), (86, .eq z3), (87, I (x2.length : Int)), (88, I y31.2.2), (109, I (r41.length : Int)), (110, I y45.2)]) (fun z46 y45 => [.sl z32 3 (.int .i64) y31.1, .sl v42 38 tDresser y45.1, .sl z3 83 (.ptr tquick) x2]) (chg_Through_l5 k x36 r41) k () (r41, (0 : Int)) (fun _ => rfl) h (SE.fin [1, 0, 2] ⟨rfl, rfl, rfl, rfl, rfl, rfl, rfl, rfl, rfl, rfl, trivial⟩ rfl) (fun n z46 y45 h => ?_)));unfold chg_Through_l5 at h;refine sr (jb (o_lss rfl) ?_);refine nt (JC.seq (ci h (fun h => ?_) (fun h => ?_)))
           ·refine sk (JC.seq (JC.block (sr (mq ?_))));refine aq (nt (JC.region ?_));iterate 4 refine mq ?_
            obtain ⟨x47, ex47, h⟩ := b_bind h;refine fr 1 ?_;refine kb (o_index_own (t := tDresser) rfl U24 sz38 ex47) ?_;refine ka (o_field_el rfl fo38_2 (geti_ne ex47)) ?_;refine ka (o_load_el (i := Int.toNat y45.2) (off := 2) rfl sz3 (fun _ => rfl) rfl (geti_some ex47).2.2 rfl) ?_;refine mq ?_;obtain ⟨x48, ex48, h⟩ := b_bind h;refine jb (o_sub rfl ex48) ?_;refine jb (o_max rfl rfl) ?_;obtain ⟨x49, ex49, h⟩ := b_bind h;refine kb (o_index_own (t := tDresser) rfl U24 sz38 ex49) ?_;refine ka (o_field_el rfl fo38_2 (geti_ne ex49)) ?_;refine JO.n11 rfl rfl (o_store_el (i := Int.toNat y45.2) (off := 2) rfl sz3 rfl (geti_some ex49).2.2 .int rfl (.agg (.right (.right .whole rfl) rfl))) ⟨rfl, rfl, trivial⟩ ?_;refine JO.nil (JN.blk_n (tn (JC.region ?_)));obtain ⟨x50, ex50, h⟩ := b_bind h;refine jb (o_add rfl ex50) ?_;refine mq (nl ?_);exact jz ((), (List.set y45.1 (Int.toNat y45.2) (x49.1, x49.2.1, imax (0 : Int) x48), x50)) h [1, 0, 2]
           ·refine xa ?_;exact jz ((), y45.1) h [0, 1, 2]
          ·refine sr ?_;iterate 2 refine mq ?_
           obtain ⟨r51, er51, h⟩ := b_bind h;refine fr 1 ?_;refine kb (OpT.borrow (N := [(.tmp 127, .at tquick x35), (.tmp 128, .eq v42)]) (o_call [.tmp 127, .tmp 128] rfl rfl en56 rfl (chg_quick_fewestF_ok k x35 x43 r51 er51)) (fun _ _ _ hv hn => ⟨hn.1, (lend hn.2.1 hv), trivial⟩) (fun _ => ⟨rfl, flat_nil⟩)) ?_;refine mq ?_;refine xr ?_;refine xr ?_;refine aq ?_;refine aq (nt (JC.seq (sr ?_)));refine mq ?_;refine ja (o_not rfl) ?_;refine nt (cw h (fun h => ?_) (fun h => ?_))
           ·refine sr (cq ?_);refine cq (nt (rx (br (JN.blk_r (JN.then_r ?_)))));refine JN.se (SE.ent (t := (.slice (.int .i64))) (x := []) 4 rfl .nil rfl rfl) ?_;obtain rfl := hR _ h;exact rb
           ·refine sk (sr ?_);iterate 2 refine mq ?_
            obtain ⟨x52, ex52, h⟩ := b_bind h;refine jb (o_add rfl ex52) ?_;refine aq (nt (JC.region ?_));iterate 2 refine mq ?_
            refine ja (o_litB (t := (.int .i64)) [(.tmp 138, _)] [x52] rfl rfl sl22 (.cons rfl .int .nil) rfl rfl) ?_;obtain ⟨u53, eu53, h⟩ := b_bind h;refine fr 1 ?_;refine JO.s1x rfl rfl rfl (o_append rfl rfl sl22 (chkP_some eu53)) ⟨rfl, rfl, trivial⟩ fun v54 => ?_;refine aq (JO.nil (bn ?_));exact jz (v54, (y31.1 ++ [x52], x52)) h [0, 2]
        ·refine JC.region ?_;obtain ⟨x55, ex55, h⟩ := b_bind h;refine jb (o_add rfl ex55) ?_;refine mq (nl ?_);exact jz (z34, (x33.1, x33.2, x55)) h [0, 1]
       ·refine xa ?_;exact jz (z32, y31.1) h [0]
      ·refine sr (mq ?_);refine aq ?_;refine cq (nt (JC.ret ?_));refine JN.se (SE.frz [4, 16, 142] ⟨rfl, rfl, rfl, trivial⟩) ?_;cases h;exact rb


def law_dressed (k : Nat) : Option Bool :=
 (law_quick k (0 : Int) (0 : Int) [(0 : Int), (2 : Int)]).bind fun r1 =>
 (chg_Fewest k r1).bind fun r3 =>
 (law_first k).bind fun r4 =>
 (chg_Begins k r1 r4).bind fun r5 =>
 (law_quick k (3 : Int) (0 : Int) [(0 : Int), (2 : Int)]).bind fun r6 =>
 (law_first k).bind fun r7 =>
 (chg_Late k r6 r7).bind fun r8 =>
 (chg_Spare k r1 (1 : Int)).bind fun r9 =>
 (law_first k).bind fun r10 =>
 (chg_Wearing k r1 r10 (4 : Int)).bind fun r11 =>
 (law_quick k (0 : Int) (3 : Int) [(0 : Int), (2 : Int)]).bind fun r12 =>
 (law_quick k (0 : Int) (3 : Int) [(0 : Int), (2 : Int)]).bind fun r13 =>
 (chg_Through k [r12, r13] [(0 : Int)]).bind fun r14 =>
 (law_quick k (0 : Int) (0 : Int) [(0 : Int)]).bind fun r15 =>
 (chg_Learn k r15).bind fun r16 =>
 ((if r3.2.2 = (0 : Int) then (if r5.2 = (0 : Int) then (if r8.2.2 = (0 : Int) then (if r9.2 = (0 : Int) then (if r11.2 = (0 : Int) then (if r14.2 = (0 : Int) then (if r16.2.2.2 = (0 : Int) then (if r3.2.1 = (4 : Int) then (if r8.1 = (2 : Int) then (if r8.2.1 = (3 : Int) then (if r9.1 = (3 : Int) then (if r16.1 = (1 : Int) then (if r16.2.1 = (2 : Int) then (if r16.2.2.1 = (4 : Int) then ((law_first k).bind fun r19 =>
 (kit_SameSteps k r3.1 r19).bind fun r20 =>
 if r20 = true then ((kit_SameInts k r5.1 [(0 : Int), (1 : Int), (3 : Int), (1 : Int)]).bind fun r21 =>
 if r21 = true then ((kit_SameInts k r11.1 [(1 : Int), (2 : Int)]).bind fun r22 =>
 if r22 = true then ((kit_SameInts k r14.1 [(7 : Int), (11 : Int)]).bind fun r23 =>
 some r23) else (some false)) else (some false)) else (some false)) else (some false)) else (some false)) else (some false)) else (some false)) else (some false)) else (some false)) else (some false)) else (some false)) else (some false)) else (some false)) else (some false)) else (some false)) else (some false)) else (some false)) : Option (Bool)).bind fun x17 =>
 some x17

theorem law_dressed_ok (k : Nat) (r : Bool) (h : law_dressed k = some r) :
 Ctr Try.prog 10 [] [] (fun _ : Unit => (resA [.eq (.bool r)], [])) := by
 unfold law_dressed at h
 replace h := b_top h
 refine Ctr.of 145 Try.func10 rfl Try.ntmps10 rfl fun S w0 => ?_
 refine sr ?_
 refine cq ?_
 refine nt ?_
 refine sr ?_
 refine jb (o_litB (t := (.int .i64)) [(.const (.int .i64 (0)), _), (.const (.int .i64 (2)), _)] [(0 : Int), (2 : Int)] rfl rfl sl22 (.cons rfl .int (.cons rfl .int .nil)) rfl rfl) ?_
 obtain ⟨r1, er1, h⟩ := b_bind h
 have cr1 := law_quick_ok k (0 : Int) (0 : Int) [(0 : Int), (2 : Int)] r1 er1
 refine jc (o_call [.const (.int .i64 (0)), .const (.int .i64 (0)), .tmp 20] rfl rfl en11 rfl cr1) ?_
 refine JO.s01 rfl rfl rfl (o_alloc rfl za26 al26) trivial fun b2 => ?_
 refine JO.n11 rfl rfl (o_store rfl sz26 rfl rfl rfl) ⟨rfl, rfl, trivial⟩ ?_
 refine nt ?_
 refine sr ?_
 refine lo sz26 ?_
 obtain ⟨r3, er3, h⟩ := b_bind h
 have cr3 := chg_Fewest_ok k r1 r3 er3
 refine ja (o_call [.tmp 23] rfl rfl en8 rfl cr3) ?_
 refine mq ?_
 refine xr ?_
 refine xr ?_
 refine xr ?_
 refine aq ?_
 refine aq ?_
 refine aq ?_
 refine nt ?_
 refine JC.seq ?_
 refine JC.drawN ?_
 refine ea 0 (o_load_obj rfl sz26 (nfn) rfl) ?_
 obtain ⟨r4, er4, h⟩ := b_bind h
 have cr4 := law_first_ok k  r4 er4
 refine DN.s00 rfl rfl rfl (o_call [] rfl rfl en16 rfl cr4) trivial ?_
 obtain ⟨r5, er5, h⟩ := b_bind h
 have cr5 := chg_Begins_ok k r1 r4 r5 er5
 refine db (o_call [.tmp 29, .tmp 30] rfl rfl en19 rfl cr5) ?_
 refine dm ?_
 refine da (o_extract rfl rfl) ?_
 refine da (o_extract rfl rfl) ?_
 refine da (o_assign rfl) ?_
 refine df mixed ?_
 refine aq ?_
 refine nt ?_
 refine sr ?_
 refine jb (o_litB (t := (.int .i64)) [(.const (.int .i64 (0)), _), (.const (.int .i64 (2)), _)] [(0 : Int), (2 : Int)] rfl rfl sl22 (.cons rfl .int (.cons rfl .int .nil)) rfl rfl) ?_
 obtain ⟨r6, er6, h⟩ := b_bind h
 have cr6 := law_quick_ok k (3 : Int) (0 : Int) [(0 : Int), (2 : Int)] r6 er6
 refine jc (o_call [.const (.int .i64 (3)), .const (.int .i64 (0)), .tmp 35] rfl rfl en11 rfl cr6) ?_
 obtain ⟨r7, er7, h⟩ := b_bind h
 have cr7 := law_first_ok k  r7 er7
 refine JO.s rfl (o_call [] rfl rfl en16 rfl cr7) trivial ?_
 obtain ⟨r8, er8, h⟩ := b_bind h
 have cr8 := chg_Late_ok k r6 r7 r8 er8
 refine jb (o_call [.tmp 36, .tmp 37] rfl rfl en20 rfl cr8) ?_
 refine mq ?_
 refine xr ?_
 refine xr ?_
 refine xr ?_
 refine aq ?_
 refine aq ?_
 refine aq ?_
 refine nt ?_
 refine sr ?_
 refine lo sz26 ?_
 obtain ⟨r9, er9, h⟩ := b_bind h
 have cr9 := chg_Spare_ok k r1 (1 : Int) r9 er9
 refine jb (o_call [.tmp 43, .const (.int .i64 (1))] rfl rfl en24 rfl cr9) ?_
 refine mq ?_
 refine xr ?_
 refine xr ?_
 refine aq ?_
 refine aq ?_
 refine nt ?_
 refine JC.seq ?_
 refine JC.drawN ?_
 refine ea 0 (o_load_obj rfl sz26 (nfn) rfl) ?_
 obtain ⟨r10, er10, h⟩ := b_bind h
 have cr10 := law_first_ok k  r10 er10
 refine DN.s00 rfl rfl rfl (o_call [] rfl rfl en16 rfl cr10) trivial ?_
 obtain ⟨r11, er11, h⟩ := b_bind h
 have cr11 := chg_Wearing_ok k r1 r10 (4 : Int) r11 er11
 refine dc (o_call [.tmp 48, .tmp 49, .const (.int .i64 (4))] rfl rfl en27 rfl cr11) ?_
 refine dm ?_
 refine da (o_extract rfl rfl) ?_
 refine da (o_extract rfl rfl) ?_
 refine da (o_assign rfl) ?_
 refine df mixed ?_
 refine aq ?_
 refine nt ?_
 refine sr ?_
 refine jb (o_litB (t := (.int .i64)) [(.const (.int .i64 (0)), _), (.const (.int .i64 (2)), _)] [(0 : Int), (2 : Int)] rfl rfl sl22 (.cons rfl .int (.cons rfl .int .nil)) rfl rfl) ?_
 obtain ⟨r12, er12, h⟩ := b_bind h
 have cr12 := law_quick_ok k (0 : Int) (3 : Int) [(0 : Int), (2 : Int)] r12 er12
 refine jc (o_call [.const (.int .i64 (0)), .const (.int .i64 (3)), .tmp 54] rfl rfl en11 rfl cr12) ?_
 refine jb (o_litB (t := (.int .i64)) [(.const (.int .i64 (0)), _), (.const (.int .i64 (2)), _)] [(0 : Int), (2 : Int)] rfl rfl sl22 (.cons rfl .int (.cons rfl .int .nil)) rfl rfl) ?_
 obtain ⟨r13, er13, h⟩ := b_bind h
 have cr13 := law_quick_ok k (0 : Int) (3 : Int) [(0 : Int), (2 : Int)] r13 er13
 refine jc (o_call [.const (.int .i64 (0)), .const (.int .i64 (3)), .tmp 56] rfl rfl en11 rfl cr13) ?_
 refine jb (o_litB (t := tChange) [(.tmp 55, _), (.tmp 57, _)] [r12, r13] rfl rfl sl74 (.cons rfl .rep (.cons rfl .rep .nil)) rfl rfl) ?_
 refine ja (o_litB (t := (.int .i64)) [(.const (.int .i64 (0)), _)] [(0 : Int)] rfl rfl sl22 (.cons rfl .int .nil) rfl rfl) ?_
 obtain ⟨r14, er14, h⟩ := b_bind h
 have cr14 := chg_Through_ok k [r12, r13] [(0 : Int)] r14 er14
 refine jb (o_call [.tmp 58, .tmp 59] rfl rfl en28 rfl cr14) ?_
 refine mq ?_
 refine xr ?_
 refine xr ?_
 refine aq ?_
 refine aq ?_
 refine nt ?_
 refine sr ?_
 refine ja (o_litB (t := (.int .i64)) [(.const (.int .i64 (0)), _)] [(0 : Int)] rfl rfl sl22 (.cons rfl .int .nil) rfl rfl) ?_
 obtain ⟨r15, er15, h⟩ := b_bind h
 have cr15 := law_quick_ok k (0 : Int) (0 : Int) [(0 : Int)] r15 er15
 refine jc (o_call [.const (.int .i64 (0)), .const (.int .i64 (0)), .tmp 64] rfl rfl en11 rfl cr15) ?_
 obtain ⟨r16, er16, h⟩ := b_bind h
 have cr16 := chg_Learn_ok k r15 r16 er16
 refine ja (o_call [.tmp 65] rfl rfl en25 rfl cr16) ?_
 refine mq ?_
 refine xr ?_
 refine xr ?_
 refine xr ?_
 refine xr ?_
 refine aq ?_
 refine aq ?_
 refine aq ?_
 refine aq ?_
 refine nt ?_
 refine JC.cutB (Z := Unit) (α := Bool) (fun z18 x17 => [(0, .eq (.bool x17))]) (fun z18 x17 => []) h (fun K h => ?_) (fun z18 x17 h => ?_)
 ·
  refine JC.region (mq ?_);refine jb (o_eql rfl) ?_;refine mq ?_;refine JO.bool (s := 73) rfl (fun hb => ?_) (fun hb => ?_)
  ·replace h := b_if (d_t hb) h;refine gm ?_;refine gb (o_eql rfl) ?_;refine pt ?_;refine mq ?_;refine JO.bool (s := 77) rfl (fun hb => ?_) (fun hb => ?_)
   ·replace h := b_if (d_t hb) h;refine gm ?_;refine gb (o_eql rfl) ?_;refine pt ?_;refine mq ?_;refine JO.bool (s := 81) rfl (fun hb => ?_) (fun hb => ?_)
    ·replace h := b_if (d_t hb) h;refine gm ?_;refine gb (o_eql rfl) ?_;refine pt ?_;refine mq ?_;refine JO.bool (s := 85) rfl (fun hb => ?_) (fun hb => ?_)
     ·replace h := b_if (d_t hb) h;refine gm ?_;refine gb (o_eql rfl) ?_;refine pt ?_;refine mq ?_;refine JO.bool (s := 89) rfl (fun hb => ?_) (fun hb => ?_)
      ·replace h := b_if (d_t hb) h;refine gm ?_;refine gb (o_eql rfl) ?_;refine pt ?_;refine mq ?_;refine JO.bool (s := 93) rfl (fun hb => ?_) (fun hb => ?_)
       ·replace h := b_if (d_t hb) h;refine gm ?_;refine gb (o_eql rfl) ?_;refine pt ?_;refine mq ?_;refine JO.bool (s := 97) rfl (fun hb => ?_) (fun hb => ?_)
        ·replace h := b_if (d_t hb) h;refine gm ?_;refine gb (o_eql rfl) ?_;refine pt ?_;refine mq ?_;refine JO.bool (s := 101) rfl (fun hb => ?_) (fun hb => ?_)
         ·replace h := b_if (d_t hb) h;refine gm ?_;refine gb (o_eql rfl) ?_;refine pt ?_;refine mq ?_;refine JO.bool (s := 105) rfl (fun hb => ?_) (fun hb => ?_)
          ·replace h := b_if (d_t hb) h;refine gm ?_;refine gb (o_eql rfl) ?_;refine pt ?_;refine mq ?_;refine JO.bool (s := 109) rfl (fun hb => ?_) (fun hb => ?_)
           ·replace h := b_if (d_t hb) h;refine gm ?_;refine gb (o_eql rfl) ?_;refine pt ?_;refine mq ?_;refine JO.bool (s := 113) rfl (fun hb => ?_) (fun hb => ?_)
            ·replace h := b_if (d_t hb) h;refine gm ?_;refine gb (o_eql rfl) ?_;refine pt ?_;refine mq ?_;refine JO.bool (s := 117) rfl (fun hb => ?_) (fun hb => ?_)
             ·replace h := b_if (d_t hb) h;refine gm ?_;refine gb (o_eql rfl) ?_;refine pt ?_;refine mq ?_;refine JO.bool (s := 121) rfl (fun hb => ?_) (fun hb => ?_)
              ·replace h := b_if (d_t hb) h;refine gm ?_;refine gb (o_eql rfl) ?_;refine pt ?_;refine mq ?_;refine JO.bool (s := 125) rfl (fun hb => ?_) (fun hb => ?_)
               ·replace h := b_if (d_t hb) h;refine gm ?_;obtain ⟨r19, er19, h⟩ := b_bind h;refine JO.g00 rfl rfl rfl rfl rfl rfl (o_call [] rfl rfl en16 rfl (law_first_ok k  r19 er19)) trivial ?_;obtain ⟨r20, er20, h⟩ := b_bind h;refine gb (o_call [.tmp 126, .tmp 127] rfl rfl en22 rfl (kit_SameSteps_ok k r3.1 r19 r20 er20)) ?_;refine pt ?_;refine mq ?_;refine JO.bool (s := 130) rfl (fun hb => ?_) (fun hb => ?_)
                ·replace h := b_if (v_t hb) h;refine gm ?_;refine JO.g00 rfl rfl rfl rfl rfl rfl (o_litB (t := (.int .i64)) [(.const (.int .i64 (0)), _), (.const (.int .i64 (1)), _), (.const (.int .i64 (3)), _), (.const (.int .i64 (1)), _)] [(0 : Int), (1 : Int), (3 : Int), (1 : Int)] rfl rfl sl22 (.cons rfl .int (.cons rfl .int (.cons rfl .int (.cons rfl .int .nil)))) rfl rfl) ⟨rfl, rfl, rfl, rfl, trivial⟩ ?_;obtain ⟨r21, er21, h⟩ := b_bind h;refine gb (o_call [.tmp 131, .tmp 132] rfl rfl en26 rfl (kit_SameInts_ok k r5.1 [(0 : Int), (1 : Int), (3 : Int), (1 : Int)] r21 er21)) ?_;refine pt ?_;refine mq ?_;refine JO.bool (s := 135) rfl (fun hb => ?_) (fun hb => ?_)
                 ·replace h := b_if (v_t hb) h;refine gm ?_;refine gb (o_litB (t := (.int .i64)) [(.const (.int .i64 (1)), _), (.const (.int .i64 (2)), _)] [(1 : Int), (2 : Int)] rfl rfl sl22 (.cons rfl .int (.cons rfl .int .nil)) rfl rfl) ?_;obtain ⟨r22, er22, h⟩ := b_bind h;refine gb (o_call [.tmp 136, .tmp 137] rfl rfl en26 rfl (kit_SameInts_ok k r11.1 [(1 : Int), (2 : Int)] r22 er22)) ?_;refine pt ?_;refine mq ?_;refine JO.bool (s := 140) rfl (fun hb => ?_) (fun hb => ?_)
                  ·replace h := b_if (v_t hb) h;refine gm ?_;refine gb (o_litB (t := (.int .i64)) [(.const (.int .i64 (7)), _), (.const (.int .i64 (11)), _)] [(7 : Int), (11 : Int)] rfl rfl sl22 (.cons rfl .int (.cons rfl .int .nil)) rfl rfl) ?_;obtain ⟨r23, er23, h⟩ := b_bind h;refine gb (o_call [.tmp 141, .tmp 142] rfl rfl en26 rfl (kit_SameInts_ok k r14.1 [(7 : Int), (11 : Int)] r23 er23)) ?_;refine pt ?_;refine aq (nl ?_);exact jz ((), r23) h []
                  ·replace h := b_ifn (v_f hb) h;iterate 3 refine gn ?_
                   refine pf ?_;refine aq (nl ?_);exact jz ((), false) h []
                 ·replace h := b_ifn (v_f hb) h;iterate 3 refine gn ?_
                  refine pf ?_;refine mq ?_;iterate 3 refine gn ?_
                  refine pf ?_;refine aq (nl ?_);exact jz ((), false) h []
                ·replace h := b_ifn (v_f hb) h;iterate 3 refine gn ?_
                 refine pf ?_;refine mq ?_;iterate 3 refine gn ?_
                 refine pf ?_;refine mq ?_;iterate 3 refine gn ?_
                 refine pf ?_;refine aq (nl ?_);exact jz ((), false) h []
               ·replace h := b_ifn (d_f hb) h;iterate 3 refine gn ?_
                refine pf ?_;refine mq ?_;iterate 3 refine gn ?_
                refine pf ?_;refine mq ?_;iterate 3 refine gn ?_
                refine pf ?_;refine mq ?_;iterate 3 refine gn ?_
                refine pf ?_;refine aq (nl ?_);exact jz ((), false) h []
              ·replace h := b_ifn (d_f hb) h;iterate 2 refine gn ?_
               refine pf ?_;refine mq ?_;iterate 3 refine gn ?_
               refine pf ?_;refine mq ?_;iterate 3 refine gn ?_
               refine pf ?_;refine mq ?_;iterate 3 refine gn ?_
               refine pf ?_;refine mq ?_;iterate 3 refine gn ?_
               refine pf ?_;refine aq (nl ?_);exact jz ((), false) h []
             ·replace h := b_ifn (d_f hb) h;iterate 2 refine gn ?_
              refine pf ?_;refine mq ?_;iterate 2 refine gn ?_
              refine pf ?_;refine mq ?_;iterate 3 refine gn ?_
              refine pf ?_;refine mq ?_;iterate 3 refine gn ?_
              refine pf ?_;refine mq ?_;iterate 3 refine gn ?_
              refine pf ?_;refine mq ?_;iterate 3 refine gn ?_
              refine pf ?_;refine aq (nl ?_);exact jz ((), false) h []
            ·replace h := b_ifn (d_f hb) h;iterate 2 refine gn ?_
             refine pf ?_;refine mq ?_;iterate 2 refine gn ?_
             refine pf ?_;refine mq ?_;iterate 2 refine gn ?_
             refine pf ?_;refine mq ?_;iterate 3 refine gn ?_
             refine pf ?_;refine mq ?_;iterate 3 refine gn ?_
             refine pf ?_;refine mq ?_;iterate 3 refine gn ?_
             refine pf ?_;refine mq ?_;iterate 3 refine gn ?_
             refine pf ?_;refine aq (nl ?_);exact jz ((), false) h []
           ·replace h := b_ifn (d_f hb) h;iterate 2 refine gn ?_
            refine pf ?_;refine mq ?_;iterate 2 refine gn ?_
            refine pf ?_;refine mq ?_;iterate 2 refine gn ?_
            refine pf ?_;refine mq ?_;iterate 2 refine gn ?_
            refine pf ?_;refine mq ?_;iterate 3 refine gn ?_
            refine pf ?_;refine mq ?_;iterate 3 refine gn ?_
            refine pf ?_;refine mq ?_;iterate 3 refine gn ?_
            refine pf ?_;refine mq ?_;iterate 3 refine gn ?_
            refine pf ?_;refine aq (nl ?_);exact jz ((), false) h []
          ·replace h := b_ifn (d_f hb) h;iterate 2 refine gn ?_
           refine pf ?_;refine mq ?_;iterate 2 refine gn ?_
           refine pf ?_;refine mq ?_;iterate 2 refine gn ?_
           refine pf ?_;refine mq ?_;iterate 2 refine gn ?_
           refine pf ?_;refine mq ?_;iterate 2 refine gn ?_
           refine pf ?_;refine mq ?_;iterate 3 refine gn ?_
           refine pf ?_;refine mq ?_;iterate 3 refine gn ?_
           refine pf ?_;refine mq ?_;iterate 3 refine gn ?_
           refine pf ?_;refine mq ?_;iterate 3 refine gn ?_
           refine pf ?_;refine aq (nl ?_);exact jz ((), false) h []
         ·replace h := b_ifn (d_f hb) h;iterate 2 refine gn ?_
          refine pf ?_;refine mq ?_;iterate 2 refine gn ?_
          refine pf ?_;refine mq ?_;iterate 2 refine gn ?_
          refine pf ?_;refine mq ?_;iterate 2 refine gn ?_
          refine pf ?_;refine mq ?_;iterate 2 refine gn ?_
          refine pf ?_;refine mq ?_;iterate 2 refine gn ?_
          refine pf ?_;refine mq ?_;iterate 3 refine gn ?_
          refine pf ?_;refine mq ?_;iterate 3 refine gn ?_
          refine pf ?_;refine mq ?_;iterate 3 refine gn ?_
          refine pf ?_;refine mq ?_;iterate 3 refine gn ?_
          refine pf ?_;refine aq (nl ?_);exact jz ((), false) h []
        ·replace h := b_ifn (d_f hb) h;iterate 2 refine gn ?_
         refine pf ?_;refine mq ?_;iterate 2 refine gn ?_
         refine pf ?_;refine mq ?_;iterate 2 refine gn ?_
         refine pf ?_;refine mq ?_;iterate 2 refine gn ?_
         refine pf ?_;refine mq ?_;iterate 2 refine gn ?_
         refine pf ?_;refine mq ?_;iterate 2 refine gn ?_
         refine pf ?_;refine mq ?_;iterate 2 refine gn ?_
         refine pf ?_;refine mq ?_;iterate 3 refine gn ?_
         refine pf ?_;refine mq ?_;iterate 3 refine gn ?_
         refine pf ?_;refine mq ?_;iterate 3 refine gn ?_
         refine pf ?_;refine mq ?_;iterate 3 refine gn ?_
         refine pf ?_;refine aq (nl ?_);exact jz ((), false) h []
       ·replace h := b_ifn (d_f hb) h;iterate 2 refine gn ?_
        refine pf ?_;refine mq ?_;iterate 2 refine gn ?_
        refine pf ?_;refine mq ?_;iterate 2 refine gn ?_
        refine pf ?_;refine mq ?_;iterate 2 refine gn ?_
        refine pf ?_;refine mq ?_;iterate 2 refine gn ?_
        refine pf ?_;refine mq ?_;iterate 2 refine gn ?_
        refine pf ?_;refine mq ?_;iterate 2 refine gn ?_
        refine pf ?_;refine mq ?_;iterate 2 refine gn ?_
        refine pf ?_;refine mq ?_;iterate 3 refine gn ?_
        refine pf ?_;refine mq ?_;iterate 3 refine gn ?_
        refine pf ?_;refine mq ?_;iterate 3 refine gn ?_
        refine pf ?_;refine mq ?_;iterate 3 refine gn ?_
        refine pf ?_;refine aq (nl ?_);exact jz ((), false) h []
      ·replace h := b_ifn (d_f hb) h;iterate 2 refine gn ?_
       refine pf ?_;refine mq ?_;iterate 2 refine gn ?_
       refine pf ?_;refine mq ?_;iterate 2 refine gn ?_
       refine pf ?_;refine mq ?_;iterate 2 refine gn ?_
       refine pf ?_;refine mq ?_;iterate 2 refine gn ?_
       refine pf ?_;refine mq ?_;iterate 2 refine gn ?_
       refine pf ?_;refine mq ?_;iterate 2 refine gn ?_
       refine pf ?_;refine mq ?_;iterate 2 refine gn ?_
       refine pf ?_;refine mq ?_;iterate 2 refine gn ?_
       refine pf ?_;refine mq ?_;iterate 3 refine gn ?_
       refine pf ?_;refine mq ?_;iterate 3 refine gn ?_
       refine pf ?_;refine mq ?_;iterate 3 refine gn ?_
       refine pf ?_;refine mq ?_;iterate 3 refine gn ?_
       refine pf ?_;refine aq (nl ?_);exact jz ((), false) h []
     ·replace h := b_ifn (d_f hb) h;iterate 2 refine gn ?_
      refine pf ?_;refine mq ?_;iterate 2 refine gn ?_
      refine pf ?_;refine mq ?_;iterate 2 refine gn ?_
      refine pf ?_;refine mq ?_;iterate 2 refine gn ?_
      refine pf ?_;refine mq ?_;iterate 2 refine gn ?_
      refine pf ?_;refine mq ?_;iterate 2 refine gn ?_
      refine pf ?_;refine mq ?_;iterate 2 refine gn ?_
      refine pf ?_;refine mq ?_;iterate 2 refine gn ?_
      refine pf ?_;refine mq ?_;iterate 2 refine gn ?_
      refine pf ?_;refine mq ?_;iterate 2 refine gn ?_
      refine pf ?_;refine mq ?_;iterate 3 refine gn ?_
      refine pf ?_;refine mq ?_;iterate 3 refine gn ?_
      refine pf ?_;refine mq ?_;iterate 3 refine gn ?_
      refine pf ?_;refine mq ?_;iterate 3 refine gn ?_
      refine pf ?_;refine aq (nl ?_);exact jz ((), false) h []
    ·replace h := b_ifn (d_f hb) h;iterate 2 refine gn ?_
     refine pf ?_;refine mq ?_;iterate 2 refine gn ?_
     refine pf ?_;refine mq ?_;iterate 2 refine gn ?_
     refine pf ?_;refine mq ?_;iterate 2 refine gn ?_
     refine pf ?_;refine mq ?_;iterate 2 refine gn ?_
     refine pf ?_;refine mq ?_;iterate 2 refine gn ?_
     refine pf ?_;refine mq ?_;iterate 2 refine gn ?_
     refine pf ?_;refine mq ?_;iterate 2 refine gn ?_
     refine pf ?_;refine mq ?_;iterate 2 refine gn ?_
     refine pf ?_;refine mq ?_;iterate 2 refine gn ?_
     refine pf ?_;refine mq ?_;iterate 2 refine gn ?_
     refine pf ?_;refine mq ?_;iterate 3 refine gn ?_
     refine pf ?_;refine mq ?_;iterate 3 refine gn ?_
     refine pf ?_;refine mq ?_;iterate 3 refine gn ?_
     refine pf ?_;refine mq ?_;iterate 3 refine gn ?_
     refine pf ?_;refine aq (nl ?_);exact jz ((), false) h []
   ·replace h := b_ifn (d_f hb) h;iterate 2 refine gn ?_
    refine pf ?_;refine mq ?_;iterate 2 refine gn ?_
    refine pf ?_;refine mq ?_;iterate 2 refine gn ?_
    refine pf ?_;refine mq ?_;iterate 2 refine gn ?_
    refine pf ?_;refine mq ?_;iterate 2 refine gn ?_
    refine pf ?_;refine mq ?_;iterate 2 refine gn ?_
    refine pf ?_;refine mq ?_;iterate 2 refine gn ?_
    refine pf ?_;refine mq ?_;iterate 2 refine gn ?_
    refine pf ?_;refine mq ?_;iterate 2 refine gn ?_
    refine pf ?_;refine mq ?_;iterate 2 refine gn ?_
    refine pf ?_;refine mq ?_;iterate 2 refine gn ?_
    refine pf ?_;refine mq ?_;iterate 2 refine gn ?_
    refine pf ?_;refine mq ?_;iterate 3 refine gn ?_
    refine pf ?_;refine mq ?_;iterate 3 refine gn ?_
    refine pf ?_;refine mq ?_;iterate 3 refine gn ?_
    refine pf ?_;refine mq ?_;iterate 3 refine gn ?_
    refine pf ?_;refine aq (nl ?_);exact jz ((), false) h []
  ·replace h := b_ifn (d_f hb) h;iterate 2 refine gn ?_
   refine pf ?_;refine mq ?_;iterate 2 refine gn ?_
   refine pf ?_;refine mq ?_;iterate 2 refine gn ?_
   refine pf ?_;refine mq ?_;iterate 2 refine gn ?_
   refine pf ?_;refine mq ?_;iterate 2 refine gn ?_
   refine pf ?_;refine mq ?_;iterate 2 refine gn ?_
   refine pf ?_;refine mq ?_;iterate 2 refine gn ?_
   refine pf ?_;refine mq ?_;iterate 2 refine gn ?_
   refine pf ?_;refine mq ?_;iterate 2 refine gn ?_
   refine pf ?_;refine mq ?_;iterate 2 refine gn ?_
   refine pf ?_;refine mq ?_;iterate 2 refine gn ?_
   refine pf ?_;refine mq ?_;iterate 2 refine gn ?_
   refine pf ?_;refine mq ?_;iterate 2 refine gn ?_
   refine pf ?_;refine mq ?_;iterate 3 refine gn ?_
   refine pf ?_;refine mq ?_;iterate 3 refine gn ?_
   refine pf ?_;refine mq ?_;iterate 3 refine gn ?_
   refine pf ?_;refine mq ?_;iterate 3 refine gn ?_
   refine pf ?_;refine aq (nl ?_);exact jz ((), false) h []
 ·
  refine JC.ret ?_;cases h;exact ra


def chg_Tasks_l1 (k : Nat) (q3 : (dChange × (List (Bool × Int)) × (List Int))) : Nat → ((List dTask) × Int) → Option (List dTask)
 | 0, _ => none
 | n + 1, y9 =>
  if y9.2 < (q3.2.1.length : Int) then ((((geti q3.2.1 y9.2).bind fun x13 =>
  if ¬ (x13.1 = true) then ((chg_off_thing k (cond x13.1 (0 : Int) x13.2)).bind fun r14 =>
  (chkP (okLen (List.length y9.1 + List.length [(r14, false)]))).bind fun _ =>
  some (y9.1 ++ [(r14, false)])) else (if x13.1 = true then ((chg_on_thing k (cond x13.1 x13.2 (0 : Int))).bind fun r17 =>
  (chkP (okLen (List.length y9.1 + List.length [(r17, true)]))).bind fun _ =>
  some (y9.1 ++ [(r17, true)])) else (some y9.1))) : Option ((List dTask))).bind fun x11 =>
  (ck (y9.2 + (1 : Int))).bind fun x20 =>
  chg_Tasks_l1 k q3 n (x11, x20)) else (some y9.1)
def chg_Tasks (k : Nat) (a0 : dChange) : Option ((List dTask) × Int) :=
 (chg_begin k a0).bind fun r2 =>
 casesO r2.1 (if ¬ (r2.2 = (0 : Int)) then (some ([], r2.2)) else (none)) (fun q3 => if ¬ (r2.2 = (0 : Int)) then (some ([], r2.2)) else (((chg_Tasks_l1 k q3 k (([] : (List dTask)), (0 : Int))) : Option ((List dTask))).bind fun x7 =>
 some (x7, (0 : Int))))

theorem chg_Tasks_ok (k : Nat) (a0 : dChange) (r : (List dTask) × Int) (h : chg_Tasks k a0 = some r) :
 Ctr Try.prog 13 [.rep tChange a0] [] (fun _ : Unit => (resA [Rs tTask r.1, I r.2], [])) := by
 unfold chg_Tasks at h
 replace h := b_top h
 refine Ctr.of 49 Try.func13 rfl Try.ntmps13 rfl fun S w0 => ?_
 refine sr ?_
 refine bx fun b1 => ?_
 refine cq ?_
 refine cq ?_
 refine nt ?_
 refine sr ?_
 refine lo sz26 ?_
 obtain ⟨r2, er2, h⟩ := b_bind h
 have cr2 := chg_begin_ok k a0 r2 er2
 rcases hr : r2.1 with _ | q3
 ·
  rw [hr] at h cr2; replace h := co_n h;refine JO.stepG (Δ := []) (F := _) (fun _ _ _ => wanted_none rfl _) rfl rfl (o_call [.tmp 12] rfl rfl en34 rfl cr2) ⟨rfl, trivial⟩ fun _ => ?_;refine mq ?_;refine xr ?_;refine xr ?_;refine aq ?_;refine aq (nt (JC.seq (sr ?_)));refine mq ?_;refine jb (o_neq rfl) ?_;refine nt (cn h (fun h => ?_) (fun h => ?_))
  ·refine sr (mq ?_);refine cq ?_;refine aq (nt (rx ?_));refine JN.se (SE.ent (t := (.slice tTask)) (x := []) 2 rfl .nil rfl rfl) ?_;cases h;exact rb
  ·refine sk (sr (cq (nt (JC.seq (sr ?_)))));refine mq ?_;cases h
 ·
  rw [hr] at h cr2; replace h := co_s h;refine JO.stepG (Δ := []) (F := _) (fun _ _ _ => wanted_none rfl _) rfl rfl (o_call [.tmp 12] rfl rfl en34 rfl cr2) ⟨rfl, trivial⟩ fun z6 => ?_;refine mq ?_;refine xr ?_;refine xr ?_;refine aq ?_;refine aq (nt (JC.seq (sr ?_)));refine mq ?_;refine jb (o_neq rfl) ?_;refine nt (cn h (fun h => ?_) (fun h => ?_))
  ·refine sr (mq ?_);refine cq ?_;refine aq (nt (rx ?_));refine JN.se (SE.ent (t := (.slice tTask)) (x := []) 2 rfl .nil rfl rfl) ?_;cases h;exact rb
  ·refine sk (sr (cq (nt ?_)));refine JC.cutB (Z := Value) (α := (List dTask)) (fun z8 x7 => [(6, .eq z8)]) (fun z8 x7 => [.sl z8 56 tTask x7, .raw z6.2 (.map #[] 0)]) h (fun K h => ?_) (fun z8 x7 h => ?_)
   ·refine sr (mq ?_);refine ja (o_nil_obj rfl) ?_;refine fl fo98_1 ?_;refine lo sz93 ?_;refine ol U93 ?_;refine JO.mc rfl ?_;refine nt (JC.block (JC.se (SE.nil 56 tTask) ?_));refine JC.loopB (Z := Value) (α := (List dTask) × Int) (fun z10 y9 => [(6, .eq z10), (22, .rep (.slice (.tag 109 111)) q3.2.1), (23, I (q3.2.1.length : Int)), (24, I y9.2)]) (fun z10 y9 => [.sl z10 56 tTask y9.1, .raw z6.2 (.map #[] 0)]) (chg_Tasks_l1 k q3) k (.slice none 0 0) (([] : (List dTask)), (0 : Int)) (fun _ => rfl) h (SE.fin [0, 2] ⟨rfl, rfl, rfl, rfl, trivial⟩ rfl) (fun n z10 y9 h => ?_);unfold chg_Tasks_l1 at h;refine sr (jb (o_lss rfl) ?_);refine nt (JC.seq (ci h (fun h => ?_) (fun h => ?_)))
    ·refine sk (JC.cutB (Z := Value) (α := (List dTask)) (fun z12 x11 => [(6, .eq z12), (22, .rep (.slice (.tag 109 111)) q3.2.1), (23, I (q3.2.1.length : Int)), (24, I y9.2)]) (fun z12 x11 => [.sl z12 56 tTask x11, .raw z6.2 (.map #[] 0)]) h (fun K h => ?_) (fun z12 x11 h => ?_))
     ·refine JC.block (sr ?_);obtain ⟨x13, ex13, h⟩ := b_bind h;refine jb (o_index (t := (.tag 109 111)) rfl U93 sz108 ex13) ?_;refine ja (o_load_at (t := (.tag 109 111)) rfl sz108 rfl) ?_;refine aq (nt (sr ?_));refine mq (nt (JC.block (sr ?_)));refine JO.s rfl (o_as0 rfl ta109 (by decide)) ⟨rfl, trivial⟩ ?_;refine xr ?_;refine xr ?_;refine nt (cw h (fun h => ?_) (fun h => ?_))
      ·refine sr (aq (nt (JC.region ?_)));iterate 2 refine mq ?_
       obtain ⟨r14, er14, h⟩ := b_bind h;refine ja (o_call [.tmp 33] rfl rfl en47 rfl (chg_off_thing_ok k (cond x13.1 (0 : Int) x13.2) r14 er14)) ?_;refine ja (o_buildT [(0, .tmp 34, _)] rfl pl56 za56 alb56 (stors ⟨rfl, trivial⟩) rfl) ?_;refine ja (o_litB (t := tTask) [(.tmp 35, _)] [(r14, false)] rfl rfl sl45 (.cons trivial (.agg (.pair .int .bool)) .nil) rfl rfl) ?_;obtain ⟨u15, eu15, h⟩ := b_bind h;refine JO.s1x rfl rfl rfl (o_append rfl rfl sl45 (chkP_some eu15)) ⟨rfl, rfl, trivial⟩ fun v16 => ?_;refine aq (JO.nil (JN.blk_n (bn ?_)));exact jz (v16, y9.1 ++ [(r14, false)]) h [0, 1]
      ·refine sr (JO.s rfl (o_as1 rfl ta111 (by decide)) ⟨rfl, trivial⟩ ?_);refine xr ?_;refine xr ?_;refine nt (cv h (fun h => ?_) (fun h => ?_))
       ·refine sr (aq (nt (JC.region ?_)));iterate 2 refine mq ?_
        obtain ⟨r17, er17, h⟩ := b_bind h;refine ja (o_call [.tmp 42] rfl rfl en48 rfl (chg_on_thing_ok k (cond x13.1 x13.2 (0 : Int)) r17 er17)) ?_;refine jb (o_buildT [(0, .tmp 43, _), (1, .const (.bool true), _)] rfl pl56 za56 alb56 (stors ⟨rfl, rfl, trivial⟩) rfl) ?_;refine ja (o_litB (t := tTask) [(.tmp 44, _)] [(r17, true)] rfl rfl sl45 (.cons trivial (.agg (.pair .int .bool)) .nil) rfl rfl) ?_;obtain ⟨u18, eu18, h⟩ := b_bind h;refine JO.s1x rfl rfl rfl (o_append rfl rfl sl45 (chkP_some eu18)) ⟨rfl, rfl, trivial⟩ fun v19 => ?_;refine aq (JO.nil (JN.blk_n (bn ?_)));exact jz (v19, y9.1 ++ [(r17, true)]) h [0, 1]
       ·refine JC.skip (JN.blk_n (bn ?_));exact jz (z10, y9.1) h [0, 1]
     ·refine JC.region ?_;obtain ⟨x20, ex20, h⟩ := b_bind h;refine jb (o_add rfl ex20) ?_;refine mq (nl ?_);exact jz (z12, (x11, x20)) h [0, 1]
    ·refine xa ?_;exact jz (z10, y9.1) h [0, 1]
   ·refine sr (mq ?_);refine aq ?_;refine cq (nt (JC.ret ?_));refine JN.se (SE.frz [2, 6, 48] ⟨rfl, rfl, rfl, trivial⟩) ?_;cases h;exact rb


def chg_Firsts_l2 (k : Nat) (q3 : (dChange × (List (Bool × Int)) × (List Int))) (y9 : (List (List Int)) × Int) : Nat → ((List (List Int)) × Int) → Option (List (List Int))
 | 0, _ => none
 | n + 1, y13 =>
  if y13.2 < (q3.2.1.length : Int) then ((((chkP (0 ≤ y13.2 ∧ y13.2 < 8)).bind fun _ =>
  (geti q3.2.2 y13.2).bind fun x18 =>
  (chg_set_has k x18 y9.2).bind fun r19 =>
  if r19 = true then ((chkP (okLen (List.length y13.1 + List.length [[y9.2, y13.2]]))).bind fun _ =>
  some (y13.1 ++ [[y9.2, y13.2]])) else (some y13.1)) : Option ((List (List Int)))).bind fun x15 =>
  (ck (y13.2 + (1 : Int))).bind fun x22 =>
  chg_Firsts_l2 k q3 y9 n (x15, x22)) else (some y13.1)

def chg_Firsts_l1 (k : Nat) (q3 : (dChange × (List (Bool × Int)) × (List Int))) : Nat → ((List (List Int)) × Int) → Option (List (List Int))
 | 0, _ => none
 | n + 1, y9 =>
  if y9.2 < (q3.2.1.length : Int) then (((chg_Firsts_l2 k q3 y9 k (y9.1, (0 : Int))) : Option ((List (List Int)))).bind fun x11 =>
  (ck (y9.2 + (1 : Int))).bind fun x23 =>
  chg_Firsts_l1 k q3 n (x11, x23)) else (some y9.1)
def chg_Firsts (k : Nat) (a0 : dChange) : Option ((List (List Int)) × Int) :=
 (chg_begin k a0).bind fun r2 =>
 casesO r2.1 (if ¬ (r2.2 = (0 : Int)) then (some ([], r2.2)) else (none)) (fun q3 => if ¬ (r2.2 = (0 : Int)) then (some ([], r2.2)) else (((chg_Firsts_l1 k q3 k (([] : (List (List Int))), (0 : Int))) : Option ((List (List Int)))).bind fun x7 =>
 some (x7, (0 : Int))))

theorem chg_Firsts_ok (k : Nat) (a0 : dChange) (r : (List (List Int)) × Int) (h : chg_Firsts k a0 = some r) :
 Ctr Try.prog 14 [.rep tChange a0] [] (fun _ : Unit => (resA [.rep (.slice (.slice (.int .i64))) r.1, I r.2], [])) := by
 unfold chg_Firsts at h
 replace h := b_top h
 refine Ctr.of 50 Try.func14 rfl Try.ntmps14 rfl fun S w0 => ?_
 refine sr ?_
 refine bx fun b1 => ?_
 refine cq ?_
 refine cq ?_
 refine nt ?_
 refine sr ?_
 refine lo sz26 ?_
 obtain ⟨r2, er2, h⟩ := b_bind h
 have cr2 := chg_begin_ok k a0 r2 er2
 rcases hr : r2.1 with _ | q3
 ·
  rw [hr] at h cr2; replace h := co_n h;refine JO.stepG (Δ := []) (F := _) (fun _ _ _ => wanted_none rfl _) rfl rfl (o_call [.tmp 10] rfl rfl en34 rfl cr2) ⟨rfl, trivial⟩ fun _ => ?_;refine mq ?_;refine xr ?_;refine xr ?_;refine aq ?_;refine aq (nt (JC.seq (sr ?_)));refine mq ?_;refine jb (o_neq rfl) ?_;refine nt (cn h (fun h => ?_) (fun h => ?_))
  ·refine sr (mq ?_);refine cq ?_;refine aq (nt (rx ?_));refine JN.se (SE.ent (t := (.slice (.slice (.int .i64)))) (x := []) 2 rfl .nil rfl rfl) ?_;cases h;exact rb
  ·refine sk (sr (cq (nt (JC.seq (sr ?_)))));refine mq ?_;cases h
 ·
  rw [hr] at h cr2; replace h := co_s h;refine JO.stepG (Δ := []) (F := _) (fun _ _ _ => wanted_none rfl _) rfl rfl (o_call [.tmp 10] rfl rfl en34 rfl cr2) ⟨rfl, trivial⟩ fun z6 => ?_;refine mq ?_;refine xr ?_;refine xr ?_;refine aq ?_;refine aq (nt (JC.seq (sr ?_)));refine mq ?_;refine jb (o_neq rfl) ?_;refine nt (cn h (fun h => ?_) (fun h => ?_))
  ·refine sr (mq ?_);refine cq ?_;refine aq (nt (rx ?_));refine JN.se (SE.ent (t := (.slice (.slice (.int .i64)))) (x := []) 2 rfl .nil rfl rfl) ?_;cases h;exact rb
  ·refine sk (sr (cq (nt ?_)));refine JC.cutB (Z := Value) (α := (List (List Int))) (fun z8 x7 => [(6, .eq z8)]) (fun z8 x7 => [.sl z8 22 (.slice (.int .i64)) x7, .raw z6.2 (.map #[] 0)]) h (fun K h => ?_) (fun z8 x7 h => ?_)
   ·refine sr (mq ?_);refine ja (o_nil_obj rfl) ?_;refine fl fo98_1 ?_;refine lo sz93 ?_;refine ol U93 ?_;refine JO.mc rfl ?_;refine nt (JC.block (JC.se (SE.nil 22 (.slice (.int .i64))) ?_));refine JC.loopB (Z := Value) (α := (List (List Int)) × Int) (fun z10 y9 => [(4, .eq (.pointer (some ⟨z6.1, 0, none⟩))), (6, .eq z10), (21, I (q3.2.1.length : Int)), (22, I y9.2)]) (fun z10 y9 => [.obj z6.1 98 (Qq q3 (.eq (.map (some z6.2)))), .sl z10 22 (.slice (.int .i64)) y9.1, .raw z6.2 (.map #[] 0)]) (chg_Firsts_l1 k q3) k (.slice none 0 0) (([] : (List (List Int))), (0 : Int)) (fun _ => rfl) h (SE.fin [1, 0, 2] ⟨rfl, rfl, rfl, rfl, trivial⟩ rfl) (fun n z10 y9 h => ?_);unfold chg_Firsts_l1 at h;refine sr (jb (o_lss rfl) ?_);refine nt (JC.seq (ci h (fun h => ?_) (fun h => ?_)))
    ·refine sk (JC.cutB (Z := Value) (α := (List (List Int))) (fun z12 x11 => [(4, .eq (.pointer (some ⟨z6.1, 0, none⟩))), (6, .eq z12), (21, I (q3.2.1.length : Int)), (22, I y9.2)]) (fun z12 x11 => [.obj z6.1 98 (Qq q3 (.eq (.map (some z6.2)))), .sl z12 22 (.slice (.int .i64)) x11, .raw z6.2 (.map #[] 0)]) h (fun K h => ?_) (fun z12 x11 h => ?_))
     ·refine JC.block (sr (mq ?_));refine aq (nt (sr ?_));refine mq ?_;refine ja (o_nil_obj rfl) ?_;refine fl fo98_1 ?_;refine lo sz93 ?_;refine ol U93 ?_;refine JO.mc rfl ?_;refine nt (JC.block (JC.loopB (Z := Value) (α := (List (List Int)) × Int) (fun z14 y13 => [(4, .eq (.pointer (some ⟨z6.1, 0, none⟩))), (6, .eq z14), (7, I y9.2), (21, I (q3.2.1.length : Int)), (22, I y9.2), (29, I (q3.2.1.length : Int)), (30, I y13.2)]) (fun z14 y13 => [.obj z6.1 98 (Qq q3 (.eq (.map (some z6.2)))), .sl z14 22 (.slice (.int .i64)) y13.1, .raw z6.2 (.map #[] 0)]) (chg_Firsts_l2 k q3 y9) k z10 (y9.1, (0 : Int)) (fun _ => rfl) h (SE.fin [0, 1, 2] ⟨rfl, rfl, rfl, rfl, rfl, rfl, rfl, trivial⟩ rfl) (fun n z14 y13 h => ?_)));unfold chg_Firsts_l2 at h;refine sr (jb (o_lss rfl) ?_);refine nt (JC.seq (ci h (fun h => ?_) (fun h => ?_)))
      ·refine sk (JC.cutB (Z := Value) (α := (List (List Int))) (fun z16 x15 => [(4, .eq (.pointer (some ⟨z6.1, 0, none⟩))), (6, .eq z16), (7, I y9.2), (21, I (q3.2.1.length : Int)), (22, I y9.2), (29, I (q3.2.1.length : Int)), (30, I y13.2)]) (fun z16 x15 => [.obj z6.1 98 (Qq q3 (.eq (.map (some z6.2)))), .sl z16 22 (.slice (.int .i64)) x15, .raw z6.2 (.map #[] 0)]) h (fun K h => ?_) (fun z16 x15 h => ?_))
       ·refine JC.block (sr (mq ?_));refine aq (nt (sr ?_));iterate 2 refine mq ?_
        refine ja (o_nil_obj rfl) ?_;refine fl fo98_2 ?_;obtain ⟨u17, eu17, h⟩ := b_bind h;refine jb (o_index_arr rfl U95 sz94 (chkP_some eu17).1 (chkP_some eu17).2) ?_;obtain ⟨x18, ex18, h⟩ := b_bind h;refine ka (o_load_arr (t := (.int .u8)) (off := 5) (i := y13.2) (N := 8) rfl sz94 (fun _ => rfl) rfl rfl rfl rfl ex18) ?_;refine mq ?_;obtain ⟨r19, er19, h⟩ := b_bind h;refine jb (o_call [.tmp 38, .tmp 39] rfl rfl en49 rfl (chg_set_has_ok k x18 y9.2 r19 er19)) ?_;refine nt (cv h (fun h => ?_) (fun h => ?_))
        ·refine JC.region ?_;iterate 3 refine mq ?_
         refine jb (o_litB (t := (.int .i64)) [(.tmp 42, _), (.tmp 43, _)] [y9.2, y13.2] rfl rfl sl22 (.cons rfl .int (.cons rfl .int .nil)) rfl rfl) ?_;refine ja (o_litB (t := (.slice (.int .i64))) [(.tmp 44, _)] [[y9.2, y13.2]] rfl rfl sl48 (.cons rfl .rep .nil) rfl rfl) ?_;obtain ⟨u20, eu20, h⟩ := b_bind h;refine fr 1 ?_;refine JO.s1x rfl rfl rfl (o_append rfl rfl sl48 (chkP_some eu20)) ⟨rfl, rfl, trivial⟩ fun v21 => ?_;refine aq (JO.nil (bn ?_));exact jz (v21, y13.1 ++ [[y9.2, y13.2]]) h [1, 0, 2]
        ·refine JC.skip (bn ?_);exact jz (z14, y13.1) h [0, 1, 2]
       ·refine JC.region ?_;obtain ⟨x22, ex22, h⟩ := b_bind h;refine jb (o_add rfl ex22) ?_;refine mq (nl ?_);exact jz (z16, (x15, x22)) h [0, 1, 2]
      ·refine JC.exit (JN.then_x (JN.then_x (JN.blk_hit (bn ?_))));exact jz (z14, y13.1) h [0, 1, 2]
     ·refine JC.region ?_;obtain ⟨x23, ex23, h⟩ := b_bind h;refine jb (o_add rfl ex23) ?_;refine mq (nl ?_);exact jz (z12, (x11, x23)) h [0, 1, 2]
    ·refine xa ?_;exact jz (z10, y9.1) h [1, 2]
   ·refine sr (mq ?_);refine aq ?_;refine cq (nt (JC.ret ?_));refine JN.se (SE.frz [2, 6, 49] ⟨rfl, rfl, rfl, trivial⟩) ?_;cases h;exact rb


def chg_Bars (k : Nat) (a0 : dChange) (a1 : (List dStep)) : Option (Int × Int) :=
 (chg_asked k a0 a1).bind fun r2 =>
 casesO r2.1 (if ¬ (r2.2 = (0 : Int)) then (some ((0 : Int), r2.2)) else (none)) (fun q3 => if ¬ (r2.2 = (0 : Int)) then (some ((0 : Int), r2.2)) else ((chg_quick_length k ((q3.1.1, q3.1.2.1, q3.1.2.2.1, q3.1.2.2.2), q3.2.1, q3.2.2) a1).bind fun r5 =>
 some (r5, (0 : Int))))

theorem chg_Bars_ok (k : Nat) (a0 : dChange) (a1 : (List dStep)) (r : Int × Int) (h : chg_Bars k a0 a1 = some r) :
 Ctr Try.prog 15 [.rep tChange a0, Rs tStep a1] [] (fun _ : Unit => (resA [I r.1, I r.2], [])) := by
 unfold chg_Bars at h
 replace h := b_top h
 refine Ctr.of 20 Try.func15 rfl Try.ntmps15 rfl fun S w0 => ?_
 refine sr ?_
 refine bx fun b1 => ?_
 refine cq ?_
 refine cq ?_
 refine nt ?_
 refine sr ?_
 refine lo sz26 ?_
 refine mq ?_
 obtain ⟨r2, er2, h⟩ := b_bind h
 have cr2 := chg_asked_ok k a0 a1 r2 er2
 rcases hr : r2.1 with _ | q3
 ·
  rw [hr] at h cr2; replace h := co_n h;refine JO.stepG (Δ := []) (F := _) (fun _ _ _ => wanted_none rfl _) rfl rfl (o_call [.tmp 9, .tmp 10] rfl rfl en50 rfl cr2) ⟨rfl, rfl, trivial⟩ fun _ => ?_;refine mq ?_;refine xr ?_;refine xr ?_;refine aq ?_;refine aq (nt (JC.seq (sr ?_)));refine mq ?_;refine jb (o_neq rfl) ?_;refine nt (cn h (fun h => ?_) (fun h => ?_))
  ·refine sr (mq ?_);refine cq ?_;refine aq (nt (rx ?_));cases h;exact rb
  ·refine sk (sr ?_);iterate 2 refine mq ?_
   cases h
 ·
  rw [hr] at h cr2; replace h := co_s h;refine JO.stepG (Δ := []) (F := _) (fun _ _ _ => wanted_none rfl _) rfl rfl (o_call [.tmp 9, .tmp 10] rfl rfl en50 rfl cr2) ⟨rfl, rfl, trivial⟩ fun z4 => ?_;refine mq ?_;refine xr ?_;refine xr ?_;refine aq ?_;refine aq (nt (JC.seq (sr ?_)));refine mq ?_;refine jb (o_neq rfl) ?_;refine nt (cn h (fun h => ?_) (fun h => ?_))
  ·refine sr (mq ?_);refine cq ?_;refine aq (nt (rx ?_));cases h;exact rb
  ·refine sk (sr ?_);iterate 2 refine mq ?_
   refine fr 1 ?_;refine JO.se (SE.rawInv (Known k ((q3.1.1, q3.1.2.1, q3.1.2.2.1, q3.1.2.2.2), q3.2.1, q3.2.2)) known_nil) ?_;obtain ⟨r5, er5, h⟩ := b_bind h;refine fr 1 ?_;refine JO.stepG (Δ := [_, _]) (F := _) (fun _ _ _ => wanted_none rfl _) rfl rfl (o_call [.tmp 17, .tmp 18] rfl rfl en37 rfl (chg_quick_length_ok k ((q3.1.1, q3.1.2.1, q3.1.2.2.1, q3.1.2.2.2), q3.2.1, q3.2.2) z4.1 z4.2 a1 r5 er5)) ⟨rfl, rfl, trivial⟩ fun _ => ?_;refine aq ?_;refine cq (nt (JC.ret ?_));cases h;exact rb


def kit_SameTasks_l1 (k : Nat) (a0 : (List dTask)) (a1 : (List dTask)) : Nat → Int → Option (Except Bool Unit)
 | 0, _ => none
 | n + 1, y3 =>
  if y3 < (a0.length : Int) then ((geti a0 y3).bind fun x5 =>
  (geti a1 y3).bind fun x6 =>
  if ¬ (x5 = x6) then (some (.error false)) else ((ck (y3 + (1 : Int))).bind fun x7 =>
  kit_SameTasks_l1 k a0 a1 n x7)) else (some (.ok ()))
def kit_SameTasks (k : Nat) (a0 : (List dTask)) (a1 : (List dTask)) : Option Bool :=
 if ¬ ((a0.length : Int) = (a1.length : Int)) then (some false) else (bE (α := Unit) (kit_SameTasks_l1 k a0 a1 k (0 : Int)) (some) fun _ =>
 some true)

theorem kit_SameTasks_ok (k : Nat) (a0 : (List dTask)) (a1 : (List dTask)) (r : Bool) (h : kit_SameTasks k a0 a1 = some r) :
 Ctr Try.prog 17 [Rs tTask a0, Rs tTask a1] [] (fun _ : Unit => (resA [.eq (.bool r)], [])) := by
 unfold kit_SameTasks at h
 replace h := b_top h
 refine Ctr.of 26 Try.func17 rfl Try.ntmps17 rfl fun S w0 => ?_
 refine sr ?_
 refine cq ?_
 refine nt ?_
 refine JC.seq ?_
 refine sr ?_
 refine mq ?_
 refine ol U45 ?_
 refine mq ?_
 refine ol U45 ?_
 refine jb (o_neq rfl) ?_
 refine nt ?_
 refine cn h (fun h => ?_) (fun h => ?_)
 ·
  refine sr (cq (nt (rx ?_)));cases h;exact ra
 ·
  refine sk (JC.cutE (Z := Unit) (α := Unit) (fun z2 x1 => []) (fun z2 x1 => []) (fun e => e = r) h (fun e h => Option.some.inj h) (fun K hR h => ?_) (fun z2 x1 h => ?_))
  ·refine sr (cq (nt (JC.block ?_)));refine JC.loopB (Z := Unit) (α := Int) (fun z4 y3 => [(0, Rs tTask a0), (1, Rs tTask a1), (5, I y3)]) (fun z4 y3 => []) (kit_SameTasks_l1 k a0 a1) k () (0 : Int) (fun _ => rfl) h (SE.fin [] ⟨rfl, rfl, rfl, trivial⟩ rfl) (fun n z4 y3 h => ?_);unfold kit_SameTasks_l1 at h;refine JC.seq (sr ?_);iterate 2 refine mq ?_
   refine ol U45 ?_;refine jb (o_lss rfl) ?_;refine nt (ci h (fun h => ?_) (fun h => ?_))
   ·refine sk (JC.seq (JC.block (JC.seq (JC.drawN ?_))));refine dm ?_;refine dm ?_;obtain ⟨x5, ex5, h⟩ := b_bind h;refine db (o_index (t := tTask) rfl U45 sz56 ex5) ?_;refine da (o_load_at (t := tTask) rfl sz56 rfl) ?_;refine dm ?_;refine dm ?_;obtain ⟨x6, ex6, h⟩ := b_bind h;refine db (o_index (t := tTask) rfl U45 sz56 ex6) ?_;refine da (o_load_at (t := tTask) rfl sz56 rfl) ?_;refine df mixed ?_;refine jb (o_neqs rfl eq56 rfl) ?_;refine nt (cn h (fun h => ?_) (fun h => ?_))
    ·refine sr (cq (nt (JC.ret (br (JN.blk_r (JN.then_r ?_))))));obtain rfl := hR _ h;exact ra
    ·refine JC.skip (JN.blk_n (tn (JC.region (mq ?_))));obtain ⟨x7, ex7, h⟩ := b_bind h;refine jb (o_add rfl ex7) ?_;refine aq (nl ?_);exact jz ((), x7) h []
   ·refine xa ?_;exact jz ((), ()) h []
  ·refine sr (cq (nt (JC.ret ?_)));cases h;exact ra


def kit_SameLists_l1 (k : Nat) (a0 : (List (List Int))) (a1 : (List (List Int))) : Nat → Int → Option (Except Bool Unit)
 | 0, _ => none
 | n + 1, y3 =>
  if y3 < (a0.length : Int) then ((geti a0 y3).bind fun x5 =>
  (geti a1 y3).bind fun x6 =>
  (kit_SameInts k x5 x6).bind fun r7 =>
  if ¬ (r7 = true) then (some (.error false)) else ((ck (y3 + (1 : Int))).bind fun x8 =>
  kit_SameLists_l1 k a0 a1 n x8)) else (some (.ok ()))
def kit_SameLists (k : Nat) (a0 : (List (List Int))) (a1 : (List (List Int))) : Option Bool :=
 if ¬ ((a0.length : Int) = (a1.length : Int)) then (some false) else (bE (α := Unit) (kit_SameLists_l1 k a0 a1 k (0 : Int)) (some) fun _ =>
 some true)

theorem kit_SameLists_ok (k : Nat) (a0 : (List (List Int))) (a1 : (List (List Int))) (r : Bool) (h : kit_SameLists k a0 a1 = some r) :
 Ctr Try.prog 18 [.rep (.slice (.slice (.int .i64))) a0, .rep (.slice (.slice (.int .i64))) a1] [] (fun _ : Unit => (resA [.eq (.bool r)], [])) := by
 unfold kit_SameLists at h
 replace h := b_top h
 refine Ctr.of 27 Try.func18 rfl Try.ntmps18 rfl fun S w0 => ?_
 refine sr ?_
 refine cq ?_
 refine nt ?_
 refine JC.seq ?_
 refine sr ?_
 refine mq ?_
 refine ol U48 ?_
 refine mq ?_
 refine ol U48 ?_
 refine jb (o_neq rfl) ?_
 refine nt ?_
 refine cn h (fun h => ?_) (fun h => ?_)
 ·
  refine sr (cq (nt (rx ?_)));cases h;exact ra
 ·
  refine sk (JC.cutE (Z := Unit) (α := Unit) (fun z2 x1 => []) (fun z2 x1 => []) (fun e => e = r) h (fun e h => Option.some.inj h) (fun K hR h => ?_) (fun z2 x1 h => ?_))
  ·refine sr (cq (nt (JC.block ?_)));refine JC.loopB (Z := Unit) (α := Int) (fun z4 y3 => [(0, .rep (.slice (.slice (.int .i64))) a0), (1, .rep (.slice (.slice (.int .i64))) a1), (5, I y3)]) (fun z4 y3 => []) (kit_SameLists_l1 k a0 a1) k () (0 : Int) (fun _ => rfl) h (SE.fin [] ⟨rfl, rfl, rfl, trivial⟩ rfl) (fun n z4 y3 h => ?_);unfold kit_SameLists_l1 at h;refine JC.seq (sr ?_);iterate 2 refine mq ?_
   refine ol U48 ?_;refine jb (o_lss rfl) ?_;refine nt (ci h (fun h => ?_) (fun h => ?_))
   ·refine sk (JC.seq (JC.block (JC.seq (JC.drawN ?_))));refine dm ?_;refine dm ?_;obtain ⟨x5, ex5, h⟩ := b_bind h;refine db (o_index (t := (.slice (.int .i64))) rfl U48 sz22 ex5) ?_;refine da (o_load_at (t := (.slice (.int .i64))) rfl sz22 rfl) ?_;refine dm ?_;refine dm ?_;obtain ⟨x6, ex6, h⟩ := b_bind h;refine db (o_index (t := (.slice (.int .i64))) rfl U48 sz22 ex6) ?_;refine da (o_load_at (t := (.slice (.int .i64))) rfl sz22 rfl) ?_;refine df mixed ?_;obtain ⟨r7, er7, h⟩ := b_bind h;refine jb (o_call [.tmp 20, .tmp 24] rfl rfl en26 rfl (kit_SameInts_ok k x5 x6 r7 er7)) ?_;refine ja (o_not rfl) ?_;refine nt (cw h (fun h => ?_) (fun h => ?_))
    ·refine sr (cq (nt (JC.ret (br (JN.blk_r (JN.then_r ?_))))));obtain rfl := hR _ h;exact ra
    ·refine JC.skip (JN.blk_n (tn (JC.region (mq ?_))));obtain ⟨x8, ex8, h⟩ := b_bind h;refine jb (o_add rfl ex8) ?_;refine aq (nl ?_);exact jz ((), x8) h []
   ·refine xa ?_;exact jz ((), ()) h []
  ·refine sr (cq (nt (JC.ret ?_)));cases h;exact ra


def chg_quick_kept (k : Nat) (a0 : (dChange × (List (Bool × Int)) × (List Int))) (a1 : Int) : Option ((List dStep) × Bool) :=
 (chg_quick_plans_1 k (stopY (fun (y6 : Bool × (List dStep)) (p8 : (List dStep)) =>
  (chg_quick_late k ((a0.1.1, a0.1.2.1, a0.1.2.2.1, a0.1.2.2.2), a0.2.1, a0.2.2) p8 a1).bind fun r10 =>
  if r10.1 < (0 : Int) then (some ((true, p8), false)) else (some ((y6.1, y6.2), true)))) ((a0.1.1, a0.1.2.1, a0.1.2.2.1, a0.1.2.2.2), a0.2.1, a0.2.2) ((false, []), false)).bind fun r9 =>
 if r9.2 = true then (some (r9.1.2, r9.1.1)) else (some ([], false))

theorem chg_quick_kept_ok (k : Nat) (a0 : (dChange × (List (Bool × Int)) × (List Int))) (b_a0 : Nat) (m_a0 : Value) (a1 : Int) (r : (List dStep) × Bool) (h : chg_quick_kept k a0 a1 = some r) :
 Ctr Try.prog 53 [Pt b_a0, .eq (.int .u8 a1)] [.obj b_a0 98 (Qq a0 (.eq m_a0))] (fun _ : Unit => (resA [Rs tStep r.1, .eq (.bool r.2)], [.obj b_a0 98 (Qq a0 (.eq m_a0))])) := by
 unfold chg_quick_kept at h
 replace h := b_top h
 refine Ctr.ofM 22 Try.func53 rfl Try.ntmps53 rfl fun {M} S w0 => ?_
 refine sr ?_
 refine bx fun b1 => ?_
 refine bx fun b2 => ?_
 refine JO.s01 rfl rfl rfl (o_alloc rfl za33 al33) trivial fun b3 => ?_
 refine JO.s01 rfl rfl rfl (o_alloc rfl za4 al4) trivial fun b4 => ?_
 refine nt ?_
 refine JC.seq ?_
 refine sr ?_
 refine fr 3 ?_
 refine lo sz83 ?_
 refine JO.s01 rfl rfl rfl (o_call [.tmp 9] rfl rfl en36 rfl (chg_quick_plans_ok b_a0)) ⟨rfl, trivial⟩ fun b5 => ?_
 refine nt ?_
 refine JC.block ?_
 refine JC.front 3 rfl ?_
 refine JC.se (SE.objE (a := .eq (.slice none 0 0)) (a' := Rs tStep []) (AE.ent .nil)) ?_
 refine JC.front 4 rfl ?_
 refine JC.front 1 rfl ?_
 refine JC.front 4 rfl ?_
 refine JC.front 4 rfl ?_
 refine JC.front 5 rfl ?_
 refine JC.front 5 rfl ?_
 obtain ⟨r9, er9, h⟩ := b_bind h
 refine JC.rangeFunc (Δ := [.obj b5 83 (Pt b_a0), .obj b_a0 98 (Qq a0 (.eq m_a0)), .obj b1 83 (Pt b_a0), .obj b4 4 (.eq (.bool false)), .obj b3 33 (Rs tStep []), .obj b2 94 (.eq (.int .u8 a1))]) (F := []) (X := Unit) (J := fun _ => jOf r9.2) (E := fun _ => [.obj b5 83 (Pt b_a0), .obj b_a0 98 (Qq a0 (.eq m_a0)), .obj b1 83 (Pt b_a0), .obj b4 4 (.eq (.bool r9.1.1)), .obj b3 33 (Rs tStep r9.1.2), .obj b2 94 (.eq (.int .u8 a1))]) (r0 := fun _ => .tup .any) rfl rfl en64 (fun rec hp ha hb hs hpe hN hv l => ?_) (fun dl _ => stop_cases (fun hj => ?_) (fun hj => ?_))
 ·
  rcases rec with ⟨st0, pe0, fn0, tm0, ps0, as0, bd0, df0⟩;dsimp only at hp ha hb hs hpe hN hv;subst hp hs hpe;have vN : Vals tm0 [(2, Pt b1), (3, Pt b2), (4, Pt b3), (5, Pt b4)] := ⟨congrArg A.eq (hv 2 _ rfl).symm, congrArg A.eq (hv 3 _ rfl).symm, congrArg A.eq (hv 4 _ rfl).symm, congrArg A.eq (hv 5 _ rfl).symm, trivial⟩;refine CtrM.pick (M := M) [1, 2, 0, 3, 4, 5, 6] [2, 0, 1, 3, 4, 5, 6] (chg_quick_plans_1_ok (fun (_ : Unit) (q : (Bool × (List dStep)) × Bool) => [.raw l (.loop (recEnd ⟨.ready, none, fn0, tm0, #[11], as0, bd0, df0⟩ (jOf q.2))), .obj b1 83 (Pt b_a0), .obj b4 4 (.eq (.bool q.1.1)), .obj b3 33 (Rs tStep q.1.2), .obj b2 94 (.eq (.int .u8 a1))]) l (stopY (fun (y6 : Bool × (List dStep)) (p8 : (List dStep)) =>
  (chg_quick_late k ((a0.1.1, a0.1.2.1, a0.1.2.2.1, a0.1.2.2.2), a0.2.1, a0.2.2) p8 a1).bind fun r10 =>
  if r10.1 < (0 : Int) then (some ((true, p8), false)) else (some ((y6.1, y6.2), true)))) k ((a0.1.1, a0.1.2.1, a0.1.2.2.1, a0.1.2.2.2), a0.2.1, a0.2.2) b_a0 m_a0 b5 (fun z q p r' h => ?_) () ((false, []), false) r9 er9) rfl (fun _ => rfl) (fun _ => rfl)
  obtain ⟨r2, hq, h2, rfl⟩ := stopY_some h;obtain ⟨y6, b5⟩ := q;obtain rfl : b5 = false := hq;replace h := b_top h2;obtain ⟨p8, hpv⟩ : ∃ x, x = p := ⟨_, rfl⟩;subst hpv;refine YT.pick (R' := (fun _ : Unit => (.eq (.bool r2.2), [.raw l (.loop (recEnd ⟨.ready, none, fn0, tm0, #[11], as0, bd0, df0⟩ (jOf (!r2.2)))), .obj b_a0 98 (Qq a0 (.eq m_a0)), .obj b1 83 (Pt b_a0), .obj b4 4 (.eq (.bool r2.1.1)), .obj b3 33 (Rs tStep r2.1.2), .obj b2 94 (.eq (.int .u8 a1))]))) [1, 0, 2, 3, 4, 5] [1, 0, 2, 3, 4, 5] (YT.of' ha hb (N := 22) (Γ := [(2, Pt b1), (3, Pt b2), (4, Pt b3), (5, Pt b4)]) rfl hN (by decide) vN (fun S w => ?_)) rfl (fun _ => rfl) (fun _ => rfl);refine JC.region (aq (nl ?_));refine JN.begin rfl rfl ?_;refine JC.block (sr (fr 2 ?_));refine lo sz83 ?_;refine mq ?_;refine fr 5 ?_;refine lo sz94 ?_;obtain ⟨r10, er10, h⟩ := b_bind h;refine fr 3 ?_;refine kc (o_call [.tmp 13, .tmp 14, .tmp 15] rfl rfl en52 rfl (chg_quick_late_ok k ((a0.1.1, a0.1.2.1, a0.1.2.2.1, a0.1.2.2.2), a0.2.1, a0.2.2) b_a0 m_a0 p8 a1 r10 er10)) ?_;refine mq ?_;refine xr ?_;refine xr ?_;refine aq ?_;refine aq (nt (sr ?_));refine mq ?_;refine jb (o_lss rfl) ?_;refine nt (ci h (fun h => ?_) (fun h => ?_))
  ·refine sr (mq ?_);refine fr 5 ?_;refine JO.n11 rfl rfl (o_store rfl sz33 rfl rfl rfl) ⟨rfl, rfl, trivial⟩ ?_;refine fr 5 ?_;refine JO.n11 rfl rfl (o_store rfl sz4 rfl rfl rfl) ⟨rfl, rfl, trivial⟩ ?_;refine nt (JC.ret (JN.blk_r (JN.front 3 rfl ?_)));refine JN.front 2 rfl ?_;refine JN.front 2 rfl ?_;refine JN.front 4 rfl ?_;refine JN.front 4 rfl ?_;refine JN.front 5 rfl ?_;cases h;exact JN.roundR () 5 rfl
  ·refine JC.skip (JN.blk_n (JN.front 1 rfl ?_));refine JN.front 5 rfl ?_;refine JN.front 5 rfl ?_;refine JN.front 4 rfl ?_;refine JN.front 4 rfl ?_;refine JN.front 5 rfl ?_;cases h;exact JN.roundN () 5 rfl
 ·
  replace h := b_ifn (v_f hj) h;refine JN.blk_n (tn (sr (fr 5 ?_)));refine JO.n11 rfl rfl (o_store rfl sz33 rfl rfl rfl) ⟨rfl, rfl, trivial⟩ ?_;refine fr 5 ?_;refine JO.n11 rfl rfl (o_store rfl sz4 rfl rfl rfl) ⟨rfl, rfl, trivial⟩ ?_;refine nt (JC.ret (JN.front 1 rfl ?_));refine JN.se (SE.objE (a := .eq (.slice none 0 0)) (a' := Rs tStep []) (AE.ent .nil)) ?_;refine JN.front 2 rfl ?_;refine JN.retM ?_;refine JN.se (SE.fin (Γ' := [(4, _), (5, _)]) [3, 0, 1, 2, 4, 5] ⟨rfl, rfl, trivial⟩ rfl) ?_;cases h;exact JN.ret () [_, _] 1 ⟨⟨_, _, _, _, _, rfl, (.tail _ (.head _)), sz33, (fun _ => rfl), rfl⟩, ⟨_, _, _, _, _, rfl, (.tail _ (.tail _ (.head _))), sz4, (fun _ => rfl), rfl⟩, trivial⟩ rfl
 ·
  replace h := b_if (v_t hj) h;refine JC.ret (JN.blk_r (JN.then_r (JN.retM ?_)));refine JN.se (SE.fin (Γ' := [(4, _), (5, _)]) [1, 0, 2, 3, 4, 5] ⟨rfl, rfl, trivial⟩ rfl) ?_;cases h;exact JN.ret () [_, _] 1 ⟨⟨_, _, _, _, _, rfl, (.tail _ (.tail _ (.tail _ (.tail _ (.head _))))), sz33, (fun _ => rfl), rfl⟩, ⟨_, _, _, _, _, rfl, (.tail _ (.tail _ (.tail _ (.head _)))), sz4, (fun _ => rfl), rfl⟩, trivial⟩ rfl


def chg_Kept (k : Nat) (a0 : dChange) : Option ((List dStep) × Int) :=
 (chg_begin k a0).bind fun r2 =>
 casesO r2.1 (if ¬ (r2.2 = (0 : Int)) then (some ([], r2.2)) else (none)) (fun q3 => if ¬ (r2.2 = (0 : Int)) then (some ([], r2.2)) else ((chg_quick_kept k ((q3.1.1, q3.1.2.1, q3.1.2.2.1, q3.1.2.2.2), q3.2.1, q3.2.2) (0 : Int)).bind fun r5 =>
 if ¬ (r5.2 = true) then (some ([], (11 : Int))) else (some (r5.1, (0 : Int)))))

theorem chg_Kept_ok (k : Nat) (a0 : dChange) (r : (List dStep) × Int) (h : chg_Kept k a0 = some r) :
 Ctr Try.prog 21 [.rep tChange a0] [] (fun _ : Unit => (resA [Rs tStep r.1, I r.2], [])) := by
 unfold chg_Kept at h
 replace h := b_top h
 refine Ctr.of 24 Try.func21 rfl Try.ntmps21 rfl fun S w0 => ?_
 refine sr ?_
 refine bx fun b1 => ?_
 refine cq ?_
 refine cq ?_
 refine nt ?_
 refine sr ?_
 refine lo sz26 ?_
 obtain ⟨r2, er2, h⟩ := b_bind h
 have cr2 := chg_begin_ok k a0 r2 er2
 rcases hr : r2.1 with _ | q3
 ·
  rw [hr] at h cr2; replace h := co_n h;refine JO.stepG (Δ := []) (F := _) (fun _ _ _ => wanted_none rfl _) rfl rfl (o_call [.tmp 9] rfl rfl en34 rfl cr2) ⟨rfl, trivial⟩ fun _ => ?_;refine mq ?_;refine xr ?_;refine xr ?_;refine aq ?_;refine aq (nt (JC.seq (sr ?_)));refine mq ?_;refine jb (o_neq rfl) ?_;refine nt (cn h (fun h => ?_) (fun h => ?_))
  ·refine sr (mq ?_);refine cq ?_;refine aq (nt (rx ?_));refine JN.se (SE.ent (t := (.slice tStep)) (x := []) 2 rfl .nil rfl rfl) ?_;cases h;exact rb
  ·refine sk (sr (mq ?_));cases h
 ·
  rw [hr] at h cr2; replace h := co_s h;refine JO.stepG (Δ := []) (F := _) (fun _ _ _ => wanted_none rfl _) rfl rfl (o_call [.tmp 9] rfl rfl en34 rfl cr2) ⟨rfl, trivial⟩ fun z4 => ?_;refine mq ?_;refine xr ?_;refine xr ?_;refine aq ?_;refine aq (nt (JC.seq (sr ?_)));refine mq ?_;refine jb (o_neq rfl) ?_;refine nt (cn h (fun h => ?_) (fun h => ?_))
  ·refine sr (mq ?_);refine cq ?_;refine aq (nt (rx ?_));refine JN.se (SE.ent (t := (.slice tStep)) (x := []) 2 rfl .nil rfl rfl) ?_;cases h;exact rb
  ·refine sk (sr (mq ?_));obtain ⟨r5, er5, h⟩ := b_bind h;refine kb (o_call [.tmp 17, .const (.int .u8 (0))] rfl rfl en53 rfl (chg_quick_kept_ok k ((q3.1.1, q3.1.2.1, q3.1.2.2.1, q3.1.2.2.2), q3.2.1, q3.2.2) z4.1 (.map (some z4.2)) (0 : Int) r5 er5)) ?_;refine mq ?_;refine xr ?_;refine xr ?_;refine aq ?_;refine aq (nt (JC.seq (sr ?_)));refine mq ?_;refine ja (o_not rfl) ?_;refine nt (cw h (fun h => ?_) (fun h => ?_))
   ·refine sr (cq ?_);refine cq (nt (rx ?_));refine JN.se (SE.ent (t := (.slice tStep)) (x := []) 2 rfl .nil rfl rfl) ?_;cases h;exact rb
   ·refine sk (sr (mq ?_));refine aq ?_;refine cq (nt (JC.ret ?_));cases h;exact rb


def chg_subsets_1_1_l1 {σ : Type} (k : Nat) (a1 : Int) (a4 : Int) (self : Int → Int → (List Int) → σ → Option (Bool × (List Int) × σ)) : Nat → ((List Int) × Int × σ) → Option (Except (Bool × (List Int) × σ) ((List Int) × σ))
 | 0, _ => none
 | n + 1, y6 =>
  if y6.2.1 < a4 then ((chkP (okLen (List.length y6.1 + List.length [y6.2.1]))).bind fun _ =>
  (ck (y6.2.1 + (1 : Int))).bind fun x11 =>
  (ck (a1 - (1 : Int))).bind fun x12 =>
  (self x11 x12 (y6.1 ++ [y6.2.1]) y6.2.2).bind fun r13 =>
  (ck ((r13.2.1.length : Int) - (1 : Int))).bind fun x15 =>
  (chkP (0 ≤ x15 ∧ x15 ≤ (r13.2.1.length : Int))).bind fun _ =>
  if ¬ (r13.1 = true) then (some (.error (false, List.take (Int.toNat x15) r13.2.1, r13.2.2))) else ((ck (y6.2.1 + (1 : Int))).bind fun x19 =>
  chg_subsets_1_1_l1 k a1 a4 self n (List.take (Int.toNat x15) r13.2.1, x19, r13.2.2))) else (some (.ok (y6.1, y6.2.2)))
def chg_subsets_1_1 {σ : Type} (k : Nat) (Y : σ → (List Int) → Option (σ × Bool)) (a4 : Int) : Nat → Int → Int → (List Int) → σ → Option (Bool × (List Int) × σ)
 | 0, _, _, _, _ => none
 | m0 + 1, a0, a1, a3, s0 =>
  if a1 = (0 : Int) then ((slc_Clone_int k a3).bind fun r1 =>
  (Y s0 r1).bind fun r2 =>
  some (r2.2, a3, r2.1)) else (bE (α := (List Int) × σ) (chg_subsets_1_1_l1 k a1 a4 (chg_subsets_1_1 k Y a4 m0) k (a3, a0, s0)) (some) fun x4 =>
  some (true, x4.1, x4.2))

theorem chg_subsets_1_1_ok {M : Md Try.prog} {σ Z : Type} (E : Z → σ → List D) (l : Nat) (Y : σ → (List Int) → Option (σ × Bool)) (k : Nat) (c_a2 : Nat) (c_a3 : Nat) (a4 : Int) (c_a4 : Nat) (c_a5 : Nat) (hY : ∀ z s p r, Y s p = some r → YT M l [Ri p] (E z s) (fun z' : Z => (.eq (.bool r.2), E z' r.1))) :
 ∀ (n : Nat) (a0 : Int) (a1 : Int) (a3 : (List Int)) (v_a3 : Value) (z0 : Z) (s0 : σ) (r : Bool × (List Int) × σ), chg_subsets_1_1 k Y a4 n a0 a1 a3 s0 = some r → CtrM M 74 [I a0, I a1, Pt c_a2, Pt c_a3, Pt c_a4, Pt c_a5] ([.obj c_a2 40 (.eq (.func (.yield l) #[] #[])), .sl v_a3 3 (.int .i64) a3, .obj c_a3 22 (.eq v_a3), .obj c_a4 3 (I a4), .obj c_a5 146 (.eq (.func (.func 74) #[] #[(Pv c_a2), (Pv c_a3), (Pv c_a4), (Pv c_a5)]))] ++ E z0 s0) (fun z : Value × Z => (resA [.eq (.bool r.1)], [.obj c_a2 40 (.eq (.func (.yield l) #[] #[])), .sl z.1 3 (.int .i64) r.2.1, .obj c_a3 22 (.eq z.1), .obj c_a4 3 (I a4), .obj c_a5 146 (.eq (.func (.func 74) #[] #[(Pv c_a2), (Pv c_a3), (Pv c_a4), (Pv c_a5)]))] ++ E z.2 r.2.2)) := by
 intro n
 induction n with
 | zero => intro a0 a1 a3 v_a3 z0 s0 r h; cases h
 | succ m0 ih =>
  intro a0 a1 a3 v_a3 z0 s0 r h;rw [chg_subsets_1_1] at h;replace h := b_top h;refine CtrM.of 40 Try.func74 rfl Try.ntmps74 rfl fun S w0 => ?_;refine sr (cq (nt (JC.seq (sr ?_))));refine mq ?_;refine jb (o_eql rfl) ?_;refine nt (ci h (fun h => ?_) (fun h => ?_))
  ·refine JC.seq (JC.drawN ?_);refine ea 0 (o_load_obj rfl sz40 nfs rfl) ?_;refine ea 2 (o_load_obj rfl sz22 nfs rfl) ?_;obtain ⟨r1, er1, h⟩ := b_bind h;refine DN.s11 1 rfl rfl rfl rfl (OpT.frzB (OpT.borrow (N := [(.tmp 14, .eq v_a3)]) (o_call [.tmp 14] rfl rfl en58 rfl (slc_Clone_int_ok k a3 r1 er1)) (fun _ _ _ hv hn => ⟨(lend hn.1 hv), trivial⟩) (fun _ => ⟨rfl, flat_all (by simp [D.flat, A.flat, Ty.flat])⟩))) ⟨rfl, trivial⟩ ?_;refine df mixed ?_;obtain ⟨r2, er2, h⟩ := b_bind h;refine fr 4 ?_;refine fr 4 ?_;refine fr 4 ?_;refine fr 4 ?_;refine fr 4 ?_;refine JO.stepT [.obj c_a2 40 (.eq (.func (.yield l) #[] #[])), .sl v_a3 3 (.int .i64) a3, .obj c_a3 22 (.eq v_a3), .obj c_a4 3 (I a4), .obj c_a5 146 (.eq (.func (.func 74) #[] #[(Pv c_a2), (Pv c_a3), (Pv c_a4), (Pv c_a5)]))] rfl rfl rfl (o_yield [.tmp 15] rfl rfl rfl (hY z0 s0 r1 r2 er2)) ⟨rfl, rfl, trivial⟩ fun z3 => ?_;refine aq (nt (rx ?_));cases h;exact JN.retA (v_a3, z3) [_] ⟨rfl, trivial⟩ rfl
  ·refine sk (JC.cutE (Z := Value × Z) (α := (List Int) × σ) (fun z5 x4 => []) (fun z5 x4 => [.obj c_a2 40 (.eq (.func (.yield l) #[] #[])), .obj c_a3 22 (.eq z5.1), .sl z5.1 3 (.int .i64) x4.1, .obj c_a4 3 (I a4), .obj c_a5 146 (.eq (.func (.func 74) #[] #[(Pv c_a2), (Pv c_a3), (Pv c_a4), (Pv c_a5)]))] ++ E z5.2 x4.2) (fun e => e = r) h (fun e h => Option.some.inj h) (fun K hR h => ?_) (fun z5 x4 h => ?_))
   ·refine sr (mq ?_);refine aq (nt (JC.block ?_));refine JC.loopB (Z := Value × Z) (α := (List Int) × Int × σ) (fun z7 y6 => [(1, I a1), (3, Pt c_a3), (4, Pt c_a4), (5, Pt c_a5), (9, I y6.2.1)]) (fun z7 y6 => [.obj c_a3 22 (.eq z7.1), .sl z7.1 3 (.int .i64) y6.1, .obj c_a4 3 (I a4), .obj c_a5 146 (.eq (.func (.func 74) #[] #[(Pv c_a2), (Pv c_a3), (Pv c_a4), (Pv c_a5)])), .obj c_a2 40 (.eq (.func (.yield l) #[] #[]))] ++ E z7.2 y6.2.2) (chg_subsets_1_1_l1 k a1 a4 (chg_subsets_1_1 k Y a4 m0)) k (v_a3, z0) (a3, a0, s0) (fun _ => rfl) h (SE.finT [.obj c_a2 40 (.eq (.func (.yield l) #[] #[])), .sl v_a3 3 (.int .i64) a3, .obj c_a3 22 (.eq v_a3), .obj c_a4 3 (I a4), .obj c_a5 146 (.eq (.func (.func 74) #[] #[(Pv c_a2), (Pv c_a3), (Pv c_a4), (Pv c_a5)]))] (E z0 s0) [2, 1, 3, 4, 0] ⟨rfl, rfl, rfl, rfl, rfl, trivial⟩ rfl) (fun n z7 y6 h => ?_);unfold chg_subsets_1_1_l1 at h;refine JC.seq (sr (mq ?_));refine fr 2 ?_;refine lo sz3 ?_;refine jb (o_lss rfl) ?_;refine nt (ci h (fun h => ?_) (fun h => ?_))
    ·refine sk (JC.seq (JC.block (sr (fr 1 ?_))));refine lo sz22 ?_;refine mq ?_;refine ja (o_litB (t := (.int .i64)) [(.tmp 24, _)] [y6.2.1] rfl rfl sl22 (.cons rfl .int .nil) rfl rfl) ?_;obtain ⟨u8, eu8, h⟩ := b_bind h;refine fr 2 ?_;refine JO.s1x rfl rfl rfl (o_append rfl rfl sl22 (chkP_some eu8)) ⟨rfl, rfl, trivial⟩ fun v9 => ?_;refine JO.one fun o10 => ?_;refine fr 1 ?_;refine JO.n11 rfl rfl (o_store rfl sz22 o10 rfl rfl) ⟨rfl, rfl, trivial⟩ ?_;refine nt (sr (fr 3 ?_));refine lo sz146 ?_;refine mq ?_;obtain ⟨x11, ex11, h⟩ := b_bind h;refine jb (o_add rfl ex11) ?_;refine mq ?_;obtain ⟨x12, ex12, h⟩ := b_bind h;refine jb (o_sub rfl ex12) ?_;obtain ⟨r13, er13, h⟩ := b_bind h;refine fr 3 ?_;refine fr 2 ?_;refine fr 3 ?_;refine fr 4 ?_;refine JO.stepA rfl rfl rfl (o_callvM (fs := []) (cs := [(Pv c_a2), (Pv c_a3), (Pv c_a4), (Pv c_a5)]) (ags := [I x11, I x12]) [.tmp 29, .tmp 31] rfl rfl en74 rfl (ih x11 x12 (y6.1 ++ [y6.2.1]) v9 z7.2 y6.2.2 r13 er13)) ⟨rfl, rfl, rfl, trivial⟩ fun z14 => ?_;refine aq (nt (sr ?_));refine fr 2 ?_;refine lo sz22 ?_;refine lo sz22 ?_;refine fr 2 ?_;refine ka (o_len_own rfl rfl U22) ?_;obtain ⟨x15, ex15, h⟩ := b_bind h;refine jb (o_sub rfl ex15) ?_;obtain ⟨u16, eu16, h⟩ := b_bind h;refine JO.s1x rfl rfl rfl (o_slice_own (t := (.int .i64)) rfl U22 sz3 (chkP_some eu16).1 (chkP_some eu16).2) ⟨rfl, rfl, trivial⟩ fun v17 => ?_;refine JO.one fun o18 => ?_;refine fr 1 ?_;refine JO.n11 rfl rfl (o_store rfl sz22 o18 rfl rfl) ⟨rfl, rfl, trivial⟩ ?_;refine nt (sr (mq ?_));refine ja (o_not rfl) ?_;refine nt (cw h (fun h => ?_) (fun h => ?_))
     ·refine sr (cq (nt (JC.ret (br (JN.blk_r (JN.then_r ?_))))));refine JN.se (SE.finT (Γ' := [(8, _)]) [.obj c_a3 22 (.eq v17), .sl v17 3 (.int .i64) (List.take (Int.toNat x15) r13.2.1), .obj c_a2 40 (.eq (.func (.yield l) #[] #[])), .obj c_a4 3 (I a4), .obj c_a5 146 (.eq (.func (.func 74) #[] #[(Pv c_a2), (Pv c_a3), (Pv c_a4), (Pv c_a5)]))] (E z14.2 r13.2.2) [2, 1, 0, 3, 4] ⟨rfl, trivial⟩ rfl) ?_;obtain rfl := hR _ h;exact JN.retA (v17, z14.2) [_] ⟨rfl, trivial⟩ rfl
     ·refine JC.skip (JN.blk_n (tn (JC.region (mq ?_))));obtain ⟨x19, ex19, h⟩ := b_bind h;refine jb (o_add rfl ex19) ?_;refine aq (nl ?_);exact JN.z ((v17, z14.2), (List.take (Int.toNat x15) r13.2.1, x19, r13.2.2)) h (SE.finT [.obj c_a3 22 (.eq v17), .sl v17 3 (.int .i64) (List.take (Int.toNat x15) r13.2.1), .obj c_a2 40 (.eq (.func (.yield l) #[] #[])), .obj c_a4 3 (I a4), .obj c_a5 146 (.eq (.func (.func 74) #[] #[(Pv c_a2), (Pv c_a3), (Pv c_a4), (Pv c_a5)]))] (E z14.2 r13.2.2) [0, 1, 3, 4, 2] ⟨rfl, rfl, rfl, rfl, rfl, trivial⟩ rfl)
    ·refine xa ?_;exact JN.z ((z7.1, z7.2), (y6.1, y6.2.2)) h (SE.finT [.obj c_a4 3 (I a4), .obj c_a3 22 (.eq z7.1), .sl z7.1 3 (.int .i64) y6.1, .obj c_a5 146 (.eq (.func (.func 74) #[] #[(Pv c_a2), (Pv c_a3), (Pv c_a4), (Pv c_a5)])), .obj c_a2 40 (.eq (.func (.yield l) #[] #[]))] (E z7.2 y6.2.2) [4, 1, 2, 0, 3] trivial rfl)
   ·refine sr (cq (nt (JC.ret ?_)));refine JN.se (SE.finT (Γ' := [(8, _)]) [.obj c_a2 40 (.eq (.func (.yield l) #[] #[])), .obj c_a3 22 (.eq z5.1), .sl z5.1 3 (.int .i64) x4.1, .obj c_a4 3 (I a4), .obj c_a5 146 (.eq (.func (.func 74) #[] #[(Pv c_a2), (Pv c_a3), (Pv c_a4), (Pv c_a5)]))] (E z5.2 x4.2) [0, 2, 1, 3, 4] ⟨rfl, trivial⟩ rfl) ?_;cases h;exact JN.retA (z5.1, z5.2) [_] ⟨rfl, trivial⟩ rfl


def chg_subsets_1_l1 {σ : Type} (k : Nat) (a1 : Int) (Y : σ → (List Int) → Option (σ × Bool)) (x4 : Int) : Nat → ((List Int) × Int × σ) → Option (σ)
 | 0, _ => none
 | n + 1, y5 =>
  if y5.2.1 < x4 then ((chg_subsets_1_1 k Y a1 k (0 : Int) y5.2.1 y5.1 y5.2.2).bind fun r7 =>
  if ¬ (r7.1 = true) then (some r7.2.2) else ((ck (y5.2.1 + (1 : Int))).bind fun x9 =>
  chg_subsets_1_l1 k a1 Y x4 n (r7.2.1, x9, r7.2.2))) else (some y5.2.2)
def chg_subsets_1 {σ : Type} (k : Nat) (Y : σ → (List Int) → Option (σ × Bool)) (a1 : Int) (s0 : σ) : Option (σ) :=
 (ck (a1 + (1 : Int))).bind fun x4 =>
 chg_subsets_1_l1 k a1 Y x4 k (([] : (List Int)), (0 : Int), s0)

theorem chg_subsets_1_ok {M : Md Try.prog} {σ Z : Type} (E : Z → σ → List D) (l : Nat) (Y : σ → (List Int) → Option (σ × Bool)) (k : Nat) (a1 : Int) (c_a1 : Nat) (hY : ∀ z s p r, Y s p = some r → YT M l [Ri p] (E z s) (fun z' : Z => (.eq (.bool r.2), E z' r.1))) :
 ∀ (z0 : Z) (s0 : σ) (r : σ), chg_subsets_1 k Y a1 s0 = some r → CtrM M 73 [.eq (.func (.yield l) #[] #[]), Pt c_a1] ([.obj c_a1 3 (I a1)] ++ E z0 s0) (fun z : Z => (resA [], [.obj c_a1 3 (I a1)] ++ E z r)) := by
 intro z0 s0 r h
 unfold chg_subsets_1 at h
 replace h := b_top h
 refine CtrM.of 17 Try.func73 rfl Try.ntmps73 rfl fun S w0 => ?_
 refine sr ?_
 refine bx fun b1 => ?_
 refine nt ?_
 refine sr ?_
 refine JO.s01 rfl rfl rfl (o_alloc rfl za22 al22) trivial fun b2 => ?_
 refine nt ?_
 refine sr ?_
 refine JO.s01 rfl rfl rfl (o_alloc rfl za146 al146) trivial fun b3 => ?_
 refine nt ?_
 refine sr ?_
 refine JO.s rfl (o_mkfn [] [.tmp 2, .tmp 3, .tmp 1, .tmp 4] [] [(Pv b1), (Pv b2), (Pv c_a1), (Pv b3)] rfl rfl rfl) ⟨rfl, rfl, rfl, rfl, trivial⟩ ?_
 refine JO.n11 rfl rfl (o_store rfl sz146 rfl rfl rfl) ⟨rfl, rfl, trivial⟩ ?_
 refine nt ?_
 refine sr ?_
 refine fr 3 ?_
 refine lo sz3 ?_
 obtain ⟨x4, ex4, h⟩ := b_bind h
 refine jb (o_add rfl ex4) ?_
 refine JO.mc rfl ?_
 refine nt ?_
 refine JC.block ?_
 refine JC.se (SE.nil 3 (.int .i64)) ?_
 refine JC.loopB (Z := Value × Z) (α := (List Int) × Int × σ) (fun z6 y5 => [(4, Pt b3), (8, I x4), (9, I y5.2.1)]) (fun z6 y5 => [.obj b3 146 (.eq (.func (.func 74) #[] #[(Pv b1), (Pv b2), (Pv c_a1), (Pv b3)])), .obj b1 40 (.eq (.func (.yield l) #[] #[])), .obj b2 22 (.eq z6.1), .sl z6.1 3 (.int .i64) y5.1, .obj c_a1 3 (I a1)] ++ E z6.2 y5.2.2) (chg_subsets_1_l1 k a1 Y x4) k ((.slice none 0 0), z0) (([] : (List Int)), (0 : Int), s0) (fun _ => rfl) h (SE.finT [.sl (.slice none 0 0) 3 (.int .i64) ([] : (List Int)), .obj c_a1 3 (I a1), .obj b3 146 (.eq (.func (.func 74) #[] #[(Pv b1), (Pv b2), (Pv c_a1), (Pv b3)])), .obj b2 22 (.eq (.slice none 0 0)), .obj b1 40 (.eq (.func (.yield l) #[] #[]))] (E z0 s0) [2, 4, 3, 0, 1] ⟨rfl, rfl, rfl, trivial⟩ rfl) (fun n z6 y5 h => ?_)
 unfold chg_subsets_1_l1 at h
 refine sr ?_
 refine jb (o_lss rfl) ?_
 refine nt ?_
 refine JC.seq ?_
 refine ci h (fun h => ?_) (fun h => ?_)
 ·
  refine sk (JC.seq (JC.block (sr (mq ?_))));refine aq (nt (sr ?_));refine lo sz146 ?_;refine mq ?_;obtain ⟨r7, er7, h⟩ := b_bind h;refine fr 4 ?_;refine fr 3 ?_;refine fr 4 ?_;refine fr 4 ?_;refine JO.stepA rfl rfl rfl (o_callvM (fs := []) (cs := [(Pv b1), (Pv b2), (Pv c_a1), (Pv b3)]) (ags := [I (0 : Int), I y5.2.1]) [.const (.int .i64 (0)), .tmp 13] rfl rfl en74 rfl (chg_subsets_1_1_ok E l Y k b1 b2 a1 c_a1 b3 hY k (0 : Int) y5.2.1 y5.1 z6.1 z6.2 y5.2.2 r7 er7)) ⟨rfl, rfl, rfl, trivial⟩ fun z8 => ?_;refine ja (o_not rfl) ?_;refine nt (cw h (fun h => ?_) (fun h => ?_))
  ·refine JC.ret (br (JN.blk_r (JN.se (SE.finT (Γ' := []) [.obj b1 40 (.eq (.func (.yield l) #[] #[])), .sl z8.1 3 (.int .i64) r7.2.1, .obj b2 22 (.eq z8.1), .obj c_a1 3 (I a1), .obj b3 146 (.eq (.func (.func 74) #[] #[(Pv b1), (Pv b2), (Pv c_a1), (Pv b3)]))] (E z8.2 r7.2.2) [3] trivial rfl) ?_)));cases h;exact JN.retA z8.2 [] trivial rfl
  ·refine JC.skip (JN.blk_n (tn (JC.region ?_)));obtain ⟨x9, ex9, h⟩ := b_bind h;refine jb (o_add rfl ex9) ?_;refine mq (nl ?_);exact JN.z ((z8.1, z8.2), (r7.2.1, x9, r7.2.2)) h (SE.finT [.obj b1 40 (.eq (.func (.yield l) #[] #[])), .sl z8.1 3 (.int .i64) r7.2.1, .obj b2 22 (.eq z8.1), .obj c_a1 3 (I a1), .obj b3 146 (.eq (.func (.func 74) #[] #[(Pv b1), (Pv b2), (Pv c_a1), (Pv b3)]))] (E z8.2 r7.2.2) [4, 0, 2, 1, 3] ⟨rfl, rfl, rfl, trivial⟩ rfl)
 ·
  refine JC.exit (JN.then_x (JN.then_x (JN.blk_hit (JN.end_n ?_))));refine JN.se (SE.finT (Γ' := []) [.obj b3 146 (.eq (.func (.func 74) #[] #[(Pv b1), (Pv b2), (Pv c_a1), (Pv b3)])), .obj b1 40 (.eq (.func (.yield l) #[] #[])), .obj b2 22 (.eq z6.1), .sl z6.1 3 (.int .i64) y5.1, .obj c_a1 3 (I a1)] (E z6.2 y5.2.2) [4] trivial rfl) ?_;cases h;exact JN.retA z6.2 [] trivial rfl



theorem chg_subsets_ok (a0 : Int) : Ctr Try.prog 54 [I a0] [] (fun z : Nat => (resA [.eq (.func (.func 73) #[] #[(Pv z)])], [.obj z 3 (I a0)])) := by
 refine Ctr.of 4 Try.func54 rfl Try.ntmps54 rfl fun S w0 => ?_;refine sr (bx fun z => ?_);refine cq (nt (sr ?_));refine ja (o_mkfn [] [.tmp 1] [] [(Pv z)] rfl rfl rfl) ?_;refine aq (nt (JC.ret ?_));exact JN.ret z [_] 1 ⟨rfl, trivial⟩ rfl


def chg_Gives (k : Nat) (a0 : dChange) : Option ((List Int) × Int) :=
 (chg_begin k a0).bind fun r4 =>
 casesO r4.1 (if ¬ (r4.2 = (0 : Int)) then (some ([], r4.2)) else (none)) (fun q5 => if ¬ (r4.2 = (0 : Int)) then (some ([], r4.2)) else ((chg_subsets_1 k (stopY (fun (y10 : (List Int)) (p12 : (List Int)) =>
  (chg_of k p12).bind fun r14 =>
  (chg_quick_kept k ((q5.1.1, q5.1.2.1, q5.1.2.2.1, q5.1.2.2.2), q5.2.1, q5.2.2) r14).bind fun r15 =>
  if r15.2 = true then (some (p12, false)) else (some (y10, true)))) (q5.1.1.length : Int) ([], false)).bind fun r13 =>
 if r13.2 = true then (some (r13.1, (0 : Int))) else (some ([], (11 : Int)))))

theorem chg_Gives_ok (k : Nat) (a0 : dChange) (r : (List Int) × Int) (h : chg_Gives k a0 = some r) :
 Ctr Try.prog 23 [.rep tChange a0] [] (fun _ : Unit => (resA [Ri r.1, I r.2], [])) := by
 unfold chg_Gives at h
 replace h := b_top h
 refine Ctr.ofM 34 Try.func23 rfl Try.ntmps23 rfl fun {M} S w0 => ?_
 refine sr ?_
 refine bx fun b1 => ?_
 refine JO.s01 rfl rfl rfl (o_alloc rfl za22 al22) trivial fun b2 => ?_
 refine JO.s01 rfl rfl rfl (o_alloc rfl za30 al30) trivial fun b3 => ?_
 refine nt ?_
 refine sr ?_
 refine fr 2 ?_
 refine lo sz26 ?_
 obtain ⟨r4, er4, h⟩ := b_bind h
 have cr4 := chg_begin_ok k a0 r4 er4
 rcases hr : r4.1 with _ | q5
 ·
  rw [hr] at h cr4; replace h := co_n h;refine JO.stepG (Δ := []) (F := _) (fun _ _ _ => wanted_none rfl _) rfl rfl (o_call [.tmp 10] rfl rfl en34 rfl cr4) ⟨rfl, trivial⟩ fun _ => ?_;refine mq ?_;refine xr ?_;refine xr ?_;refine JO.s01 rfl rfl rfl (o_alloc rfl za83 al83) trivial fun b6 => ?_;refine JO.n11 rfl rfl (o_store rfl sz83 rfl rfl rfl) ⟨rfl, rfl, trivial⟩ ?_;refine aq (nt (JC.seq (sr ?_)));refine mq ?_;refine jb (o_neq rfl) ?_;refine nt (cn h (fun h => ?_) (fun h => ?_))
  ·refine sr (mq ?_);refine fr 3 ?_;refine JO.n11 rfl rfl (o_store rfl sz22 rfl rfl rfl) ⟨rfl, rfl, trivial⟩ ?_;refine fr 3 ?_;refine JO.n11 rfl rfl (o_store rfl sz30 rfl rfl rfl) ⟨rfl, rfl, trivial⟩ ?_;refine nt (rx (JN.front 1 rfl ?_));refine JN.se (SE.objE (a := .eq (.slice none 0 0)) (a' := Ri []) (AE.ent .nil)) ?_;refine JN.retM0 ?_;cases h;exact JN.ret () [_, _] 0 ⟨⟨_, _, _, _, _, rfl, (.head _), sz22, (fun _ => rfl), rfl⟩, ⟨_, _, _, _, _, rfl, (.tail _ (.head _)), sz30, (fun _ => rfl), rfl⟩, trivial⟩ rfl
  ·refine sk (JC.seq (sr (lo sz83 ?_)));cases h
 ·
  rw [hr] at h cr4; replace h := co_s h;refine JO.stepG (Δ := []) (F := _) (fun _ _ _ => wanted_none rfl _) rfl rfl (o_call [.tmp 10] rfl rfl en34 rfl cr4) ⟨rfl, trivial⟩ fun z7 => ?_;refine mq ?_;refine xr ?_;refine xr ?_;refine JO.s01 rfl rfl rfl (o_alloc rfl za83 al83) trivial fun b8 => ?_;refine JO.n11 rfl rfl (o_store rfl sz83 rfl rfl rfl) ⟨rfl, rfl, trivial⟩ ?_;refine aq (nt (JC.seq (sr ?_)));refine mq ?_;refine jb (o_neq rfl) ?_;refine nt (cn h (fun h => ?_) (fun h => ?_))
  ·refine sr (mq ?_);refine fr 5 ?_;refine JO.n11 rfl rfl (o_store rfl sz22 rfl rfl rfl) ⟨rfl, rfl, trivial⟩ ?_;refine fr 5 ?_;refine JO.n11 rfl rfl (o_store rfl sz30 rfl rfl rfl) ⟨rfl, rfl, trivial⟩ ?_;refine nt (rx (JN.front 1 rfl ?_));refine JN.se (SE.objE (a := .eq (.slice none 0 0)) (a' := Ri []) (AE.ent .nil)) ?_;refine JN.retM0 ?_;cases h;exact JN.ret () [_, _] 0 ⟨⟨_, _, _, _, _, rfl, (.head _), sz22, (fun _ => rfl), rfl⟩, ⟨_, _, _, _, _, rfl, (.tail _ (.head _)), sz30, (fun _ => rfl), rfl⟩, trivial⟩ rfl
  ·refine sk (JC.seq (sr (lo sz83 ?_)));refine ja (o_nil_obj rfl) ?_;refine fl fo98_0 ?_;refine fl fo26_0 ?_;refine fr 1 ?_;refine lo sz23 ?_;refine ol U23 ?_;refine JO.s01 rfl rfl rfl (o_call [.tmp 22] rfl rfl en54 rfl (chg_subsets_ok (q5.1.1.length : Int))) ⟨rfl, trivial⟩ fun b9 => ?_;refine nt (JC.block (JC.front 6 rfl ?_));refine JC.se (SE.objE (a := .eq (.slice none 0 0)) (a' := Ri []) (AE.ent .nil)) ?_;refine JC.front 6 rfl ?_;refine JC.front 6 rfl ?_;refine JC.front 6 rfl ?_;refine JC.front 6 rfl ?_;refine JC.front 6 rfl ?_;refine JC.front 6 rfl ?_;obtain ⟨r13, er13, h⟩ := b_bind h;refine JC.rangeFunc (Δ := [.obj b9 3 (I (q5.1.1.length : Int)), .obj z7.1 98 (Qq q5 (.eq (.map (some z7.2)))), .obj b8 83 (.eq (.pointer (some ⟨z7.1, 0, none⟩))), .raw z7.2 (.map #[] 0), .obj b1 26 (.rep tChange a0), .obj b3 30 (I (0 : Int)), .obj b2 22 (Ri [])]) (F := []) (X := Unit) (J := fun _ => jOf r13.2) (E := fun _ => [.obj b9 3 (I (q5.1.1.length : Int)), .obj z7.1 98 (Qq q5 (.eq (.map (some z7.2)))), .obj b8 83 (.eq (.pointer (some ⟨z7.1, 0, none⟩))), .raw z7.2 (.map #[] 0), .obj b1 26 (.rep tChange a0), .obj b3 30 (I (0 : Int)), .obj b2 22 (Ri r13.1)]) (r0 := fun _ => .tup .any) rfl rfl en73 (fun rec hp ha hb hs hpe hN hv l => ?_) (fun dl _ => stop_cases (fun hj => ?_) (fun hj => ?_))
   ·rcases rec with ⟨st0, pe0, fn0, tm0, ps0, as0, bd0, df0⟩;dsimp only at hp ha hb hs hpe hN hv;subst hp hs hpe;have vN : Vals tm0 [(2, Pt b2), (3, Pt b3), (4, Pt b8)] := ⟨congrArg A.eq (hv 2 _ rfl).symm, congrArg A.eq (hv 3 _ rfl).symm, congrArg A.eq (hv 4 _ rfl).symm, trivial⟩;refine CtrM.pick (M := M) [1, 0, 2, 3, 4, 5, 6, 7] [1, 0, 2, 3, 4, 5, 6, 7] (chg_subsets_1_ok (fun (_ : Unit) (q : (List Int) × Bool) => [.raw l (.loop (recEnd ⟨.ready, none, fn0, tm0, #[24], as0, bd0, df0⟩ (jOf q.2))), .obj z7.1 98 (Qq q5 (.eq (.map (some z7.2)))), .obj b8 83 (.eq (.pointer (some ⟨z7.1, 0, none⟩))), .raw z7.2 (.map #[] 0), .obj b1 26 (.rep tChange a0), .obj b3 30 (I (0 : Int)), .obj b2 22 (Ri q.1)]) l (stopY (fun (y10 : (List Int)) (p12 : (List Int)) =>
    (chg_of k p12).bind fun r14 =>
    (chg_quick_kept k ((q5.1.1, q5.1.2.1, q5.1.2.2.1, q5.1.2.2.2), q5.2.1, q5.2.2) r14).bind fun r15 =>
    if r15.2 = true then (some (p12, false)) else (some (y10, true)))) k (q5.1.1.length : Int) b9 (fun z q p r' h => ?_) () ([], false) r13 er13) rfl (fun _ => rfl) (fun _ => rfl)
    obtain ⟨r2, hq, h2, rfl⟩ := stopY_some h;obtain ⟨y10, b5⟩ := q;obtain rfl : b5 = false := hq;replace h := b_top h2;obtain ⟨p12, hpv⟩ : ∃ x, x = p := ⟨_, rfl⟩;subst hpv;refine YT.pick (R' := (fun _ : Unit => (.eq (.bool r2.2), [.raw l (.loop (recEnd ⟨.ready, none, fn0, tm0, #[24], as0, bd0, df0⟩ (jOf (!r2.2)))), .obj z7.1 98 (Qq q5 (.eq (.map (some z7.2)))), .obj b8 83 (.eq (.pointer (some ⟨z7.1, 0, none⟩))), .raw z7.2 (.map #[] 0), .obj b1 26 (.rep tChange a0), .obj b3 30 (I (0 : Int)), .obj b2 22 (Ri r2.1)]))) [0, 1, 2, 3, 4, 5, 6] [0, 1, 2, 3, 4, 5, 6] (YT.of' ha hb (N := 34) (Γ := [(2, Pt b2), (3, Pt b3), (4, Pt b8)]) rfl hN (by decide) vN (fun S w => ?_)) rfl (fun _ => rfl) (fun _ => rfl);refine JC.region (aq (nl ?_));refine JN.begin rfl rfl ?_;refine JC.block (JC.seq (JC.drawN ?_));refine ea 2 (o_load_obj rfl sz83 nfs rfl) ?_;refine dm ?_;obtain ⟨r14, er14, h⟩ := b_bind h;refine da (o_call [.tmp 27] rfl rfl en40 rfl (chg_of_ok k p12 r14 er14)) ?_;obtain ⟨r15, er15, h⟩ := b_bind h;refine eb 1 (o_call [.tmp 26, .tmp 28] rfl rfl en53 rfl (chg_quick_kept_ok k ((q5.1.1, q5.1.2.1, q5.1.2.2.1, q5.1.2.2.2), q5.2.1, q5.2.2) z7.1 (.map (some z7.2)) r14 r15 er15)) ?_;refine dm ?_;refine da (o_extract rfl rfl) ?_;refine da (o_extract rfl rfl) ?_;refine da (o_assign rfl) ?_;refine df mixed ?_;refine aq (nt (sr ?_));refine mq (nt ?_);refine cv h (fun h => ?_) (fun h => ?_)
    ·refine sr (mq ?_);refine fr 6 ?_;refine JO.n11 rfl rfl (o_store rfl sz22 rfl rfl rfl) ⟨rfl, rfl, trivial⟩ ?_;refine fr 6 ?_;refine JO.n11 rfl rfl (o_store rfl sz30 rfl rfl rfl) ⟨rfl, rfl, trivial⟩ ?_;refine nt (JC.ret (JN.blk_r (JN.front 1 rfl ?_)));refine JN.front 1 rfl ?_;refine JN.front 6 rfl ?_;refine JN.front 6 rfl ?_;refine JN.front 6 rfl ?_;refine JN.front 6 rfl ?_;refine JN.front 6 rfl ?_;cases h;exact JN.roundR () 6 rfl
    ·refine JC.skip (JN.blk_n (JN.front 6 rfl ?_));refine JN.front 6 rfl ?_;refine JN.front 6 rfl ?_;refine JN.front 6 rfl ?_;refine JN.front 6 rfl ?_;refine JN.front 6 rfl ?_;refine JN.front 6 rfl ?_;cases h;exact JN.roundN () 6 rfl
   ·replace h := b_ifn (v_f hj) h;refine JN.blk_n (tn (sr (fr 7 ?_)));refine JO.n11 rfl rfl (o_store rfl sz22 rfl rfl rfl) ⟨rfl, rfl, trivial⟩ ?_;refine fr 7 ?_;refine JO.n11 rfl rfl (o_store rfl sz30 rfl rfl rfl) ⟨rfl, rfl, trivial⟩ ?_;refine nt (JC.ret (JN.front 1 rfl ?_));refine JN.se (SE.objE (a := .eq (.slice none 0 0)) (a' := Ri []) (AE.ent .nil)) ?_;refine JN.front 2 rfl ?_;refine JN.retM ?_;cases h;exact JN.ret () [_, _] 0 ⟨⟨_, _, _, _, _, rfl, (.head _), sz22, (fun _ => rfl), rfl⟩, ⟨_, _, _, _, _, rfl, (.tail _ (.head _)), sz30, (fun _ => rfl), rfl⟩, trivial⟩ rfl
   ·replace h := b_if (v_t hj) h;refine JC.ret (JN.blk_r (JN.then_r (JN.retM ?_)));cases h;exact JN.ret () [_, _] 0 ⟨⟨_, _, _, _, _, rfl, (.tail _ (.tail _ (.tail _ (.tail _ (.tail _ (.tail _ (.head _))))))), sz22, (fun _ => rfl), rfl⟩, ⟨_, _, _, _, _, rfl, (.tail _ (.tail _ (.tail _ (.tail _ (.tail _ (.head _)))))), sz30, (fun _ => rfl), rfl⟩, trivial⟩ rfl


end Go.Proofs.Ytopgphikdglphaa
