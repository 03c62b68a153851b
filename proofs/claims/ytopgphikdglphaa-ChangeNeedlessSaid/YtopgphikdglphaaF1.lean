/- The program's functions, part 2: what each computes, and that the code computes it. Printed by a program of this proof's own. -/
import Derived.Test.YtopgphikdglphaaP1
set_option linter.unusedVariables false
set_option maxRecDepth 4000
namespace Go.Proofs.Ytopgphikdglphaa
open K Go Go.Proofs
def law_quick (k : Nat) (a0 : Int) (a1 : Int) (a2 : (List Int)) : Option dChange :=
 some ([([(1 : Int)], (2 : Int), (2 : Int), (0 : Int), (0 : Int)), ([], (1 : Int), (1 : Int), (1 : Int), a0), ([], (1 : Int), (1 : Int), (2 : Int), (2 : Int)), ([], (3 : Int), (3 : Int), (0 : Int), (0 : Int))], [([(0 : Int), (1 : Int), (2 : Int)], (1 : Int), a1), (a2, (0 : Int), (1 : Int))], [(0 : Int), (1 : Int)], [(1 : Int), (2 : Int)])

theorem law_quick_ok (k : Nat) (a0 : Int) (a1 : Int) (a2 : (List Int)) (r : dChange) (h : law_quick k a0 a1 a2 = some r) :
 Ctr Try.prog 11 [I a0, I a1, Ri a2] [] (fun _ : Unit => (resA [.rep tChange r], [])) := by
 unfold law_quick at h
 replace h := b_top h
 refine Ctr.of 23 Try.func11 rfl Try.ntmps11 rfl fun S w0 => ?_
 refine sr ?_
 refine JO.s01 rfl rfl rfl (o_alloc rfl za26 al26) trivial fun b1 => ?_
 refine nt ?_
 refine sr ?_
 refine ja (o_litB (t := (.int .i64)) [(.const (.int .i64 (1)), _)] [(1 : Int)] rfl rfl sl22 (.cons rfl .int .nil) rfl rfl) ?_
 refine jc (o_buildT [(0, .tmp 7, _), (1, .const (.int .i64 (2)), _), (2, .const (.int .i64 (2)), _)] rfl pl43 za43 alb43 (stors ⟨rfl, rfl, rfl, trivial⟩) rfl) ?_
 refine mq ?_
 refine JO.s rfl (o_buildT [(1, .const (.int .i64 (1)), _), (2, .const (.int .i64 (1)), _), (3, .const (.int .i64 (1)), _), (4, .tmp 9, _)] rfl pl43 za43 alb43 (stors ⟨rfl, rfl, rfl, rfl, trivial⟩) rfl) ⟨rfl, rfl, rfl, rfl, trivial⟩ ?_
 refine JO.s rfl (o_buildT [(1, .const (.int .i64 (1)), _), (2, .const (.int .i64 (1)), _), (3, .const (.int .i64 (2)), _), (4, .const (.int .i64 (2)), _)] rfl pl43 za43 alb43 (stors ⟨rfl, rfl, rfl, rfl, trivial⟩) rfl) ⟨rfl, rfl, rfl, rfl, trivial⟩ ?_
 refine jb (o_buildT [(1, .const (.int .i64 (3)), _), (2, .const (.int .i64 (3)), _)] rfl pl43 za43 alb43 (stors ⟨rfl, rfl, trivial⟩) rfl) ?_
 refine JO.s rfl (o_litB (t := tThing) [(.tmp 8, _), (.tmp 10, _), (.tmp 11, _), (.tmp 12, _)] [([(1 : Int)], (2 : Int), (2 : Int), (0 : Int), (0 : Int)), ([], (1 : Int), (1 : Int), (1 : Int), a0), ([], (1 : Int), (1 : Int), (2 : Int), (2 : Int)), ([], (3 : Int), (3 : Int), (0 : Int), (0 : Int))] rfl rfl sl23 (.cons trivial (.agg (.pair .rep (.pair .int (.pair .int (.pair .int .int))))) (.cons trivial (.agg (.pair .nil (.pair .int (.pair .int (.pair .int .int))))) (.cons trivial (.agg (.pair .nil (.pair .int (.pair .int (.pair .int .int))))) (.cons trivial (.agg (.pair .nil (.pair .int (.pair .int (.pair .int .int))))) .nil)))) rfl rfl) ⟨rfl, rfl, rfl, rfl, trivial⟩ ?_
 refine jc (o_litB (t := (.int .i64)) [(.const (.int .i64 (0)), _), (.const (.int .i64 (1)), _), (.const (.int .i64 (2)), _)] [(0 : Int), (1 : Int), (2 : Int)] rfl rfl sl22 (.cons rfl .int (.cons rfl .int (.cons rfl .int .nil))) rfl rfl) ?_
 refine mq ?_
 refine jc (o_buildT [(0, .tmp 14, _), (1, .const (.int .i64 (1)), _), (2, .tmp 15, _)] rfl pl38 za38 alb38 (stors ⟨rfl, rfl, rfl, trivial⟩) rfl) ?_
 refine mq ?_
 refine jb (o_buildT [(0, .tmp 17, _), (2, .const (.int .i64 (1)), _)] rfl pl38 za38 alb38 (stors ⟨rfl, rfl, trivial⟩) rfl) ?_
 refine jb (o_litB (t := tDresser) [(.tmp 16, _), (.tmp 18, _)] [([(0 : Int), (1 : Int), (2 : Int)], (1 : Int), a1), (a2, (0 : Int), (1 : Int))] rfl rfl sl24 (.cons trivial (.agg (.pair .rep (.pair .int .int))) (.cons trivial (.agg (.pair .rep (.pair .int .int))) .nil)) rfl rfl) ?_
 refine jb (o_litB (t := (.int .i64)) [(.const (.int .i64 (0)), _), (.const (.int .i64 (1)), _)] [(0 : Int), (1 : Int)] rfl rfl sl22 (.cons rfl .int (.cons rfl .int .nil)) rfl rfl) ?_
 refine jb (o_litB (t := (.int .i64)) [(.const (.int .i64 (1)), _), (.const (.int .i64 (2)), _)] [(1 : Int), (2 : Int)] rfl rfl sl22 (.cons rfl .int (.cons rfl .int .nil)) rfl rfl) ?_
 refine JO.s rfl (o_buildT [(0, .tmp 13, _), (1, .tmp 19, _), (2, .tmp 20, _), (3, .tmp 21, _)] rfl pl26 za26 alb26 (stors ⟨rfl, rfl, rfl, rfl, trivial⟩) rfl) ⟨rfl, rfl, rfl, rfl, trivial⟩ ?_
 refine JO.n11 rfl rfl (o_store rfl sz26 trivial rfl rfl) ⟨rfl, rfl, trivial⟩ ?_
 refine nt ?_
 refine JC.ret ?_
 refine JN.se (SE.objE (a := .agg (.pair (Rs tThing [([(1 : Int)], (2 : Int), (2 : Int), (0 : Int), (0 : Int)), ([], (1 : Int), (1 : Int), (1 : Int), a0), ([], (1 : Int), (1 : Int), (2 : Int), (2 : Int)), ([], (3 : Int), (3 : Int), (0 : Int), (0 : Int))]) (.pair (Rs tDresser [([(0 : Int), (1 : Int), (2 : Int)], (1 : Int), a1), (a2, (0 : Int), (1 : Int))]) (.pair (Ri [(0 : Int), (1 : Int)]) (Ri [(1 : Int), (2 : Int)]))))) (a' := .rep tChange ([([(1 : Int)], (2 : Int), (2 : Int), (0 : Int), (0 : Int)), ([], (1 : Int), (1 : Int), (1 : Int), a0), ([], (1 : Int), (1 : Int), (2 : Int), (2 : Int)), ([], (3 : Int), (3 : Int), (0 : Int), (0 : Int))], [([(0 : Int), (1 : Int), (2 : Int)], (1 : Int), a1), (a2, (0 : Int), (1 : Int))], [(0 : Int), (1 : Int)], [(1 : Int), (2 : Int)])) (AE.ent (.agg (.pair .rep (.pair .rep (.pair .rep .rep)))))) ?_
 cases h
 exact JN.ret () [.rep tChange ([([(1 : Int)], (2 : Int), (2 : Int), (0 : Int), (0 : Int)), ([], (1 : Int), (1 : Int), (1 : Int), a0), ([], (1 : Int), (1 : Int), (2 : Int), (2 : Int)), ([], (3 : Int), (3 : Int), (0 : Int), (0 : Int))], [([(0 : Int), (1 : Int), (2 : Int)], (1 : Int), a1), (a2, (0 : Int), (1 : Int))], [(0 : Int), (1 : Int)], [(1 : Int), (2 : Int)])] 0 ⟨⟨_, _, _, _, _, rfl, (.head _), sz26, (nfn), rfl⟩, trivial⟩ rfl


def law_first (k : Nat) : Option (List dStep) :=
 some [((1 : Int), (0 : Int)), ((0 : Int), (0 : Int)), ((2 : Int), (0 : Int)), ((3 : Int), (1 : Int))]

theorem law_first_ok (k : Nat) (r : (List dStep)) (h : law_first k = some r) :
 Ctr Try.prog 16 [] [] (fun _ : Unit => (resA [Rs tStep r], [])) := by
 unfold law_first at h
 replace h := b_top h
 refine Ctr.of 6 Try.func16 rfl Try.ntmps16 rfl fun S w0 => ?_
 refine sr ?_
 refine cq ?_
 refine nt ?_
 refine sr ?_
 refine jb (o_buildT [(0, .const (.int .i64 (1)), _), (1, .const (.int .i64 (0)), _)] rfl pl59 za59 alb59 (stors ⟨rfl, rfl, trivial⟩) rfl) ?_
 refine jb (o_buildT [(0, .const (.int .i64 (0)), _), (1, .const (.int .i64 (0)), _)] rfl pl59 za59 alb59 (stors ⟨rfl, rfl, trivial⟩) rfl) ?_
 refine jb (o_buildT [(0, .const (.int .i64 (2)), _), (1, .const (.int .i64 (0)), _)] rfl pl59 za59 alb59 (stors ⟨rfl, rfl, trivial⟩) rfl) ?_
 refine jb (o_buildT [(0, .const (.int .i64 (3)), _), (1, .const (.int .i64 (1)), _)] rfl pl59 za59 alb59 (stors ⟨rfl, rfl, trivial⟩) rfl) ?_
 refine JO.s rfl (o_litB (t := tStep) [(.tmp 1, _), (.tmp 2, _), (.tmp 3, _), (.tmp 4, _)] [((1 : Int), (0 : Int)), ((0 : Int), (0 : Int)), ((2 : Int), (0 : Int)), ((3 : Int), (1 : Int))] rfl rfl sl33 (.cons trivial (.agg (.pair .int .int)) (.cons trivial (.agg (.pair .int .int)) (.cons trivial (.agg (.pair .int .int)) (.cons trivial (.agg (.pair .int .int)) .nil)))) rfl rfl) ⟨rfl, rfl, rfl, rfl, trivial⟩ ?_
 refine aq ?_
 refine nt ?_
 refine JC.ret ?_
 cases h
 exact ra



theorem catch80 : CatchOk Try.prog 80 152 30 := by
 refine ⟨en80, fun M e0 => ?_, fun M e0 n => ?_⟩
 ·refine CatchRun.of (M := M) (m := .returning) (m1 := .returning) (val := .nilIface) Try.func80 rfl rfl (by decide) rfl rfl (by decide) (fun ρ => rfl) (fun fr b cs hb hm => rec_none hb hm rfl) (.inl rfl) fun b S w0 => ?_;refine ja (o_taNil rfl ta152) ?_;refine mq ?_;refine xr ?_;refine xr ?_;refine aq ?_;refine aq (nt (sr ?_));refine mq (nt ?_);refine JC.cond rfl (fun hb => by cases hb) (fun hb => ?_);refine JC.skip ?_;exact JN.end_n (JN.ret () [] 1 trivial rfl)
 ·refine CatchRun.of (M := M) (m := .panicking (chain1 152 n false)) (m1 := .panicking (chain1 152 n true)) (val := .iface 152 (.int .i64 n)) Try.func80 rfl rfl (by decide) rfl rfl (by decide) (fun ρ => rfl) (fun fr b cs hb hm => rec_some hb hm) (.inr ⟨_, _, rfl⟩) fun b S w0 => ?_;refine ja (o_taNum rfl ta152) ?_;refine mq ?_;refine xr ?_;refine xr ?_;refine aq ?_;refine aq (nt (sr ?_));refine mq (nt ?_);refine JC.cond rfl (fun hb => ?_) (fun hb => by cases hb);refine JC.region (mq ?_);refine JO.n11 rfl rfl (o_store rfl sz30 rfl rfl rfl) ⟨rfl, rfl, trivial⟩ ?_;refine JO.nil ?_;exact JN.end_n (JN.ret () [] 1 trivial rfl)



def chg_quick_checkPlan_l1 (k : Nat) (a0 : (dChange × (List (Bool × Int)) × (List Int))) (a1 : (List dStep)) : Nat → (Int × Int) → Option (Except Int Unit)
 | 0, _ => none
 | n + 1, y4 =>
  if y4.2 < (a1.length : Int) then ((geti a1 y4.2).bind fun x6 =>
  (ck ((a0.2.1.length : Int) - (1 : Int))).bind fun x8 =>
  (chg_outside k x6.1 (0 : Int) x8).bind fun r9 =>
  if r9 = true then (some (.error (3 : Int))) else ((chg_set_has k y4.1 x6.1).bind fun r10 =>
  if r10 = true then (some (.error (4 : Int))) else ((ck ((a0.1.2.1.length : Int) - (1 : Int))).bind fun x11 =>
  (chg_outside k x6.2 (0 : Int) x11).bind fun r12 =>
  if r12 = true then (some (.error (3 : Int))) else ((geti a0.2.1 x6.1).bind fun x13 =>
  (chg_quick_can k ((a0.1.1, a0.1.2.1, a0.1.2.2.1, a0.1.2.2.2), a0.2.1, a0.2.2) x6.2 x13).bind fun r14 =>
  if ¬ (r14 = true) then (some (.error (8 : Int))) else ((chkP (0 ≤ x6.1 ∧ x6.1 < 8)).bind fun _ =>
  (geti a0.2.2 x6.1).bind fun x16 =>
  if ¬ ((iandn .u8 x16 y4.1) = (0 : Int)) then (some (.error (5 : Int))) else ((chg_of k [x6.1]).bind fun r17 =>
  (ck (y4.2 + (1 : Int))).bind fun x18 =>
  chg_quick_checkPlan_l1 k a0 a1 n (ior .u8 y4.1 r17, x18))))))) else (some (.ok ()))
def chg_quick_checkPlan (k : Nat) (a0 : (dChange × (List (Bool × Int)) × (List Int))) (a1 : (List dStep)) : Option Int :=
 if (a1.length : Int) < (a0.2.1.length : Int) then (some (7 : Int)) else (if (a0.2.1.length : Int) < (a1.length : Int) then (some (6 : Int)) else (bE (α := Unit) (chg_quick_checkPlan_l1 k a0 a1 k ((0 : Int), (0 : Int))) (some) fun _ =>
 some (0 : Int)))

theorem chg_quick_checkPlan_ok (k : Nat) (a0 : (dChange × (List (Bool × Int)) × (List Int))) (b_a0 : Nat) (m_a0 : Value) (a1 : (List dStep)) (r : Int) (h : chg_quick_checkPlan k a0 a1 = some r) :
 Ctr Try.prog 71 [Pt b_a0, Rs tStep a1] [.obj b_a0 98 (Qq a0 (.eq m_a0))] (fun _ : Unit => (resA [I r], [.obj b_a0 98 (Qq a0 (.eq m_a0))])) := by
 unfold chg_quick_checkPlan at h
 replace h := b_top h
 refine Ctr.ofD 96 Try.func71 rfl Try.ntmps71 rfl fun S w0 => ?_
 refine sr ?_
 refine JO.s01 rfl rfl rfl (o_alloc rfl za30 al30) trivial fun b1 => ?_
 refine nt ?_
 refine sr ?_
 refine ja (o_mkfn [] [.tmp 4] [] [(Pv b1)] rfl rfl rfl) ?_
 refine JO.defer rfl rfl rfl rfl rfl ?_
 refine nt ?_
 refine JC.seq ?_
 refine sr ?_
 refine mq ?_
 refine ol U33 ?_
 refine mq ?_
 refine ja (o_nil_obj rfl) ?_
 refine fl fo98_1 ?_
 refine fr 1 ?_
 refine lo sz93 ?_
 refine ol U93 ?_
 refine jb (o_lss rfl) ?_
 refine nt ?_
 refine ci h (fun h => ?_) (fun h => ?_)
 ·
  refine JC.region (ja (o_iface rfl U152) ?_);refine JO.panicN rfl rfl rfl rfl ?_;refine JN.then_p ?_;refine JN.front 1 rfl ?_;refine JN.panicD catch80 ?_;refine JN.se (SE.fin (Γ' := [(4, _)]) [1, 0] ⟨rfl, trivial⟩ rfl) ?_;cases h;exact JN.ret () [_] 1 ⟨⟨_, _, _, _, _, rfl, (.tail _ (.head _)), sz30, (fun _ => rfl), rfl⟩, trivial⟩ rfl
 ·
  refine sk (JC.seq (sr (mq ?_)));refine ol U33 ?_;refine mq ?_;refine ja (o_nil_obj rfl) ?_;refine fl fo98_1 ?_;refine lo sz93 ?_;refine ol U93 ?_;refine jb (o_gtr rfl) ?_;refine nt (ci h (fun h => ?_) (fun h => ?_))
  ·refine JC.region (ja (o_iface rfl U152) ?_);refine JO.panicN rfl rfl rfl rfl ?_;refine JN.then_p ?_;refine JN.front 1 rfl ?_;refine JN.panicD catch80 ?_;refine JN.se (SE.fin (Γ' := [(4, _)]) [1, 0] ⟨rfl, trivial⟩ rfl) ?_;cases h;exact JN.ret () [_] 1 ⟨⟨_, _, _, _, _, rfl, (.tail _ (.head _)), sz30, (fun _ => rfl), rfl⟩, trivial⟩ rfl
  ·refine sk (sr (cq (nt ?_)));refine JC.cutE (Z := Unit) (α := Unit) (fun z3 x2 => [(4, Pt b1)]) (fun z3 x2 => [.obj b1 30 (I (0 : Int)), .obj b_a0 98 (Qq a0 (.eq m_a0))]) (fun e => e = r) h (fun e h => Option.some.inj h) (fun K hR h => ?_) (fun z3 x2 h => ?_)
   ·refine sr (mq ?_);refine ol U33 ?_;refine JO.mc rfl ?_;refine nt (JC.block (JC.loopB (Z := Unit) (α := Int × Int) (fun z5 y4 => [(0, Pt b_a0), (4, Pt b1), (5, .eq (.int .u8 y4.1)), (27, Rs tStep a1), (28, I (a1.length : Int)), (29, I y4.2)]) (fun z5 y4 => [.obj b_a0 98 (Qq a0 (.eq m_a0)), .obj b1 30 (I (0 : Int))]) (chg_quick_checkPlan_l1 k a0 a1) k () ((0 : Int), (0 : Int)) (fun _ => rfl) h (SE.fin [0, 1] ⟨rfl, rfl, rfl, rfl, rfl, rfl, trivial⟩ rfl) (fun n z5 y4 h => ?_)));unfold chg_quick_checkPlan_l1 at h;refine sr (jb (o_lss rfl) ?_);refine nt (JC.seq (ci h (fun h => ?_) (fun h => ?_)))
    ·refine sk (JC.seq (JC.block (sr ?_)));obtain ⟨x6, ex6, h⟩ := b_bind h;refine jb (o_index (t := tStep) rfl U33 sz59 ex6) ?_;refine ja (o_load_at (t := tStep) rfl sz59 rfl) ?_;refine JO.s01 rfl rfl rfl (o_alloc rfl za59 al59) trivial fun b7 => ?_;refine JO.n11 rfl rfl (o_store rfl sz59 rfl rfl rfl) ⟨rfl, rfl, trivial⟩ ?_;refine nt (JC.seq (JC.block (JC.seq (JC.drawN ?_))));refine da (o_field_obj rfl fo59_0) ?_;refine ea 0 (o_load_obj rfl sz3 nfs rfl) ?_;refine dm ?_;refine da (o_nil_obj rfl) ?_;refine da (o_field_obj rfl fo98_1) ?_;refine ea 1 (o_load_obj rfl sz93 nfs rfl) ?_;refine da (o_len rfl rfl U93) ?_;obtain ⟨x8, ex8, h⟩ := b_bind h;refine db (o_sub rfl ex8) ?_;refine df mixed ?_;obtain ⟨r9, er9, h⟩ := b_bind h;refine jc (o_call [.tmp 35, .const (.int .i64 (0)), .tmp 41] rfl rfl en46 rfl (chg_outside_ok k x6.1 (0 : Int) x8 r9 er9)) ?_;refine aq (nt ?_);refine cv h (fun h => ?_) (fun h => ?_)
     ·refine JC.region (ja (o_iface rfl U152) ?_);refine JO.panicN rfl rfl rfl rfl ?_;refine JN.blk_p ?_;refine JN.then_p ?_;refine JN.blk_p ?_;refine JN.then_p ?_;refine JN.then_p ?_;refine JN.blk_p ?_;refine JN.then_p ?_;refine JN.front 2 rfl ?_;refine JN.panicD catch80 ?_;refine JN.se (SE.fin (Γ' := [(4, _)]) [2, 0, 1] ⟨rfl, trivial⟩ rfl) ?_;obtain rfl := hR _ h;exact JN.ret () [_] 1 ⟨⟨_, _, _, _, _, rfl, (.tail _ (.head _)), sz30, (fun _ => rfl), rfl⟩, trivial⟩ rfl
     ·refine sr (mq ?_);refine fl fo59_0 ?_;refine lo sz3 ?_;obtain ⟨r10, er10, h⟩ := b_bind h;refine jb (o_call [.tmp 45, .tmp 47] rfl rfl en49 rfl (chg_set_has_ok k y4.1 x6.1 r10 er10)) ?_;refine aq (nt ?_);refine cv h (fun h => ?_) (fun h => ?_)
      ·refine JC.region (ja (o_iface rfl U152) ?_);refine JO.panicN rfl rfl rfl rfl ?_;refine JN.blk_p ?_;refine JN.then_p ?_;refine JN.blk_p ?_;refine JN.then_p ?_;refine JN.then_p ?_;refine JN.blk_p ?_;refine JN.then_p ?_;refine JN.front 2 rfl ?_;refine JN.panicD catch80 ?_;refine JN.se (SE.fin (Γ' := [(4, _)]) [2, 0, 1] ⟨rfl, trivial⟩ rfl) ?_;obtain rfl := hR _ h;exact JN.ret () [_] 1 ⟨⟨_, _, _, _, _, rfl, (.tail _ (.head _)), sz30, (fun _ => rfl), rfl⟩, trivial⟩ rfl
      ·refine JC.seq (JC.drawN ?_);refine da (o_field_obj rfl fo59_1) ?_;refine ea 0 (o_load_obj rfl sz3 nfs rfl) ?_;refine dm ?_;refine da (o_nil_obj rfl) ?_;refine da (o_field_obj rfl fo98_0) ?_;refine da (o_field_obj rfl fo26_1) ?_;refine ea 1 (o_load_obj rfl sz24 nfs rfl) ?_;refine da (o_len rfl rfl U24) ?_;obtain ⟨x11, ex11, h⟩ := b_bind h;refine db (o_sub rfl ex11) ?_;refine df mixed ?_;obtain ⟨r12, er12, h⟩ := b_bind h;refine jc (o_call [.tmp 52, .const (.int .i64 (0)), .tmp 59] rfl rfl en46 rfl (chg_outside_ok k x6.2 (0 : Int) x11 r12 er12)) ?_;refine aq (nt ?_);refine cv h (fun h => ?_) (fun h => ?_)
       ·refine JC.region (ja (o_iface rfl U152) ?_);refine JO.panicN rfl rfl rfl rfl ?_;refine JN.blk_p ?_;refine JN.then_p ?_;refine JN.blk_p ?_;refine JN.then_p ?_;refine JN.then_p ?_;refine JN.blk_p ?_;refine JN.then_p ?_;refine JN.front 2 rfl ?_;refine JN.panicD catch80 ?_;refine JN.se (SE.fin (Γ' := [(4, _)]) [2, 0, 1] ⟨rfl, trivial⟩ rfl) ?_;obtain rfl := hR _ h;exact JN.ret () [_] 1 ⟨⟨_, _, _, _, _, rfl, (.tail _ (.head _)), sz30, (fun _ => rfl), rfl⟩, trivial⟩ rfl
       ·refine JC.seq (JC.drawN ?_);refine dm ?_;refine da (o_field_obj rfl fo59_1) ?_;refine ea 0 (o_load_obj rfl sz3 nfs rfl) ?_;refine dm ?_;refine da (o_nil_obj rfl) ?_;refine da (o_field_obj rfl fo98_1) ?_;refine ea 1 (o_load_obj rfl sz93 nfs rfl) ?_;refine da (o_field_obj rfl fo59_0) ?_;refine ea 0 (o_load_obj rfl sz3 nfs rfl) ?_;obtain ⟨x13, ex13, h⟩ := b_bind h;refine db (o_index (t := (.tag 109 111)) rfl U93 sz108 ex13) ?_;refine da (o_load_at (t := (.tag 109 111)) rfl sz108 rfl) ?_;refine df mixed ?_;obtain ⟨r14, er14, h⟩ := b_bind h;refine fr 1 ?_;refine kc (o_call [.tmp 63, .tmp 65, .tmp 73] rfl rfl en67 rfl (chg_quick_can_ok k ((a0.1.1, a0.1.2.1, a0.1.2.2.1, a0.1.2.2.2), a0.2.1, a0.2.2) b_a0 m_a0 x6.2 x13 r14 er14)) ?_;refine ja (o_not rfl) ?_;refine aq (nt ?_);refine cw h (fun h => ?_) (fun h => ?_)
        ·refine JC.region (ja (o_iface rfl U152) ?_);refine JO.panicN rfl rfl rfl rfl ?_;refine JN.blk_p ?_;refine JN.then_p ?_;refine JN.blk_p ?_;refine JN.then_p ?_;refine JN.then_p ?_;refine JN.blk_p ?_;refine JN.then_p ?_;refine JN.front 2 rfl ?_;refine JN.panicD catch80 ?_;refine JN.se (SE.fin (Γ' := [(4, _)]) [1, 0, 2] ⟨rfl, trivial⟩ rfl) ?_;obtain rfl := hR _ h;exact JN.ret () [_] 1 ⟨⟨_, _, _, _, _, rfl, (.tail _ (.head _)), sz30, (fun _ => rfl), rfl⟩, trivial⟩ rfl
        ·refine JC.seq (JC.drawN ?_);refine dm ?_;refine da (o_field_obj rfl fo59_0) ?_;refine ea 1 (o_load_obj rfl sz3 nfs rfl) ?_;refine da (o_nil_obj rfl) ?_;refine da (o_field_obj rfl fo98_2) ?_;obtain ⟨u15, eu15, h⟩ := b_bind h;refine db (o_index_arr rfl U95 sz94 (chkP_some eu15).1 (chkP_some eu15).2) ?_;obtain ⟨x16, ex16, h⟩ := b_bind h;refine ea 0 (o_load_arr (t := (.int .u8)) (off := 5) (i := x6.1) (N := 8) rfl sz94 (fun _ => rfl) rfl rfl rfl rfl ex16) ?_;refine dm ?_;refine df mixed ?_;refine jb (o_andn rfl) ?_;refine jb (o_neq rfl) ?_;refine aq (nt ?_);refine cn h (fun h => ?_) (fun h => ?_)
         ·refine JC.region (ja (o_iface rfl U152) ?_);refine JO.panicN rfl rfl rfl rfl ?_;refine JN.blk_p ?_;refine JN.then_p ?_;refine JN.blk_p ?_;refine JN.then_p ?_;refine JN.then_p ?_;refine JN.blk_p ?_;refine JN.then_p ?_;refine JN.front 2 rfl ?_;refine JN.panicD catch80 ?_;refine JN.se (SE.fin (Γ' := [(4, _)]) [1, 0, 2] ⟨rfl, trivial⟩ rfl) ?_;obtain rfl := hR _ h;exact JN.ret () [_] 1 ⟨⟨_, _, _, _, _, rfl, (.tail _ (.head _)), sz30, (fun _ => rfl), rfl⟩, trivial⟩ rfl
         ·refine JC.skip (JN.blk_n (tn (JC.region (mq ?_))));refine fl fo59_0 ?_;refine fr 1 ?_;refine lo sz3 ?_;refine ja (o_litB (t := (.int .i64)) [(.tmp 91, _)] [x6.1] rfl rfl sl22 (.cons rfl .int .nil) rfl rfl) ?_;obtain ⟨r17, er17, h⟩ := b_bind h;refine ja (o_call [.tmp 92] rfl rfl en40 rfl (chg_of_ok k [x6.1] r17 er17)) ?_;refine jb (o_or rfl) ?_;refine aq (JO.nil (JN.blk_n (tn (JC.region ?_))));obtain ⟨x18, ex18, h⟩ := b_bind h;refine jb (o_add rfl ex18) ?_;refine mq (nl ?_);exact jz ((), (ior .u8 y4.1 r17, x18)) h [1, 2]
    ·refine xa ?_;exact jz ((), ()) h [1, 0]
   ·refine sr (JO.n11 rfl rfl (o_store rfl sz30 rfl rfl rfl) ⟨rfl, rfl, trivial⟩ ?_);refine nt (JC.ret (JN.retD catch80 ?_));refine JN.se (SE.fin (Γ' := [(4, _)]) [1, 0] ⟨rfl, trivial⟩ rfl) ?_;cases h;exact JN.ret () [_] 1 ⟨⟨_, _, _, _, _, rfl, (.tail _ (.head _)), sz30, (fun _ => rfl), rfl⟩, trivial⟩ rfl


def chg_asked (k : Nat) (a0 : dChange) (a1 : (List dStep)) : Option ((Option (dChange × (List (Bool × Int)) × (List Int))) × Int) :=
 (chg_begin k a0).bind fun r2 =>
 casesO r2.1 (if ¬ (r2.2 = (0 : Int)) then (some (none, r2.2)) else (none)) (fun q3 => if ¬ (r2.2 = (0 : Int)) then (some (none, r2.2)) else ((chg_quick_checkPlan k ((q3.1.1, q3.1.2.1, q3.1.2.2.1, q3.1.2.2.2), q3.2.1, q3.2.2) a1).bind fun r5 =>
 some (some ((q3.1.1, q3.1.2.1, q3.1.2.2.1, q3.1.2.2.2), q3.2.1, q3.2.2), r5)))

theorem chg_asked_ok (k : Nat) (a0 : dChange) (a1 : (List dStep)) (r : (Option (dChange × (List (Bool × Int)) × (List Int))) × Int) (h : chg_asked k a0 a1 = some r) :
 Ctr Try.prog 50 [.rep tChange a0, Rs tStep a1] [] (fun z : Nat × Nat => (resA [optA r.1 z.1, I r.2], optD r.1 fun q => [.obj z.1 98 (Qq q (.eq (.map (some z.2)))), .raw z.2 (.map #[] 0)])) := by
 unfold chg_asked at h
 replace h := b_top h
 refine Ctr.of 20 Try.func50 rfl Try.ntmps50 rfl fun S w0 => ?_
 refine sr ?_
 refine bx fun b1 => ?_
 refine cq ?_
 refine cq ?_
 refine nt ?_
 refine sr ?_
 refine lo sz26 ?_
 obtain ⟨r2, er2, h⟩ := b_bind h
 have cr2 := chg_begin_ok k a0 r2 er2
 rcases hr : r2.1 with _ | q3
 ·
  rw [hr] at h cr2; replace h := co_n h;refine JO.stepG (Δ := []) (F := _) (fun _ _ _ => wanted_none rfl _) rfl rfl (o_call [.tmp 9] rfl rfl en34 rfl cr2) ⟨rfl, trivial⟩ fun _ => ?_;refine mq ?_;refine xr ?_;refine xr ?_;refine aq ?_;refine aq (nt (JC.seq (sr ?_)));refine mq ?_;refine jb (o_neq rfl) ?_;refine nt (cn h (fun h => ?_) (fun h => ?_))
  ·refine sr (mq ?_);refine cq ?_;refine aq (nt (rx ?_));cases h;exact JN.ret (0, 0) [.eq (.pointer none), _] 0 ⟨rfl, rfl, trivial⟩ rfl
  ·refine sk (sr ?_);iterate 3 refine mq ?_
   cases h
 ·
  rw [hr] at h cr2; replace h := co_s h;refine JO.stepG (Δ := []) (F := _) (fun _ _ _ => wanted_none rfl _) rfl rfl (o_call [.tmp 9] rfl rfl en34 rfl cr2) ⟨rfl, trivial⟩ fun z4 => ?_;refine mq ?_;refine xr ?_;refine xr ?_;refine aq ?_;refine aq (nt (JC.seq (sr ?_)));refine mq ?_;refine jb (o_neq rfl) ?_;refine nt (cn h (fun h => ?_) (fun h => ?_))
  ·refine sr (mq ?_);refine cq ?_;refine aq (nt (rx ?_));cases h;exact JN.ret (0, 0) [.eq (.pointer none), _] 0 ⟨rfl, rfl, trivial⟩ rfl
  ·refine sk (sr ?_);iterate 3 refine mq ?_
   obtain ⟨r5, er5, h⟩ := b_bind h;refine kb (o_call [.tmp 17, .tmp 18] rfl rfl en71 rfl (chg_quick_checkPlan_ok k ((q3.1.1, q3.1.2.1, q3.1.2.2.1, q3.1.2.2.2), q3.2.1, q3.2.2) z4.1 (.map (some z4.2)) a1 r5 er5)) ?_;refine aq ?_;refine aq (nt (JC.ret ?_));cases h;exact JN.ret (z4.1, z4.2) [.eq (.pointer (some ⟨z4.1, 0, none⟩)), _] 2 ⟨rfl, rfl, trivial⟩ rfl


def chg_Begins (k : Nat) (a0 : dChange) (a1 : (List dStep)) : Option ((List Int) × Int) :=
 (chg_asked k a0 a1).bind fun r2 =>
 casesO r2.1 (if ¬ (r2.2 = (0 : Int)) then (some ([], r2.2)) else (none)) (fun q3 => if ¬ (r2.2 = (0 : Int)) then (some ([], r2.2)) else ((chg_quick_begins k ((q3.1.1, q3.1.2.1, q3.1.2.2.1, q3.1.2.2.2), q3.2.1, q3.2.2) a1).bind fun r5 =>
 some (r5.1, (0 : Int))))

theorem chg_Begins_ok (k : Nat) (a0 : dChange) (a1 : (List dStep)) (r : (List Int) × Int) (h : chg_Begins k a0 a1 = some r) :
 Ctr Try.prog 19 [.rep tChange a0, Rs tStep a1] [] (fun _ : Unit => (resA [Ri r.1, I r.2], [])) := by
 unfold chg_Begins at h
 replace h := b_top h
 refine Ctr.of 26 Try.func19 rfl Try.ntmps19 rfl fun S w0 => ?_
 refine sr ?_
 refine bx fun b1 => ?_
 refine cq ?_
 refine cq ?_
 refine nt ?_
 refine sr ?_
 refine lo sz26 ?_
 refine mq ?_
 obtain ⟨r2, er2, h⟩ := b_bind h
 have cr2 := chg_asked_ok k a0 a1 r2 er2
 rcases hr : r2.1 with _ | q3
 ·
  rw [hr] at h cr2; replace h := co_n h;refine JO.stepG (Δ := []) (F := _) (fun _ _ _ => wanted_none rfl _) rfl rfl (o_call [.tmp 11, .tmp 12] rfl rfl en50 rfl cr2) ⟨rfl, rfl, trivial⟩ fun _ => ?_;refine mq ?_;refine xr ?_;refine xr ?_;refine aq ?_;refine aq (nt (JC.seq (sr ?_)));refine mq ?_;refine jb (o_neq rfl) ?_;refine nt (cn h (fun h => ?_) (fun h => ?_))
  ·refine sr (mq ?_);refine cq ?_;refine aq (nt (rx ?_));refine JN.se (SE.ent (t := (.slice (.int .i64))) (x := []) 4 rfl .nil rfl rfl) ?_;cases h;exact rb
  ·refine sk (sr ?_);iterate 2 refine mq ?_
   cases h
 ·
  rw [hr] at h cr2; replace h := co_s h;refine JO.stepG (Δ := []) (F := _) (fun _ _ _ => wanted_none rfl _) rfl rfl (o_call [.tmp 11, .tmp 12] rfl rfl en50 rfl cr2) ⟨rfl, rfl, trivial⟩ fun z4 => ?_;refine mq ?_;refine xr ?_;refine xr ?_;refine aq ?_;refine aq (nt (JC.seq (sr ?_)));refine mq ?_;refine jb (o_neq rfl) ?_;refine nt (cn h (fun h => ?_) (fun h => ?_))
  ·refine sr (mq ?_);refine cq ?_;refine aq (nt (rx ?_));refine JN.se (SE.ent (t := (.slice (.int .i64))) (x := []) 4 rfl .nil rfl rfl) ?_;cases h;exact rb
  ·refine sk (sr ?_);iterate 2 refine mq ?_
   obtain ⟨r5, er5, h⟩ := b_bind h;refine kb (o_call [.tmp 20, .tmp 21] rfl rfl en51 rfl (chg_quick_begins_ok k ((q3.1.1, q3.1.2.1, q3.1.2.2.1, q3.1.2.2.2), q3.2.1, q3.2.2) z4.1 (.map (some z4.2)) a1 r5 er5)) ?_;refine mq ?_;refine xr ?_;refine xr ?_;refine JO.s01 rfl rfl rfl (o_alloc rfl za113 al113) trivial fun b6 => ?_;refine aq ?_;refine JO.n11 rfl rfl (o_store rfl sz113 rfl rfl rfl) ⟨rfl, rfl, trivial⟩ ?_;refine nt (sr (mq ?_));refine aq ?_;refine cq (nt (JC.ret ?_));cases h;exact rb


def chg_quick_late_l1 (k : Nat) (a0 : (dChange × (List (Bool × Int)) × (List Int))) (a1 : (List dStep)) (a2 : Int) (r1 : (List Int) × (List Int)) : Nat → Int → Option (Except (Int × Int) Unit)
 | 0, _ => none
 | n + 1, y5 =>
  if y5 < (a1.length : Int) then ((geti a1 y5).bind fun x7 =>
  (geti a0.2.1 x7.1).bind fun x9 =>
  (cond x9.1 (chg_on_thing k x9.2) (chg_off_thing k x9.2)).bind fun r10 =>
  (geti a0.1.1 r10).bind fun x11 =>
  ((if x9.1 = true then (if (0 : Int) < x11.2.2.2.2 then ((chkP (0 ≤ x7.1 ∧ x7.1 < 4)).bind fun _ =>
  (geti r1.2 x7.1).bind fun x15 =>
  if x11.2.2.2.2 < x15 then ((cond x9.1 (chg_on_thing k x9.2) (chg_off_thing k x9.2)).bind fun r16 =>
  (chg_set_has k a2 r16).bind fun r17 =>
  some (!r17)) else (some false)) else (some false)) else (some false)) : Option (Bool)).bind fun x12 =>
  if x12 = true then (some (.error (y5, x11.2.2.2.2))) else ((ck (y5 + (1 : Int))).bind fun x18 =>
  chg_quick_late_l1 k a0 a1 a2 r1 n x18)) else (some (.ok ()))
def chg_quick_late (k : Nat) (a0 : (dChange × (List (Bool × Int)) × (List Int))) (a1 : (List dStep)) (a2 : Int) : Option (Int × Int) :=
 (chg_quick_begins k ((a0.1.1, a0.1.2.1, a0.1.2.2.1, a0.1.2.2.2), a0.2.1, a0.2.2) a1).bind fun r1 =>
 bE (α := Unit) (chg_quick_late_l1 k a0 a1 a2 r1 k (0 : Int)) (some) fun _ =>
 some ((-1 : Int), (0 : Int))

theorem chg_quick_late_ok (k : Nat) (a0 : (dChange × (List (Bool × Int)) × (List Int))) (b_a0 : Nat) (m_a0 : Value) (a1 : (List dStep)) (a2 : Int) (r : Int × Int) (h : chg_quick_late k a0 a1 a2 = some r) :
 Ctr Try.prog 52 [Pt b_a0, Rs tStep a1, .eq (.int .u8 a2)] [.obj b_a0 98 (Qq a0 (.eq m_a0))] (fun _ : Unit => (resA [I r.1, I r.2], [.obj b_a0 98 (Qq a0 (.eq m_a0))])) := by
 unfold chg_quick_late at h
 replace h := b_top h
 refine Ctr.of 75 Try.func52 rfl Try.ntmps52 rfl fun S w0 => ?_
 refine sr ?_
 refine cq ?_
 refine cq ?_
 refine nt ?_
 refine sr ?_
 iterate 2 refine mq ?_
 obtain ⟨r1, er1, h⟩ := b_bind h
 have cr1 := chg_quick_begins_ok k ((a0.1.1, a0.1.2.1, a0.1.2.2.1, a0.1.2.2.2), a0.2.1, a0.2.2) b_a0 m_a0 a1 r1 er1
 refine kb (o_call [.tmp 17, .tmp 18] rfl rfl en51 rfl cr1) ?_
 refine mq ?_
 refine xr ?_
 refine xr ?_
 refine JO.s01 rfl rfl rfl (o_alloc rfl za113 al113) trivial fun b2 => ?_
 refine aq ?_
 refine JO.n11 rfl rfl (o_store rfl sz113 rfl rfl rfl) ⟨rfl, rfl, trivial⟩ ?_
 refine nt ?_
 refine JC.cutE (Z := Unit) (α := Unit) (fun z4 x3 => []) (fun z4 x3 => [.obj b_a0 98 (Qq a0 (.eq m_a0))]) (fun e => e = r) h (fun e h => Option.some.inj h) (fun K hR h => ?_) (fun z4 x3 h => ?_)
 ·
  refine sr (mq ?_);refine ol U33 ?_;refine JO.mc rfl ?_;refine nt (JC.block (JC.loopB (Z := Unit) (α := Int) (fun z6 y5 => [(0, Pt b_a0), (2, .eq (.int .u8 a2)), (9, Pt b2), (22, Rs tStep a1), (23, I (a1.length : Int)), (24, I y5)]) (fun z6 y5 => [.obj b_a0 98 (Qq a0 (.eq m_a0)), .obj b2 113 (.rep (.arr 4 (.int .i64)) r1.2)]) (chg_quick_late_l1 k a0 a1 a2 r1) k () (0 : Int) (fun _ => rfl) h (SE.fin [1, 0] ⟨rfl, rfl, rfl, rfl, rfl, rfl, trivial⟩ rfl) (fun n z6 y5 h => ?_)));unfold chg_quick_late_l1 at h;refine sr (jb (o_lss rfl) ?_);refine nt (JC.seq (ci h (fun h => ?_) (fun h => ?_)))
  ·refine sk (JC.seq (JC.block (sr (mq ?_))));obtain ⟨x7, ex7, h⟩ := b_bind h;refine jb (o_index (t := tStep) rfl U33 sz59 ex7) ?_;refine ja (o_load_at (t := tStep) rfl sz59 rfl) ?_;refine JO.s01 rfl rfl rfl (o_alloc rfl za59 al59) trivial fun b8 => ?_;refine aq ?_;refine JO.n11 rfl rfl (o_store rfl sz59 rfl rfl rfl) ⟨rfl, rfl, trivial⟩ ?_;refine nt (JC.seq (JC.drawN ?_));refine dm ?_;refine da (o_nil_obj rfl) ?_;refine da (o_field_obj rfl fo98_1) ?_;refine ea 1 (o_load_obj rfl sz93 nfs rfl) ?_;refine da (o_field_obj rfl fo59_0) ?_;refine ea 0 (o_load_obj rfl sz3 nfs rfl) ?_;refine df mixed ?_;obtain ⟨x9, ex9, h⟩ := b_bind h;refine jb (o_index (t := (.tag 109 111)) rfl U93 sz108 ex9) ?_;refine ja (o_load_at (t := (.tag 109 111)) rfl sz108 rfl) ?_;refine aq (nt (JC.seq ?_));refine JC.drawN ?_;refine dm ?_;refine da (o_nil_obj rfl) ?_;refine da (o_field_obj rfl fo98_0) ?_;refine da (o_field_obj rfl fo26_0) ?_;refine ea 1 (o_load_obj rfl sz23 nfs rfl) ?_;refine dm ?_;obtain ⟨r10, er10, h⟩ := b_bind h;refine DN.s00 rfl rfl rfl (o_invoke rfl rfl mt109_thing mt111_thing (ctr_cond (fun hb => chg_off_thing_ok k x9.2 r10 (by simpa [hb] using er10)) (fun hb => chg_on_thing_ok k x9.2 r10 (by simpa [hb] using er10)))) ⟨rfl, trivial⟩ ?_;refine df mixed ?_;obtain ⟨x11, ex11, h⟩ := b_bind h;refine jb (o_index (t := tThing) rfl U23 sz43 ex11) ?_;refine ja (o_field_at 1 false rfl fo43_4 rfl) ?_;refine ja (o_load_at (t := (.int .i64)) rfl sz3 rfl) ?_;refine aq (nt (sr ?_));refine mq ?_;refine JO.s rfl (o_as1 rfl ta111 (by decide)) ⟨rfl, trivial⟩ ?_;refine mq ?_;refine xr ?_;refine xr ?_;refine aq ?_;refine aq (nt ?_);refine JC.cutB (Z := Unit) (α := Bool) (fun z13 x12 => [(0, Pt b_a0), (2, .eq (.int .u8 a2)), (9, Pt b2), (10, I y5), (13, I x11.2.2.2.2), (22, Rs tStep a1), (23, I (a1.length : Int)), (24, I y5), (71, .eq (.bool x12))]) (fun z13 x12 => [.obj b_a0 98 (Qq a0 (.eq m_a0)), .obj b2 113 (.rep (.arr 4 (.int .i64)) r1.2)]) h (fun K h => ?_) (fun z13 x12 h => ?_)
   ·refine JC.region ?_;iterate 2 refine mq ?_
    refine JO.bool (s := 53) rfl (fun hb => ?_) (fun hb => ?_)
    ·replace h := b_if (v_t hb) h;refine gm ?_;refine gb (o_gtr rfl) ?_;refine pt ?_;refine mq ?_;refine JO.bool (s := 57) rfl (fun hb => ?_) (fun hb => ?_)
     ·replace h := b_if (d_t hb) h;refine ga (o_field_obj rfl fo59_0) ?_;refine JO.g11 rfl rfl rfl rfl rfl rfl (o_load_obj rfl sz3 nfs rfl) ⟨rfl, trivial⟩ ?_;obtain ⟨u14, eu14, h⟩ := b_bind h;refine gb (o_index_arr rfl U113 sz3 (chkP_some eu14).1 (chkP_some eu14).2) ?_;obtain ⟨x15, ex15, h⟩ := b_bind h;refine fr 2 ?_;refine JO.g11 rfl rfl rfl rfl rfl rfl (o_load_arr (t := (.int .i64)) (off := 0) (i := x7.1) (N := 4) rfl sz3 (fun _ => rfl) rfl rfl rfl rfl ex15) ⟨rfl, trivial⟩ ?_;refine gm ?_;refine gb (o_gtr rfl) ?_;refine pt ?_;refine mq ?_;refine JO.bool (s := 65) rfl (fun hb => ?_) (fun hb => ?_)
      ·replace h := b_if (d_t hb) h;refine gm ?_;refine gm ?_;obtain ⟨r16, er16, h⟩ := b_bind h;refine JO.g00 rfl rfl rfl rfl rfl rfl (o_invoke rfl rfl mt109_thing mt111_thing (ctr_cond (fun hb => chg_off_thing_ok k x9.2 r16 (by simpa [hb] using er16)) (fun hb => chg_on_thing_ok k x9.2 r16 (by simpa [hb] using er16)))) ⟨rfl, trivial⟩ ?_;obtain ⟨r17, er17, h⟩ := b_bind h;refine gb (o_call [.tmp 66, .tmp 68] rfl rfl en49 rfl (chg_set_has_ok k a2 r16 r17 er17)) ?_;refine ga (o_not rfl) ?_;refine pt (nl ?_);exact jz ((), !r17) h [2, 0]
      ·replace h := b_ifn (d_f hb) h;iterate 5 refine gn ?_
       refine pf (nl ?_);exact jz ((), false) h [2, 0]
     ·replace h := b_ifn (d_f hb) h;iterate 6 refine gn ?_
      refine pf ?_;refine mq ?_;iterate 5 refine gn ?_
      refine pf (nl ?_);exact jz ((), false) h [1, 2]
    ·replace h := b_ifn (v_f hb) h;iterate 2 refine gn ?_
     refine pf ?_;refine mq ?_;iterate 6 refine gn ?_
     refine pf ?_;refine mq ?_;iterate 5 refine gn ?_
     refine pf (nl ?_);exact jz ((), false) h [1, 2]
   ·refine cv h (fun h => ?_) (fun h => ?_)
    ·refine sr ?_;iterate 2 refine mq ?_
     refine aq ?_;refine aq (nt (JC.ret (br (JN.blk_r (JN.then_r ?_)))));obtain rfl := hR _ h;exact JN.ret () [_, _] 1 ⟨rfl, rfl, trivial⟩ rfl
    ·refine JC.skip (JN.blk_n (tn (JC.region ?_)));obtain ⟨x18, ex18, h⟩ := b_bind h;refine jb (o_add rfl ex18) ?_;refine mq (nl ?_);exact jz ((), x18) h [0, 1]
  ·refine xa ?_;exact jz ((), ()) h [0]
 ·
  refine sr (cq ?_);refine cq (nt (JC.ret ?_));cases h;exact JN.ret () [_, _] 1 ⟨rfl, rfl, trivial⟩ rfl


def chg_Late (k : Nat) (a0 : dChange) (a1 : (List dStep)) : Option (Int × Int × Int) :=
 (chg_asked k a0 a1).bind fun r2 =>
 casesO r2.1 (if ¬ (r2.2 = (0 : Int)) then (some ((0 : Int), (0 : Int), r2.2)) else (none)) (fun q3 => if ¬ (r2.2 = (0 : Int)) then (some ((0 : Int), (0 : Int), r2.2)) else ((chg_quick_late k ((q3.1.1, q3.1.2.1, q3.1.2.2.1, q3.1.2.2.2), q3.2.1, q3.2.2) a1 (0 : Int)).bind fun r5 =>
 some (r5.1, r5.2, (0 : Int))))

theorem chg_Late_ok (k : Nat) (a0 : dChange) (a1 : (List dStep)) (r : Int × Int × Int) (h : chg_Late k a0 a1 = some r) :
 Ctr Try.prog 20 [.rep tChange a0, Rs tStep a1] [] (fun _ : Unit => (resA [I r.1, I r.2.1, I r.2.2], [])) := by
 unfold chg_Late at h
 replace h := b_top h
 refine Ctr.of 28 Try.func20 rfl Try.ntmps20 rfl fun S w0 => ?_
 refine sr ?_
 refine bx fun b1 => ?_
 refine cq ?_
 refine cq ?_
 refine cq ?_
 refine nt ?_
 refine sr ?_
 refine lo sz26 ?_
 refine mq ?_
 obtain ⟨r2, er2, h⟩ := b_bind h
 have cr2 := chg_asked_ok k a0 a1 r2 er2
 rcases hr : r2.1 with _ | q3
 ·
  rw [hr] at h cr2; replace h := co_n h;refine JO.stepG (Δ := []) (F := _) (fun _ _ _ => wanted_none rfl _) rfl rfl (o_call [.tmp 12, .tmp 13] rfl rfl en50 rfl cr2) ⟨rfl, rfl, trivial⟩ fun _ => ?_;refine mq ?_;refine xr ?_;refine xr ?_;refine aq ?_;refine aq (nt (JC.seq (sr ?_)));refine mq ?_;refine jb (o_neq rfl) ?_;refine nt (cn h (fun h => ?_) (fun h => ?_))
  ·refine sr (mq ?_);refine cq ?_;refine cq ?_;refine aq (nt (rx ?_));cases h;exact JN.ret () [_, _, _] 0 ⟨rfl, rfl, rfl, trivial⟩ rfl
  ·refine sk (sr ?_);iterate 2 refine mq ?_
   cases h
 ·
  rw [hr] at h cr2; replace h := co_s h;refine JO.stepG (Δ := []) (F := _) (fun _ _ _ => wanted_none rfl _) rfl rfl (o_call [.tmp 12, .tmp 13] rfl rfl en50 rfl cr2) ⟨rfl, rfl, trivial⟩ fun z4 => ?_;refine mq ?_;refine xr ?_;refine xr ?_;refine aq ?_;refine aq (nt (JC.seq (sr ?_)));refine mq ?_;refine jb (o_neq rfl) ?_;refine nt (cn h (fun h => ?_) (fun h => ?_))
  ·refine sr (mq ?_);refine cq ?_;refine cq ?_;refine aq (nt (rx ?_));cases h;exact JN.ret () [_, _, _] 0 ⟨rfl, rfl, rfl, trivial⟩ rfl
  ·refine sk (sr ?_);iterate 2 refine mq ?_
   obtain ⟨r5, er5, h⟩ := b_bind h;refine kc (o_call [.tmp 21, .tmp 22, .const (.int .u8 (0))] rfl rfl en52 rfl (chg_quick_late_ok k ((q3.1.1, q3.1.2.1, q3.1.2.2.1, q3.1.2.2.2), q3.2.1, q3.2.2) z4.1 (.map (some z4.2)) a1 (0 : Int) r5 er5)) ?_;refine mq ?_;refine xr ?_;refine xr ?_;refine aq ?_;refine aq (nt (sr ?_));iterate 2 refine mq ?_
   refine aq ?_;refine aq ?_;refine cq (nt (JC.ret ?_));cases h;exact JN.ret () [_, _, _] 0 ⟨rfl, rfl, rfl, trivial⟩ rfl


def kit_SameSteps_l1 (k : Nat) (a0 : (List dStep)) (a1 : (List dStep)) : Nat → Int → Option (Except Bool Unit)
 | 0, _ => none
 | n + 1, y3 =>
  if y3 < (a0.length : Int) then ((geti a0 y3).bind fun x5 =>
  (geti a1 y3).bind fun x6 =>
  if ¬ (x5 = x6) then (some (.error false)) else ((ck (y3 + (1 : Int))).bind fun x7 =>
  kit_SameSteps_l1 k a0 a1 n x7)) else (some (.ok ()))
def kit_SameSteps (k : Nat) (a0 : (List dStep)) (a1 : (List dStep)) : Option Bool :=
 if ¬ ((a0.length : Int) = (a1.length : Int)) then (some false) else (bE (α := Unit) (kit_SameSteps_l1 k a0 a1 k (0 : Int)) (some) fun _ =>
 some true)

theorem kit_SameSteps_ok (k : Nat) (a0 : (List dStep)) (a1 : (List dStep)) (r : Bool) (h : kit_SameSteps k a0 a1 = some r) :
 Ctr Try.prog 22 [Rs tStep a0, Rs tStep a1] [] (fun _ : Unit => (resA [.eq (.bool r)], [])) := by
 unfold kit_SameSteps at h
 replace h := b_top h
 refine Ctr.of 26 Try.func22 rfl Try.ntmps22 rfl fun S w0 => ?_
 refine sr ?_
 refine cq ?_
 refine nt ?_
 refine JC.seq ?_
 refine sr ?_
 refine mq ?_
 refine ol U33 ?_
 refine mq ?_
 refine ol U33 ?_
 refine jb (o_neq rfl) ?_
 refine nt ?_
 refine cn h (fun h => ?_) (fun h => ?_)
 ·
  refine sr (cq (nt (rx ?_)));cases h;exact ra
 ·
  refine sk (JC.cutE (Z := Unit) (α := Unit) (fun z2 x1 => []) (fun z2 x1 => []) (fun e => e = r) h (fun e h => Option.some.inj h) (fun K hR h => ?_) (fun z2 x1 h => ?_))
  ·refine sr (cq (nt (JC.block ?_)));refine JC.loopB (Z := Unit) (α := Int) (fun z4 y3 => [(0, Rs tStep a0), (1, Rs tStep a1), (5, I y3)]) (fun z4 y3 => []) (kit_SameSteps_l1 k a0 a1) k () (0 : Int) (fun _ => rfl) h (SE.fin [] ⟨rfl, rfl, rfl, trivial⟩ rfl) (fun n z4 y3 h => ?_);unfold kit_SameSteps_l1 at h;refine JC.seq (sr ?_);iterate 2 refine mq ?_
   refine ol U33 ?_;refine jb (o_lss rfl) ?_;refine nt (ci h (fun h => ?_) (fun h => ?_))
   ·refine sk (JC.seq (JC.block (JC.seq (JC.drawN ?_))));refine dm ?_;refine dm ?_;obtain ⟨x5, ex5, h⟩ := b_bind h;refine db (o_index (t := tStep) rfl U33 sz59 ex5) ?_;refine da (o_load_at (t := tStep) rfl sz59 rfl) ?_;refine dm ?_;refine dm ?_;obtain ⟨x6, ex6, h⟩ := b_bind h;refine db (o_index (t := tStep) rfl U33 sz59 ex6) ?_;refine da (o_load_at (t := tStep) rfl sz59 rfl) ?_;refine df mixed ?_;refine jb (o_neqs rfl eq59 rfl) ?_;refine nt (cn h (fun h => ?_) (fun h => ?_))
    ·refine sr (cq (nt (JC.ret (br (JN.blk_r (JN.then_r ?_))))));obtain rfl := hR _ h;exact ra
    ·refine JC.skip (JN.blk_n (tn (JC.region (mq ?_))));obtain ⟨x7, ex7, h⟩ := b_bind h;refine jb (o_add rfl ex7) ?_;refine aq (nl ?_);exact jz ((), x7) h []
   ·refine xa ?_;exact jz ((), ()) h []
  ·refine sr (cq (nt (JC.ret ?_)));cases h;exact ra


def chg_quick_fewest (k : Nat) (a0 : (dChange × (List (Bool × Int)) × (List Int))) (a1 : (List dDresser)) : Option (Int × Bool) :=
 (chg_begin k (a0.1.1, a1, a0.1.2.2.1, a0.1.2.2.2)).bind fun r2 =>
 casesO r2.1 (if ¬ (r2.2 = (0 : Int)) then (some ((0 : Int), false)) else (none)) (fun q3 => if ¬ (r2.2 = (0 : Int)) then (some ((0 : Int), false)) else ((chg_least k ((q3.1.1, q3.1.2.1, q3.1.2.2.1, q3.1.2.2.2), q3.2.1, q3.2.2)).bind fun r6 =>
 some (r6.2.1, r6.2.2)))

theorem chg_quick_fewest_ok (k : Nat) (a0 : (dChange × (List (Bool × Int)) × (List Int))) (b_a0 : Nat) (m_a0 : Value) (a1 : (List dDresser)) (r : Int × Bool) (h : chg_quick_fewest k a0 a1 = some r) :
 Ctr Try.prog 56 [Pt b_a0, Rs tDresser a1] [.obj b_a0 98 (Qq a0 (.eq m_a0))] (fun _ : Unit => (resA [I r.1, .eq (.bool r.2)], [.obj b_a0 98 (Qq a0 (.eq m_a0))])) := by
 unfold chg_quick_fewest at h
 replace h := b_top h
 refine Ctr.of 36 Try.func56 rfl Try.ntmps56 rfl fun S w0 => ?_
 refine sr ?_
 refine cq ?_
 refine cq ?_
 refine nt ?_
 refine sr ?_
 refine mq ?_
 refine ja (o_nil_obj rfl) ?_
 refine fl fo98_0 ?_
 refine lo sz26 ?_
 refine JO.s01 rfl rfl rfl (o_alloc rfl za26 al26) trivial fun b1 => ?_
 refine JO.n11 rfl rfl (o_store rfl sz26 trivial rfl rfl) ⟨rfl, rfl, trivial⟩ ?_
 refine nt ?_
 refine sr ?_
 refine mq ?_
 refine fl fo26_1 ?_
 refine JO.n11 rfl rfl (o_store rfl sz24 rfl rfl rfl) ⟨rfl, rfl, trivial⟩ ?_
 refine nt ?_
 refine sr ?_
 refine lo sz26 ?_
 obtain ⟨r2, er2, h⟩ := b_bind h
 have cr2 := chg_begin_ok k (a0.1.1, a1, a0.1.2.2.1, a0.1.2.2.2) r2 er2
 rcases hr : r2.1 with _ | q3
 ·
  rw [hr] at h cr2; replace h := co_n h;refine JO.stepG (Δ := []) (F := _) (fun _ _ _ => wanted_none rfl _) rfl rfl (OpT.need (N := [(.tmp 19, .agg (.pair (Rs tThing a0.1.1) (.pair (Rs tDresser a1) (.pair (Ri a0.1.2.2.1) (Ri a0.1.2.2.2)))))]) (o_call [.tmp 19] rfl rfl en34 rfl cr2) fun _ _ _ hn => ⟨(ent_holds (t := tChange) (x := (a0.1.1, a1, a0.1.2.2.1, a0.1.2.2.2)) (.agg (.pair .rep (.pair .rep (.pair .rep .rep)))) trivial rfl hn.1), trivial⟩) ⟨rfl, trivial⟩ fun _ => ?_;refine mq ?_;refine xr ?_;refine xr ?_;refine aq ?_;refine aq (nt (JC.seq (sr ?_)));refine mq ?_;refine jb (o_neq rfl) ?_;refine nt (cn h (fun h => ?_) (fun h => ?_))
  ·refine sr (cq ?_);refine cq (nt (rx ?_));refine JN.se (SE.fin (Γ' := [(4, _), (5, _)]) [1, 0] ⟨rfl, rfl, trivial⟩ rfl) ?_;cases h;exact JN.ret () [_, _] 1 ⟨rfl, rfl, trivial⟩ rfl
  ·refine sk (sr (mq ?_));cases h
 ·
  rw [hr] at h cr2; replace h := co_s h;refine JO.stepG (Δ := []) (F := _) (fun _ _ _ => wanted_none rfl _) rfl rfl (OpT.need (N := [(.tmp 19, .agg (.pair (Rs tThing a0.1.1) (.pair (Rs tDresser a1) (.pair (Ri a0.1.2.2.1) (Ri a0.1.2.2.2)))))]) (o_call [.tmp 19] rfl rfl en34 rfl cr2) fun _ _ _ hn => ⟨(ent_holds (t := tChange) (x := (a0.1.1, a1, a0.1.2.2.1, a0.1.2.2.2)) (.agg (.pair .rep (.pair .rep (.pair .rep .rep)))) trivial rfl hn.1), trivial⟩) ⟨rfl, trivial⟩ fun z4 => ?_;refine mq ?_;refine xr ?_;refine xr ?_;refine aq ?_;refine aq (nt (JC.seq (sr ?_)));refine mq ?_;refine jb (o_neq rfl) ?_;refine nt (cn h (fun h => ?_) (fun h => ?_))
  ·refine sr (cq ?_);refine cq (nt (rx ?_));refine JN.se (SE.fin (Γ' := [(4, _), (5, _)]) [3, 0, 1, 2] ⟨rfl, rfl, trivial⟩ rfl) ?_;cases h;exact JN.ret () [_, _] 1 ⟨rfl, rfl, trivial⟩ rfl
  ·refine sk (sr (mq ?_));refine JO.s01 rfl rfl rfl (o_call [.tmp 26] rfl rfl en36 rfl (chg_quick_plans_ok z4.1)) ⟨rfl, trivial⟩ fun b5 => ?_;refine mq ?_;refine ja (o_mkfn [.tmp 28] [] [(.pointer (some ⟨z4.1, 0, none⟩))] [] rfl rfl rfl) ?_;refine fr 2 ?_;refine JO.se (SE.rawInv (Known k ((q3.1.1, q3.1.2.1, q3.1.2.2.1, q3.1.2.2.2), q3.2.1, q3.2.2)) known_nil) ?_;obtain ⟨r6, er6, h⟩ := b_bind h;refine fr 1 ?_;refine fr 1 ?_;refine fr 2 ?_;refine JO.stepG (Δ := [_, _, _]) (F := _) (fun _ _ _ => wanted_none rfl _) rfl rfl (o_call [.tmp 27, .tmp 29] rfl rfl en35 rfl (chg_least_ok k ((q3.1.1, q3.1.2.1, q3.1.2.2.1, q3.1.2.2.2), q3.2.1, q3.2.2) z4.1 z4.2 b5 r6 er6)) ⟨rfl, rfl, trivial⟩ fun _ => ?_;refine mq ?_;refine xr ?_;refine xr ?_;refine xr ?_;refine aq ?_;refine aq ?_;refine aq (nt (sr ?_));iterate 2 refine mq ?_
   refine aq ?_;refine aq (nt (JC.ret ?_));refine JN.se (SE.fin (Γ' := [(4, _), (5, _)]) [4, 0, 1, 2, 3] ⟨rfl, rfl, trivial⟩ rfl) ?_;cases h;exact JN.ret () [_, _] 1 ⟨rfl, rfl, trivial⟩ rfl


def chg_quick_fewestF (k : Nat) (a0 : dquick) (a1 : (List dDresser)) : Option (Int × Bool) :=
 (chg_begin k (a0.1.1, a1, a0.1.2.2)).bind fun r2 =>
 casesO r2.1 (if ¬ (r2.2 = (0 : Int)) then (some ((0 : Int), false)) else (none)) (fun q3 => if ¬ (r2.2 = (0 : Int)) then (some ((0 : Int), false)) else ((chg_least k ((q3.1.1, q3.1.2.1, q3.1.2.2.1, q3.1.2.2.2), q3.2.1, q3.2.2)).bind fun r6 =>
 some (r6.2.1, r6.2.2)))

theorem chg_quick_fewestF_ok (k : Nat) (a0 : dquick) (a1 : (List dDresser)) (r : Int × Bool) (h : chg_quick_fewestF k a0 a1 = some r) :
 Ctr Try.prog 56 [.at tquick a0, Rs tDresser a1] [] (fun _ : Unit => (resA [I r.1, .eq (.bool r.2)], [])) := by
 unfold chg_quick_fewestF at h
 replace h := b_top h
 refine Ctr.of 36 Try.func56 rfl Try.ntmps56 rfl fun S w0 => ?_
 refine sr ?_
 refine cq ?_
 refine cq ?_
 refine nt ?_
 refine sr ?_
 refine mq ?_
 refine ja (o_nil_at rfl) ?_
 refine ja (o_field_at 4 true rfl fo98_0 rfl) ?_
 refine ja (o_load_at (t := tChange) rfl sz26 rfl) ?_
 refine JO.s01 rfl rfl rfl (o_alloc rfl za26 al26) trivial fun b1 => ?_
 refine JO.n11 rfl rfl (o_store rfl sz26 rfl rfl rfl) ⟨rfl, rfl, trivial⟩ ?_
 refine nt ?_
 refine sr ?_
 refine mq ?_
 refine fl fo26_1 ?_
 refine JO.n11 rfl rfl (o_store rfl sz24 rfl rfl rfl) ⟨rfl, rfl, trivial⟩ ?_
 refine nt ?_
 refine sr ?_
 refine lo sz26 ?_
 obtain ⟨r2, er2, h⟩ := b_bind h
 have cr2 := chg_begin_ok k (a0.1.1, a1, a0.1.2.2) r2 er2
 rcases hr : r2.1 with _ | q3
 ·
  rw [hr] at h cr2; replace h := co_n h;refine JO.stepG (Δ := []) (F := _) (fun _ _ _ => wanted_none rfl _) rfl rfl (OpT.need (N := [(.tmp 19, .agg (.pair (Rs tThing a0.1.1) (.pair (Rs tDresser a1) (.rep (.pair (.slice (.int .i64)) (.slice (.int .i64))) a0.1.2.2))))]) (o_call [.tmp 19] rfl rfl en34 rfl cr2) fun _ _ _ hn => ⟨(ent_holds (t := tChange) (x := (a0.1.1, a1, a0.1.2.2)) (.agg (.pair .rep (.pair .rep .rep))) trivial rfl hn.1), trivial⟩) ⟨rfl, trivial⟩ fun _ => ?_;refine mq ?_;refine xr ?_;refine xr ?_;refine aq ?_;refine aq (nt (JC.seq (sr ?_)));refine mq ?_;refine jb (o_neq rfl) ?_;refine nt (cn h (fun h => ?_) (fun h => ?_))
  ·refine sr (cq ?_);refine cq (nt (rx ?_));cases h;exact rb
  ·refine sk (sr (mq ?_));cases h
 ·
  rw [hr] at h cr2; replace h := co_s h;refine JO.stepG (Δ := []) (F := _) (fun _ _ _ => wanted_none rfl _) rfl rfl (OpT.need (N := [(.tmp 19, .agg (.pair (Rs tThing a0.1.1) (.pair (Rs tDresser a1) (.rep (.pair (.slice (.int .i64)) (.slice (.int .i64))) a0.1.2.2))))]) (o_call [.tmp 19] rfl rfl en34 rfl cr2) fun _ _ _ hn => ⟨(ent_holds (t := tChange) (x := (a0.1.1, a1, a0.1.2.2)) (.agg (.pair .rep (.pair .rep .rep))) trivial rfl hn.1), trivial⟩) ⟨rfl, trivial⟩ fun z4 => ?_;refine mq ?_;refine xr ?_;refine xr ?_;refine aq ?_;refine aq (nt (JC.seq (sr ?_)));refine mq ?_;refine jb (o_neq rfl) ?_;refine nt (cn h (fun h => ?_) (fun h => ?_))
  ·refine sr (cq ?_);refine cq (nt (rx ?_));cases h;exact rb
  ·refine sk (sr (mq ?_));refine JO.s01 rfl rfl rfl (o_call [.tmp 26] rfl rfl en36 rfl (chg_quick_plans_ok z4.1)) ⟨rfl, trivial⟩ fun b5 => ?_;refine mq ?_;refine ja (o_mkfn [.tmp 28] [] [(.pointer (some ⟨z4.1, 0, none⟩))] [] rfl rfl rfl) ?_;refine fr 2 ?_;refine JO.se (SE.rawInv (Known k ((q3.1.1, q3.1.2.1, q3.1.2.2.1, q3.1.2.2.2), q3.2.1, q3.2.2)) known_nil) ?_;obtain ⟨r6, er6, h⟩ := b_bind h;refine fr 1 ?_;refine fr 1 ?_;refine fr 2 ?_;refine JO.stepG (Δ := [_, _, _]) (F := _) (fun _ _ _ => wanted_none rfl _) rfl rfl (o_call [.tmp 27, .tmp 29] rfl rfl en35 rfl (chg_least_ok k ((q3.1.1, q3.1.2.1, q3.1.2.2.1, q3.1.2.2.2), q3.2.1, q3.2.2) z4.1 z4.2 b5 r6 er6)) ⟨rfl, rfl, trivial⟩ fun _ => ?_;refine mq ?_;refine xr ?_;refine xr ?_;refine xr ?_;refine aq ?_;refine aq ?_;refine aq (nt (sr ?_));iterate 2 refine mq ?_
   refine aq ?_;refine aq (nt (JC.ret ?_));cases h;exact rb


def chg_Spare_j1 (k : Nat) (a1 : Int) (q3 : (dChange × (List (Bool × Int)) × (List Int))) (r8 : (List dStep) × Int × Bool) : Nat → (Int × (List dDresser)) → Option (Int × Int)
 | 0, _ => none
 | n + 1, y11 =>
  (geti y11.2 a1).bind fun x13 =>
  (chg_quick_fewestF k ((q3.1.1, q3.1.2.1, q3.1.2.2.1, q3.1.2.2.2), q3.2.1, q3.2.2, ()) (List.set y11.2 (Int.toNat a1) (x13.1, x13.2.1, y11.1))).bind fun r14 =>
  if r8.2.1 < r14.1 then ((ck (y11.1 - (1 : Int))).bind fun x15 =>
  chg_Spare_j1 k a1 q3 r8 n (x15, List.set y11.2 (Int.toNat a1) (x13.1, x13.2.1, y11.1))) else (some (y11.1, (0 : Int)))
def chg_Spare (k : Nat) (a0 : dChange) (a1 : Int) : Option (Int × Int) :=
 (chg_begin k a0).bind fun r2 =>
 casesO r2.1 (if ¬ (r2.2 = (0 : Int)) then (some ((0 : Int), r2.2)) else (none)) (fun q3 => if ¬ (r2.2 = (0 : Int)) then (some ((0 : Int), r2.2)) else ((ck ((q3.1.2.1.length : Int) - (1 : Int))).bind fun x5 =>
 (chg_outside k a1 (0 : Int) x5).bind fun r6 =>
 if r6 = true then (some ((0 : Int), (3 : Int))) else ((chg_least k ((q3.1.1, q3.1.2.1, q3.1.2.2.1, q3.1.2.2.2), q3.2.1, q3.2.2)).bind fun r8 =>
 if ¬ (r8.2.2 = true) then (some ((0 : Int), (11 : Int))) else ((slc_Clone_Dresser k q3.1.2.1).bind fun r9 =>
 chg_Spare_j1 k a1 q3 r8 k ((9 : Int), r9)))))

theorem chg_Spare_ok (k : Nat) (a0 : dChange) (a1 : Int) (r : Int × Int) (h : chg_Spare k a0 a1 = some r) :
 Ctr Try.prog 24 [.rep tChange a0, I a1] [] (fun _ : Unit => (resA [I r.1, I r.2], [])) := by
 unfold chg_Spare at h
 replace h := b_top h
 refine Ctr.of 66 Try.func24 rfl Try.ntmps24 rfl fun S w0 => ?_
 refine sr ?_
 refine bx fun b1 => ?_
 refine cq ?_
 refine cq ?_
 refine nt ?_
 refine JC.scopeS rfl (fl_miss (by kernel_rfl) (fl_miss (by kernel_rfl) (fl_miss (by kernel_rfl) (fl_miss (by kernel_rfl) (fl_miss (by kernel_rfl) (fl_miss (by kernel_rfl) (fl_miss (by kernel_rfl) (fl_hit fl_lab)))))))) ?_
 refine sr ?_
 refine lo sz26 ?_
 obtain ⟨r2, er2, h⟩ := b_bind h
 have cr2 := chg_begin_ok k a0 r2 er2
 rcases hr : r2.1 with _ | q3
 ·
  rw [hr] at h cr2; replace h := co_n h;refine JO.stepG (Δ := []) (F := _) (fun _ _ _ => wanted_none rfl _) rfl rfl (o_call [.tmp 16] rfl rfl en34 rfl cr2) ⟨rfl, trivial⟩ fun _ => ?_;refine mq ?_;refine xr ?_;refine xr ?_;refine aq ?_;refine aq (nt (JC.seq (sr ?_)));refine mq ?_;refine jb (o_neq rfl) ?_;refine nt (cn h (fun h => ?_) (fun h => ?_))
  ·refine sr (mq ?_);refine cq ?_;refine aq (nt (rx ?_));refine JN.jmp_r ?_;cases h;exact rb
  ·refine sk (JC.seq (sr ?_));iterate 2 refine mq ?_
   cases h
 ·
  rw [hr] at h cr2; replace h := co_s h;refine JO.stepG (Δ := []) (F := _) (fun _ _ _ => wanted_none rfl _) rfl rfl (o_call [.tmp 16] rfl rfl en34 rfl cr2) ⟨rfl, trivial⟩ fun z4 => ?_;refine mq ?_;refine xr ?_;refine xr ?_;refine aq ?_;refine aq (nt (JC.seq (sr ?_)));refine mq ?_;refine jb (o_neq rfl) ?_;refine nt (cn h (fun h => ?_) (fun h => ?_))
  ·refine sr (mq ?_);refine cq ?_;refine aq (nt (rx ?_));refine JN.jmp_r ?_;cases h;exact rb
  ·refine sk (JC.seq (sr ?_));iterate 2 refine mq ?_
   refine ja (o_nil_obj rfl) ?_;refine fl fo98_0 ?_;refine fl fo26_1 ?_;refine lo sz24 ?_;refine ol U24 ?_;obtain ⟨x5, ex5, h⟩ := b_bind h;refine jb (o_sub rfl ex5) ?_;obtain ⟨r6, er6, h⟩ := b_bind h;refine jc (o_call [.tmp 23, .const (.int .i64 (0)), .tmp 30] rfl rfl en46 rfl (chg_outside_ok k a1 (0 : Int) x5 r6 er6)) ?_;refine nt (cv h (fun h => ?_) (fun h => ?_))
   ·refine sr (cq ?_);refine cq (nt (rx ?_));refine JN.jmp_r ?_;cases h;exact rb
   ·refine sk (sr (mq ?_));refine JO.s01 rfl rfl rfl (o_call [.tmp 33] rfl rfl en36 rfl (chg_quick_plans_ok z4.1)) ⟨rfl, trivial⟩ fun b7 => ?_;refine mq ?_;refine ja (o_mkfn [.tmp 35] [] [(.pointer (some ⟨z4.1, 0, none⟩))] [] rfl rfl rfl) ?_;refine fr 2 ?_;refine JO.se (SE.rawInv (Known k ((q3.1.1, q3.1.2.1, q3.1.2.2.1, q3.1.2.2.2), q3.2.1, q3.2.2)) known_nil) ?_;obtain ⟨r8, er8, h⟩ := b_bind h;refine fr 1 ?_;refine fr 1 ?_;refine fr 2 ?_;refine JO.stepG (Δ := [_, _, _]) (F := _) (fun _ _ _ => wanted_none rfl _) rfl rfl (o_call [.tmp 34, .tmp 36] rfl rfl en35 rfl (chg_least_ok k ((q3.1.1, q3.1.2.1, q3.1.2.2.1, q3.1.2.2.2), q3.2.1, q3.2.2) z4.1 z4.2 b7 r8 er8)) ⟨rfl, rfl, trivial⟩ fun _ => ?_;refine mq ?_;refine xr ?_;refine xr ?_;refine xr ?_;refine aq ?_;refine aq ?_;refine aq (nt (JC.seq (sr ?_)));refine mq ?_;refine ja (o_not rfl) ?_;refine nt (cw h (fun h => ?_) (fun h => ?_))
    ·refine sr (cq ?_);refine cq (nt (rx ?_));refine JN.jmp_r ?_;cases h;exact rb
    ·refine sk (sr (cq (nt (sr ?_))));refine mq ?_;refine ja (o_nil_obj rfl) ?_;refine fl fo98_0 ?_;refine fl fo26_1 ?_;refine lo sz24 ?_;obtain ⟨r9, er9, h⟩ := b_bind h;refine JO.s01 rfl rfl rfl (o_call [.tmp 47] rfl rfl en55 rfl (slc_Clone_Dresser_ok k q3.1.2.1 r9 er9)) ⟨rfl, trivial⟩ fun v10 => ?_;refine aq (nt (JC.seq ?_));refine JC.label ?_;refine tn (JC.front 1 rfl ?_);refine JC.se (SE.frzObj (t := tquick) (x := ((q3.1.1, q3.1.2.1, q3.1.2.2.1, q3.1.2.2.2), q3.2.1, q3.2.2, ())) [6, 18, 24, 25, 26, 33, 35, 43, 44, 45] (.agg (.pair (.agg (.pair .rep (.pair .rep (.pair .rep .rep)))) (.pair .rep (.pair .rep (.ign rfl))))) ⟨rfl, rfl, rfl, rfl, rfl, rfl, rfl, rfl, rfl, rfl, trivial⟩) ?_;refine JC.atLabel (Z := Unit) (α := Int × (List dDresser)) rfl (fun z12 y11 => [(1, I a1), (6, .at tquick ((q3.1.1, q3.1.2.1, q3.1.2.2.1, q3.1.2.2.2), q3.2.1, q3.2.2, ())), (9, I r8.2.1), (11, I y11.1), (12, .eq v10)]) (fun z12 y11 => [.sl v10 38 tDresser y11.2, .inv z4.2 (Known k ((q3.1.1, q3.1.2.1, q3.1.2.2.1, q3.1.2.2.2), q3.2.1, q3.2.2))]) (chg_Spare_j1 k a1 q3 r8) k () ((9 : Int), r9) (fun _ => rfl) h (SE.fin [0, 1] ⟨rfl, rfl, rfl, rfl, rfl, trivial⟩ rfl) (fun n z12 y11 h => ?_);unfold chg_Spare_j1 at h;refine sr ?_;iterate 3 refine mq ?_
     obtain ⟨x13, ex13, h⟩ := b_bind h;refine kb (o_index_own (t := tDresser) rfl U24 sz38 ex13) ?_;refine ka (o_field_el rfl fo38_2 (geti_ne ex13)) ?_;refine JO.n11 rfl rfl (o_store_el (i := Int.toNat a1) (off := 2) rfl sz3 rfl (geti_some ex13).2.2 .int rfl (.agg (.right (.right .whole rfl) rfl))) ⟨rfl, rfl, trivial⟩ ?_;refine nt (JC.seq (sr ?_));iterate 2 refine mq ?_
     obtain ⟨r14, er14, h⟩ := b_bind h;refine kb (OpT.borrow (N := [(.tmp 55, .at tquick ((q3.1.1, q3.1.2.1, q3.1.2.2.1, q3.1.2.2.2), q3.2.1, q3.2.2, ())), (.tmp 56, .eq v10)]) (o_call [.tmp 55, .tmp 56] rfl rfl en56 rfl (chg_quick_fewestF_ok k ((q3.1.1, q3.1.2.1, q3.1.2.2.1, q3.1.2.2.2), q3.2.1, q3.2.2, ()) (List.set y11.2 (Int.toNat a1) (x13.1, x13.2.1, y11.1)) r14 er14)) (fun _ _ _ hv hn => ⟨hn.1, (lend hn.2.1 hv), trivial⟩) (fun _ => ⟨rfl, flat_nil⟩)) ?_;refine mq ?_;refine xr ?_;refine xr ?_;refine aq ?_;refine aq (nt (sr ?_));iterate 2 refine mq ?_
     refine jb (o_gtr rfl) ?_;refine nt (ci h (fun h => ?_) (fun h => ?_))
     ·refine sr (mq ?_);obtain ⟨x15, ex15, h⟩ := b_bind h;refine jb (o_sub rfl ex15) ?_;refine aq (nt ?_);refine JC.goto ?_;refine JN.then_g ?_;exact JN.jmpz ((), (x15, List.set y11.2 (Int.toNat a1) (x13.1, x13.2.1, y11.1))) h (SE.fin [0, 1] ⟨rfl, rfl, rfl, rfl, rfl, trivial⟩ rfl)
     ·refine sk (sr (mq ?_));refine aq ?_;refine cq (nt (JC.ret ?_));refine JN.jmp_r ?_;cases h;exact rb


def slc_Clone_int (k : Nat) (a0 : List Int) : Option (List Int) :=
 (chkP (okLen (List.length a0))).bind fun _ => some a0

theorem slc_Clone_int_ok (k : Nat) (a0 : List Int) (r : List Int) (h : slc_Clone_int k a0 = some r) :
 Ctr Try.prog 58 [Ri a0] [] (fun z : Value => (resA [.eq z], [.sl z 3 (.int .i64) r])) := by
 unfold slc_Clone_int at h
 replace h := b_top h
 refine Ctr.of 8 Try.func58 rfl Try.ntmps58 rfl fun S w0 => ?_
 obtain ⟨u1, eu1, h⟩ := b_bind h
 cases h
 refine sr ?_
 refine cq ?_
 refine nt ?_
 refine JC.seq ?_
 refine sr ?_
 refine mq ?_
 refine JO.stepG (Δ := []) (F := _) (fun _ _ _ => wanted_none rfl _) rfl rfl (o_eqnil rfl U22) ⟨rfl, rfl, trivial⟩ fun b => ?_
 refine nt ?_
 refine JC.cond rfl (fun hb => ?_) (fun hb => ?_)
 ·
  refine sr (cq (nt (rx ?_)));obtain rfl := b.2 hb;refine JN.se (SE.nil 3 (.int .i64)) ?_;exact JN.ret (.slice none 0 0) [.eq (.slice none 0 0)] 1 ⟨rfl, trivial⟩ rfl
 ·
  refine sk (sr (JO.s01 rfl rfl rfl (o_litB_own (t := (.int .i64)) [] [] rfl rfl sl22 .nil rfl rfl) trivial fun v1 => ?_));refine mq ?_;refine JO.s1x rfl rfl rfl (o_append rfl rfl sl22 (by simpa using chkP_some eu1)) ⟨rfl, rfl, trivial⟩ fun v2 => ?_;refine aq (nt (JC.ret ?_));exact JN.ret v2 [.eq v2] 1 ⟨rfl, trivial⟩ rfl


def cmp_isNaN (k : Nat) (a0 : Int) : Option Bool :=
 some (!decide (a0 = a0))

theorem cmp_isNaN_ok (k : Nat) (a0 : Int) (r : Bool) (h : cmp_isNaN k a0 = some r) :
 Ctr Try.prog 97 [I a0] [] (fun _ : Unit => (resA [.eq (.bool r)], [])) := by
 unfold cmp_isNaN at h
 replace h := b_top h
 refine Ctr.of 6 Try.func97 rfl Try.ntmps97 rfl fun S w0 => ?_
 refine sr ?_
 refine cq ?_
 refine nt ?_
 refine sr ?_
 iterate 2 refine mq ?_
 refine jb (o_neq rfl) ?_
 refine aq ?_
 refine nt ?_
 refine JC.ret ?_
 cases h
 exact ra


def cmp_Less (k : Nat) (a0 : Int) (a1 : Int) : Option Bool :=
 (((cmp_isNaN k a0).bind fun r3 =>
 if r3 = true then ((cmp_isNaN k a1).bind fun r4 =>
 if ¬ (r4 = true) then (some true) else (some (decide (a0 < a1)))) else (some (decide (a0 < a1)))) : Option (Bool)).bind fun x1 =>
 some x1

theorem cmp_Less_ok (k : Nat) (a0 : Int) (a1 : Int) (r : Bool) (h : cmp_Less k a0 a1 = some r) :
 Ctr Try.prog 87 [I a0, I a1] [] (fun _ : Unit => (resA [.eq (.bool r)], [])) := by
 unfold cmp_Less at h
 replace h := b_top h
 refine Ctr.of 17 Try.func87 rfl Try.ntmps87 rfl fun S w0 => ?_
 refine sr ?_
 refine cq ?_
 refine nt ?_
 refine JC.cutB (Z := Unit) (α := Bool) (fun z2 x1 => [(4, .eq (.bool x1))]) (fun z2 x1 => []) h (fun K h => ?_) (fun z2 x1 h => ?_)
 ·
  refine JC.region (mq ?_);obtain ⟨r3, er3, h⟩ := b_bind h;refine ja (o_call [.tmp 5] rfl rfl en97 rfl (cmp_isNaN_ok k a0 r3 er3)) ?_;refine mq ?_;refine JO.bool (s := 7) rfl (fun hb => ?_) (fun hb => ?_)
  ·replace h := b_if (v_t hb) h;refine gm ?_;obtain ⟨r4, er4, h⟩ := b_bind h;refine ga (o_call [.tmp 8] rfl rfl en97 rfl (cmp_isNaN_ok k a1 r4 er4)) ?_;refine ga (o_not rfl) ?_;refine pt ?_;refine mq ?_;refine JO.bool (s := 12) rfl (fun hb => ?_) (fun hb => ?_)
   ·replace h := b_if (nv_t hb) h;iterate 3 refine gn ?_
    refine pt ?_;refine aq (nl ?_);exact jz ((), true) h []
   ·replace h := b_ifn (nv_fn hb) h;refine gm ?_;refine gm ?_;refine gb (o_lss rfl) ?_;refine pf ?_;refine aq (nl ?_);exact jz ((), decide (a0 < a1)) h []
  ·replace h := b_ifn (v_f hb) h;iterate 3 refine gn ?_
   refine pf ?_;refine mq ?_;refine gm ?_;refine gm ?_;refine gb (o_lss rfl) ?_;refine pf ?_;refine aq (nl ?_);exact jz ((), decide (a0 < a1)) h []
 ·
  refine JC.ret ?_;cases h;exact ra


def slc_insertionSortOrdered_l2 (k : Nat) (a1 : Int) : Nat → ((List Int) × Int) → Option (List Int)
 | 0, _ => none
 | n + 1, y6 =>
  ((if a1 < y6.2 then ((geti y6.1 y6.2).bind fun x10 =>
  (ck (y6.2 - (1 : Int))).bind fun x11 =>
  (geti y6.1 x11).bind fun x12 =>
  (cmp_Less k x10 x12).bind fun r13 =>
  some r13) else (some false)) : Option (Bool)).bind fun x8 =>
  if x8 = true then ((ck (y6.2 - (1 : Int))).bind fun x14 =>
  (ck (y6.2 - (1 : Int))).bind fun x15 =>
  (geti y6.1 x15).bind fun x16 =>
  (geti y6.1 y6.2).bind fun x17 =>
  (geti y6.1 y6.2).bind fun x18 =>
  (geti (List.set y6.1 (Int.toNat y6.2) x16) x14).bind fun x19 =>
  (ck (y6.2 - (1 : Int))).bind fun x20 =>
  slc_insertionSortOrdered_l2 k a1 n (List.set (List.set y6.1 (Int.toNat y6.2) x16) (Int.toNat x14) x17, x20)) else (some y6.1)

def slc_insertionSortOrdered_l1 (k : Nat) (a1 : Int) (a2 : Int) : Nat → ((List Int) × Int) → Option (List Int)
 | 0, _ => none
 | n + 1, y2 =>
  if y2.2 < a2 then (((slc_insertionSortOrdered_l2 k a1 k (y2.1, y2.2)) : Option ((List Int))).bind fun x4 =>
  (ck (y2.2 + (1 : Int))).bind fun x21 =>
  slc_insertionSortOrdered_l1 k a1 a2 n (x4, x21)) else (some y2.1)
def slc_insertionSortOrdered (k : Nat) (a0 : (List Int)) (a1 : Int) (a2 : Int) : Option (List Int) :=
 (ck (a1 + (1 : Int))).bind fun x1 =>
 slc_insertionSortOrdered_l1 k a1 a2 k (a0, x1)

theorem slc_insertionSortOrdered_ok (k : Nat) (a0 : (List Int)) (v_a0 : Value) (a1 : Int) (a2 : Int) (r : (List Int)) (h : slc_insertionSortOrdered k a0 a1 a2 = some r) :
 Ctr Try.prog 81 [.eq v_a0, I a1, I a2] [.sl v_a0 3 (.int .i64) a0] (fun _ : Unit => (resA [], [.sl v_a0 3 (.int .i64) r])) := by
 unfold slc_insertionSortOrdered at h
 replace h := b_top h
 refine Ctr.of 49 Try.func81 rfl Try.ntmps81 rfl fun S w0 => ?_
 refine sr ?_
 refine mq ?_
 obtain ⟨x1, ex1, h⟩ := b_bind h
 refine jb (o_add rfl ex1) ?_
 refine aq ?_
 refine nt ?_
 refine JC.block ?_
 refine JC.loopB (Z := Unit) (α := (List Int) × Int) (fun z3 y2 => [(0, .eq v_a0), (1, I a1), (2, I a2), (6, I y2.2)]) (fun z3 y2 => [.sl v_a0 3 (.int .i64) y2.1]) (slc_insertionSortOrdered_l1 k a1 a2) k () (a0, x1) (fun _ => rfl) h (SE.fin [0] ⟨rfl, rfl, rfl, rfl, trivial⟩ rfl) (fun n z3 y2 h => ?_)
 unfold slc_insertionSortOrdered_l1 at h
 refine JC.seq ?_
 refine sr ?_
 iterate 2 refine mq ?_
 refine jb (o_lss rfl) ?_
 refine nt ?_
 refine ci h (fun h => ?_) (fun h => ?_)
 ·
  refine sk (JC.cutB (Z := Unit) (α := (List Int)) (fun z5 x4 => [(0, .eq v_a0), (1, I a1), (2, I a2), (6, I y2.2)]) (fun z5 x4 => [.sl v_a0 3 (.int .i64) x4]) h (fun K h => ?_) (fun z5 x4 h => ?_))
  ·refine JC.block (sr (mq ?_));refine aq (nt (JC.block ?_));refine JC.loopB (Z := Unit) (α := (List Int) × Int) (fun z7 y6 => [(0, .eq v_a0), (1, I a1), (2, I a2), (6, I y2.2), (7, I y6.2)]) (fun z7 y6 => [.sl v_a0 3 (.int .i64) y6.1]) (slc_insertionSortOrdered_l2 k a1) k () (y2.1, y2.2) (fun _ => rfl) h (SE.fin [0] ⟨rfl, rfl, rfl, rfl, rfl, trivial⟩ rfl) (fun n z7 y6 h => ?_);unfold slc_insertionSortOrdered_l2 at h;refine JC.seq (JC.cutB (Z := Unit) (α := Bool) (fun z9 x8 => [(0, .eq v_a0), (1, I a1), (2, I a2), (6, I y2.2), (7, I y6.2), (30, .eq (.bool x8))]) (fun z9 x8 => [.sl v_a0 3 (.int .i64) y6.1]) h (fun K h => ?_) (fun z9 x8 h => ?_))
   ·refine JC.drawN ?_;refine dm ?_;refine dm ?_;refine db (o_gtr rfl) ?_;refine DN.fork rfl rfl rfl (o_move rfl) ⟨rfl, trivial⟩ (fun hb => ?_) (fun hb => ?_)
    ·replace h := b_if (d_t hb) h;refine DN.sg00 rfl rfl rfl rfl rfl (o_move rfl) ⟨rfl, rfl, trivial⟩ ?_;refine DN.sg00 rfl rfl rfl rfl rfl (o_move rfl) ⟨rfl, rfl, trivial⟩ ?_;obtain ⟨x10, ex10, h⟩ := b_bind h;refine DN.sg11 0 rfl rfl rfl rfl rfl rfl (o_index_own (t := (.int .i64)) rfl U22 sz3 ex10) ⟨rfl, rfl, rfl, trivial⟩ ?_;refine DN.sg11 0 rfl rfl rfl rfl rfl rfl (o_load_el (i := Int.toNat y6.2) (off := 0) rfl sz3 (fun _ => rfl) rfl (geti_some ex10).2.2 rfl) ⟨rfl, rfl, trivial⟩ ?_;refine DN.sg00 rfl rfl rfl rfl rfl (o_move rfl) ⟨rfl, rfl, trivial⟩ ?_;refine DN.sg00 rfl rfl rfl rfl rfl (o_move rfl) ⟨rfl, rfl, trivial⟩ ?_;obtain ⟨x11, ex11, h⟩ := b_bind h;refine DN.sg00 rfl rfl rfl rfl rfl (o_sub rfl ex11) ⟨rfl, rfl, rfl, trivial⟩ ?_;obtain ⟨x12, ex12, h⟩ := b_bind h;refine DN.sg11 0 rfl rfl rfl rfl rfl rfl (o_index_own (t := (.int .i64)) rfl U22 sz3 ex12) ⟨rfl, rfl, rfl, trivial⟩ ?_;refine DN.sg11 0 rfl rfl rfl rfl rfl rfl (o_load_el (i := Int.toNat x11) (off := 0) rfl sz3 (fun _ => rfl) rfl (geti_some ex12).2.2 rfl) ⟨rfl, rfl, trivial⟩ ?_;refine df mixed ?_;obtain ⟨r13, er13, h⟩ := b_bind h;refine gb (o_call [.tmp 23, .tmp 28] rfl rfl en87 rfl (cmp_Less_ok k x10 x12 r13 er13)) ?_;refine pt (nl ?_);exact jz ((), r13) h [0]
    ·replace h := b_ifn (d_f hb) h;iterate 9 refine dg ?_
     refine df mixed ?_;refine gn ?_;refine pf (nl ?_);exact jz ((), false) h [0]
   ·refine cv h (fun h => ?_) (fun h => ?_)
    ·refine sk (JC.seq (JC.block (JC.drawW ?_)));refine DW.t00 rfl rfl rfl (o_move rfl) ⟨rfl, trivial⟩ ?_;refine DW.t00 rfl rfl rfl (o_move rfl) ⟨rfl, trivial⟩ ?_;refine DW.t00 rfl rfl rfl (o_move rfl) ⟨rfl, trivial⟩ ?_;refine DW.t00 rfl rfl rfl (o_move rfl) ⟨rfl, trivial⟩ ?_;obtain ⟨x14, ex14, h⟩ := b_bind h;refine DW.t00 rfl rfl rfl (o_sub rfl ex14) ⟨rfl, rfl, trivial⟩ ?_;refine DW.t00 rfl rfl rfl (o_move rfl) ⟨rfl, trivial⟩ ?_;refine DW.t00 rfl rfl rfl (o_move rfl) ⟨rfl, trivial⟩ ?_;obtain ⟨x15, ex15, h⟩ := b_bind h;refine DW.t00 rfl rfl rfl (o_sub rfl ex15) ⟨rfl, rfl, trivial⟩ ?_;obtain ⟨x16, ex16, h⟩ := b_bind h;refine DW.t11 0 rfl rfl rfl rfl (o_index_own (t := (.int .i64)) rfl U22 sz3 ex16) ⟨rfl, rfl, trivial⟩ ?_;refine DW.t11 0 rfl rfl rfl rfl (o_load_el (i := Int.toNat x15) (off := 0) rfl sz3 (fun _ => rfl) rfl (geti_some ex16).2.2 rfl) ⟨rfl, trivial⟩ ?_;refine DW.t00 rfl rfl rfl (o_move rfl) ⟨rfl, trivial⟩ ?_;refine DW.t00 rfl rfl rfl (o_move rfl) ⟨rfl, trivial⟩ ?_;obtain ⟨x17, ex17, h⟩ := b_bind h;refine DW.t11 0 rfl rfl rfl rfl (o_index_own (t := (.int .i64)) rfl U22 sz3 ex17) ⟨rfl, rfl, trivial⟩ ?_;refine DW.t11 0 rfl rfl rfl rfl (o_load_el (i := Int.toNat y6.2) (off := 0) rfl sz3 (fun _ => rfl) rfl (geti_some ex17).2.2 rfl) ⟨rfl, trivial⟩ ?_;obtain ⟨x18, ex18, h⟩ := b_bind h;refine DW.t11 0 rfl rfl rfl rfl (o_index_own (t := (.int .i64)) rfl U22 sz3 ex18) ⟨rfl, rfl, trivial⟩ ?_;refine DW.fin 15 [true, true, false, false, false, true, true, true, true, true, true, true, true, true, true] [48] [] [] rfl (by kernel_rfl) (by kernel_rfl) (by kernel_rfl) mixed (fun vs hv hB => ?_);obtain ⟨w0, vs1, rfl, hv1⟩ := len_cons hv;obtain ⟨w1, vs2, rfl, hv2⟩ := len_cons hv1;obtain ⟨w2, vs3, rfl, hv3⟩ := len_cons hv2;obtain ⟨w3, vs4, rfl, hv4⟩ := len_cons hv3;obtain ⟨w4, vs5, rfl, hv5⟩ := len_cons hv4;obtain ⟨w5, vs6, rfl, hv6⟩ := len_cons hv5;obtain ⟨w6, vs7, rfl, hv7⟩ := len_cons hv6;obtain ⟨w7, vs8, rfl, hv8⟩ := len_cons hv7;obtain ⟨w8, vs9, rfl, hv9⟩ := len_cons hv8;obtain ⟨w9, vs10, rfl, hv10⟩ := len_cons hv9;obtain ⟨w10, vs11, rfl, hv11⟩ := len_cons hv10;obtain ⟨w11, vs12, rfl, hv12⟩ := len_cons hv11;obtain ⟨w12, vs13, rfl, hv13⟩ := len_cons hv12;obtain ⟨w13, vs14, rfl, hv14⟩ := len_cons hv13;obtain ⟨w14, vs15, rfl, hv15⟩ := len_cons hv14;obtain rfl := len_nil hv15;refine ⟨[0], [.sl v_a0 3 (.int .i64) y6.1], by kernel_rfl, by decide, ?_⟩;refine JT.n11 rfl rfl (o_store_elW (i := Int.toNat y6.2) rfl sz3 rfl (geti_lt ex18) rfl .int rfl) ⟨rfl, rfl, trivial⟩ (by kernel_rfl) ?_;obtain ⟨x19, ex19, h⟩ := b_bind h;refine JT.y11 rfl rfl rfl rfl (o_index_own (t := (.int .i64)) rfl U22 sz3 ex19) ⟨rfl, rfl, trivial⟩ (by kernel_rfl) ?_;refine JT.n11 rfl rfl (o_store_elW (i := Int.toNat x14) rfl sz3 rfl (geti_lt ex19) rfl .int rfl) ⟨rfl, rfl, trivial⟩ (by kernel_rfl) ?_;refine JT.nil ?_;refine JN.se (SE.fin (Γ' := [(0, .eq v_a0), (1, I a1), (2, I a2), (6, I y2.2), (7, I y6.2)]) (Δ' := [.sl v_a0 3 (.int .i64) (List.set (List.set y6.1 (Int.toNat y6.2) x16) (Int.toNat x14) x17)]) [0] ⟨rfl, rfl, rfl, rfl, rfl, trivial⟩ rfl) ?_;refine JN.blk_n (tn (JC.region (mq ?_)));obtain ⟨x20, ex20, h⟩ := b_bind h;refine jb (o_sub rfl ex20) ?_;refine aq (nl ?_);exact jz ((), (List.set (List.set y6.1 (Int.toNat y6.2) x16) (Int.toNat x14) x17, x20)) h [0]
    ·refine JC.exit (JN.then_x (JN.then_x (JN.blk_hit (bn ?_))));exact jz ((), y6.1) h [0]
  ·refine JC.region (mq ?_);obtain ⟨x21, ex21, h⟩ := b_bind h;refine jb (o_add rfl ex21) ?_;refine aq (nl ?_);exact jz ((), (x4, x21)) h [0]
 ·
  refine JC.exit (JN.then_x (JN.then_x (JN.blk_hit (JN.end_n ?_))));cases h;exact JN.ret () [] 1 trivial rfl


def math_bits_Len64 (k : Nat) (a0 : Int) : Option Int :=
 ((if (4294967296 : Int) ≤ a0 then (some (ishr .u64 a0 (32 : Int), (32 : Int))) else (some (a0, (0 : Int)))) : Option (Int × Int)).bind fun x1 =>
 ((if (65536 : Int) ≤ x1.1 then ((ck (x1.2 + (16 : Int))).bind fun x5 =>
 some (ishr .u64 x1.1 (16 : Int), x5)) else (some (x1.1, x1.2))) : Option (Int × Int)).bind fun x3 =>
 ((if (256 : Int) ≤ x3.1 then ((ck (x3.2 + (8 : Int))).bind fun x8 =>
 some (ishr .u64 x3.1 (8 : Int), x8)) else (some (x3.1, x3.2))) : Option (Int × Int)).bind fun x6 =>
 (idxStr len8tab (IntKind.u8.wrap x6.1)).bind fun x9 =>
 (ck (x9.toNat : Int)).bind fun x10 =>
 (ck (x6.2 + x10)).bind fun x11 =>
 some x11

theorem math_bits_Len64_ok (k : Nat) (a0 : Int) (r : Int) (h : math_bits_Len64 k a0 = some r) :
 Ctr Try.prog 91 [.eq (.int .u64 a0)] [] (fun _ : Unit => (resA [I r], [])) := by
 unfold math_bits_Len64 at h
 replace h := b_top h
 refine Ctr.of 25 Try.func91 rfl Try.ntmps91 rfl fun S w0 => ?_
 refine sr ?_
 refine cq ?_
 refine nt ?_
 refine JC.cutB (Z := Unit) (α := Int × Int) (fun z2 x1 => [(0, .eq (.int .u64 x1.1)), (2, I x1.2)]) (fun z2 x1 => []) h (fun K h => ?_) (fun z2 x1 h => ?_)
 ·
  refine sr (mq ?_);refine jb (o_geq rfl) ?_;refine nt (ci h (fun h => ?_) (fun h => ?_))
  ·refine sr (mq ?_);refine JO.s rfl (o_shr rfl (by decide)) ⟨rfl, rfl, trivial⟩ ?_;refine aq (nt (JC.region ?_));refine cq (nl ?_);exact jz ((), (ishr .u64 a0 (32 : Int), (32 : Int))) h []
  ·refine JC.skip (JN.then_n ?_);exact jz ((), (a0, (0 : Int))) h []
 ·
  refine JC.cutB (Z := Unit) (α := Int × Int) (fun z4 x3 => [(0, .eq (.int .u64 x3.1)), (2, I x3.2)]) (fun z4 x3 => []) h (fun K h => ?_) (fun z4 x3 h => ?_)
  ·refine sr (mq ?_);refine jb (o_geq rfl) ?_;refine nt (ci h (fun h => ?_) (fun h => ?_))
   ·refine sr (mq ?_);refine JO.s rfl (o_shr rfl (by decide)) ⟨rfl, rfl, trivial⟩ ?_;refine aq (nt (JC.region ?_));refine mq ?_;obtain ⟨x5, ex5, h⟩ := b_bind h;refine jb (o_add rfl ex5) ?_;refine aq (nl ?_);exact jz ((), (ishr .u64 x1.1 (16 : Int), x5)) h []
   ·refine JC.skip (JN.then_n ?_);exact jz ((), (x1.1, x1.2)) h []
  ·refine JC.cutB (Z := Unit) (α := Int × Int) (fun z7 x6 => [(0, .eq (.int .u64 x6.1)), (2, I x6.2)]) (fun z7 x6 => []) h (fun K h => ?_) (fun z7 x6 h => ?_)
   ·refine sr (mq ?_);refine jb (o_geq rfl) ?_;refine nt (ci h (fun h => ?_) (fun h => ?_))
    ·refine sr (mq ?_);refine JO.s rfl (o_shr rfl (by decide)) ⟨rfl, rfl, trivial⟩ ?_;refine aq (nt (JC.region ?_));refine mq ?_;obtain ⟨x8, ex8, h⟩ := b_bind h;refine jb (o_add rfl ex8) ?_;refine aq (nl ?_);exact jz ((), (ishr .u64 x3.1 (8 : Int), x8)) h []
    ·refine JC.skip (JN.then_n ?_);exact jz ((), (x3.1, x3.2)) h []
   ·refine sr ?_;iterate 2 refine mq ?_
    refine ja (o_conv rfl U80 U5) ?_;obtain ⟨x9, ex9, h⟩ := b_bind h;refine ja (o_index_str rfl U9 ex9) ?_;obtain ⟨x10, ex10, h⟩ := b_bind h;refine ja (o_conv64 rfl U5 U3 ex10) ?_;obtain ⟨x11, ex11, h⟩ := b_bind h;refine jb (o_add rfl ex11) ?_;refine aq (nt (JC.ret ?_));cases h;exact ra


def bit_Len (k : Nat) (a0 : Int) : Option Int :=
 (math_bits_Len64 k a0).bind fun r1 =>
 some r1

theorem bit_Len_ok (k : Nat) (a0 : Int) (r : Int) (h : bit_Len k a0 = some r) :
 Ctr Try.prog 77 [.eq (.int .u64 a0)] [] (fun _ : Unit => (resA [I r], [])) := by
 unfold bit_Len at h
 replace h := b_top h
 refine Ctr.of 8 Try.func77 rfl Try.ntmps77 rfl fun S w0 => ?_
 refine sr ?_
 refine cq ?_
 refine nt ?_
 refine JC.seq ?_
 refine JC.condc (fun hb => (by cases hb)) (fun hb => ?_)
 refine sk ?_
 refine sr ?_
 refine mq ?_
 obtain ⟨r1, er1, h⟩ := b_bind h
 have cr1 := math_bits_Len64_ok k a0 r1 er1
 refine ja (o_call [.tmp 6] rfl rfl en91 rfl cr1) ?_
 refine aq ?_
 refine nt ?_
 refine JC.ret ?_
 cases h
 exact ra


def slc_pdqsortOrdered_l1 (k : Nat) (a0 : (List Int)) (a1 : Int) (a2 : Int) (a3 : Int) : Nat → Unit → Option (List Int)
 | 0, _ => none
 | n + 1, y1 =>
  (ck (a2 - a1)).bind fun x3 =>
  if x3 ≤ (12 : Int) then ((slc_insertionSortOrdered k a0 a1 a2).bind fun r4 =>
  some r4) else (if a3 = (0 : Int) then (none) else (none))
def slc_pdqsortOrdered (k : Nat) (a0 : (List Int)) (a1 : Int) (a2 : Int) (a3 : Int) : Option (List Int) :=
 slc_pdqsortOrdered_l1 k a0 a1 a2 a3 k ()

theorem slc_pdqsortOrdered_ok (k : Nat) (a0 : (List Int)) (v_a0 : Value) (a1 : Int) (a2 : Int) (a3 : Int) (r : (List Int)) (h : slc_pdqsortOrdered k a0 a1 a2 a3 = some r) :
 Ctr Try.prog 76 [.eq v_a0, I a1, I a2, I a3] [.sl v_a0 3 (.int .i64) a0] (fun _ : Unit => (resA [], [.sl v_a0 3 (.int .i64) r])) := by
 unfold slc_pdqsortOrdered at h
 replace h := b_top h
 refine Ctr.of 134 Try.func76 rfl Try.ntmps76 rfl fun S w0 => ?_
 refine sr ?_
 refine cq ?_
 refine nt ?_
 refine sr ?_
 refine cq ?_
 refine nt ?_
 refine JC.block ?_
 refine JC.loopB (Z := Unit) (α := Unit) (fun z2 y1 => [(0, .eq v_a0), (1, I a1), (2, I a2), (3, I a3), (8, .eq (.bool true)), (9, .eq (.bool true))]) (fun z2 y1 => [.sl v_a0 3 (.int .i64) a0]) (slc_pdqsortOrdered_l1 k a0 a1 a2 a3) k () () (fun _ => rfl) h (SE.fin [0] ⟨rfl, rfl, rfl, rfl, rfl, rfl, trivial⟩ rfl) (fun n z2 y1 h => ?_)
 unfold slc_pdqsortOrdered_l1 at h
 refine JC.block ?_
 refine sr ?_
 iterate 2 refine mq ?_
 obtain ⟨x3, ex3, h⟩ := b_bind h
 refine jb (o_sub rfl ex3) ?_
 refine aq ?_
 refine nt ?_
 refine JC.seq ?_
 refine sr ?_
 refine mq ?_
 refine jb (o_leq rfl) ?_
 refine nt ?_
 refine ci h (fun h => ?_) (fun h => ?_)
 ·
  refine sr ?_;iterate 3 refine mq ?_
  obtain ⟨r4, er4, h⟩ := b_bind h;refine kc (o_call [.tmp 24, .tmp 25, .tmp 26] rfl rfl en81 rfl (slc_insertionSortOrdered_ok k a0 v_a0 a1 a2 r4 er4)) ?_;refine nt (rx (JN.blk_r (JN.then_r (JN.blk_r ?_))));cases h;exact JN.ret () [] 1 trivial rfl
 ·
  refine sk (JC.seq (sr (mq ?_)));refine jb (o_eql rfl) ?_;refine nt (ci h (fun h => ?_) (fun h => ?_))
  ·refine sr ?_;iterate 3 refine mq ?_
   cases h
  ·refine sk (JC.seq (sr (mq ?_)));refine ja (o_not rfl) ?_;refine nt (JC.cond rfl (fun hb => (by cases hb)) (fun hb => ?_));refine sk (sr ?_);iterate 3 refine mq ?_
   cases h


def slc_Sort_int (k : Nat) (a0 : (List Int)) : Option (List Int) :=
 (bit_Len k (IntKind.u64.wrap (a0.length : Int))).bind fun r1 =>
 (slc_pdqsortOrdered k a0 (0 : Int) (a0.length : Int) r1).bind fun r2 =>
 some r2

theorem slc_Sort_int_ok (k : Nat) (a0 : (List Int)) (v_a0 : Value) (r : (List Int)) (h : slc_Sort_int k a0 = some r) :
 Ctr Try.prog 59 [.eq v_a0] [.sl v_a0 3 (.int .i64) a0] (fun _ : Unit => (resA [], [.sl v_a0 3 (.int .i64) r])) := by
 unfold slc_Sort_int at h
 replace h := b_top h
 refine Ctr.of 11 Try.func59 rfl Try.ntmps59 rfl fun S w0 => ?_
 refine sr ?_
 refine mq ?_
 refine ka (o_len_own rfl rfl U22) ?_
 refine aq ?_
 refine nt ?_
 refine JC.region ?_
 iterate 3 refine mq ?_
 refine ja (o_conv rfl U3 U149) ?_
 obtain ⟨r1, er1, h⟩ := b_bind h
 have cr1 := bit_Len_ok k (IntKind.u64.wrap (a0.length : Int)) r1 er1
 refine ja (o_call [.tmp 8] rfl rfl en77 rfl cr1) ?_
 obtain ⟨r2, er2, h⟩ := b_bind h
 have cr2 := slc_pdqsortOrdered_ok k a0 v_a0 (0 : Int) (a0.length : Int) r1 r2 er2
 refine JO.s11 rfl rfl rfl (o_call [.tmp 5, .const (.int .i64 (0)), .tmp 6, .tmp 9] rfl rfl en76 rfl cr2) ⟨rfl, rfl, rfl, rfl, trivial⟩ ?_
 refine JO.nil ?_
 refine JN.end_n ?_
 cases h
 exact JN.ret () [] 1 trivial rfl


def chg_Learn_l2 (k : Nat) (q3 : (dChange × (List (Bool × Int)) × (List Int))) (y9 : Int × Bool × Int × Int × Int) : Nat → (Int × Bool × Int × Int × Int) → Option (Int × Bool × Int × Int)
 | 0, _ => none
 | n + 1, y13 =>
  if y13.2.2.2.2 < (q3.1.1.length : Int) then ((((geti q3.1.2.1 y9.2.2.2.2).bind fun x17 =>
  (slc_Contains_int k x17.1 y13.2.2.2.2).bind fun r18 =>
  if r18 = true then (some (y13.1, y13.2.1, y13.2.2.1, y13.2.2.2.1)) else ((slc_Clone_Dresser k q3.1.2.1).bind fun r19 =>
  (geti r19 y9.2.2.2.2).bind fun x21 =>
  (slc_Clone_int k x21.1).bind fun r22 =>
  (chkP (okLen (List.length r22 + List.length [y13.2.2.2.2]))).bind fun _ =>
  (geti r19 y9.2.2.2.2).bind fun x26 =>
  (slc_Sort_int k (r22 ++ [y13.2.2.2.2])).bind fun r28 =>
  (chg_quick_fewest k ((q3.1.1, q3.1.2.1, q3.1.2.2.1, q3.1.2.2.2), q3.2.1, q3.2.2) (List.set r19 (Int.toNat y9.2.2.2.2) (r28, x26.2.1, x26.2.2))).bind fun r29 =>
  ((if r29.2 = true then (if ¬ (y13.2.1 = true) then (some true) else (some (decide (r29.1 < y13.1)))) else (some false)) : Option (Bool)).bind fun x30 =>
  if x30 = true then (some (r29.1, true, y9.2.2.2.2, y13.2.2.2.2)) else (some (y13.1, y13.2.1, y13.2.2.1, y13.2.2.2.1)))) : Option (Int × Bool × Int × Int)).bind fun x15 =>
  (ck (y13.2.2.2.2 + (1 : Int))).bind fun x32 =>
  chg_Learn_l2 k q3 y9 n (x15.1, x15.2.1, x15.2.2.1, x15.2.2.2, x32)) else (some (y13.1, y13.2.1, y13.2.2.1, y13.2.2.2.1))

def chg_Learn_l1 (k : Nat) (q3 : (dChange × (List (Bool × Int)) × (List Int))) : Nat → (Int × Bool × Int × Int × Int) → Option (Int × Int × Int)
 | 0, _ => none
 | n + 1, y9 =>
  if y9.2.2.2.2 < (q3.1.2.1.length : Int) then (((chg_Learn_l2 k q3 y9 k (y9.1, y9.2.1, y9.2.2.1, y9.2.2.2.1, (0 : Int))) : Option (Int × Bool × Int × Int)).bind fun x11 =>
  (ck (y9.2.2.2.2 + (1 : Int))).bind fun x33 =>
  chg_Learn_l1 k q3 n (x11.1, x11.2.1, x11.2.2.1, x11.2.2.2, x33)) else (some (y9.1, y9.2.2.1, y9.2.2.2.1))
def chg_Learn (k : Nat) (a0 : dChange) : Option (Int × Int × Int × Int) :=
 (chg_begin k a0).bind fun r2 =>
 casesO r2.1 (if ¬ (r2.2 = (0 : Int)) then (some ((0 : Int), (0 : Int), (0 : Int), r2.2)) else (none)) (fun q3 => if ¬ (r2.2 = (0 : Int)) then (some ((0 : Int), (0 : Int), (0 : Int), r2.2)) else ((chg_least k ((q3.1.1, q3.1.2.1, q3.1.2.2.1, q3.1.2.2.2), q3.2.1, q3.2.2)).bind fun r6 =>
 ((chg_Learn_l1 k q3 k (r6.2.1, r6.2.2, (-1 : Int), (-1 : Int), (0 : Int))) : Option (Int × Int × Int)).bind fun x7 =>
 if x7.2.1 < (0 : Int) then (some ((0 : Int), (0 : Int), (0 : Int), (11 : Int))) else (some (x7.2.1, x7.2.2, x7.1, (0 : Int)))))

theorem chg_Learn_ok (k : Nat) (a0 : dChange) (r : Int × Int × Int × Int) (h : chg_Learn k a0 = some r) :
 Ctr Try.prog 25 [.rep tChange a0] [] (fun _ : Unit => (resA [I r.1, I r.2.1, I r.2.2.1, I r.2.2.2], [])) := by
 unfold chg_Learn at h
 replace h := b_top h
 refine Ctr.of 115 Try.func25 rfl Try.ntmps25 rfl fun S w0 => ?_
 refine sr ?_
 refine bx fun b1 => ?_
 refine cq ?_
 refine cq ?_
 refine cq ?_
 refine cq ?_
 refine nt ?_
 refine sr ?_
 refine lo sz26 ?_
 obtain ⟨r2, er2, h⟩ := b_bind h
 have cr2 := chg_begin_ok k a0 r2 er2
 rcases hr : r2.1 with _ | q3
 ·
  rw [hr] at h cr2; replace h := co_n h;refine JO.stepG (Δ := []) (F := _) (fun _ _ _ => wanted_none rfl _) rfl rfl (o_call [.tmp 19] rfl rfl en34 rfl cr2) ⟨rfl, trivial⟩ fun _ => ?_;refine mq ?_;refine xr ?_;refine xr ?_;refine aq ?_;refine aq (nt (JC.seq (sr ?_)));refine mq ?_;refine jb (o_neq rfl) ?_;refine nt (cn h (fun h => ?_) (fun h => ?_))
  ·refine sr (mq ?_);refine cq ?_;refine cq ?_;refine cq ?_;refine aq (nt (rx ?_));cases h;exact JN.ret () [_, _, _, _] 0 ⟨rfl, rfl, rfl, rfl, trivial⟩ rfl
  ·refine sk (sr (mq ?_));cases h
 ·
  rw [hr] at h cr2; replace h := co_s h;refine JO.stepG (Δ := []) (F := _) (fun _ _ _ => wanted_none rfl _) rfl rfl (o_call [.tmp 19] rfl rfl en34 rfl cr2) ⟨rfl, trivial⟩ fun z4 => ?_;refine mq ?_;refine xr ?_;refine xr ?_;refine aq ?_;refine aq (nt (JC.seq (sr ?_)));refine mq ?_;refine jb (o_neq rfl) ?_;refine nt (cn h (fun h => ?_) (fun h => ?_))
  ·refine sr (mq ?_);refine cq ?_;refine cq ?_;refine cq ?_;refine aq (nt (rx ?_));cases h;exact JN.ret () [_, _, _, _] 0 ⟨rfl, rfl, rfl, rfl, trivial⟩ rfl
  ·refine sk (sr (mq ?_));refine JO.s01 rfl rfl rfl (o_call [.tmp 27] rfl rfl en36 rfl (chg_quick_plans_ok z4.1)) ⟨rfl, trivial⟩ fun b5 => ?_;refine mq ?_;refine ja (o_mkfn [.tmp 29] [] [(.pointer (some ⟨z4.1, 0, none⟩))] [] rfl rfl rfl) ?_;refine fr 2 ?_;refine JO.se (SE.rawInv (Known k ((q3.1.1, q3.1.2.1, q3.1.2.2.1, q3.1.2.2.2), q3.2.1, q3.2.2)) known_nil) ?_;obtain ⟨r6, er6, h⟩ := b_bind h;refine fr 1 ?_;refine fr 1 ?_;refine fr 2 ?_;refine JO.stepG (Δ := [_, _, _]) (F := _) (fun _ _ _ => wanted_none rfl _) rfl rfl (o_call [.tmp 28, .tmp 30] rfl rfl en35 rfl (chg_least_ok k ((q3.1.1, q3.1.2.1, q3.1.2.2.1, q3.1.2.2.2), q3.2.1, q3.2.2) z4.1 z4.2 b5 r6 er6)) ⟨rfl, rfl, trivial⟩ fun _ => ?_;refine mq ?_;refine xr ?_;refine xr ?_;refine xr ?_;refine aq ?_;refine aq ?_;refine aq (nt (sr ?_));refine cq ?_;refine cq (nt ?_);refine JC.cutB (Z := Unit) (α := Int × Int × Int) (fun z8 x7 => [(9, I x7.1), (11, I x7.2.1), (12, I x7.2.2)]) (fun z8 x7 => [.inv z4.2 (Known k ((q3.1.1, q3.1.2.1, q3.1.2.2.1, q3.1.2.2.2), q3.2.1, q3.2.2))]) h (fun K h => ?_) (fun z8 x7 h => ?_)
   ·refine sr (mq ?_);refine ja (o_nil_obj rfl) ?_;refine fl fo98_0 ?_;refine fl fo26_1 ?_;refine lo sz24 ?_;refine ol U24 ?_;refine JO.mc rfl ?_;refine nt (JC.block (JC.loopB (Z := Unit) (α := Int × Bool × Int × Int × Int) (fun z10 y9 => [(6, .eq (.pointer (some ⟨z4.1, 0, none⟩))), (9, I y9.1), (10, .eq (.bool y9.2.1)), (11, I y9.2.2.1), (12, I y9.2.2.2.1), (40, I (q3.1.2.1.length : Int)), (41, I y9.2.2.2.2)]) (fun z10 y9 => [.obj z4.1 98 (Qq q3 (.eq (.map (some z4.2)))), .inv z4.2 (Known k ((q3.1.1, q3.1.2.1, q3.1.2.2.1, q3.1.2.2.2), q3.2.1, q3.2.2))]) (chg_Learn_l1 k q3) k () (r6.2.1, r6.2.2, (-1 : Int), (-1 : Int), (0 : Int)) (fun _ => rfl) h (SE.fin [0, 1] ⟨rfl, rfl, rfl, rfl, rfl, rfl, rfl, trivial⟩ rfl) (fun n z10 y9 h => ?_)));unfold chg_Learn_l1 at h;refine sr (jb (o_lss rfl) ?_);refine nt (JC.seq (ci h (fun h => ?_) (fun h => ?_)))
    ·refine sk (JC.cutB (Z := Unit) (α := Int × Bool × Int × Int) (fun z12 x11 => [(6, .eq (.pointer (some ⟨z4.1, 0, none⟩))), (9, I x11.1), (10, .eq (.bool x11.2.1)), (11, I x11.2.2.1), (12, I x11.2.2.2), (40, I (q3.1.2.1.length : Int)), (41, I y9.2.2.2.2)]) (fun z12 x11 => [.obj z4.1 98 (Qq q3 (.eq (.map (some z4.2)))), .inv z4.2 (Known k ((q3.1.1, q3.1.2.1, q3.1.2.2.1, q3.1.2.2.2), q3.2.1, q3.2.2))]) h (fun K h => ?_) (fun z12 x11 h => ?_))
     ·refine JC.block (sr (mq ?_));refine aq (nt ?_);refine JC.scopeS rfl (fl_hit fl_lab) ?_;refine JC.seq (JC.label ?_);refine tn (sr (mq ?_));refine ja (o_nil_obj rfl) ?_;refine fl fo98_0 ?_;refine fl fo26_0 ?_;refine lo sz23 ?_;refine ol U23 ?_;refine JO.mc rfl ?_;refine nt (JC.block (JC.loopB (Z := Unit) (α := Int × Bool × Int × Int × Int) (fun z14 y13 => [(6, .eq (.pointer (some ⟨z4.1, 0, none⟩))), (9, I y13.1), (10, .eq (.bool y13.2.1)), (11, I y13.2.2.1), (12, I y13.2.2.2.1), (13, I y9.2.2.2.2), (40, I (q3.1.2.1.length : Int)), (41, I y9.2.2.2.2), (49, I (q3.1.1.length : Int)), (50, I y13.2.2.2.2)]) (fun z14 y13 => [.obj z4.1 98 (Qq q3 (.eq (.map (some z4.2)))), .inv z4.2 (Known k ((q3.1.1, q3.1.2.1, q3.1.2.2.1, q3.1.2.2.2), q3.2.1, q3.2.2))]) (chg_Learn_l2 k q3 y9) k () (y9.1, y9.2.1, y9.2.2.1, y9.2.2.2.1, (0 : Int)) (fun _ => rfl) h (SE.fin [0, 1] ⟨rfl, rfl, rfl, rfl, rfl, rfl, rfl, rfl, rfl, rfl, trivial⟩ rfl) (fun n z14 y13 h => ?_)));unfold chg_Learn_l2 at h;refine sr (jb (o_lss rfl) ?_);refine nt (JC.seq (ci h (fun h => ?_) (fun h => ?_)))
      ·refine sk (JC.cutB (Z := Unit) (α := Int × Bool × Int × Int) (fun z16 x15 => [(6, .eq (.pointer (some ⟨z4.1, 0, none⟩))), (9, I x15.1), (10, .eq (.bool x15.2.1)), (11, I x15.2.2.1), (12, I x15.2.2.2), (13, I y9.2.2.2.2), (40, I (q3.1.2.1.length : Int)), (41, I y9.2.2.2.2), (49, I (q3.1.1.length : Int)), (50, I y13.2.2.2.2)]) (fun z16 x15 => [.obj z4.1 98 (Qq q3 (.eq (.map (some z4.2)))), .inv z4.2 (Known k ((q3.1.1, q3.1.2.1, q3.1.2.2.1, q3.1.2.2.2), q3.2.1, q3.2.2))]) h (fun K h => ?_) (fun z16 x15 h => ?_))
       ·refine JC.block (sr (mq ?_));refine aq (nt (JC.seq (sr ?_)));refine mq ?_;refine ja (o_nil_obj rfl) ?_;refine fl fo98_0 ?_;refine fl fo26_1 ?_;refine lo sz24 ?_;refine mq ?_;obtain ⟨x17, ex17, h⟩ := b_bind h;refine jb (o_index (t := tDresser) rfl U24 sz38 ex17) ?_;refine ja (o_field_at 1 false rfl fo38_0 rfl) ?_;refine ja (o_load_at (t := (.slice (.int .i64))) rfl sz22 rfl) ?_;refine mq ?_;obtain ⟨r18, er18, h⟩ := b_bind h;refine jb (o_call [.tmp 61, .tmp 62] rfl rfl en57 rfl (slc_Contains_int_ok k x17.1 y13.2.2.2.2 r18 er18)) ?_;refine nt (cv h (fun h => ?_) (fun h => ?_))
        ·refine JC.exit (JN.then_x (JN.blk_hit (JN.then_n ?_)));exact jz ((), (y13.1, y13.2.1, y13.2.2.1, y13.2.2.2.1)) h [0, 1]
        ·refine sk (sr (mq ?_));refine ja (o_nil_obj rfl) ?_;refine fl fo98_0 ?_;refine fl fo26_1 ?_;refine lo sz24 ?_;obtain ⟨r19, er19, h⟩ := b_bind h;refine JO.s01 rfl rfl rfl (o_call [.tmp 68] rfl rfl en55 rfl (slc_Clone_Dresser_ok k q3.1.2.1 r19 er19)) ⟨rfl, trivial⟩ fun v20 => ?_;refine aq (nt (sr ?_));iterate 4 refine mq ?_
         obtain ⟨x21, ex21, h⟩ := b_bind h;refine kb (o_index_own (t := tDresser) rfl U24 sz38 ex21) ?_;refine ka (o_field_el rfl fo38_0 (geti_ne ex21)) ?_;refine ka (o_load_el (i := Int.toNat y9.2.2.2.2) (off := 0) rfl sz22 (fun _ => rfl) rfl (geti_some ex21).2.2 rfl) ?_;obtain ⟨r22, er22, h⟩ := b_bind h;refine JO.s01 rfl rfl rfl (o_call [.tmp 76] rfl rfl en58 rfl (slc_Clone_int_ok k x21.1 r22 er22)) ⟨rfl, trivial⟩ fun v23 => ?_;refine mq ?_;refine ja (o_litB (t := (.int .i64)) [(.tmp 78, _)] [y13.2.2.2.2] rfl rfl sl22 (.cons rfl .int .nil) rfl rfl) ?_;obtain ⟨u24, eu24, h⟩ := b_bind h;refine JO.s1x rfl rfl rfl (o_append rfl rfl sl22 (chkP_some eu24)) ⟨rfl, rfl, trivial⟩ fun v25 => ?_;refine fr 1 ?_;refine JO.se SE.toAlt ?_;obtain ⟨x26, ex26, h⟩ := b_bind h;have ax26 := geti_map (f := altF) ex26;refine kb (o_index_own (t := (.agg (.pair (.alt (.slice (.int .i64))) (.pair (.int .i64) (.int .i64))))) rfl U24 sz38 ax26) ?_;refine ka (o_field_el rfl fo38_0 (geti_ne ax26)) ?_;refine fr 1 ?_;refine JO.one fun o27 => ?_;refine fr 1 ?_;refine JO.n11 rfl rfl (o_store_el (d' := ((Sum.inr v25), x26.2.1, x26.2.2)) (i := Int.toNat y9.2.2.2.2) (off := 0) rfl sz22 rfl (geti_some ax26).2.2 (.altR o27) o27 (.agg (.left .whole))) ⟨rfl, rfl, trivial⟩ ?_;refine nt (sr ?_);iterate 2 refine mq ?_
         have bx26 := geti_set ((Sum.inr v25), x26.2.1, x26.2.2) ax26;refine kb (o_index_own (t := (.agg (.pair (.alt (.slice (.int .i64))) (.pair (.int .i64) (.int .i64))))) rfl U24 sz38 bx26) ?_;refine ka (o_field_el rfl fo38_0 (geti_ne bx26)) ?_;refine ka (o_load_el (i := Int.toNat y9.2.2.2.2) (off := 0) rfl sz22 (fun _ => rfl) rfl (geti_some bx26).2.2 rfl) ?_;refine JO.se (SE.altR 87 rfl rfl) ?_;obtain ⟨r28, er28, h⟩ := b_bind h;refine fr 1 ?_;refine ka (o_call [.tmp 87] rfl rfl en59 rfl (slc_Sort_int_ok k (r22 ++ [y13.2.2.2.2]) v25 r28 er28)) ?_;refine fr 1 ?_;refine fr 1 ?_;refine JO.se SE.ofAlt ?_;refine nt (sr ?_);iterate 2 refine mq ?_
         refine JO.se (SE.frz [15, 69, 70, 72, 83, 91] ⟨rfl, rfl, rfl, rfl, rfl, rfl, trivial⟩) ?_;obtain ⟨r29, er29, h⟩ := b_bind h;refine kb (o_call [.tmp 90, .tmp 91] rfl rfl en56 rfl (chg_quick_fewest_ok k ((q3.1.1, q3.1.2.1, q3.1.2.2.1, q3.1.2.2.2), q3.2.1, q3.2.2) z4.1 (.map (some z4.2)) (List.set r19 (Int.toNat y9.2.2.2.2) (r28, x26.2.1, x26.2.2)) r29 er29)) ?_;refine mq ?_;refine xr ?_;refine xr ?_;refine aq ?_;refine aq (nt ?_);refine JC.cutB (Z := Unit) (α := Bool) (fun z31 x30 => [(6, .eq (.pointer (some ⟨z4.1, 0, none⟩))), (9, I y13.1), (10, .eq (.bool y13.2.1)), (11, I y13.2.2.1), (12, I y13.2.2.2.1), (13, I y9.2.2.2.2), (14, I y13.2.2.2.2), (16, I r29.1), (40, I (q3.1.2.1.length : Int)), (41, I y9.2.2.2.2), (49, I (q3.1.1.length : Int)), (50, I y13.2.2.2.2), (104, .eq (.bool x30))]) (fun z31 x30 => [.obj z4.1 98 (Qq q3 (.eq (.map (some z4.2)))), .inv z4.2 (Known k ((q3.1.1, q3.1.2.1, q3.1.2.2.1, q3.1.2.2.2), q3.2.1, q3.2.2))]) h (fun K h => ?_) (fun z31 x30 h => ?_)
         ·refine JC.region ?_;iterate 2 refine mq ?_
          refine JO.bool (s := 96) rfl (fun hb => ?_) (fun hb => ?_)
          ·replace h := b_if (v_t hb) h;refine gm ?_;refine ga (o_not rfl) ?_;refine gm ?_;refine JO.bool (s := 99) rfl (fun hb => ?_) (fun hb => ?_)
           ·replace h := b_if (nv_t hb) h;iterate 3 refine gn ?_
            refine gb (o_pick_t rfl) ?_;refine pt (nl ?_);exact jz ((), true) h [0, 1]
           ·replace h := b_ifn (nv_fn hb) h;refine gm ?_;refine gm ?_;refine gb (o_lss rfl) ?_;refine gb (o_pick_f rfl) ?_;refine pt (nl ?_);exact jz ((), decide (r29.1 < y13.1)) h [0, 1]
          ·replace h := b_ifn (v_f hb) h;iterate 3 refine gn ?_
           refine gu ?_;refine gu ?_;refine gu ?_;refine gn ?_;refine pf (nl ?_);exact jz ((), false) h [0, 1]
         ·refine cv h (fun h => ?_) (fun h => ?_)
          ·refine JC.region ?_;iterate 3 refine mq ?_
           refine aq ?_;refine aq ?_;refine aq ?_;refine cq (JO.nil (bn ?_));exact jz ((), (r29.1, true, y9.2.2.2.2, y13.2.2.2.2)) h [0, 1]
          ·refine JC.skip (bn ?_);exact jz ((), (y13.1, y13.2.1, y13.2.2.1, y13.2.2.2.1)) h [0, 1]
       ·refine JC.region ?_;obtain ⟨x32, ex32, h⟩ := b_bind h;refine jb (o_add rfl ex32) ?_;refine mq (nl ?_);exact jz ((), (x15.1, x15.2.1, x15.2.2.1, x15.2.2.2, x32)) h [0, 1]
      ·refine JC.exit (JN.then_x (JN.then_x (JN.blk_hit (JN.jmp_n ?_))));refine bn ?_;exact jz ((), (y13.1, y13.2.1, y13.2.2.1, y13.2.2.2.1)) h [0, 1]
     ·refine JC.region ?_;obtain ⟨x33, ex33, h⟩ := b_bind h;refine jb (o_add rfl ex33) ?_;refine mq (nl ?_);exact jz ((), (x11.1, x11.2.1, x11.2.2.1, x11.2.2.2, x33)) h [0, 1]
    ·refine xa ?_;exact jz ((), (y9.1, y9.2.2.1, y9.2.2.2.1)) h [1]
   ·refine JC.seq (sr (mq ?_));refine jb (o_lss rfl) ?_;refine nt (ci h (fun h => ?_) (fun h => ?_))
    ·refine sr (cq ?_);refine cq ?_;refine cq ?_;refine cq (nt (rx ?_));cases h;exact JN.ret () [_, _, _, _] 0 ⟨rfl, rfl, rfl, rfl, trivial⟩ rfl
    ·refine sk (sr ?_);iterate 3 refine mq ?_
     refine aq ?_;refine aq ?_;refine aq ?_;refine cq (nt (JC.ret ?_));cases h;exact JN.ret () [_, _, _, _] 0 ⟨rfl, rfl, rfl, rfl, trivial⟩ rfl


def kit_SameInts_l1 (k : Nat) (a0 : (List Int)) (a1 : (List Int)) : Nat → Int → Option (Except Bool Unit)
 | 0, _ => none
 | n + 1, y3 =>
  if y3 < (a0.length : Int) then ((geti a0 y3).bind fun x5 =>
  (geti a1 y3).bind fun x6 =>
  if ¬ (x5 = x6) then (some (.error false)) else ((ck (y3 + (1 : Int))).bind fun x7 =>
  kit_SameInts_l1 k a0 a1 n x7)) else (some (.ok ()))
def kit_SameInts (k : Nat) (a0 : (List Int)) (a1 : (List Int)) : Option Bool :=
 if ¬ ((a0.length : Int) = (a1.length : Int)) then (some false) else (bE (α := Unit) (kit_SameInts_l1 k a0 a1 k (0 : Int)) (some) fun _ =>
 some true)

theorem kit_SameInts_ok (k : Nat) (a0 : (List Int)) (a1 : (List Int)) (r : Bool) (h : kit_SameInts k a0 a1 = some r) :
 Ctr Try.prog 26 [Ri a0, Ri a1] [] (fun _ : Unit => (resA [.eq (.bool r)], [])) := by
 unfold kit_SameInts at h
 replace h := b_top h
 refine Ctr.of 26 Try.func26 rfl Try.ntmps26 rfl fun S w0 => ?_
 refine sr ?_
 refine cq ?_
 refine nt ?_
 refine JC.seq ?_
 refine sr ?_
 refine mq ?_
 refine ol U22 ?_
 refine mq ?_
 refine ol U22 ?_
 refine jb (o_neq rfl) ?_
 refine nt ?_
 refine cn h (fun h => ?_) (fun h => ?_)
 ·
  refine sr (cq (nt (rx ?_)));cases h;exact ra
 ·
  refine sk (JC.cutE (Z := Unit) (α := Unit) (fun z2 x1 => []) (fun z2 x1 => []) (fun e => e = r) h (fun e h => Option.some.inj h) (fun K hR h => ?_) (fun z2 x1 h => ?_))
  ·refine sr (cq (nt (JC.block ?_)));refine JC.loopB (Z := Unit) (α := Int) (fun z4 y3 => [(0, Ri a0), (1, Ri a1), (5, I y3)]) (fun z4 y3 => []) (kit_SameInts_l1 k a0 a1) k () (0 : Int) (fun _ => rfl) h (SE.fin [] ⟨rfl, rfl, rfl, trivial⟩ rfl) (fun n z4 y3 h => ?_);unfold kit_SameInts_l1 at h;refine JC.seq (sr ?_);iterate 2 refine mq ?_
   refine ol U22 ?_;refine jb (o_lss rfl) ?_;refine nt (ci h (fun h => ?_) (fun h => ?_))
   ·refine sk (JC.seq (JC.block (JC.seq (JC.drawN ?_))));refine dm ?_;refine dm ?_;obtain ⟨x5, ex5, h⟩ := b_bind h;refine db (o_index (t := (.int .i64)) rfl U22 sz3 ex5) ?_;refine da (o_load_at (t := (.int .i64)) rfl sz3 rfl) ?_;refine dm ?_;refine dm ?_;obtain ⟨x6, ex6, h⟩ := b_bind h;refine db (o_index (t := (.int .i64)) rfl U22 sz3 ex6) ?_;refine da (o_load_at (t := (.int .i64)) rfl sz3 rfl) ?_;refine df mixed ?_;refine jb (o_neq rfl) ?_;refine nt (cn h (fun h => ?_) (fun h => ?_))
    ·refine sr (cq (nt (JC.ret (br (JN.blk_r (JN.then_r ?_))))));obtain rfl := hR _ h;exact ra
    ·refine JC.skip (JN.blk_n (tn (JC.region (mq ?_))));obtain ⟨x7, ex7, h⟩ := b_bind h;refine jb (o_add rfl ex7) ?_;refine aq (nl ?_);exact jz ((), x7) h []
   ·refine xa ?_;exact jz ((), ()) h []
  ·refine sr (cq (nt (JC.ret ?_)));cases h;exact ra


def chg_Wearing_l1 (k : Nat) (a1 : (List dStep)) (a2 : Int) (q3 : (dChange × (List (Bool × Int)) × (List Int))) (r6 : (List Int) × (List Int)) : Nat → (Int × Int × Int) → Option (Int × Int)
 | 0, _ => none
 | n + 1, y10 =>
  if y10.2.2 < (a1.length : Int) then ((((geti a1 y10.2.2).bind fun x14 =>
  (geti q3.2.1 x14.1).bind fun x16 =>
  if ¬ (x16.1 = true) then ((geti r6.1 y10.2.2).bind fun x17 =>
  if x17 ≤ a2 then ((cond x16.1 (chg_on_thing k x16.2) (chg_off_thing k x16.2)).bind fun r18 =>
  (chg_of k [r18]).bind fun r19 =>
  some (iandn .u8 y10.1 r19, y10.2.1)) else (some (y10.1, y10.2.1))) else ((chkP (0 ≤ x14.1 ∧ x14.1 < 4)).bind fun _ =>
  (geti r6.2 x14.1).bind fun x21 =>
  if x21 ≤ a2 then ((cond x16.1 (chg_on_thing k x16.2) (chg_off_thing k x16.2)).bind fun r22 =>
  (chg_of k [r22]).bind fun r23 =>
  some (y10.1, ior .u8 y10.2.1 r23)) else (some (y10.1, y10.2.1)))) : Option (Int × Int)).bind fun x12 =>
  (ck (y10.2.2 + (1 : Int))).bind fun x24 =>
  chg_Wearing_l1 k a1 a2 q3 r6 n (x12.1, x12.2, x24)) else (some (y10.1, y10.2.1))
def chg_Wearing (k : Nat) (a0 : dChange) (a1 : (List dStep)) (a2 : Int) : Option ((List Int) × Int) :=
 (chg_asked k a0 a1).bind fun r2 =>
 casesO r2.1 (if ¬ (r2.2 = (0 : Int)) then (some ([], r2.2)) else (if a2 < (0 : Int) then (some ([], (1 : Int))) else (none))) (fun q3 => if ¬ (r2.2 = (0 : Int)) then (some ([], r2.2)) else (if a2 < (0 : Int) then (some ([], (1 : Int))) else ((chg_of k q3.1.2.2.1).bind fun r5 =>
 (chg_quick_begins k ((q3.1.1, q3.1.2.1, q3.1.2.2.1, q3.1.2.2.2), q3.2.1, q3.2.2) a1).bind fun r6 =>
 ((chg_Wearing_l1 k a1 a2 q3 r6 k (r5, (0 : Int), (0 : Int))) : Option (Int × Int)).bind fun x8 =>
 (chg_set_list k (ior .u8 x8.1 x8.2)).bind fun r25 =>
 some (r25, (0 : Int)))))

theorem chg_Wearing_ok (k : Nat) (a0 : dChange) (a1 : (List dStep)) (a2 : Int) (r : (List Int) × Int) (h : chg_Wearing k a0 a1 a2 = some r) :
 Ctr Try.prog 27 [.rep tChange a0, Rs tStep a1, I a2] [] (fun _ : Unit => (resA [Ri r.1, I r.2], [])) := by
 unfold chg_Wearing at h
 replace h := b_top h
 refine Ctr.of 88 Try.func27 rfl Try.ntmps27 rfl fun S w0 => ?_
 refine sr ?_
 refine bx fun b1 => ?_
 refine cq ?_
 refine cq ?_
 refine nt ?_
 refine sr ?_
 refine lo sz26 ?_
 refine mq ?_
 obtain ⟨r2, er2, h⟩ := b_bind h
 have cr2 := chg_asked_ok k a0 a1 r2 er2
 rcases hr : r2.1 with _ | q3
 ·
  rw [hr] at h cr2; replace h := co_n h;refine JO.stepG (Δ := []) (F := _) (fun _ _ _ => wanted_none rfl _) rfl rfl (o_call [.tmp 18, .tmp 19] rfl rfl en50 rfl cr2) ⟨rfl, rfl, trivial⟩ fun _ => ?_;refine mq ?_;refine xr ?_;refine xr ?_;refine aq ?_;refine aq (nt (JC.seq (sr ?_)));refine mq ?_;refine jb (o_neq rfl) ?_;refine nt (cn h (fun h => ?_) (fun h => ?_))
  ·refine sr (mq ?_);refine cq ?_;refine aq (nt (rx ?_));refine JN.se (SE.ent (t := (.slice (.int .i64))) (x := []) 6 rfl .nil rfl rfl) ?_;cases h;exact rb
  ·refine sk (JC.seq (sr (mq ?_)));refine jb (o_lss rfl) ?_;refine nt (ci h (fun h => ?_) (fun h => ?_))
   ·refine sr (cq ?_);refine cq (nt (rx ?_));refine JN.se (SE.ent (t := (.slice (.int .i64))) (x := []) 6 rfl .nil rfl rfl) ?_;cases h;exact rb
   ·refine sk (sr (mq ?_));cases h
 ·
  rw [hr] at h cr2; replace h := co_s h;refine JO.stepG (Δ := []) (F := _) (fun _ _ _ => wanted_none rfl _) rfl rfl (o_call [.tmp 18, .tmp 19] rfl rfl en50 rfl cr2) ⟨rfl, rfl, trivial⟩ fun z4 => ?_;refine mq ?_;refine xr ?_;refine xr ?_;refine aq ?_;refine aq (nt (JC.seq (sr ?_)));refine mq ?_;refine jb (o_neq rfl) ?_;refine nt (cn h (fun h => ?_) (fun h => ?_))
  ·refine sr (mq ?_);refine cq ?_;refine aq (nt (rx ?_));refine JN.se (SE.ent (t := (.slice (.int .i64))) (x := []) 6 rfl .nil rfl rfl) ?_;cases h;exact rb
  ·refine sk (JC.seq (sr (mq ?_)));refine jb (o_lss rfl) ?_;refine nt (ci h (fun h => ?_) (fun h => ?_))
   ·refine sr (cq ?_);refine cq (nt (rx ?_));refine JN.se (SE.ent (t := (.slice (.int .i64))) (x := []) 6 rfl .nil rfl rfl) ?_;cases h;exact rb
   ·refine sk (sr (mq ?_));refine ja (o_nil_obj rfl) ?_;refine fl fo98_0 ?_;refine fl fo26_2 ?_;refine lo sz22 ?_;obtain ⟨r5, er5, h⟩ := b_bind h;refine ja (o_call [.tmp 32] rfl rfl en40 rfl (chg_of_ok k q3.1.2.2.1 r5 er5)) ?_;refine aq (nt (sr ?_));iterate 2 refine mq ?_
    obtain ⟨r6, er6, h⟩ := b_bind h;refine kb (o_call [.tmp 35, .tmp 36] rfl rfl en51 rfl (chg_quick_begins_ok k ((q3.1.1, q3.1.2.1, q3.1.2.2.1, q3.1.2.2.2), q3.2.1, q3.2.2) z4.1 (.map (some z4.2)) a1 r6 er6)) ?_;refine mq ?_;refine xr ?_;refine xr ?_;refine JO.s01 rfl rfl rfl (o_alloc rfl za113 al113) trivial fun b7 => ?_;refine aq ?_;refine JO.n11 rfl rfl (o_store rfl sz113 rfl rfl rfl) ⟨rfl, rfl, trivial⟩ ?_;refine nt (sr (cq (nt ?_)));refine JC.cutB (Z := Unit) (α := Int × Int) (fun z9 x8 => [(10, .eq (.int .u8 x8.1)), (13, .eq (.int .u8 x8.2))]) (fun z9 x8 => [.raw z4.2 (.map #[] 0)]) h (fun K h => ?_) (fun z9 x8 h => ?_)
    ·refine sr (mq ?_);refine ol U33 ?_;refine JO.mc rfl ?_;refine nt (JC.block (JC.loopB (Z := Unit) (α := Int × Int × Int) (fun z11 y10 => [(2, I a2), (8, .eq (.pointer (some ⟨z4.1, 0, none⟩))), (10, .eq (.int .u8 y10.1)), (11, Ri r6.1), (12, Pt b7), (13, .eq (.int .u8 y10.2.1)), (40, Rs tStep a1), (41, I (a1.length : Int)), (42, I y10.2.2)]) (fun z11 y10 => [.obj z4.1 98 (Qq q3 (.eq (.map (some z4.2)))), .obj b7 113 (.rep (.arr 4 (.int .i64)) r6.2), .raw z4.2 (.map #[] 0)]) (chg_Wearing_l1 k a1 a2 q3 r6) k () (r5, (0 : Int), (0 : Int)) (fun _ => rfl) h (SE.fin [1, 0, 2] ⟨rfl, rfl, rfl, rfl, rfl, rfl, rfl, rfl, rfl, trivial⟩ rfl) (fun n z11 y10 h => ?_)));unfold chg_Wearing_l1 at h;refine sr (jb (o_lss rfl) ?_);refine nt (JC.seq (ci h (fun h => ?_) (fun h => ?_)))
     ·refine sk (JC.cutB (Z := Unit) (α := Int × Int) (fun z13 x12 => [(2, I a2), (8, .eq (.pointer (some ⟨z4.1, 0, none⟩))), (10, .eq (.int .u8 x12.1)), (11, Ri r6.1), (12, Pt b7), (13, .eq (.int .u8 x12.2)), (40, Rs tStep a1), (41, I (a1.length : Int)), (42, I y10.2.2)]) (fun z13 x12 => [.obj z4.1 98 (Qq q3 (.eq (.map (some z4.2)))), .obj b7 113 (.rep (.arr 4 (.int .i64)) r6.2), .raw z4.2 (.map #[] 0)]) h (fun K h => ?_) (fun z13 x12 h => ?_))
      ·refine JC.block (sr (mq ?_));obtain ⟨x14, ex14, h⟩ := b_bind h;refine jb (o_index (t := tStep) rfl U33 sz59 ex14) ?_;refine ja (o_load_at (t := tStep) rfl sz59 rfl) ?_;refine JO.s01 rfl rfl rfl (o_alloc rfl za59 al59) trivial fun b15 => ?_;refine aq ?_;refine JO.n11 rfl rfl (o_store rfl sz59 rfl rfl rfl) ⟨rfl, rfl, trivial⟩ ?_;refine nt (JC.seq (JC.drawN ?_));refine dm ?_;refine da (o_nil_obj rfl) ?_;refine da (o_field_obj rfl fo98_1) ?_;refine ea 1 (o_load_obj rfl sz93 nfs rfl) ?_;refine da (o_field_obj rfl fo59_0) ?_;refine ea 0 (o_load_obj rfl sz3 nfs rfl) ?_;refine df mixed ?_;obtain ⟨x16, ex16, h⟩ := b_bind h;refine jb (o_index (t := (.tag 109 111)) rfl U93 sz108 ex16) ?_;refine ja (o_load_at (t := (.tag 109 111)) rfl sz108 rfl) ?_;refine aq (nt (sr ?_));refine mq (nt (JC.block (sr ?_)));refine JO.s rfl (o_as0 rfl ta109 (by decide)) ⟨rfl, trivial⟩ ?_;refine xr ?_;refine xr ?_;refine nt (cw h (fun h => ?_) (fun h => ?_))
       ·refine sr ?_;iterate 2 refine mq ?_
        obtain ⟨x17, ex17, h⟩ := b_bind h;refine jb (o_index (t := (.int .i64)) rfl U22 sz3 ex17) ?_;refine ja (o_load_at (t := (.int .i64)) rfl sz3 rfl) ?_;refine mq ?_;refine jb (o_leq rfl) ?_;refine nt (ci h (fun h => ?_) (fun h => ?_))
        ·refine JC.region ?_;iterate 2 refine mq ?_
         obtain ⟨r18, er18, h⟩ := b_bind h;refine JO.s rfl (o_invoke rfl rfl mt109_thing mt111_thing (ctr_cond (fun hb => chg_off_thing_ok k x16.2 r18 (by simpa [hb] using er18)) (fun hb => chg_on_thing_ok k x16.2 r18 (by simpa [hb] using er18)))) ⟨rfl, trivial⟩ ?_;refine ja (o_litB (t := (.int .i64)) [(.tmp 79, _)] [r18] rfl rfl sl22 (.cons rfl .int .nil) rfl rfl) ?_;obtain ⟨r19, er19, h⟩ := b_bind h;refine ja (o_call [.tmp 80] rfl rfl en40 rfl (chg_of_ok k [r18] r19 er19)) ?_;refine jb (o_andn rfl) ?_;refine aq (JO.nil (JN.blk_n (bn ?_)));exact jz ((), (iandn .u8 y10.1 r19, y10.2.1)) h [1, 2, 3]
        ·refine JC.skip (JN.blk_n (bn ?_));exact jz ((), (y10.1, y10.2.1)) h [1, 2, 3]
       ·refine sr (fl fo59_0 ?_);refine lo sz3 ?_;obtain ⟨u20, eu20, h⟩ := b_bind h;refine jb (o_index_arr rfl U113 sz3 (chkP_some eu20).1 (chkP_some eu20).2) ?_;obtain ⟨x21, ex21, h⟩ := b_bind h;refine fr 2 ?_;refine ka (o_load_arr (t := (.int .i64)) (off := 0) (i := x14.1) (N := 4) rfl sz3 (fun _ => rfl) rfl rfl rfl rfl ex21) ?_;refine mq ?_;refine jb (o_leq rfl) ?_;refine nt (ci h (fun h => ?_) (fun h => ?_))
        ·refine JC.region ?_;iterate 2 refine mq ?_
         obtain ⟨r22, er22, h⟩ := b_bind h;refine JO.s rfl (o_invoke rfl rfl mt109_thing mt111_thing (ctr_cond (fun hb => chg_off_thing_ok k x16.2 r22 (by simpa [hb] using er22)) (fun hb => chg_on_thing_ok k x16.2 r22 (by simpa [hb] using er22)))) ⟨rfl, trivial⟩ ?_;refine ja (o_litB (t := (.int .i64)) [(.tmp 64, _)] [r22] rfl rfl sl22 (.cons rfl .int .nil) rfl rfl) ?_;obtain ⟨r23, er23, h⟩ := b_bind h;refine ja (o_call [.tmp 65] rfl rfl en40 rfl (chg_of_ok k [r22] r23 er23)) ?_;refine jb (o_or rfl) ?_;refine aq (JO.nil (JN.blk_n (bn ?_)));exact jz ((), (y10.1, ior .u8 y10.2.1 r23)) h [2, 0, 3]
        ·refine JC.skip (JN.blk_n (bn ?_));exact jz ((), (y10.1, y10.2.1)) h [2, 0, 3]
      ·refine JC.region ?_;obtain ⟨x24, ex24, h⟩ := b_bind h;refine jb (o_add rfl ex24) ?_;refine mq (nl ?_);exact jz ((), (x12.1, x12.2, x24)) h [0, 1, 2]
     ·refine xa ?_;exact jz ((), (y10.1, y10.2.1)) h [2]
    ·refine sr ?_;iterate 2 refine mq ?_
     refine jb (o_or rfl) ?_;obtain ⟨r25, er25, h⟩ := b_bind h;refine ja (o_call [.tmp 86] rfl rfl en41 rfl (chg_set_list_ok k (ior .u8 x8.1 x8.2) r25 er25)) ?_;refine aq ?_;refine cq (nt (JC.ret ?_));cases h;exact rb


def chg_Through_l1 (k : Nat) (a0 : (List dChange)) : Nat → ((List dquick) × Int) → Option (Except ((List Int) × Int) (List dquick))
 | 0, _ => none
 | n + 1, y4 =>
  if y4.2 < (a0.length : Int) then ((geti a0 y4.2).bind fun x6 =>
  (chg_begin k x6).bind fun r8 =>
  casesO r8.1 (if ¬ (r8.2 = (0 : Int)) then (some (.error ([], r8.2))) else (none)) (fun q9 => if ¬ (r8.2 = (0 : Int)) then (some (.error ([], r8.2))) else ((chkP (okLen (List.length y4.1 + List.length [((q9.1.1, q9.1.2.1, q9.1.2.2.1, q9.1.2.2.2), q9.2.1, q9.2.2, ())]))).bind fun _ =>
  (ck (y4.2 + (1 : Int))).bind fun x13 =>
  chg_Through_l1 k a0 n (y4.1 ++ [((q9.1.1, q9.1.2.1, q9.1.2.2.1, q9.1.2.2.2), q9.2.1, q9.2.2, ())], x13)))) else (some (.ok y4.1))

def chg_Through_l2 (k : Nat) (x2 : (List dquick)) : Nat → Int → Option (Except ((List Int) × Int) Unit)
 | 0, _ => none
 | n + 1, y16 =>
  if y16 < (x2.length : Int) then ((geti x2 y16).bind fun x18 =>
  (geti x2 (0 : Int)).bind fun x19 =>
  if ¬ ((x18.1.2.1.length : Int) = (x19.1.2.1.length : Int)) then (some (.error ([], (9 : Int)))) else ((ck (y16 + (1 : Int))).bind fun x20 =>
  chg_Through_l2 k x2 n x20)) else (some (.ok ()))

def chg_Through_l3 (k : Nat) (a1 : (List Int)) : Nat → Int → Option (Except ((List Int) × Int) Unit)
 | 0, _ => none
 | n + 1, y24 =>
  if y24 < (a1.length : Int) then ((geti a1 y24).bind fun x26 =>
  (chg_outside k x26 (0 : Int) (20 : Int)).bind fun r27 =>
  if r27 = true then (some (.error ([], (1 : Int)))) else ((ck (y24 + (1 : Int))).bind fun x28 =>
  chg_Through_l3 k a1 n x28)) else (some (.ok ()))

def chg_Through_l5 (k : Nat) (x36 : Int) (r41 : (List dDresser)) : Nat → ((List dDresser) × Int) → Option (List dDresser)
 | 0, _ => none
 | n + 1, y45 =>
  if y45.2 < (r41.length : Int) then ((geti y45.1 y45.2).bind fun x47 =>
  (ck (x47.2.2 - x36)).bind fun x48 =>
  (geti y45.1 y45.2).bind fun x49 =>
  (ck (y45.2 + (1 : Int))).bind fun x50 =>
  chg_Through_l5 k x36 r41 n (List.set y45.1 (Int.toNat y45.2) (x49.1, x49.2.1, imax (0 : Int) x48), x50)) else (some y45.1)

def chg_Through_l4 (k : Nat) (a1 : (List Int)) (x2 : (List dquick)) : Nat → ((List Int) × Int × Int) → Option (Except ((List Int) × Int) (List Int))
 | 0, _ => none
 | n + 1, y31 =>
  if y31.2.2 < (x2.length : Int) then (bE (α := (List Int) × Int) ((geti x2 y31.2.2).bind fun x35 =>
  ((if (0 : Int) < y31.2.2 then ((ck (y31.2.2 - (1 : Int))).bind fun x38 =>
  (geti a1 x38).bind fun x39 =>
  (ck (y31.2.1 + x39)).bind fun x40 =>
  some x40) else (some y31.2.1)) : Option (Int)).bind fun x36 =>
  (slc_Clone_Dresser k x35.1.2.1).bind fun r41 =>
  ((chg_Through_l5 k x36 r41 k (r41, (0 : Int))) : Option ((List dDresser))).bind fun x43 =>
  (chg_quick_fewestF k x35 x43).bind fun r51 =>
  if ¬ (r51.2 = true) then (some (.error ([], (11 : Int)))) else ((ck (x36 + r51.1)).bind fun x52 =>
  (chkP (okLen (List.length y31.1 + List.length [x52]))).bind fun _ =>
  some (.ok (y31.1 ++ [x52], x52)))) (fun e => some (.error e)) fun x33 =>
  (ck (y31.2.2 + (1 : Int))).bind fun x55 =>
  chg_Through_l4 k a1 x2 n (x33.1, x33.2, x55)) else (some (.ok y31.1))
def chg_Through (k : Nat) (a0 : (List dChange)) (a1 : (List Int)) : Option ((List Int) × Int) :=
 (chg_sized k (a0.length : Int) (3 : Int)).bind fun r1 =>
 if ¬ (r1 = (0 : Int)) then (some ([], r1)) else (bE (α := (List dquick)) (chg_Through_l1 k a0 k (([] : (List dquick)), (0 : Int))) (some) fun x2 =>
 bE (α := Unit) (chg_Through_l2 k x2 k (0 : Int)) (some) fun _ =>
 (ck ((a0.length : Int) - (1 : Int))).bind fun x21 =>
 if ¬ ((a1.length : Int) = x21) then (some ([], (9 : Int))) else (bE (α := Unit) (chg_Through_l3 k a1 k (0 : Int)) (some) fun _ =>
 bE (α := (List Int)) (chg_Through_l4 k a1 x2 k (([] : (List Int)), (0 : Int), (0 : Int))) (some) fun x29 =>
 some (x29, (0 : Int))))

theorem chg_Through_ok (k : Nat) (a0 : (List dChange)) (a1 : (List Int)) (r : (List Int) × Int) (h : chg_Through k a0 a1 = some r) :
 Ctr Try.prog 28 [Rs tChange a0, Ri a1] [] (fun _ : Unit => (resA [Ri r.1, I r.2], [])) := by
 unfold chg_Through at h
 replace h := b_top h
 refine Ctr.of 143 Try.func28 rfl Try.ntmps28 rfl fun S w0 => ?_
 refine sr ?_
 refine cq ?_
 refine cq ?_
 refine nt ?_
 refine JC.seq ?_
 refine sr ?_
 refine mq ?_
 refine ol U74 ?_
 obtain ⟨r1, er1, h⟩ := b_bind h
 have cr1 := chg_sized_ok k (a0.length : Int) (3 : Int) r1 er1
 refine jb (o_call [.tmp 25, .const (.int .i64 (3))] rfl rfl en44 rfl cr1) ?_
 refine aq ?_
 refine nt ?_
 refine sr ?_
 refine mq ?_
 refine jb (o_neq rfl) ?_
 refine nt ?_
 refine cn h (fun h => ?_) (fun h => ?_)
 ·
  refine sr (mq ?_);refine cq ?_;refine aq (nt (rx ?_));refine JN.se (SE.ent (t := (.slice (.int .i64))) (x := []) 4 rfl .nil rfl rfl) ?_;cases h;exact rb
 ·
  refine sk (sr (cq (nt ?_)));refine JC.cutE (Z := Value) (α := (List dquick)) (fun z3 x2 => [(0, Rs tChange a0), (1, Ri a1), (7, .eq z3)]) (fun z3 x2 => [.sl z3 83 (.ptr tquick) x2]) (fun e => e = r) h (fun e h => Option.some.inj h) (fun K hR h => ?_) (fun z3 x2 h => ?_)
  ·refine sr (mq ?_);refine ol U74 ?_;refine JO.mc rfl ?_;refine nt (JC.block (JC.se (SE.nil 83 (.ptr tquick)) ?_));refine JC.loopB (Z := Value) (α := (List dquick) × Int) (fun z5 y4 => [(0, Rs tChange a0), (1, Ri a1), (7, .eq z5), (30, Rs tChange a0), (31, I (a0.length : Int)), (32, I y4.2)]) (fun z5 y4 => [.sl z5 83 (.ptr tquick) y4.1]) (chg_Through_l1 k a0) k (.slice none 0 0) (([] : (List dquick)), (0 : Int)) (fun _ => rfl) h (SE.fin [0] ⟨rfl, rfl, rfl, rfl, rfl, rfl, trivial⟩ rfl) (fun n z5 y4 h => ?_);unfold chg_Through_l1 at h;refine sr (jb (o_lss rfl) ?_);refine nt (JC.seq (ci h (fun h => ?_) (fun h => ?_)))
   ·refine sk (JC.seq (JC.block (sr ?_)));obtain ⟨x6, ex6, h⟩ := b_bind h;refine jb (o_index (t := tChange) rfl U74 sz26 ex6) ?_;refine ja (o_load_at (t := tChange) rfl sz26 rfl) ?_;refine JO.s01 rfl rfl rfl (o_alloc rfl za26 al26) trivial fun b7 => ?_;refine JO.n11 rfl rfl (o_store rfl sz26 rfl rfl rfl) ⟨rfl, rfl, trivial⟩ ?_;refine nt (sr (lo sz26 ?_));obtain ⟨r8, er8, h⟩ := b_bind h;have cr8 := chg_begin_ok k x6 r8 er8;rcases hr : r8.1 with _ | q9
    ·rw [hr] at h cr8; replace h := co_n h;refine JO.stepG (Δ := []) (F := _) (fun _ _ _ => wanted_none rfl _) rfl rfl (o_call [.tmp 37] rfl rfl en34 rfl cr8) ⟨rfl, trivial⟩ fun _ => ?_;refine mq ?_;refine xr ?_;refine xr ?_;refine aq ?_;refine aq (nt (JC.seq (sr ?_)));refine mq ?_;refine jb (o_neq rfl) ?_;refine nt (cn h (fun h => ?_) (fun h => ?_))
     ·refine sr (mq ?_);refine cq ?_;refine aq (nt (rx (br (JN.blk_r (JN.then_r ?_)))));refine JN.se (SE.ent (t := (.slice (.int .i64))) (x := []) 4 rfl .nil rfl rfl) ?_;obtain rfl := hR _ h;exact rb
     ·refine sk (JC.region ?_);iterate 2 refine mq ?_
      cases h
    ·rw [hr] at h cr8; replace h := co_s h;refine JO.stepG (Δ := []) (F := _) (fun _ _ _ => wanted_none rfl _) rfl rfl (o_call [.tmp 37] rfl rfl en34 rfl cr8) ⟨rfl, trivial⟩ fun z10 => ?_;refine mq ?_;refine xr ?_;refine xr ?_;refine aq ?_;refine aq (nt (JC.seq (sr ?_)));refine mq ?_;refine jb (o_neq rfl) ?_;refine nt (cn h (fun h => ?_) (fun h => ?_))
     ·refine sr (mq ?_);refine cq ?_;refine aq (nt (rx (br (JN.blk_r (JN.then_r ?_)))));refine JN.se (SE.ent (t := (.slice (.int .i64))) (x := []) 4 rfl .nil rfl rfl) ?_;obtain rfl := hR _ h;exact rb
     ·refine sk (JC.region ?_);iterate 2 refine mq ?_
      refine JO.se (SE.frzObj (t := tquick) (x := ((q9.1.1, q9.1.2.1, q9.1.2.2.1, q9.1.2.2.2), q9.2.1, q9.2.2, ())) [10, 39, 45] (.agg (.pair (.agg (.pair .rep (.pair .rep (.pair .rep .rep)))) (.pair .rep (.pair .rep (.ign rfl))))) ⟨rfl, rfl, rfl, trivial⟩) ?_;refine ja (o_litB (t := (.ptr tquick)) [(.tmp 45, _)] [((q9.1.1, q9.1.2.1, q9.1.2.2.1, q9.1.2.2.2), q9.2.1, q9.2.2, ())] rfl rfl sl128 (.cons trivial .ptr .nil) rfl rfl) ?_;obtain ⟨u11, eu11, h⟩ := b_bind h;refine fr 2 ?_;refine JO.s1x rfl rfl rfl (o_append rfl rfl sl128 (chkP_some eu11)) ⟨rfl, rfl, trivial⟩ fun v12 => ?_;refine aq (JO.nil (JN.blk_n (tn (JC.region ?_))));obtain ⟨x13, ex13, h⟩ := b_bind h;refine jb (o_add rfl ex13) ?_;refine mq (nl ?_);exact jz (v12, (y4.1 ++ [((q9.1.1, q9.1.2.1, q9.1.2.2.1, q9.1.2.2.2), q9.2.1, q9.2.2, ())], x13)) h [0]
   ·refine xa ?_;exact jz (z5, y4.1) h [0]
  ·refine JC.cutE (Z := Unit) (α := Unit) (fun z15 x14 => [(0, Rs tChange a0), (1, Ri a1), (7, .eq z3)]) (fun z15 x14 => [.sl z3 83 (.ptr tquick) x2]) (fun e => e = r) h (fun e h => Option.some.inj h) (fun K hR h => ?_) (fun z15 x14 h => ?_)
   ·refine sr (mq ?_);refine ka (o_len_own rfl rfl U128) ?_;refine JO.mc rfl ?_;refine nt (JC.block (JC.loopB (Z := Unit) (α := Int) (fun z17 y16 => [(0, Rs tChange a0), (1, Ri a1), (7, .eq z3), (49, .eq z3), (50, I (x2.length : Int)), (51, I y16)]) (fun z17 y16 => [.sl z3 83 (.ptr tquick) x2]) (chg_Through_l2 k x2) k () (0 : Int) (fun _ => rfl) h (SE.fin [0] ⟨rfl, rfl, rfl, rfl, rfl, rfl, trivial⟩ rfl) (fun n z17 y16 h => ?_)));unfold chg_Through_l2 at h;refine sr (jb (o_lss rfl) ?_);refine nt (JC.seq (ci h (fun h => ?_) (fun h => ?_)))
    ·refine sk (JC.seq (JC.block (sr ?_)));obtain ⟨x18, ex18, h⟩ := b_bind h;refine kb (o_index_own (t := (.ptr tquick)) rfl U128 sz83 ex18) ?_;refine ka (o_load_el (i := Int.toNat y16) (off := 0) rfl sz83 (fun _ => rfl) rfl (geti_some ex18).2.2 rfl) ?_;refine aq (nt (JC.seq ?_));refine JC.drawN ?_;refine dm ?_;refine da (o_nil_at rfl) ?_;refine da (o_field_at 4 true rfl fo98_0 rfl) ?_;refine da (o_field_at 1 false rfl fo26_1 rfl) ?_;refine da (o_load_at (t := (.slice tDresser)) rfl sz24 rfl) ?_;refine da (o_len rfl rfl U24) ?_;refine dm ?_;obtain ⟨x19, ex19, h⟩ := b_bind h;refine eb 0 (o_index_own (t := (.ptr tquick)) rfl U128 sz83 ex19) ?_;refine ea 0 (o_load_el (i := Int.toNat (0 : Int)) (off := 0) rfl sz83 (fun _ => rfl) rfl (geti_some ex19).2.2 rfl) ?_;refine da (o_nil_at rfl) ?_;refine da (o_field_at 4 true rfl fo98_0 rfl) ?_;refine da (o_field_at 1 false rfl fo26_1 rfl) ?_;refine da (o_load_at (t := (.slice tDresser)) rfl sz24 rfl) ?_;refine da (o_len rfl rfl U24) ?_;refine df mixed ?_;refine jb (o_neq rfl) ?_;refine nt (cn h (fun h => ?_) (fun h => ?_))
     ·refine sr (cq ?_);refine cq (nt (JC.ret (br (JN.blk_r (JN.then_r ?_)))));refine JN.se (SE.ent (t := (.slice (.int .i64))) (x := []) 4 rfl .nil rfl rfl) ?_;obtain rfl := hR _ h;exact rb
     ·refine JC.skip (JN.blk_n (tn (JC.region ?_)));obtain ⟨x20, ex20, h⟩ := b_bind h;refine jb (o_add rfl ex20) ?_;refine mq (nl ?_);exact jz ((), x20) h [0]
    ·refine xa ?_;exact jz ((), ()) h [0]
   ·refine JC.seq (sr (mq ?_));refine ol U22 ?_;refine mq ?_;refine ol U74 ?_;obtain ⟨x21, ex21, h⟩ := b_bind h;refine jb (o_sub rfl ex21) ?_;refine jb (o_neq rfl) ?_;refine nt (cn h (fun h => ?_) (fun h => ?_))
    ·refine sr (cq ?_);refine cq (nt (rx ?_));refine JN.se (SE.ent (t := (.slice (.int .i64))) (x := []) 4 rfl .nil rfl rfl) ?_;cases h;exact rb
    ·refine sk (JC.cutE (Z := Unit) (α := Unit) (fun z23 x22 => [(1, Ri a1), (7, .eq z3)]) (fun z23 x22 => [.sl z3 83 (.ptr tquick) x2]) (fun e => e = r) h (fun e h => Option.some.inj h) (fun K hR h => ?_) (fun z23 x22 h => ?_))
     ·refine sr (mq ?_);refine ol U22 ?_;refine JO.mc rfl ?_;refine nt (JC.block (JC.loopB (Z := Unit) (α := Int) (fun z25 y24 => [(1, Ri a1), (7, .eq z3), (77, Ri a1), (78, I (a1.length : Int)), (79, I y24)]) (fun z25 y24 => [.sl z3 83 (.ptr tquick) x2]) (chg_Through_l3 k a1) k () (0 : Int) (fun _ => rfl) h (SE.fin [0] ⟨rfl, rfl, rfl, rfl, rfl, trivial⟩ rfl) (fun n z25 y24 h => ?_)));unfold chg_Through_l3 at h;refine sr (jb (o_lss rfl) ?_);refine nt (JC.seq (ci h (fun h => ?_) (fun h => ?_)))
      ·refine sk (JC.seq (JC.block (sr ?_)));obtain ⟨x26, ex26, h⟩ := b_bind h;refine jb (o_index (t := (.int .i64)) rfl U22 sz3 ex26) ?_;refine ja (o_load_at (t := (.int .i64)) rfl sz3 rfl) ?_;refine aq (nt (sr ?_));refine mq ?_;obtain ⟨r27, er27, h⟩ := b_bind h;refine jc (o_call [.tmp 83, .const (.int .i64 (0)), .const (.int .i64 (20))] rfl rfl en46 rfl (chg_outside_ok k x26 (0 : Int) (20 : Int) r27 er27)) ?_;refine nt (cv h (fun h => ?_) (fun h => ?_))
       ·refine sr (cq ?_);refine cq (nt (JC.ret (br (JN.blk_r (JN.then_r ?_)))));refine JN.se (SE.ent (t := (.slice (.int .i64))) (x := []) 4 rfl .nil rfl rfl) ?_;obtain rfl := hR _ h;exact rb
       ·refine JC.skip (JN.blk_n (tn (JC.region ?_)));obtain ⟨x28, ex28, h⟩ := b_bind h;refine jb (o_add rfl ex28) ?_;refine mq (nl ?_);exact jz ((), x28) h [0]
      ·refine xa ?_;exact jz ((), ()) h [0]
     ·refine sr (cq (nt (sr ?_)));refine cq (nt ?_);refine JC.cutE (Z := Value) (α := (List Int)) (fun z30 x29 => [(16, .eq z30)]) (fun z30 x29 => [.sl z30 3 (.int .i64) x29]) (fun e => e = r) h (fun e h => Option.some.inj h) (fun K hR h => ?_) (fun z30 x29 h => ?_)
      ·refine sr (mq ?_);refine ka (o_len_own rfl rfl U128) ?_;refine JO.mc rfl ?_;refine nt (JC.block (JC.se (SE.nil 3 (.int .i64)) ?_));refine JC.loopB (Z := Value) (α := (List Int) × Int × Int) (fun z32 y31 => [(1, Ri a1), (16, .eq z32), (17, I y31.2.1), (86, .eq z3), (87, I (x2.length : Int)), (88, I y31.2.2)]) (fun z32 y31 => [.sl z32 3 (.int .i64) y31.1, .sl z3 83 (.ptr tquick) x2]) (chg_Through_l4 k a1 x2) k (.slice none 0 0) (([] : (List Int)), (0 : Int), (0 : Int)) (fun _ => rfl) h (SE.fin [0, 1] ⟨rfl, rfl, rfl, rfl, rfl, rfl, trivial⟩ rfl) (fun n z32 y31 h => ?_);unfold chg_Through_l4 at h;refine sr (jb (o_lss rfl) ?_);refine nt (JC.seq (ci h (fun h => ?_) (fun h => ?_)))
       ·refine sk (JC.cutE (Z := Value) (α := (List Int) × Int) (fun z34 x33 => [(1, Ri a1), (16, .eq z34), (17, I x33.2), (86, .eq z3), (87, I (x2.length : Int)), (88, I y31.2.2)]) (fun z34 x33 => [.sl z34 3 (.int .i64) x33.1, .sl z3 83 (.ptr tquick) x2]) (fun e => e = r) h (fun e h => hR e h) (fun K hR h => ?_) (fun z34 x33 h => ?_))
        ·refine JC.block (sr (mq ?_));obtain ⟨x35, ex35, h⟩ := b_bind h;refine fr 1 ?_;refine kb (o_index_own (t := (.ptr tquick)) rfl U128 sz83 ex35) ?_;refine ka (o_load_el (i := Int.toNat y31.2.2) (off := 0) rfl sz83 (fun _ => rfl) rfl (geti_some ex35).2.2 rfl) ?_;refine aq ?_;refine aq (nt ?_);refine JC.cutB (Z := Unit) (α := Int) (fun z37 x36 => [(1, Ri a1), (16, .eq z32), (17, I x36), (19, .at tquick x35), (86, .eq z3), (87, I (x2.length : Int)), (88, I y31.2.2)]) (fun z37 x36 => [.sl z32 3 (.int .i64) y31.1, .sl z3 83 (.ptr tquick) x2]) h (fun K h => ?_) (fun z37 x36 h => ?_)
         ·refine sr (mq ?_);refine jb (o_gtr rfl) ?_;refine nt (ci h (fun h => ?_) (fun h => ?_))
          ·refine JC.region ?_;iterate 3 refine mq ?_
           obtain ⟨x38, ex38, h⟩ := b_bind h;refine jb (o_sub rfl ex38) ?_;obtain ⟨x39, ex39, h⟩ := b_bind h;refine jb (o_index (t := (.int .i64)) rfl U22 sz3 ex39) ?_;refine ja (o_load_at (t := (.int .i64)) rfl sz3 rfl) ?_;obtain ⟨x40, ex40, h⟩ := b_bind h;refine jb (o_add rfl ex40) ?_;refine aq (nl ?_);exact jz ((), x40) h [1, 0]
          ·refine JC.skip (JN.then_n ?_);exact jz ((), y31.2.1) h [1, 0]
         ·refine sr (mq ?_);refine ja (o_nil_at rfl) ?_;refine ja (o_field_at 4 true rfl fo98_0 rfl) ?_;refine ja (o_field_at 1 false rfl fo26_1 rfl) ?_;refine ja (o_load_at (t := (.slice tDresser)) rfl sz24 rfl) ?_;obtain ⟨r41, er41, h⟩ := b_bind h;refine JO.s01 rfl rfl rfl (o_call [.tmp 106] rfl rfl en55 rfl (slc_Clone_Dresser_ok k x35.1.2.1 r41 er41)) ⟨rfl, trivial⟩ fun v42 => ?_;refine aq (nt ?_);refine JC.cutB (Z := Unit) (α := (List dDresser)) (fun z44 x43 => [(1, Ri a1), (16, .eq z32), (17, I x36), (19, .at tquick x35), (20, .eq v42), (86, .eq z3), (87, I (x2.length : Int)), (88, I y31.2.2)]) (fun z44 x43 => [.sl z32 3 (.int .i64) y31.1, .sl v42 38 tDresser x43, .sl z3 83 (.ptr tquick) x2]) h (fun K h => ?_) (fun z44 x43 h => ?_)
          ·refine sr (mq ?_);refine ka (o_len_own rfl rfl U24) ?_;refine JO.mc rfl ?_;refine nt (JC.block (JC.loopB (Z := Unit) (α := (List dDresser) × Int) (fun z46 y45 => [(1, Ri a1), (16, .eq z32), (17, I x36), (19, .at tquick x35), (20, .eq v42), (86, .eq z3), (87, I (x2.length : Int)), (88, I y31.2.2), (109, I (r41.length : Int)), (110, I y45.2)]) (fun z46 y45 => [.sl z32 3 (.int .i64) y31.1, .sl v42 38 tDresser y45.1, .sl z3 83 (.ptr tquick) x2]) (chg_Through_l5 k x36 r41) k () (r41, (0 : Int)) (fun _ => rfl) h (SE.fin [1, 0, 2] ⟨rfl, rfl, rfl, rfl, rfl, rfl, rfl, rfl, rfl, rfl, trivial⟩ rfl) (fun n z46 y45 h => ?_)));unfold chg_Through_l5 at h;refine sr (jb (o_lss rfl) ?_);refine nt (JC.seq (ci h (fun h => ?_) (fun h => ?_)))
           ·refine sk (JC.seq (JC.block (sr (mq ?_))));refine aq (nt (JC.region ?_));iterate 4 refine mq ?_
            obtain ⟨x47, ex47, h⟩ := b_bind h;refine fr 1 ?_;refine kb (o_index_own (t := tDresser) rfl U24 sz38 ex47) ?_;refine ka (o_field_el rfl fo38_2 (geti_ne ex47)) ?_;refine ka (o_load_el (i := Int.toNat y45.2) (off := 2) rfl sz3 (fun _ => rfl) rfl (geti_some ex47).2.2 rfl) ?_;refine mq ?_;obtain ⟨x48, ex48, h⟩ := b_bind h;refine jb (o_sub rfl ex48) ?_;refine jb (o_max rfl rfl) ?_;obtain ⟨x49, ex49, h⟩ := b_bind h;refine kb (o_index_own (t := tDresser) rfl U24 sz38 ex49) ?_;refine ka (o_field_el rfl fo38_2 (geti_ne ex49)) ?_;refine JO.n11 rfl rfl (o_store_el (i := Int.toNat y45.2) (off := 2) rfl sz3 rfl (geti_some ex49).2.2 .int rfl (.agg (.right (.right .whole rfl) rfl))) ⟨rfl, rfl, trivial⟩ ?_;refine JO.nil (JN.blk_n (tn (JC.region ?_)));obtain ⟨x50, ex50, h⟩ := b_bind h;refine jb (o_add rfl ex50) ?_;refine mq (nl ?_);exact jz ((), (List.set y45.1 (Int.toNat y45.2) (x49.1, x49.2.1, imax (0 : Int) x48), x50)) h [1, 0, 2]
           ·refine xa ?_;exact jz ((), y45.1) h [0, 1, 2]
          ·refine sr ?_;iterate 2 refine mq ?_
           obtain ⟨r51, er51, h⟩ := b_bind h;refine fr 1 ?_;refine kb (OpT.borrow (N := [(.tmp 127, .at tquick x35), (.tmp 128, .eq v42)]) (o_call [.tmp 127, .tmp 128] rfl rfl en56 rfl (chg_quick_fewestF_ok k x35 x43 r51 er51)) (fun _ _ _ hv hn => ⟨hn.1, (lend hn.2.1 hv), trivial⟩) (fun _ => ⟨rfl, flat_nil⟩)) ?_;refine mq ?_;refine xr ?_;refine xr ?_;refine aq ?_;refine aq (nt (JC.seq (sr ?_)));refine mq ?_;refine ja (o_not rfl) ?_;refine nt (cw h (fun h => ?_) (fun h => ?_))
           ·refine sr (cq ?_);refine cq (nt (rx (br (JN.blk_r (JN.then_r ?_)))));refine JN.se (SE.ent (t := (.slice (.int .i64))) (x := []) 4 rfl .nil rfl rfl) ?_;obtain rfl := hR _ h;exact rb
           ·refine sk (sr ?_);iterate 2 refine mq ?_
            obtain ⟨x52, ex52, h⟩ := b_bind h;refine jb (o_add rfl ex52) ?_;refine aq (nt (JC.region ?_));iterate 2 refine mq ?_
            refine ja (o_litB (t := (.int .i64)) [(.tmp 138, _)] [x52] rfl rfl sl22 (.cons rfl .int .nil) rfl rfl) ?_;obtain ⟨u53, eu53, h⟩ := b_bind h;refine fr 1 ?_;refine JO.s1x rfl rfl rfl (o_append rfl rfl sl22 (chkP_some eu53)) ⟨rfl, rfl, trivial⟩ fun v54 => ?_;refine aq (JO.nil (bn ?_));exact jz (v54, (y31.1 ++ [x52], x52)) h [0, 2]
        ·refine JC.region ?_;obtain ⟨x55, ex55, h⟩ := b_bind h;refine jb (o_add rfl ex55) ?_;refine mq (nl ?_);exact jz (z34, (x33.1, x33.2, x55)) h [0, 1]
       ·refine xa ?_;exact jz (z32, y31.1) h [0]
      ·refine sr (mq ?_);refine aq ?_;refine cq (nt (JC.ret ?_));refine JN.se (SE.frz [4, 16, 142] ⟨rfl, rfl, rfl, trivial⟩) ?_;cases h;exact rb


def law_dressed (k : Nat) : Option Bool :=
 (law_quick k (0 : Int) (0 : Int) [(0 : Int), (2 : Int)]).bind fun r1 =>
 (chg_Fewest k r1).bind fun r3 =>
 (law_first k).bind fun r4 =>
 (chg_Begins k r1 r4).bind fun r5 =>
 (law_quick k (3 : Int) (0 : Int) [(0 : Int), (2 : Int)]).bind fun r6 =>
 (law_first k).bind fun r7 =>
 (chg_Late k r6 r7).bind fun r8 =>
 (chg_Spare k r1 (1 : Int)).bind fun r9 =>
 (law_first k).bind fun r10 =>
 (chg_Wearing k r1 r10 (4 : Int)).bind fun r11 =>
 (law_quick k (0 : Int) (3 : Int) [(0 : Int), (2 : Int)]).bind fun r12 =>
 (law_quick k (0 : Int) (3 : Int) [(0 : Int), (2 : Int)]).bind fun r13 =>
 (chg_Through k [r12, r13] [(0 : Int)]).bind fun r14 =>
 (law_quick k (0 : Int) (0 : Int) [(0 : Int)]).bind fun r15 =>
 (chg_Learn k r15).bind fun r16 =>
 ((if r3.2.2 = (0 : Int) then (if r5.2 = (0 : Int) then (if r8.2.2 = (0 : Int) then (if r9.2 = (0 : Int) then (if r11.2 = (0 : Int) then (if r14.2 = (0 : Int) then (if r16.2.2.2 = (0 : Int) then (if r3.2.1 = (4 : Int) then (if r8.1 = (2 : Int) then (if r8.2.1 = (3 : Int) then (if r9.1 = (3 : Int) then (if r16.1 = (1 : Int) then (if r16.2.1 = (2 : Int) then (if r16.2.2.1 = (4 : Int) then ((law_first k).bind fun r19 =>
 (kit_SameSteps k r3.1 r19).bind fun r20 =>
 if r20 = true then ((kit_SameInts k r5.1 [(0 : Int), (1 : Int), (3 : Int), (1 : Int)]).bind fun r21 =>
 if r21 = true then ((kit_SameInts k r11.1 [(1 : Int), (2 : Int)]).bind fun r22 =>
 if r22 = true then ((kit_SameInts k r14.1 [(7 : Int), (11 : Int)]).bind fun r23 =>
 some r23) else (some false)) else (some false)) else (some false)) else (some false)) else (some false)) else (some false)) else (some false)) else (some false)) else (some false)) else (some false)) else (some false)) else (some false)) else (some false)) else (some false)) else (some false)) else (some false)) else (some false)) : Option (Bool)).bind fun x17 =>
 some x17

theorem law_dressed_ok (k : Nat) (r : Bool) (h : law_dressed k = some r) :
 Ctr Try.prog 10 [] [] (fun _ : Unit => (resA [.eq (.bool r)], [])) := by
 unfold law_dressed at h
 replace h := b_top h
 refine Ctr.of 145 Try.func10 rfl Try.ntmps10 rfl fun S w0 => ?_
 refine sr ?_
 refine cq ?_
 refine nt ?_
 refine sr ?_
 refine jb (o_litB (t := (.int .i64)) [(.const (.int .i64 (0)), _), (.const (.int .i64 (2)), _)] [(0 : Int), (2 : Int)] rfl rfl sl22 (.cons rfl .int (.cons rfl .int .nil)) rfl rfl) ?_
 obtain ⟨r1, er1, h⟩ := b_bind h
 have cr1 := law_quick_ok k (0 : Int) (0 : Int) [(0 : Int), (2 : Int)] r1 er1
 refine jc (o_call [.const (.int .i64 (0)), .const (.int .i64 (0)), .tmp 20] rfl rfl en11 rfl cr1) ?_
 refine JO.s01 rfl rfl rfl (o_alloc rfl za26 al26) trivial fun b2 => ?_
 refine JO.n11 rfl rfl (o_store rfl sz26 rfl rfl rfl) ⟨rfl, rfl, trivial⟩ ?_
 refine nt ?_
 refine sr ?_
 refine lo sz26 ?_
 obtain ⟨r3, er3, h⟩ := b_bind h
 have cr3 := chg_Fewest_ok k r1 r3 er3
 refine ja (o_call [.tmp 23] rfl rfl en8 rfl cr3) ?_
 refine mq ?_
 refine xr ?_
 refine xr ?_
 refine xr ?_
 refine aq ?_
 refine aq ?_
 refine aq ?_
 refine nt ?_
 refine JC.seq ?_
 refine JC.drawN ?_
 refine ea 0 (o_load_obj rfl sz26 (nfn) rfl) ?_
 obtain ⟨r4, er4, h⟩ := b_bind h
 have cr4 := law_first_ok k  r4 er4
 refine DN.s00 rfl rfl rfl (o_call [] rfl rfl en16 rfl cr4) trivial ?_
 obtain ⟨r5, er5, h⟩ := b_bind h
 have cr5 := chg_Begins_ok k r1 r4 r5 er5
 refine db (o_call [.tmp 29, .tmp 30] rfl rfl en19 rfl cr5) ?_
 refine dm ?_
 refine da (o_extract rfl rfl) ?_
 refine da (o_extract rfl rfl) ?_
 refine da (o_assign rfl) ?_
 refine df mixed ?_
 refine aq ?_
 refine nt ?_
 refine sr ?_
 refine jb (o_litB (t := (.int .i64)) [(.const (.int .i64 (0)), _), (.const (.int .i64 (2)), _)] [(0 : Int), (2 : Int)] rfl rfl sl22 (.cons rfl .int (.cons rfl .int .nil)) rfl rfl) ?_
 obtain ⟨r6, er6, h⟩ := b_bind h
 have cr6 := law_quick_ok k (3 : Int) (0 : Int) [(0 : Int), (2 : Int)] r6 er6
 refine jc (o_call [.const (.int .i64 (3)), .const (.int .i64 (0)), .tmp 35] rfl rfl en11 rfl cr6) ?_
 obtain ⟨r7, er7, h⟩ := b_bind h
 have cr7 := law_first_ok k  r7 er7
 refine JO.s rfl (o_call [] rfl rfl en16 rfl cr7) trivial ?_
 obtain ⟨r8, er8, h⟩ := b_bind h
 have cr8 := chg_Late_ok k r6 r7 r8 er8
 refine jb (o_call [.tmp 36, .tmp 37] rfl rfl en20 rfl cr8) ?_
 refine mq ?_
 refine xr ?_
 refine xr ?_
 refine xr ?_
 refine aq ?_
 refine aq ?_
 refine aq ?_
 refine nt ?_
 refine sr ?_
 refine lo sz26 ?_
 obtain ⟨r9, er9, h⟩ := b_bind h
 have cr9 := chg_Spare_ok k r1 (1 : Int) r9 er9
 refine jb (o_call [.tmp 43, .const (.int .i64 (1))] rfl rfl en24 rfl cr9) ?_
 refine mq ?_
 refine xr ?_
 refine xr ?_
 refine aq ?_
 refine aq ?_
 refine nt ?_
 refine JC.seq ?_
 refine JC.drawN ?_
 refine ea 0 (o_load_obj rfl sz26 (nfn) rfl) ?_
 obtain ⟨r10, er10, h⟩ := b_bind h
 have cr10 := law_first_ok k  r10 er10
 refine DN.s00 rfl rfl rfl (o_call [] rfl rfl en16 rfl cr10) trivial ?_
 obtain ⟨r11, er11, h⟩ := b_bind h
 have cr11 := chg_Wearing_ok k r1 r10 (4 : Int) r11 er11
 refine dc (o_call [.tmp 48, .tmp 49, .const (.int .i64 (4))] rfl rfl en27 rfl cr11) ?_
 refine dm ?_
 refine da (o_extract rfl rfl) ?_
 refine da (o_extract rfl rfl) ?_
 refine da (o_assign rfl) ?_
 refine df mixed ?_
 refine aq ?_
 refine nt ?_
 refine sr ?_
 refine jb (o_litB (t := (.int .i64)) [(.const (.int .i64 (0)), _), (.const (.int .i64 (2)), _)] [(0 : Int), (2 : Int)] rfl rfl sl22 (.cons rfl .int (.cons rfl .int .nil)) rfl rfl) ?_
 obtain ⟨r12, er12, h⟩ := b_bind h
 have cr12 := law_quick_ok k (0 : Int) (3 : Int) [(0 : Int), (2 : Int)] r12 er12
 refine jc (o_call [.const (.int .i64 (0)), .const (.int .i64 (3)), .tmp 54] rfl rfl en11 rfl cr12) ?_
 refine jb (o_litB (t := (.int .i64)) [(.const (.int .i64 (0)), _), (.const (.int .i64 (2)), _)] [(0 : Int), (2 : Int)] rfl rfl sl22 (.cons rfl .int (.cons rfl .int .nil)) rfl rfl) ?_
 obtain ⟨r13, er13, h⟩ := b_bind h
 have cr13 := law_quick_ok k (0 : Int) (3 : Int) [(0 : Int), (2 : Int)] r13 er13
 refine jc (o_call [.const (.int .i64 (0)), .const (.int .i64 (3)), .tmp 56] rfl rfl en11 rfl cr13) ?_
 refine jb (o_litB (t := tChange) [(.tmp 55, _), (.tmp 57, _)] [r12, r13] rfl rfl sl74 (.cons rfl .rep (.cons rfl .rep .nil)) rfl rfl) ?_
 refine ja (o_litB (t := (.int .i64)) [(.const (.int .i64 (0)), _)] [(0 : Int)] rfl rfl sl22 (.cons rfl .int .nil) rfl rfl) ?_
 obtain ⟨r14, er14, h⟩ := b_bind h
 have cr14 := chg_Through_ok k [r12, r13] [(0 : Int)] r14 er14
 refine jb (o_call [.tmp 58, .tmp 59] rfl rfl en28 rfl cr14) ?_
 refine mq ?_
 refine xr ?_
 refine xr ?_
 refine aq ?_
 refine aq ?_
 refine nt ?_
 refine sr ?_
 refine ja (o_litB (t := (.int .i64)) [(.const (.int .i64 (0)), _)] [(0 : Int)] rfl rfl sl22 (.cons rfl .int .nil) rfl rfl) ?_
 obtain ⟨r15, er15, h⟩ := b_bind h
 have cr15 := law_quick_ok k (0 : Int) (0 : Int) [(0 : Int)] r15 er15
 refine jc (o_call [.const (.int .i64 (0)), .const (.int .i64 (0)), .tmp 64] rfl rfl en11 rfl cr15) ?_
 obtain ⟨r16, er16, h⟩ := b_bind h
 have cr16 := chg_Learn_ok k r15 r16 er16
 refine ja (o_call [.tmp 65] rfl rfl en25 rfl cr16) ?_
 refine mq ?_
 refine xr ?_
 refine xr ?_
 refine xr ?_
 refine xr ?_
 refine aq ?_
 refine aq ?_
 refine aq ?_
 refine aq ?_
 refine nt ?_
 refine JC.cutB (Z := Unit) (α := Bool) (fun z18 x17 => [(0, .eq (.bool x17))]) (fun z18 x17 => []) h (fun K h => ?_) (fun z18 x17 h => ?_)
 ·
  refine JC.region (mq ?_);refine jb (o_eql rfl) ?_;refine mq ?_;refine JO.bool (s := 73) rfl (fun hb => ?_) (fun hb => ?_)
  ·replace h := b_if (d_t hb) h;refine gm ?_;refine gb (o_eql rfl) ?_;refine pt ?_;refine mq ?_;refine JO.bool (s := 77) rfl (fun hb => ?_) (fun hb => ?_)
   ·replace h := b_if (d_t hb) h;refine gm ?_;refine gb (o_eql rfl) ?_;refine pt ?_;refine mq ?_;refine JO.bool (s := 81) rfl (fun hb => ?_) (fun hb => ?_)
    ·replace h := b_if (d_t hb) h;refine gm ?_;refine gb (o_eql rfl) ?_;refine pt ?_;refine mq ?_;refine JO.bool (s := 85) rfl (fun hb => ?_) (fun hb => ?_)
     ·replace h := b_if (d_t hb) h;refine gm ?_;refine gb (o_eql rfl) ?_;refine pt ?_;refine mq ?_;refine JO.bool (s := 89) rfl (fun hb => ?_) (fun hb => ?_)
      ·replace h := b_if (d_t hb) h;refine gm ?_;refine gb (o_eql rfl) ?_;refine pt ?_;refine mq ?_;refine JO.bool (s := 93) rfl (fun hb => ?_) (fun hb => ?_)
       ·replace h := b_if (d_t hb) h;refine gm ?_;refine gb (o_eql rfl) ?_;refine pt ?_;refine mq ?_;refine JO.bool (s := 97) rfl (fun hb => ?_) (fun hb => ?_)
        ·replace h := b_if (d_t hb) h;refine gm ?_;refine gb (o_eql rfl) ?_;refine pt ?_;refine mq ?_;refine JO.bool (s := 101) rfl (fun hb => ?_) (fun hb => ?_)
         ·replace h := b_if (d_t hb) h;refine gm ?_;refine gb (o_eql rfl) ?_;refine pt ?_;refine mq ?_;refine JO.bool (s := 105) rfl (fun hb => ?_) (fun hb => ?_)
          ·replace h := b_if (d_t hb) h;refine gm ?_;refine gb (o_eql rfl) ?_;refine pt ?_;refine mq ?_;refine JO.bool (s := 109) rfl (fun hb => ?_) (fun hb => ?_)
           ·replace h := b_if (d_t hb) h;refine gm ?_;refine gb (o_eql rfl) ?_;refine pt ?_;refine mq ?_;refine JO.bool (s := 113) rfl (fun hb => ?_) (fun hb => ?_)
            ·replace h := b_if (d_t hb) h;refine gm ?_;refine gb (o_eql rfl) ?_;refine pt ?_;refine mq ?_;refine JO.bool (s := 117) rfl (fun hb => ?_) (fun hb => ?_)
             ·replace h := b_if (d_t hb) h;refine gm ?_;refine gb (o_eql rfl) ?_;refine pt ?_;refine mq ?_;refine JO.bool (s := 121) rfl (fun hb => ?_) (fun hb => ?_)
              ·replace h := b_if (d_t hb) h;refine gm ?_;refine gb (o_eql rfl) ?_;refine pt ?_;refine mq ?_;refine JO.bool (s := 125) rfl (fun hb => ?_) (fun hb => ?_)
               ·replace h := b_if (d_t hb) h;refine gm ?_;obtain ⟨r19, er19, h⟩ := b_bind h;refine JO.g00 rfl rfl rfl rfl rfl rfl (o_call [] rfl rfl en16 rfl (law_first_ok k  r19 er19)) trivial ?_;obtain ⟨r20, er20, h⟩ := b_bind h;refine gb (o_call [.tmp 126, .tmp 127] rfl rfl en22 rfl (kit_SameSteps_ok k r3.1 r19 r20 er20)) ?_;refine pt ?_;refine mq ?_;refine JO.bool (s := 130) rfl (fun hb => ?_) (fun hb => ?_)
                ·replace h := b_if (v_t hb) h;refine gm ?_;refine JO.g00 rfl rfl rfl rfl rfl rfl (o_litB (t := (.int .i64)) [(.const (.int .i64 (0)), _), (.const (.int .i64 (1)), _), (.const (.int .i64 (3)), _), (.const (.int .i64 (1)), _)] [(0 : Int), (1 : Int), (3 : Int), (1 : Int)] rfl rfl sl22 (.cons rfl .int (.cons rfl .int (.cons rfl .int (.cons rfl .int .nil)))) rfl rfl) ⟨rfl, rfl, rfl, rfl, trivial⟩ ?_;obtain ⟨r21, er21, h⟩ := b_bind h;refine gb (o_call [.tmp 131, .tmp 132] rfl rfl en26 rfl (kit_SameInts_ok k r5.1 [(0 : Int), (1 : Int), (3 : Int), (1 : Int)] r21 er21)) ?_;refine pt ?_;refine mq ?_;refine JO.bool (s := 135) rfl (fun hb => ?_) (fun hb => ?_)
                 ·replace h := b_if (v_t hb) h;refine gm ?_;refine gb (o_litB (t := (.int .i64)) [(.const (.int .i64 (1)), _), (.const (.int .i64 (2)), _)] [(1 : Int), (2 : Int)] rfl rfl sl22 (.cons rfl .int (.cons rfl .int .nil)) rfl rfl) ?_;obtain ⟨r22, er22, h⟩ := b_bind h;refine gb (o_call [.tmp 136, .tmp 137] rfl rfl en26 rfl (kit_SameInts_ok k r11.1 [(1 : Int), (2 : Int)] r22 er22)) ?_;refine pt ?_;refine mq ?_;refine JO.bool (s := 140) rfl (fun hb => ?_) (fun hb => ?_)
                  ·replace h := b_if (v_t hb) h;refine gm ?_;refine gb (o_litB (t := (.int .i64)) [(.const (.int .i64 (7)), _), (.const (.int .i64 (11)), _)] [(7 : Int), (11 : Int)] rfl rfl sl22 (.cons rfl .int (.cons rfl .int .nil)) rfl rfl) ?_;obtain ⟨r23, er23, h⟩ := b_bind h;refine gb (o_call [.tmp 141, .tmp 142] rfl rfl en26 rfl (kit_SameInts_ok k r14.1 [(7 : Int), (11 : Int)] r23 er23)) ?_;refine pt ?_;refine aq (nl ?_);exact jz ((), r23) h []
                  ·replace h := b_ifn (v_f hb) h;iterate 3 refine gn ?_
                   refine pf ?_;refine aq (nl ?_);exact jz ((), false) h []
                 ·replace h := b_ifn (v_f hb) h;iterate 3 refine gn ?_
                  refine pf ?_;refine mq ?_;iterate 3 refine gn ?_
                  refine pf ?_;refine aq (nl ?_);exact jz ((), false) h []
                ·replace h := b_ifn (v_f hb) h;iterate 3 refine gn ?_
                 refine pf ?_;refine mq ?_;iterate 3 refine gn ?_
                 refine pf ?_;refine mq ?_;iterate 3 refine gn ?_
                 refine pf ?_;refine aq (nl ?_);exact jz ((), false) h []
               ·replace h := b_ifn (d_f hb) h;iterate 3 refine gn ?_
                refine pf ?_;refine mq ?_;iterate 3 refine gn ?_
                refine pf ?_;refine mq ?_;iterate 3 refine gn ?_
                refine pf ?_;refine mq ?_;iterate 3 refine gn ?_
                refine pf ?_;refine aq (nl ?_);exact jz ((), false) h []
              ·replace h := b_ifn (d_f hb) h;iterate 2 refine gn ?_
               refine pf ?_;refine mq ?_;iterate 3 refine gn ?_
               refine pf ?_;refine mq ?_;iterate 3 refine gn ?_
               refine pf ?_;refine mq ?_;iterate 3 refine gn ?_
               refine pf ?_;refine mq ?_;iterate 3 refine gn ?_
               refine pf ?_;refine aq (nl ?_);exact jz ((), false) h []
             ·replace h := b_ifn (d_f hb) h;iterate 2 refine gn ?_
              refine pf ?_;refine mq ?_;iterate 2 refine gn ?_
              refine pf ?_;refine mq ?_;iterate 3 refine gn ?_
              refine pf ?_;refine mq ?_;iterate 3 refine gn ?_
              refine pf ?_;refine mq ?_;iterate 3 refine gn ?_
              refine pf ?_;refine mq ?_;iterate 3 refine gn ?_
              refine pf ?_;refine aq (nl ?_);exact jz ((), false) h []
            ·replace h := b_ifn (d_f hb) h;iterate 2 refine gn ?_
             refine pf ?_;refine mq ?_;iterate 2 refine gn ?_
             refine pf ?_;refine mq ?_;iterate 2 refine gn ?_
             refine pf ?_;refine mq ?_;iterate 3 refine gn ?_
             refine pf ?_;refine mq ?_;iterate 3 refine gn ?_
             refine pf ?_;refine mq ?_;iterate 3 refine gn ?_
             refine pf ?_;refine mq ?_;iterate 3 refine gn ?_
             refine pf ?_;refine aq (nl ?_);exact jz ((), false) h []
           ·replace h := b_ifn (d_f hb) h;iterate 2 refine gn ?_
            refine pf ?_;refine mq ?_;iterate 2 refine gn ?_
            refine pf ?_;refine mq ?_;iterate 2 refine gn ?_
            refine pf ?_;refine mq ?_;iterate 2 refine gn ?_
            refine pf ?_;refine mq ?_;iterate 3 refine gn ?_
            refine pf ?_;refine mq ?_;iterate 3 refine gn ?_
            refine pf ?_;refine mq ?_;iterate 3 refine gn ?_
            refine pf ?_;refine mq ?_;iterate 3 refine gn ?_
            refine pf ?_;refine aq (nl ?_);exact jz ((), false) h []
          ·replace h := b_ifn (d_f hb) h;iterate 2 refine gn ?_
           refine pf ?_;refine mq ?_;iterate 2 refine gn ?_
           refine pf ?_;refine mq ?_;iterate 2 refine gn ?_
           refine pf ?_;refine mq ?_;iterate 2 refine gn ?_
           refine pf ?_;refine mq ?_;iterate 2 refine gn ?_
           refine pf ?_;refine mq ?_;iterate 3 refine gn ?_
           refine pf ?_;refine mq ?_;iterate 3 refine gn ?_
           refine pf ?_;refine mq ?_;iterate 3 refine gn ?_
           refine pf ?_;refine mq ?_;iterate 3 refine gn ?_
           refine pf ?_;refine aq (nl ?_);exact jz ((), false) h []
         ·replace h := b_ifn (d_f hb) h;iterate 2 refine gn ?_
          refine pf ?_;refine mq ?_;iterate 2 refine gn ?_
          refine pf ?_;refine mq ?_;iterate 2 refine gn ?_
          refine pf ?_;refine mq ?_;iterate 2 refine gn ?_
          refine pf ?_;refine mq ?_;iterate 2 refine gn ?_
          refine pf ?_;refine mq ?_;iterate 2 refine gn ?_
          refine pf ?_;refine mq ?_;iterate 3 refine gn ?_
          refine pf ?_;refine mq ?_;iterate 3 refine gn ?_
          refine pf ?_;refine mq ?_;iterate 3 refine gn ?_
          refine pf ?_;refine mq ?_;iterate 3 refine gn ?_
          refine pf ?_;refine aq (nl ?_);exact jz ((), false) h []
        ·replace h := b_ifn (d_f hb) h;iterate 2 refine gn ?_
         refine pf ?_;refine mq ?_;iterate 2 refine gn ?_
         refine pf ?_;refine mq ?_;iterate 2 refine gn ?_
         refine pf ?_;refine mq ?_;iterate 2 refine gn ?_
         refine pf ?_;refine mq ?_;iterate 2 refine gn ?_
         refine pf ?_;refine mq ?_;iterate 2 refine gn ?_
         refine pf ?_;refine mq ?_;iterate 2 refine gn ?_
         refine pf ?_;refine mq ?_;iterate 3 refine gn ?_
         refine pf ?_;refine mq ?_;iterate 3 refine gn ?_
         refine pf ?_;refine mq ?_;iterate 3 refine gn ?_
         refine pf ?_;refine mq ?_;iterate 3 refine gn ?_
         refine pf ?_;refine aq (nl ?_);exact jz ((), false) h []
       ·replace h := b_ifn (d_f hb) h;iterate 2 refine gn ?_
        refine pf ?_;refine mq ?_;iterate 2 refine gn ?_
        refine pf ?_;refine mq ?_;iterate 2 refine gn ?_
        refine pf ?_;refine mq ?_;iterate 2 refine gn ?_
        refine pf ?_;refine mq ?_;iterate 2 refine gn ?_
        refine pf ?_;refine mq ?_;iterate 2 refine gn ?_
        refine pf ?_;refine mq ?_;iterate 2 refine gn ?_
        refine pf ?_;refine mq ?_;iterate 2 refine gn ?_
        refine pf ?_;refine mq ?_;iterate 3 refine gn ?_
        refine pf ?_;refine mq ?_;iterate 3 refine gn ?_
        refine pf ?_;refine mq ?_;iterate 3 refine gn ?_
        refine pf ?_;refine mq ?_;iterate 3 refine gn ?_
        refine pf ?_;refine aq (nl ?_);exact jz ((), false) h []
      ·replace h := b_ifn (d_f hb) h;iterate 2 refine gn ?_
       refine pf ?_;refine mq ?_;iterate 2 refine gn ?_
       refine pf ?_;refine mq ?_;iterate 2 refine gn ?_
       refine pf ?_;refine mq ?_;iterate 2 refine gn ?_
       refine pf ?_;refine mq ?_;iterate 2 refine gn ?_
       refine pf ?_;refine mq ?_;iterate 2 refine gn ?_
       refine pf ?_;refine mq ?_;iterate 2 refine gn ?_
       refine pf ?_;refine mq ?_;iterate 2 refine gn ?_
       refine pf ?_;refine mq ?_;iterate 2 refine gn ?_
       refine pf ?_;refine mq ?_;iterate 3 refine gn ?_
       refine pf ?_;refine mq ?_;iterate 3 refine gn ?_
       refine pf ?_;refine mq ?_;iterate 3 refine gn ?_
       refine pf ?_;refine mq ?_;iterate 3 refine gn ?_
       refine pf ?_;refine aq (nl ?_);exact jz ((), false) h []
     ·replace h := b_ifn (d_f hb) h;iterate 2 refine gn ?_
      refine pf ?_;refine mq ?_;iterate 2 refine gn ?_
      refine pf ?_;refine mq ?_;iterate 2 refine gn ?_
      refine pf ?_;refine mq ?_;iterate 2 refine gn ?_
      refine pf ?_;refine mq ?_;iterate 2 refine gn ?_
      refine pf ?_;refine mq ?_;iterate 2 refine gn ?_
      refine pf ?_;refine mq ?_;iterate 2 refine gn ?_
      refine pf ?_;refine mq ?_;iterate 2 refine gn ?_
      refine pf ?_;refine mq ?_;iterate 2 refine gn ?_
      refine pf ?_;refine mq ?_;iterate 2 refine gn ?_
      refine pf ?_;refine mq ?_;iterate 3 refine gn ?_
      refine pf ?_;refine mq ?_;iterate 3 refine gn ?_
      refine pf ?_;refine mq ?_;iterate 3 refine gn ?_
      refine pf ?_;refine mq ?_;iterate 3 refine gn ?_
      refine pf ?_;refine aq (nl ?_);exact jz ((), false) h []
    ·replace h := b_ifn (d_f hb) h;iterate 2 refine gn ?_
     refine pf ?_;refine mq ?_;iterate 2 refine gn ?_
     refine pf ?_;refine mq ?_;iterate 2 refine gn ?_
     refine pf ?_;refine mq ?_;iterate 2 refine gn ?_
     refine pf ?_;refine mq ?_;iterate 2 refine gn ?_
     refine pf ?_;refine mq ?_;iterate 2 refine gn ?_
     refine pf ?_;refine mq ?_;iterate 2 refine gn ?_
     refine pf ?_;refine mq ?_;iterate 2 refine gn ?_
     refine pf ?_;refine mq ?_;iterate 2 refine gn ?_
     refine pf ?_;refine mq ?_;iterate 2 refine gn ?_
     refine pf ?_;refine mq ?_;iterate 2 refine gn ?_
     refine pf ?_;refine mq ?_;iterate 3 refine gn ?_
     refine pf ?_;refine mq ?_;iterate 3 refine gn ?_
     refine pf ?_;refine mq ?_;iterate 3 refine gn ?_
     refine pf ?_;refine mq ?_;iterate 3 refine gn ?_
     refine pf ?_;refine aq (nl ?_);exact jz ((), false) h []
   ·replace h := b_ifn (d_f hb) h;iterate 2 refine gn ?_
    refine pf ?_;refine mq ?_;iterate 2 refine gn ?_
    refine pf ?_;refine mq ?_;iterate 2 refine gn ?_
    refine pf ?_;refine mq ?_;iterate 2 refine gn ?_
    refine pf ?_;refine mq ?_;iterate 2 refine gn ?_
    refine pf ?_;refine mq ?_;iterate 2 refine gn ?_
    refine pf ?_;refine mq ?_;iterate 2 refine gn ?_
    refine pf ?_;refine mq ?_;iterate 2 refine gn ?_
    refine pf ?_;refine mq ?_;iterate 2 refine gn ?_
    refine pf ?_;refine mq ?_;iterate 2 refine gn ?_
    refine pf ?_;refine mq ?_;iterate 2 refine gn ?_
    refine pf ?_;refine mq ?_;iterate 2 refine gn ?_
    refine pf ?_;refine mq ?_;iterate 3 refine gn ?_
    refine pf ?_;refine mq ?_;iterate 3 refine gn ?_
    refine pf ?_;refine mq ?_;iterate 3 refine gn ?_
    refine pf ?_;refine mq ?_;iterate 3 refine gn ?_
    refine pf ?_;refine aq (nl ?_);exact jz ((), false) h []
  ·replace h := b_ifn (d_f hb) h;iterate 2 refine gn ?_
   refine pf ?_;refine mq ?_;iterate 2 refine gn ?_
   refine pf ?_;refine mq ?_;iterate 2 refine gn ?_
   refine pf ?_;refine mq ?_;iterate 2 refine gn ?_
   refine pf ?_;refine mq ?_;iterate 2 refine gn ?_
   refine pf ?_;refine mq ?_;iterate 2 refine gn ?_
   refine pf ?_;refine mq ?_;iterate 2 refine gn ?_
   refine pf ?_;refine mq ?_;iterate 2 refine gn ?_
   refine pf ?_;refine mq ?_;iterate 2 refine gn ?_
   refine pf ?_;refine mq ?_;iterate 2 refine gn ?_
   refine pf ?_;refine mq ?_;iterate 2 refine gn ?_
   refine pf ?_;refine mq ?_;iterate 2 refine gn ?_
   refine pf ?_;refine mq ?_;iterate 2 refine gn ?_
   refine pf ?_;refine mq ?_;iterate 3 refine gn ?_
   refine pf ?_;refine mq ?_;iterate 3 refine gn ?_
   refine pf ?_;refine mq ?_;iterate 3 refine gn ?_
   refine pf ?_;refine mq ?_;iterate 3 refine gn ?_
   refine pf ?_;refine aq (nl ?_);exact jz ((), false) h []
 ·
  refine JC.ret ?_;cases h;exact ra


end Go.Proofs.Ytopgphikdglphaa
