/- The program's functions, part 3: what each computes, and that the code computes it. Printed by a program of this proof's own. -/
import Derived.Test.YtfhdclhbdmhnmaaP2
set_option linter.unusedVariables false
set_option maxRecDepth 4000
namespace Go.Proofs.Ytfhdclhbdmhnmaa
open K Go Go.Proofs
def law_dressed (k : Nat) : Option Bool :=
 (law_quick k (0 : Int) (0 : Int) [(0 : Int), (2 : Int)]).bind fun r1 =>
 (chg_Fewest k r1).bind fun r3 =>
 (law_first k).bind fun r4 =>
 (chg_Begins k r1 r4).bind fun r5 =>
 (law_quick k (3 : Int) (0 : Int) [(0 : Int), (2 : Int)]).bind fun r6 =>
 (law_first k).bind fun r7 =>
 (chg_Late k r6 r7).bind fun r8 =>
 (chg_Spare k r1 (1 : Int)).bind fun r9 =>
 (law_first k).bind fun r10 =>
 (chg_Wearing k r1 r10 (4 : Int)).bind fun r11 =>
 (law_quick k (0 : Int) (3 : Int) [(0 : Int), (2 : Int)]).bind fun r12 =>
 (law_quick k (0 : Int) (3 : Int) [(0 : Int), (2 : Int)]).bind fun r13 =>
 (chg_Through k [r12, r13] [(0 : Int)]).bind fun r14 =>
 (law_quick k (0 : Int) (0 : Int) [(0 : Int)]).bind fun r15 =>
 (chg_Learn k r15).bind fun r16 =>
 ((if r3.2.2 = (0 : Int) then (if r5.2 = (0 : Int) then (if r8.2.2 = (0 : Int) then (if r9.2 = (0 : Int) then (if r11.2 = (0 : Int) then (if r14.2 = (0 : Int) then (if r16.2.2.2 = (0 : Int) then (if r3.2.1 = (4 : Int) then (if r8.1 = (2 : Int) then (if r8.2.1 = (3 : Int) then (if r9.1 = (3 : Int) then (if r16.1 = (1 : Int) then (if r16.2.1 = (2 : Int) then (if r16.2.2.1 = (4 : Int) then ((law_first k).bind fun r19 =>
 (kit_SameSteps k r3.1 r19).bind fun r20 =>
 if r20 = true then ((kit_SameInts k r5.1 [(0 : Int), (1 : Int), (3 : Int), (1 : Int)]).bind fun r21 =>
 if r21 = true then ((kit_SameInts k r11.1 [(1 : Int), (2 : Int)]).bind fun r22 =>
 if r22 = true then ((kit_SameInts k r14.1 [(7 : Int), (11 : Int)]).bind fun r23 =>
 some r23) else (some false)) else (some false)) else (some false)) else (some false)) else (some false)) else (some false)) else (some false)) else (some false)) else (some false)) else (some false)) else (some false)) else (some false)) else (some false)) else (some false)) else (some false)) else (some false)) else (some false)) : Option (Bool)).bind fun x17 =>
 some x17

theorem law_dressed_ok (k : Nat) (r : Bool) (h : law_dressed k = some r) :
 Ctr Try.prog 22 [] [] (fun _ : Unit => (resA [.eq (.bool r)], [])) := by
 unfold law_dressed at h
 replace h := b_top h
 refine Ctr.of 145 Try.func22 rfl Try.ntmps22 rfl fun S w0 => ?_
 refine sr ?_
 refine cq ?_
 refine nt ?_
 refine sr ?_
 refine JO.s rfl (o_litB (t := (.int .i64)) [(.const (.int .i64 (0)), _), (.const (.int .i64 (2)), _)] [(0 : Int), (2 : Int)] rfl rfl sl22 (.cons rfl .int (.cons rfl .int .nil)) rfl rfl) ⟨rfl, rfl, trivial⟩ ?_
 obtain ⟨r1, er1, h⟩ := b_bind h
 have cr1 := law_quick_ok k (0 : Int) (0 : Int) [(0 : Int), (2 : Int)] r1 er1
 refine JO.s rfl (o_call [.const (.int .i64 (0)), .const (.int .i64 (0)), .tmp 20] rfl rfl en58 rfl cr1) ⟨rfl, rfl, rfl, trivial⟩ ?_
 refine JO.s01 rfl rfl rfl (o_alloc rfl za28 al28) trivial fun b2 => ?_
 refine JO.n11 rfl rfl (o_store rfl sz28 rfl rfl rfl) ⟨rfl, rfl, trivial⟩ ?_
 refine nt ?_
 refine sr ?_
 refine JO.s11 rfl rfl rfl (o_load_obj rfl sz28 (nfn) rfl) ⟨rfl, trivial⟩ ?_
 obtain ⟨r3, er3, h⟩ := b_bind h
 have cr3 := chg_Fewest_ok k r1 r3 er3
 refine JO.s rfl (o_call [.tmp 23] rfl rfl en25 rfl cr3) ⟨rfl, trivial⟩ ?_
 refine mq ?_
 refine JO.s rfl (o_extract rfl rfl) ⟨rfl, trivial⟩ ?_
 refine JO.s rfl (o_extract rfl rfl) ⟨rfl, trivial⟩ ?_
 refine JO.s rfl (o_extract rfl rfl) ⟨rfl, trivial⟩ ?_
 refine aq ?_
 refine aq ?_
 refine aq ?_
 refine nt ?_
 refine JC.seq ?_
 refine JC.drawN ?_
 refine DN.s11 0 rfl rfl rfl rfl (o_load_obj rfl sz28 (nfn) rfl) ⟨rfl, trivial⟩ ?_
 obtain ⟨r4, er4, h⟩ := b_bind h
 have cr4 := law_first_ok k  r4 er4
 refine DN.s00 rfl rfl rfl (o_call [] rfl rfl en59 rfl cr4) trivial ?_
 obtain ⟨r5, er5, h⟩ := b_bind h
 have cr5 := chg_Begins_ok k r1 r4 r5 er5
 refine DN.s00 rfl rfl rfl (o_call [.tmp 29, .tmp 30] rfl rfl en20 rfl cr5) ⟨rfl, rfl, trivial⟩ ?_
 refine dm ?_
 refine DN.s00 rfl rfl rfl (o_extract rfl rfl) ⟨rfl, trivial⟩ ?_
 refine DN.s00 rfl rfl rfl (o_extract rfl rfl) ⟨rfl, trivial⟩ ?_
 refine DN.s00 rfl rfl rfl (o_assign rfl) ⟨rfl, trivial⟩ ?_
 refine DN.fin (by kernel_rfl) mixed ?_
 refine aq ?_
 refine nt ?_
 refine sr ?_
 refine JO.s rfl (o_litB (t := (.int .i64)) [(.const (.int .i64 (0)), _), (.const (.int .i64 (2)), _)] [(0 : Int), (2 : Int)] rfl rfl sl22 (.cons rfl .int (.cons rfl .int .nil)) rfl rfl) ⟨rfl, rfl, trivial⟩ ?_
 obtain ⟨r6, er6, h⟩ := b_bind h
 have cr6 := law_quick_ok k (3 : Int) (0 : Int) [(0 : Int), (2 : Int)] r6 er6
 refine JO.s rfl (o_call [.const (.int .i64 (3)), .const (.int .i64 (0)), .tmp 35] rfl rfl en58 rfl cr6) ⟨rfl, rfl, rfl, trivial⟩ ?_
 obtain ⟨r7, er7, h⟩ := b_bind h
 have cr7 := law_first_ok k  r7 er7
 refine JO.s rfl (o_call [] rfl rfl en59 rfl cr7) trivial ?_
 obtain ⟨r8, er8, h⟩ := b_bind h
 have cr8 := chg_Late_ok k r6 r7 r8 er8
 refine JO.s rfl (o_call [.tmp 36, .tmp 37] rfl rfl en21 rfl cr8) ⟨rfl, rfl, trivial⟩ ?_
 refine mq ?_
 refine JO.s rfl (o_extract rfl rfl) ⟨rfl, trivial⟩ ?_
 refine JO.s rfl (o_extract rfl rfl) ⟨rfl, trivial⟩ ?_
 refine JO.s rfl (o_extract rfl rfl) ⟨rfl, trivial⟩ ?_
 refine aq ?_
 refine aq ?_
 refine aq ?_
 refine nt ?_
 refine sr ?_
 refine JO.s11 rfl rfl rfl (o_load_obj rfl sz28 (nfn) rfl) ⟨rfl, trivial⟩ ?_
 obtain ⟨r9, er9, h⟩ := b_bind h
 have cr9 := chg_Spare_ok k r1 (1 : Int) r9 er9
 refine JO.s rfl (o_call [.tmp 43, .const (.int .i64 (1))] rfl rfl en26 rfl cr9) ⟨rfl, rfl, trivial⟩ ?_
 refine mq ?_
 refine JO.s rfl (o_extract rfl rfl) ⟨rfl, trivial⟩ ?_
 refine JO.s rfl (o_extract rfl rfl) ⟨rfl, trivial⟩ ?_
 refine aq ?_
 refine aq ?_
 refine nt ?_
 refine JC.seq ?_
 refine JC.drawN ?_
 refine DN.s11 0 rfl rfl rfl rfl (o_load_obj rfl sz28 (nfn) rfl) ⟨rfl, trivial⟩ ?_
 obtain ⟨r10, er10, h⟩ := b_bind h
 have cr10 := law_first_ok k  r10 er10
 refine DN.s00 rfl rfl rfl (o_call [] rfl rfl en59 rfl cr10) trivial ?_
 obtain ⟨r11, er11, h⟩ := b_bind h
 have cr11 := chg_Wearing_ok k r1 r10 (4 : Int) r11 er11
 refine DN.s00 rfl rfl rfl (o_call [.tmp 48, .tmp 49, .const (.int .i64 (4))] rfl rfl en39 rfl cr11) ⟨rfl, rfl, rfl, trivial⟩ ?_
 refine dm ?_
 refine DN.s00 rfl rfl rfl (o_extract rfl rfl) ⟨rfl, trivial⟩ ?_
 refine DN.s00 rfl rfl rfl (o_extract rfl rfl) ⟨rfl, trivial⟩ ?_
 refine DN.s00 rfl rfl rfl (o_assign rfl) ⟨rfl, trivial⟩ ?_
 refine DN.fin (by kernel_rfl) mixed ?_
 refine aq ?_
 refine nt ?_
 refine sr ?_
 refine JO.s rfl (o_litB (t := (.int .i64)) [(.const (.int .i64 (0)), _), (.const (.int .i64 (2)), _)] [(0 : Int), (2 : Int)] rfl rfl sl22 (.cons rfl .int (.cons rfl .int .nil)) rfl rfl) ⟨rfl, rfl, trivial⟩ ?_
 obtain ⟨r12, er12, h⟩ := b_bind h
 have cr12 := law_quick_ok k (0 : Int) (3 : Int) [(0 : Int), (2 : Int)] r12 er12
 refine JO.s rfl (o_call [.const (.int .i64 (0)), .const (.int .i64 (3)), .tmp 54] rfl rfl en58 rfl cr12) ⟨rfl, rfl, rfl, trivial⟩ ?_
 refine JO.s rfl (o_litB (t := (.int .i64)) [(.const (.int .i64 (0)), _), (.const (.int .i64 (2)), _)] [(0 : Int), (2 : Int)] rfl rfl sl22 (.cons rfl .int (.cons rfl .int .nil)) rfl rfl) ⟨rfl, rfl, trivial⟩ ?_
 obtain ⟨r13, er13, h⟩ := b_bind h
 have cr13 := law_quick_ok k (0 : Int) (3 : Int) [(0 : Int), (2 : Int)] r13 er13
 refine JO.s rfl (o_call [.const (.int .i64 (0)), .const (.int .i64 (3)), .tmp 56] rfl rfl en58 rfl cr13) ⟨rfl, rfl, rfl, trivial⟩ ?_
 refine JO.s rfl (o_litB (t := tChange) [(.tmp 55, _), (.tmp 57, _)] [r12, r13] rfl rfl sl62 (.cons rfl .rep (.cons rfl .rep .nil)) rfl rfl) ⟨rfl, rfl, trivial⟩ ?_
 refine JO.s rfl (o_litB (t := (.int .i64)) [(.const (.int .i64 (0)), _)] [(0 : Int)] rfl rfl sl22 (.cons rfl .int .nil) rfl rfl) ⟨rfl, trivial⟩ ?_
 obtain ⟨r14, er14, h⟩ := b_bind h
 have cr14 := chg_Through_ok k [r12, r13] [(0 : Int)] r14 er14
 refine JO.s rfl (o_call [.tmp 58, .tmp 59] rfl rfl en33 rfl cr14) ⟨rfl, rfl, trivial⟩ ?_
 refine mq ?_
 refine JO.s rfl (o_extract rfl rfl) ⟨rfl, trivial⟩ ?_
 refine JO.s rfl (o_extract rfl rfl) ⟨rfl, trivial⟩ ?_
 refine aq ?_
 refine aq ?_
 refine nt ?_
 refine sr ?_
 refine JO.s rfl (o_litB (t := (.int .i64)) [(.const (.int .i64 (0)), _)] [(0 : Int)] rfl rfl sl22 (.cons rfl .int .nil) rfl rfl) ⟨rfl, trivial⟩ ?_
 obtain ⟨r15, er15, h⟩ := b_bind h
 have cr15 := law_quick_ok k (0 : Int) (0 : Int) [(0 : Int)] r15 er15
 refine JO.s rfl (o_call [.const (.int .i64 (0)), .const (.int .i64 (0)), .tmp 64] rfl rfl en58 rfl cr15) ⟨rfl, rfl, rfl, trivial⟩ ?_
 obtain ⟨r16, er16, h⟩ := b_bind h
 have cr16 := chg_Learn_ok k r15 r16 er16
 refine JO.s rfl (o_call [.tmp 65] rfl rfl en29 rfl cr16) ⟨rfl, trivial⟩ ?_
 refine mq ?_
 refine JO.s rfl (o_extract rfl rfl) ⟨rfl, trivial⟩ ?_
 refine JO.s rfl (o_extract rfl rfl) ⟨rfl, trivial⟩ ?_
 refine JO.s rfl (o_extract rfl rfl) ⟨rfl, trivial⟩ ?_
 refine JO.s rfl (o_extract rfl rfl) ⟨rfl, trivial⟩ ?_
 refine aq ?_
 refine aq ?_
 refine aq ?_
 refine aq ?_
 refine nt ?_
 refine JC.cutB (Z := Unit) (α := Bool) (fun z18 x17 => [(0, .eq (.bool x17))]) (fun z18 x17 => []) h (fun K h => ?_) (fun z18 x17 h => ?_)
 ·
  refine JC.region ?_
  refine mq ?_
  refine JO.s rfl (o_eql rfl) ⟨rfl, rfl, trivial⟩ ?_
  refine mq ?_
  refine JO.bool (s := 73) rfl (fun hb => ?_) (fun hb => ?_)
  ·
   replace h := b_if (d_t hb) h
   refine gm ?_
   refine JO.g00 rfl rfl rfl rfl rfl rfl (o_eql rfl) ⟨rfl, rfl, trivial⟩ ?_
   refine pt ?_
   refine mq ?_
   refine JO.bool (s := 77) rfl (fun hb => ?_) (fun hb => ?_)
   ·
    replace h := b_if (d_t hb) h
    refine gm ?_
    refine JO.g00 rfl rfl rfl rfl rfl rfl (o_eql rfl) ⟨rfl, rfl, trivial⟩ ?_
    refine pt ?_
    refine mq ?_
    refine JO.bool (s := 81) rfl (fun hb => ?_) (fun hb => ?_)
    ·
     replace h := b_if (d_t hb) h
     refine gm ?_
     refine JO.g00 rfl rfl rfl rfl rfl rfl (o_eql rfl) ⟨rfl, rfl, trivial⟩ ?_
     refine pt ?_
     refine mq ?_
     refine JO.bool (s := 85) rfl (fun hb => ?_) (fun hb => ?_)
     ·
      replace h := b_if (d_t hb) h
      refine gm ?_
      refine JO.g00 rfl rfl rfl rfl rfl rfl (o_eql rfl) ⟨rfl, rfl, trivial⟩ ?_
      refine pt ?_
      refine mq ?_
      refine JO.bool (s := 89) rfl (fun hb => ?_) (fun hb => ?_)
      ·
       replace h := b_if (d_t hb) h
       refine gm ?_
       refine JO.g00 rfl rfl rfl rfl rfl rfl (o_eql rfl) ⟨rfl, rfl, trivial⟩ ?_
       refine pt ?_
       refine mq ?_
       refine JO.bool (s := 93) rfl (fun hb => ?_) (fun hb => ?_)
       ·
        replace h := b_if (d_t hb) h
        refine gm ?_
        refine JO.g00 rfl rfl rfl rfl rfl rfl (o_eql rfl) ⟨rfl, rfl, trivial⟩ ?_
        refine pt ?_
        refine mq ?_
        refine JO.bool (s := 97) rfl (fun hb => ?_) (fun hb => ?_)
        ·
         replace h := b_if (d_t hb) h
         refine gm ?_
         refine JO.g00 rfl rfl rfl rfl rfl rfl (o_eql rfl) ⟨rfl, rfl, trivial⟩ ?_
         refine pt ?_
         refine mq ?_
         refine JO.bool (s := 101) rfl (fun hb => ?_) (fun hb => ?_)
         ·
          replace h := b_if (d_t hb) h
          refine gm ?_
          refine JO.g00 rfl rfl rfl rfl rfl rfl (o_eql rfl) ⟨rfl, rfl, trivial⟩ ?_
          refine pt ?_
          refine mq ?_
          refine JO.bool (s := 105) rfl (fun hb => ?_) (fun hb => ?_)
          ·
           replace h := b_if (d_t hb) h
           refine gm ?_
           refine JO.g00 rfl rfl rfl rfl rfl rfl (o_eql rfl) ⟨rfl, rfl, trivial⟩ ?_
           refine pt ?_
           refine mq ?_
           refine JO.bool (s := 109) rfl (fun hb => ?_) (fun hb => ?_)
           ·
            replace h := b_if (d_t hb) h
            refine gm ?_
            refine JO.g00 rfl rfl rfl rfl rfl rfl (o_eql rfl) ⟨rfl, rfl, trivial⟩ ?_
            refine pt ?_
            refine mq ?_
            refine JO.bool (s := 113) rfl (fun hb => ?_) (fun hb => ?_)
            ·
             replace h := b_if (d_t hb) h
             refine gm ?_
             refine JO.g00 rfl rfl rfl rfl rfl rfl (o_eql rfl) ⟨rfl, rfl, trivial⟩ ?_
             refine pt ?_
             refine mq ?_
             refine JO.bool (s := 117) rfl (fun hb => ?_) (fun hb => ?_)
             ·
              replace h := b_if (d_t hb) h
              refine gm ?_
              refine JO.g00 rfl rfl rfl rfl rfl rfl (o_eql rfl) ⟨rfl, rfl, trivial⟩ ?_
              refine pt ?_
              refine mq ?_
              refine JO.bool (s := 121) rfl (fun hb => ?_) (fun hb => ?_)
              ·
               replace h := b_if (d_t hb) h
               refine gm ?_
               refine JO.g00 rfl rfl rfl rfl rfl rfl (o_eql rfl) ⟨rfl, rfl, trivial⟩ ?_
               refine pt ?_
               refine mq ?_
               refine JO.bool (s := 125) rfl (fun hb => ?_) (fun hb => ?_)
               ·
                replace h := b_if (d_t hb) h
                refine gm ?_
                obtain ⟨r19, er19, h⟩ := b_bind h
                have cr19 := law_first_ok k  r19 er19
                refine JO.g00 rfl rfl rfl rfl rfl rfl (o_call [] rfl rfl en59 rfl cr19) trivial ?_
                obtain ⟨r20, er20, h⟩ := b_bind h
                have cr20 := kit_SameSteps_ok k r3.1 r19 r20 er20
                refine JO.g00 rfl rfl rfl rfl rfl rfl (o_call [.tmp 126, .tmp 127] rfl rfl en44 rfl cr20) ⟨rfl, rfl, trivial⟩ ?_
                refine pt ?_
                refine mq ?_
                refine JO.bool (s := 130) rfl (fun hb => ?_) (fun hb => ?_)
                ·
                 replace h := b_if (v_t hb) h
                 refine gm ?_
                 refine JO.g00 rfl rfl rfl rfl rfl rfl (o_litB (t := (.int .i64)) [(.const (.int .i64 (0)), _), (.const (.int .i64 (1)), _), (.const (.int .i64 (3)), _), (.const (.int .i64 (1)), _)] [(0 : Int), (1 : Int), (3 : Int), (1 : Int)] rfl rfl sl22 (.cons rfl .int (.cons rfl .int (.cons rfl .int (.cons rfl .int .nil)))) rfl rfl) ⟨rfl, rfl, rfl, rfl, trivial⟩ ?_
                 obtain ⟨r21, er21, h⟩ := b_bind h
                 have cr21 := kit_SameInts_ok k r5.1 [(0 : Int), (1 : Int), (3 : Int), (1 : Int)] r21 er21
                 refine JO.g00 rfl rfl rfl rfl rfl rfl (o_call [.tmp 131, .tmp 132] rfl rfl en40 rfl cr21) ⟨rfl, rfl, trivial⟩ ?_
                 refine pt ?_
                 refine mq ?_
                 refine JO.bool (s := 135) rfl (fun hb => ?_) (fun hb => ?_)
                 ·
                  replace h := b_if (v_t hb) h
                  refine gm ?_
                  refine JO.g00 rfl rfl rfl rfl rfl rfl (o_litB (t := (.int .i64)) [(.const (.int .i64 (1)), _), (.const (.int .i64 (2)), _)] [(1 : Int), (2 : Int)] rfl rfl sl22 (.cons rfl .int (.cons rfl .int .nil)) rfl rfl) ⟨rfl, rfl, trivial⟩ ?_
                  obtain ⟨r22, er22, h⟩ := b_bind h
                  have cr22 := kit_SameInts_ok k r11.1 [(1 : Int), (2 : Int)] r22 er22
                  refine JO.g00 rfl rfl rfl rfl rfl rfl (o_call [.tmp 136, .tmp 137] rfl rfl en40 rfl cr22) ⟨rfl, rfl, trivial⟩ ?_
                  refine pt ?_
                  refine mq ?_
                  refine JO.bool (s := 140) rfl (fun hb => ?_) (fun hb => ?_)
                  ·
                   replace h := b_if (v_t hb) h
                   refine gm ?_
                   refine JO.g00 rfl rfl rfl rfl rfl rfl (o_litB (t := (.int .i64)) [(.const (.int .i64 (7)), _), (.const (.int .i64 (11)), _)] [(7 : Int), (11 : Int)] rfl rfl sl22 (.cons rfl .int (.cons rfl .int .nil)) rfl rfl) ⟨rfl, rfl, trivial⟩ ?_
                   obtain ⟨r23, er23, h⟩ := b_bind h
                   have cr23 := kit_SameInts_ok k r14.1 [(7 : Int), (11 : Int)] r23 er23
                   refine JO.g00 rfl rfl rfl rfl rfl rfl (o_call [.tmp 141, .tmp 142] rfl rfl en40 rfl cr23) ⟨rfl, rfl, trivial⟩ ?_
                   refine pt ?_
                   refine aq ?_
                   refine JO.nil ?_
                   refine JN.then_n ?_
                   exact JN.z ((), r23) h (SE.fin [] ⟨rfl, trivial⟩ rfl)
                  ·
                   replace h := b_ifn (v_f hb) h
                   iterate 3 refine gn ?_
                   refine pf ?_
                   refine aq ?_
                   refine JO.nil ?_
                   refine JN.then_n ?_
                   exact JN.z ((), false) h (SE.fin [] ⟨rfl, trivial⟩ rfl)
                 ·
                  replace h := b_ifn (v_f hb) h
                  iterate 3 refine gn ?_
                  refine pf ?_
                  refine mq ?_
                  iterate 3 refine gn ?_
                  refine pf ?_
                  refine aq ?_
                  refine JO.nil ?_
                  refine JN.then_n ?_
                  exact JN.z ((), false) h (SE.fin [] ⟨rfl, trivial⟩ rfl)
                ·
                 replace h := b_ifn (v_f hb) h
                 iterate 3 refine gn ?_
                 refine pf ?_
                 refine mq ?_
                 iterate 3 refine gn ?_
                 refine pf ?_
                 refine mq ?_
                 iterate 3 refine gn ?_
                 refine pf ?_
                 refine aq ?_
                 refine JO.nil ?_
                 refine JN.then_n ?_
                 exact JN.z ((), false) h (SE.fin [] ⟨rfl, trivial⟩ rfl)
               ·
                replace h := b_ifn (d_f hb) h
                iterate 3 refine gn ?_
                refine pf ?_
                refine mq ?_
                iterate 3 refine gn ?_
                refine pf ?_
                refine mq ?_
                iterate 3 refine gn ?_
                refine pf ?_
                refine mq ?_
                iterate 3 refine gn ?_
                refine pf ?_
                refine aq ?_
                refine JO.nil ?_
                refine JN.then_n ?_
                exact JN.z ((), false) h (SE.fin [] ⟨rfl, trivial⟩ rfl)
              ·
               replace h := b_ifn (d_f hb) h
               iterate 2 refine gn ?_
               refine pf ?_
               refine mq ?_
               iterate 3 refine gn ?_
               refine pf ?_
               refine mq ?_
               iterate 3 refine gn ?_
               refine pf ?_
               refine mq ?_
               iterate 3 refine gn ?_
               refine pf ?_
               refine mq ?_
               iterate 3 refine gn ?_
               refine pf ?_
               refine aq ?_
               refine JO.nil ?_
               refine JN.then_n ?_
               exact JN.z ((), false) h (SE.fin [] ⟨rfl, trivial⟩ rfl)
             ·
              replace h := b_ifn (d_f hb) h
              iterate 2 refine gn ?_
              refine pf ?_
              refine mq ?_
              iterate 2 refine gn ?_
              refine pf ?_
              refine mq ?_
              iterate 3 refine gn ?_
              refine pf ?_
              refine mq ?_
              iterate 3 refine gn ?_
              refine pf ?_
              refine mq ?_
              iterate 3 refine gn ?_
              refine pf ?_
              refine mq ?_
              iterate 3 refine gn ?_
              refine pf ?_
              refine aq ?_
              refine JO.nil ?_
              refine JN.then_n ?_
              exact JN.z ((), false) h (SE.fin [] ⟨rfl, trivial⟩ rfl)
            ·
             replace h := b_ifn (d_f hb) h
             iterate 2 refine gn ?_
             refine pf ?_
             refine mq ?_
             iterate 2 refine gn ?_
             refine pf ?_
             refine mq ?_
             iterate 2 refine gn ?_
             refine pf ?_
             refine mq ?_
             iterate 3 refine gn ?_
             refine pf ?_
             refine mq ?_
             iterate 3 refine gn ?_
             refine pf ?_
             refine mq ?_
             iterate 3 refine gn ?_
             refine pf ?_
             refine mq ?_
             iterate 3 refine gn ?_
             refine pf ?_
             refine aq ?_
             refine JO.nil ?_
             refine JN.then_n ?_
             exact JN.z ((), false) h (SE.fin [] ⟨rfl, trivial⟩ rfl)
           ·
            replace h := b_ifn (d_f hb) h
            iterate 2 refine gn ?_
            refine pf ?_
            refine mq ?_
            iterate 2 refine gn ?_
            refine pf ?_
            refine mq ?_
            iterate 2 refine gn ?_
            refine pf ?_
            refine mq ?_
            iterate 2 refine gn ?_
            refine pf ?_
            refine mq ?_
            iterate 3 refine gn ?_
            refine pf ?_
            refine mq ?_
            iterate 3 refine gn ?_
            refine pf ?_
            refine mq ?_
            iterate 3 refine gn ?_
            refine pf ?_
            refine mq ?_
            iterate 3 refine gn ?_
            refine pf ?_
            refine aq ?_
            refine JO.nil ?_
            refine JN.then_n ?_
            exact JN.z ((), false) h (SE.fin [] ⟨rfl, trivial⟩ rfl)
          ·
           replace h := b_ifn (d_f hb) h
           iterate 2 refine gn ?_
           refine pf ?_
           refine mq ?_
           iterate 2 refine gn ?_
           refine pf ?_
           refine mq ?_
           iterate 2 refine gn ?_
           refine pf ?_
           refine mq ?_
           iterate 2 refine gn ?_
           refine pf ?_
           refine mq ?_
           iterate 2 refine gn ?_
           refine pf ?_
           refine mq ?_
           iterate 3 refine gn ?_
           refine pf ?_
           refine mq ?_
           iterate 3 refine gn ?_
           refine pf ?_
           refine mq ?_
           iterate 3 refine gn ?_
           refine pf ?_
           refine mq ?_
           iterate 3 refine gn ?_
           refine pf ?_
           refine aq ?_
           refine JO.nil ?_
           refine JN.then_n ?_
           exact JN.z ((), false) h (SE.fin [] ⟨rfl, trivial⟩ rfl)
         ·
          replace h := b_ifn (d_f hb) h
          iterate 2 refine gn ?_
          refine pf ?_
          refine mq ?_
          iterate 2 refine gn ?_
          refine pf ?_
          refine mq ?_
          iterate 2 refine gn ?_
          refine pf ?_
          refine mq ?_
          iterate 2 refine gn ?_
          refine pf ?_
          refine mq ?_
          iterate 2 refine gn ?_
          refine pf ?_
          refine mq ?_
          iterate 2 refine gn ?_
          refine pf ?_
          refine mq ?_
          iterate 3 refine gn ?_
          refine pf ?_
          refine mq ?_
          iterate 3 refine gn ?_
          refine pf ?_
          refine mq ?_
          iterate 3 refine gn ?_
          refine pf ?_
          refine mq ?_
          iterate 3 refine gn ?_
          refine pf ?_
          refine aq ?_
          refine JO.nil ?_
          refine JN.then_n ?_
          exact JN.z ((), false) h (SE.fin [] ⟨rfl, trivial⟩ rfl)
        ·
         replace h := b_ifn (d_f hb) h
         iterate 2 refine gn ?_
         refine pf ?_
         refine mq ?_
         iterate 2 refine gn ?_
         refine pf ?_
         refine mq ?_
         iterate 2 refine gn ?_
         refine pf ?_
         refine mq ?_
         iterate 2 refine gn ?_
         refine pf ?_
         refine mq ?_
         iterate 2 refine gn ?_
         refine pf ?_
         refine mq ?_
         iterate 2 refine gn ?_
         refine pf ?_
         refine mq ?_
         iterate 2 refine gn ?_
         refine pf ?_
         refine mq ?_
         iterate 3 refine gn ?_
         refine pf ?_
         refine mq ?_
         iterate 3 refine gn ?_
         refine pf ?_
         refine mq ?_
         iterate 3 refine gn ?_
         refine pf ?_
         refine mq ?_
         iterate 3 refine gn ?_
         refine pf ?_
         refine aq ?_
         refine JO.nil ?_
         refine JN.then_n ?_
         exact JN.z ((), false) h (SE.fin [] ⟨rfl, trivial⟩ rfl)
       ·
        replace h := b_ifn (d_f hb) h
        iterate 2 refine gn ?_
        refine pf ?_
        refine mq ?_
        iterate 2 refine gn ?_
        refine pf ?_
        refine mq ?_
        iterate 2 refine gn ?_
        refine pf ?_
        refine mq ?_
        iterate 2 refine gn ?_
        refine pf ?_
        refine mq ?_
        iterate 2 refine gn ?_
        refine pf ?_
        refine mq ?_
        iterate 2 refine gn ?_
        refine pf ?_
        refine mq ?_
        iterate 2 refine gn ?_
        refine pf ?_
        refine mq ?_
        iterate 2 refine gn ?_
        refine pf ?_
        refine mq ?_
        iterate 3 refine gn ?_
        refine pf ?_
        refine mq ?_
        iterate 3 refine gn ?_
        refine pf ?_
        refine mq ?_
        iterate 3 refine gn ?_
        refine pf ?_
        refine mq ?_
        iterate 3 refine gn ?_
        refine pf ?_
        refine aq ?_
        refine JO.nil ?_
        refine JN.then_n ?_
        exact JN.z ((), false) h (SE.fin [] ⟨rfl, trivial⟩ rfl)
      ·
       replace h := b_ifn (d_f hb) h
       iterate 2 refine gn ?_
       refine pf ?_
       refine mq ?_
       iterate 2 refine gn ?_
       refine pf ?_
       refine mq ?_
       iterate 2 refine gn ?_
       refine pf ?_
       refine mq ?_
       iterate 2 refine gn ?_
       refine pf ?_
       refine mq ?_
       iterate 2 refine gn ?_
       refine pf ?_
       refine mq ?_
       iterate 2 refine gn ?_
       refine pf ?_
       refine mq ?_
       iterate 2 refine gn ?_
       refine pf ?_
       refine mq ?_
       iterate 2 refine gn ?_
       refine pf ?_
       refine mq ?_
       iterate 2 refine gn ?_
       refine pf ?_
       refine mq ?_
       iterate 3 refine gn ?_
       refine pf ?_
       refine mq ?_
       iterate 3 refine gn ?_
       refine pf ?_
       refine mq ?_
       iterate 3 refine gn ?_
       refine pf ?_
       refine mq ?_
       iterate 3 refine gn ?_
       refine pf ?_
       refine aq ?_
       refine JO.nil ?_
       refine JN.then_n ?_
       exact JN.z ((), false) h (SE.fin [] ⟨rfl, trivial⟩ rfl)
     ·
      replace h := b_ifn (d_f hb) h
      iterate 2 refine gn ?_
      refine pf ?_
      refine mq ?_
      iterate 2 refine gn ?_
      refine pf ?_
      refine mq ?_
      iterate 2 refine gn ?_
      refine pf ?_
      refine mq ?_
      iterate 2 refine gn ?_
      refine pf ?_
      refine mq ?_
      iterate 2 refine gn ?_
      refine pf ?_
      refine mq ?_
      iterate 2 refine gn ?_
      refine pf ?_
      refine mq ?_
      iterate 2 refine gn ?_
      refine pf ?_
      refine mq ?_
      iterate 2 refine gn ?_
      refine pf ?_
      refine mq ?_
      iterate 2 refine gn ?_
      refine pf ?_
      refine mq ?_
      iterate 2 refine gn ?_
      refine pf ?_
      refine mq ?_
      iterate 3 refine gn ?_
      refine pf ?_
      refine mq ?_
      iterate 3 refine gn ?_
      refine pf ?_
      refine mq ?_
      iterate 3 refine gn ?_
      refine pf ?_
      refine mq ?_
      iterate 3 refine gn ?_
      refine pf ?_
      refine aq ?_
      refine JO.nil ?_
      refine JN.then_n ?_
      exact JN.z ((), false) h (SE.fin [] ⟨rfl, trivial⟩ rfl)
    ·
     replace h := b_ifn (d_f hb) h
     iterate 2 refine gn ?_
     refine pf ?_
     refine mq ?_
     iterate 2 refine gn ?_
     refine pf ?_
     refine mq ?_
     iterate 2 refine gn ?_
     refine pf ?_
     refine mq ?_
     iterate 2 refine gn ?_
     refine pf ?_
     refine mq ?_
     iterate 2 refine gn ?_
     refine pf ?_
     refine mq ?_
     iterate 2 refine gn ?_
     refine pf ?_
     refine mq ?_
     iterate 2 refine gn ?_
     refine pf ?_
     refine mq ?_
     iterate 2 refine gn ?_
     refine pf ?_
     refine mq ?_
     iterate 2 refine gn ?_
     refine pf ?_
     refine mq ?_
     iterate 2 refine gn ?_
     refine pf ?_
     refine mq ?_
     iterate 2 refine gn ?_
     refine pf ?_
     refine mq ?_
     iterate 3 refine gn ?_
     refine pf ?_
     refine mq ?_
     iterate 3 refine gn ?_
     refine pf ?_
     refine mq ?_
     iterate 3 refine gn ?_
     refine pf ?_
     refine mq ?_
     iterate 3 refine gn ?_
     refine pf ?_
     refine aq ?_
     refine JO.nil ?_
     refine JN.then_n ?_
     exact JN.z ((), false) h (SE.fin [] ⟨rfl, trivial⟩ rfl)
   ·
    replace h := b_ifn (d_f hb) h
    iterate 2 refine gn ?_
    refine pf ?_
    refine mq ?_
    iterate 2 refine gn ?_
    refine pf ?_
    refine mq ?_
    iterate 2 refine gn ?_
    refine pf ?_
    refine mq ?_
    iterate 2 refine gn ?_
    refine pf ?_
    refine mq ?_
    iterate 2 refine gn ?_
    refine pf ?_
    refine mq ?_
    iterate 2 refine gn ?_
    refine pf ?_
    refine mq ?_
    iterate 2 refine gn ?_
    refine pf ?_
    refine mq ?_
    iterate 2 refine gn ?_
    refine pf ?_
    refine mq ?_
    iterate 2 refine gn ?_
    refine pf ?_
    refine mq ?_
    iterate 2 refine gn ?_
    refine pf ?_
    refine mq ?_
    iterate 2 refine gn ?_
    refine pf ?_
    refine mq ?_
    iterate 2 refine gn ?_
    refine pf ?_
    refine mq ?_
    iterate 3 refine gn ?_
    refine pf ?_
    refine mq ?_
    iterate 3 refine gn ?_
    refine pf ?_
    refine mq ?_
    iterate 3 refine gn ?_
    refine pf ?_
    refine mq ?_
    iterate 3 refine gn ?_
    refine pf ?_
    refine aq ?_
    refine JO.nil ?_
    refine JN.then_n ?_
    exact JN.z ((), false) h (SE.fin [] ⟨rfl, trivial⟩ rfl)
  ·
   replace h := b_ifn (d_f hb) h
   iterate 2 refine gn ?_
   refine pf ?_
   refine mq ?_
   iterate 2 refine gn ?_
   refine pf ?_
   refine mq ?_
   iterate 2 refine gn ?_
   refine pf ?_
   refine mq ?_
   iterate 2 refine gn ?_
   refine pf ?_
   refine mq ?_
   iterate 2 refine gn ?_
   refine pf ?_
   refine mq ?_
   iterate 2 refine gn ?_
   refine pf ?_
   refine mq ?_
   iterate 2 refine gn ?_
   refine pf ?_
   refine mq ?_
   iterate 2 refine gn ?_
   refine pf ?_
   refine mq ?_
   iterate 2 refine gn ?_
   refine pf ?_
   refine mq ?_
   iterate 2 refine gn ?_
   refine pf ?_
   refine mq ?_
   iterate 2 refine gn ?_
   refine pf ?_
   refine mq ?_
   iterate 2 refine gn ?_
   refine pf ?_
   refine mq ?_
   iterate 2 refine gn ?_
   refine pf ?_
   refine mq ?_
   iterate 3 refine gn ?_
   refine pf ?_
   refine mq ?_
   iterate 3 refine gn ?_
   refine pf ?_
   refine mq ?_
   iterate 3 refine gn ?_
   refine pf ?_
   refine mq ?_
   iterate 3 refine gn ?_
   refine pf ?_
   refine aq ?_
   refine JO.nil ?_
   refine JN.then_n ?_
   exact JN.z ((), false) h (SE.fin [] ⟨rfl, trivial⟩ rfl)
 ·
  refine JC.ret ?_
  obtain rfl := Option.some.inj h
  exact JN.ret () [_] 0 ⟨rfl, trivial⟩ rfl


def kit_CopyInts (k : Nat) (a0 : (List Int)) : Option (List Int) :=
 (chkP (okLen (List.length ([] : (List Int)) + List.length a0))).bind fun _ =>
 some (([] : (List Int)) ++ a0)

theorem kit_CopyInts_ok (k : Nat) (a0 : (List Int)) (r : (List Int)) (h : kit_CopyInts k a0 = some r) :
 Ctr Try.prog 37 [.rep (.slice (.int .i64)) a0] [] (fun z : Value => (resA [.eq z], [.sl z 3 (.int .i64) r])) := by
 unfold kit_CopyInts at h
 replace h := b_top h
 refine Ctr.of 6 Try.func37 rfl Try.ntmps37 rfl fun S w0 => ?_
 refine sr ?_
 refine cq ?_
 refine nt ?_
 refine sr ?_
 refine JO.s01 rfl rfl rfl (o_litB_own (t := (.int .i64)) [] ([] : (List Int)) rfl rfl sl22 .nil rfl rfl) trivial fun v1 => ?_
 refine mq ?_
 obtain ⟨u2, eu2, h⟩ := b_bind h
 refine JO.s1x rfl rfl rfl (o_append rfl rfl sl22 (chkP_some eu2)) ⟨rfl, rfl, trivial⟩ fun v3 => ?_
 refine aq ?_
 refine nt ?_
 refine JC.ret ?_
 obtain rfl := Option.some.inj h
 exact JN.ret v3 [.eq v3] 1 ⟨rfl, trivial⟩ rfl


def chg_Bars (k : Nat) (a0 : dChange) (a1 : (List dStep)) : Option (Int × Int) :=
 (chg_asked k a0 a1).bind fun r2 =>
 casesO r2.1 (if ¬ (r2.2 = (0 : Int)) then (some ((0 : Int), r2.2)) else (none)) (fun q3 => if ¬ (r2.2 = (0 : Int)) then (some ((0 : Int), r2.2)) else ((chg_quick_length k ((q3.1.1, q3.1.2.1, q3.1.2.2.1, q3.1.2.2.2), q3.2.1, q3.2.2) a1).bind fun r5 =>
 some (r5, (0 : Int))))

theorem chg_Bars_ok (k : Nat) (a0 : dChange) (a1 : (List dStep)) (r : Int × Int) (h : chg_Bars k a0 a1 = some r) :
 Ctr Try.prog 38 [.rep tChange a0, .rep (.slice tStep) a1] [] (fun _ : Unit => (resA [.eq (.int .i64 r.1), .eq (.int .i64 r.2)], [])) := by
 unfold chg_Bars at h
 replace h := b_top h
 refine Ctr.of 20 Try.func38 rfl Try.ntmps38 rfl fun S w0 => ?_
 refine sr ?_
 refine JO.s01 rfl rfl rfl (o_box rfl rfl) ⟨rfl, trivial⟩ fun b1 => ?_
 refine cq ?_
 refine cq ?_
 refine nt ?_
 refine sr ?_
 refine JO.s11 rfl rfl rfl (o_load_obj rfl sz28 (nfn) rfl) ⟨rfl, trivial⟩ ?_
 refine mq ?_
 obtain ⟨r2, er2, h⟩ := b_bind h
 have cr2 := chg_asked_ok k a0 a1 r2 er2
 rcases hr : r2.1 with _ | q3
 ·
  rw [hr] at h cr2; replace h := co_n h
  refine JO.stepG (Δ := []) (F := _) (fun _ _ _ => wanted_none rfl _) rfl rfl (o_call [.tmp 9, .tmp 10] rfl rfl en64 rfl cr2) ⟨rfl, rfl, trivial⟩ fun _ => ?_
  refine mq ?_
  refine JO.s rfl (o_extract rfl rfl) ⟨rfl, trivial⟩ ?_
  refine JO.s rfl (o_extract rfl rfl) ⟨rfl, trivial⟩ ?_
  refine aq ?_
  refine aq ?_
  refine nt ?_
  refine JC.seq ?_
  refine sr ?_
  refine mq ?_
  refine JO.s rfl (o_neq rfl) ⟨rfl, rfl, trivial⟩ ?_
  refine nt ?_
  refine JC.cond rfl (fun hb => ?_) (fun hb => ?_)
  ·
   replace h := b_if (n_t hb) h
   refine sr ?_
   refine mq ?_
   refine cq ?_
   refine aq ?_
   refine nt ?_
   refine JC.ret ?_
   refine JN.then_r ?_
   obtain rfl := Option.some.inj h
   exact JN.ret () [_, _] 0 ⟨rfl, rfl, trivial⟩ rfl
  ·
   replace h := b_ifn (n_fn hb) h
   refine JC.skip ?_
   refine JN.then_n ?_
   show JC _ _ _ _ _
   refine sr ?_
   iterate 2 refine mq ?_
   cases h
 ·
  rw [hr] at h cr2; replace h := co_s h
  refine JO.stepG (Δ := []) (F := _) (fun _ _ _ => wanted_none rfl _) rfl rfl (o_call [.tmp 9, .tmp 10] rfl rfl en64 rfl cr2) ⟨rfl, rfl, trivial⟩ fun z4 => ?_
  refine mq ?_
  refine JO.s rfl (o_extract rfl rfl) ⟨rfl, trivial⟩ ?_
  refine JO.s rfl (o_extract rfl rfl) ⟨rfl, trivial⟩ ?_
  refine aq ?_
  refine aq ?_
  refine nt ?_
  refine JC.seq ?_
  refine sr ?_
  refine mq ?_
  refine JO.s rfl (o_neq rfl) ⟨rfl, rfl, trivial⟩ ?_
  refine nt ?_
  refine JC.cond rfl (fun hb => ?_) (fun hb => ?_)
  ·
   replace h := b_if (n_t hb) h
   refine sr ?_
   refine mq ?_
   refine cq ?_
   refine aq ?_
   refine nt ?_
   refine JC.ret ?_
   refine JN.then_r ?_
   obtain rfl := Option.some.inj h
   exact JN.ret () [_, _] 0 ⟨rfl, rfl, trivial⟩ rfl
  ·
   replace h := b_ifn (n_fn hb) h
   refine JC.skip ?_
   refine JN.then_n ?_
   show JC _ _ _ _ _
   refine sr ?_
   iterate 2 refine mq ?_
   refine JO.front 1 rfl ?_
   refine JO.se (SE.rawInv (Known k ((q3.1.1, q3.1.2.1, q3.1.2.2.1, q3.1.2.2.2), q3.2.1, q3.2.2)) known_nil) ?_
   obtain ⟨r5, er5, h⟩ := b_bind h
   have cr5 := chg_quick_length_ok k ((q3.1.1, q3.1.2.1, q3.1.2.2.1, q3.1.2.2.2), q3.2.1, q3.2.2) z4.1 z4.2 a1 r5 er5
   refine JO.front 1 rfl ?_
   refine JO.stepG (Δ := [_, _]) (F := _) (fun _ _ _ => wanted_none rfl _) rfl rfl (o_call [.tmp 17, .tmp 18] rfl rfl en70 rfl cr5) ⟨rfl, rfl, trivial⟩ fun _ => ?_
   refine aq ?_
   refine cq ?_
   refine nt ?_
   refine JC.ret ?_
   obtain rfl := Option.some.inj h
   exact JN.ret () [_, _] 0 ⟨rfl, rfl, trivial⟩ rfl


def chg_quick_kept (k : Nat) (a0 : (dChange × (List (Bool × Int)) × (List Int))) (a1 : Int) : Option ((List dStep) × Bool) :=
 (chg_quick_plans_1 k (stopY (fun (y6 : Bool × (List dStep)) (p8 : (List dStep)) =>
  (chg_quick_late k ((a0.1.1, a0.1.2.1, a0.1.2.2.1, a0.1.2.2.2), a0.2.1, a0.2.2) p8 a1).bind fun r10 =>
  if r10.1 < (0 : Int) then (some ((true, p8), false)) else (some ((y6.1, y6.2), true)))) ((a0.1.1, a0.1.2.1, a0.1.2.2.1, a0.1.2.2.2), a0.2.1, a0.2.2) ((false, []), false)).bind fun r9 =>
 if r9.2 = true then (some (r9.1.2, r9.1.1)) else (some ([], false))

theorem chg_quick_kept_ok (k : Nat) (a0 : (dChange × (List (Bool × Int)) × (List Int))) (b_a0 : Nat) (m_a0 : Value) (a1 : Int) (r : (List dStep) × Bool) (h : chg_quick_kept k a0 a1 = some r) :
 Ctr Try.prog 83 [.eq (.pointer (some ⟨b_a0, 0, none⟩)), .eq (.int .u8 a1)] [.obj b_a0 120 (.agg (.pair (.agg (.pair (.rep (.slice tThing) a0.1.1) (.pair (.rep (.slice tDresser) a0.1.2.1) (.pair (.rep (.slice (.int .i64)) a0.1.2.2.1) (.rep (.slice (.int .i64)) a0.1.2.2.2))))) (.pair (.rep (.slice (.tag 131 133)) a0.2.1) (.pair (.rep (.arr 8 (.int .u8)) a0.2.2) (.eq m_a0)))))] (fun _ : Unit => (resA [.rep (.slice tStep) r.1, .eq (.bool r.2)], [.obj b_a0 120 (.agg (.pair (.agg (.pair (.rep (.slice tThing) a0.1.1) (.pair (.rep (.slice tDresser) a0.1.2.1) (.pair (.rep (.slice (.int .i64)) a0.1.2.2.1) (.rep (.slice (.int .i64)) a0.1.2.2.2))))) (.pair (.rep (.slice (.tag 131 133)) a0.2.1) (.pair (.rep (.arr 8 (.int .u8)) a0.2.2) (.eq m_a0)))))])) := by
 unfold chg_quick_kept at h
 replace h := b_top h
 refine Ctr.ofM 22 Try.func83 rfl Try.ntmps83 rfl fun S w0 => ?_
 refine sr ?_
 refine JO.s01 rfl rfl rfl (o_box rfl rfl) ⟨rfl, trivial⟩ fun b1 => ?_
 refine JO.s01 rfl rfl rfl (o_box rfl rfl) ⟨rfl, trivial⟩ fun b2 => ?_
 refine JO.s01 rfl rfl rfl (o_alloc rfl za30 al30) trivial fun b3 => ?_
 refine JO.s01 rfl rfl rfl (o_alloc rfl za4 al4) trivial fun b4 => ?_
 refine nt ?_
 refine JC.seq ?_
 refine sr ?_
 refine JO.front 3 rfl ?_
 refine JO.s11 rfl rfl rfl (o_load_obj rfl sz98 (fun _ => rfl) rfl) ⟨rfl, trivial⟩ ?_
 refine JO.s01 rfl rfl rfl (o_call [.tmp 9] rfl rfl en69 rfl (chg_quick_plans_ok b_a0)) ⟨rfl, trivial⟩ fun b5 => ?_
 refine nt ?_
 refine JC.block ?_
 refine JC.front 3 rfl ?_
 refine JC.se (SE.objE (a := .eq (.slice none 0 0)) (a' := .rep (.slice tStep) []) (AE.ent .nil)) ?_
 refine JC.front 4 rfl ?_
 refine JC.front 1 rfl ?_
 refine JC.front 4 rfl ?_
 refine JC.front 4 rfl ?_
 refine JC.front 5 rfl ?_
 refine JC.front 5 rfl ?_
 obtain ⟨r9, er9, h⟩ := b_bind h
 refine JC.rangeFunc (Δ := [.obj b5 98 (.eq (.pointer (some ⟨b_a0, 0, none⟩))), .obj b_a0 120 (.agg (.pair (.agg (.pair (.rep (.slice tThing) a0.1.1) (.pair (.rep (.slice tDresser) a0.1.2.1) (.pair (.rep (.slice (.int .i64)) a0.1.2.2.1) (.rep (.slice (.int .i64)) a0.1.2.2.2))))) (.pair (.rep (.slice (.tag 131 133)) a0.2.1) (.pair (.rep (.arr 8 (.int .u8)) a0.2.2) (.eq m_a0))))), .obj b1 98 (.eq (.pointer (some ⟨b_a0, 0, none⟩))), .obj b4 4 (.eq (.bool false)), .obj b3 30 (.rep (.slice tStep) []), .obj b2 106 (.eq (.int .u8 a1))]) (F := []) (X := Unit) (J := fun _ => jOf r9.2) (E := fun _ => [.obj b5 98 (.eq (.pointer (some ⟨b_a0, 0, none⟩))), .obj b_a0 120 (.agg (.pair (.agg (.pair (.rep (.slice tThing) a0.1.1) (.pair (.rep (.slice tDresser) a0.1.2.1) (.pair (.rep (.slice (.int .i64)) a0.1.2.2.1) (.rep (.slice (.int .i64)) a0.1.2.2.2))))) (.pair (.rep (.slice (.tag 131 133)) a0.2.1) (.pair (.rep (.arr 8 (.int .u8)) a0.2.2) (.eq m_a0))))), .obj b1 98 (.eq (.pointer (some ⟨b_a0, 0, none⟩))), .obj b4 4 (.eq (.bool r9.1.1)), .obj b3 30 (.rep (.slice tStep) r9.1.2), .obj b2 106 (.eq (.int .u8 a1))]) (r0 := fun _ => .tup .any) rfl rfl en104 (fun rec hp ha hb hs hpe hN hv l => ?_) (fun dl _ => stop_cases (fun hj => ?_) (fun hj => ?_))
 ·
  rcases rec with ⟨st0, pe0, fn0, tm0, ps0, as0, bd0, df0⟩
  dsimp only at hp ha hb hs hpe hN hv
  subst hp hs hpe
  have vN : Vals tm0 [(2, .eq (.pointer (some ⟨b1, 0, none⟩))), (3, .eq (.pointer (some ⟨b2, 0, none⟩))), (4, .eq (.pointer (some ⟨b3, 0, none⟩))), (5, .eq (.pointer (some ⟨b4, 0, none⟩)))] := ⟨congrArg A.eq (hv 2 _ rfl).symm, congrArg A.eq (hv 3 _ rfl).symm, congrArg A.eq (hv 4 _ rfl).symm, congrArg A.eq (hv 5 _ rfl).symm, trivial⟩
  refine Ctr.pick [1, 2, 0, 3, 4, 5, 6] [2, 0, 1, 3, 4, 5, 6] (chg_quick_plans_1_ok (fun (_ : Unit) (q : (Bool × (List dStep)) × Bool) => [.raw l (.loop (recEnd ⟨.ready, none, fn0, tm0, #[11], as0, bd0, df0⟩ (jOf q.2))), .obj b1 98 (.eq (.pointer (some ⟨b_a0, 0, none⟩))), .obj b4 4 (.eq (.bool q.1.1)), .obj b3 30 (.rep (.slice tStep) q.1.2), .obj b2 106 (.eq (.int .u8 a1))]) l (stopY (fun (y6 : Bool × (List dStep)) (p8 : (List dStep)) =>
  (chg_quick_late k ((a0.1.1, a0.1.2.1, a0.1.2.2.1, a0.1.2.2.2), a0.2.1, a0.2.2) p8 a1).bind fun r10 =>
  if r10.1 < (0 : Int) then (some ((true, p8), false)) else (some ((y6.1, y6.2), true)))) k ((a0.1.1, a0.1.2.1, a0.1.2.2.1, a0.1.2.2.2), a0.2.1, a0.2.2) b_a0 m_a0 b5 (fun z q p r' h => ?_) () ((false, []), false) r9 er9) rfl (fun _ => rfl) (fun _ => rfl)
  obtain ⟨r2, hq, h2, rfl⟩ := stopY_some h
  obtain ⟨y6, b5⟩ := q
  obtain rfl : b5 = false := hq
  replace h := b_top h2
  obtain ⟨p8, hpv⟩ : ∃ x, x = p := ⟨_, rfl⟩
  subst hpv
  refine YT.pick (R' := (fun _ : Unit => (.eq (.bool r2.2), [.raw l (.loop (recEnd ⟨.ready, none, fn0, tm0, #[11], as0, bd0, df0⟩ (jOf (!r2.2)))), .obj b_a0 120 (.agg (.pair (.agg (.pair (.rep (.slice tThing) a0.1.1) (.pair (.rep (.slice tDresser) a0.1.2.1) (.pair (.rep (.slice (.int .i64)) a0.1.2.2.1) (.rep (.slice (.int .i64)) a0.1.2.2.2))))) (.pair (.rep (.slice (.tag 131 133)) a0.2.1) (.pair (.rep (.arr 8 (.int .u8)) a0.2.2) (.eq m_a0))))), .obj b1 98 (.eq (.pointer (some ⟨b_a0, 0, none⟩))), .obj b4 4 (.eq (.bool r2.1.1)), .obj b3 30 (.rep (.slice tStep) r2.1.2), .obj b2 106 (.eq (.int .u8 a1))]))) [1, 0, 2, 3, 4, 5] [1, 0, 2, 3, 4, 5] (YT.of' ha hb (N := 22) (Γ := [(2, .eq (.pointer (some ⟨b1, 0, none⟩))), (3, .eq (.pointer (some ⟨b2, 0, none⟩))), (4, .eq (.pointer (some ⟨b3, 0, none⟩))), (5, .eq (.pointer (some ⟨b4, 0, none⟩)))]) rfl hN (by decide) vN (fun S w => ?_)) rfl (fun _ => rfl) (fun _ => rfl)
  refine JC.region ?_
  refine aq ?_
  refine JO.nil ?_
  refine JN.then_n ?_
  refine JN.begin rfl rfl ?_
  refine JC.block ?_
  refine sr ?_
  refine JO.front 2 rfl ?_
  refine JO.s11 rfl rfl rfl (o_load_obj rfl sz98 (fun _ => rfl) rfl) ⟨rfl, trivial⟩ ?_
  refine mq ?_
  refine JO.front 5 rfl ?_
  refine JO.s11 rfl rfl rfl (o_load_obj rfl sz106 (fun _ => rfl) rfl) ⟨rfl, trivial⟩ ?_
  obtain ⟨r10, er10, h⟩ := b_bind h
  have cr10 := chg_quick_late_ok k ((a0.1.1, a0.1.2.1, a0.1.2.2.1, a0.1.2.2.2), a0.2.1, a0.2.2) b_a0 m_a0 p8 a1 r10 er10
  refine JO.front 3 rfl ?_
  refine JO.s11 rfl rfl rfl (o_call [.tmp 13, .tmp 14, .tmp 15] rfl rfl en66 rfl cr10) ⟨rfl, rfl, rfl, trivial⟩ ?_
  refine mq ?_
  refine JO.s rfl (o_extract rfl rfl) ⟨rfl, trivial⟩ ?_
  refine JO.s rfl (o_extract rfl rfl) ⟨rfl, trivial⟩ ?_
  refine aq ?_
  refine aq ?_
  refine nt ?_
  refine sr ?_
  refine mq ?_
  refine JO.s rfl (o_lss rfl) ⟨rfl, rfl, trivial⟩ ?_
  refine nt ?_
  refine JC.cond rfl (fun hb => ?_) (fun hb => ?_)
  ·
   replace h := b_if (d_t hb) h
   refine sr ?_
   refine mq ?_
   refine JO.front 5 rfl ?_
   refine JO.n11 rfl rfl (o_store rfl sz30 rfl rfl rfl) ⟨rfl, rfl, trivial⟩ ?_
   refine JO.front 5 rfl ?_
   refine JO.n11 rfl rfl (o_store rfl sz4 rfl rfl rfl) ⟨rfl, rfl, trivial⟩ ?_
   refine nt ?_
   refine JC.ret ?_
   refine JN.blk_r ?_
   refine JN.front 3 rfl ?_
   refine JN.front 2 rfl ?_
   refine JN.front 2 rfl ?_
   refine JN.front 4 rfl ?_
   refine JN.front 4 rfl ?_
   refine JN.front 5 rfl ?_
   obtain rfl := Option.some.inj h
   exact JN.roundR () 5 rfl
  ·
   replace h := b_ifn (d_f hb) h
   refine JC.skip ?_
   refine JN.blk_n ?_
   refine JN.front 1 rfl ?_
   refine JN.front 5 rfl ?_
   refine JN.front 5 rfl ?_
   refine JN.front 4 rfl ?_
   refine JN.front 4 rfl ?_
   refine JN.front 5 rfl ?_
   obtain rfl := Option.some.inj h
   exact JN.roundN () 5 rfl
 ·
  replace h := b_ifn (v_f hj) h
  refine JN.blk_n ?_
  refine JN.then_n ?_
  show JC _ _ _ _ _
  refine sr ?_
  refine JO.front 5 rfl ?_
  refine JO.n11 rfl rfl (o_store rfl sz30 rfl rfl rfl) ⟨rfl, rfl, trivial⟩ ?_
  refine JO.front 5 rfl ?_
  refine JO.n11 rfl rfl (o_store rfl sz4 rfl rfl rfl) ⟨rfl, rfl, trivial⟩ ?_
  refine nt ?_
  refine JC.ret ?_
  refine JN.front 1 rfl ?_
  refine JN.se (SE.objE (a := .eq (.slice none 0 0)) (a' := .rep (.slice tStep) []) (AE.ent .nil)) ?_
  refine JN.front 2 rfl ?_
  refine JN.retM ?_
  refine JN.se (SE.fin (Γ' := [(4, _), (5, _)]) [3, 0, 1, 2, 4, 5] ⟨rfl, rfl, trivial⟩ rfl) ?_
  obtain rfl := Option.some.inj h
  exact JN.ret () [_, _] 1 ⟨⟨_, _, _, _, _, rfl, (.tail _ (.head _)), sz30, (fun _ => rfl), rfl⟩, ⟨_, _, _, _, _, rfl, (.tail _ (.tail _ (.head _))), sz4, (fun _ => rfl), rfl⟩, trivial⟩ rfl
 ·
  replace h := b_if (v_t hj) h
  refine JC.ret ?_
  refine JN.blk_r ?_
  refine JN.then_r ?_
  refine JN.retM ?_
  refine JN.se (SE.fin (Γ' := [(4, _), (5, _)]) [1, 0, 2, 3, 4, 5] ⟨rfl, rfl, trivial⟩ rfl) ?_
  obtain rfl := Option.some.inj h
  exact JN.ret () [_, _] 1 ⟨⟨_, _, _, _, _, rfl, (.tail _ (.tail _ (.tail _ (.tail _ (.head _))))), sz30, (fun _ => rfl), rfl⟩, ⟨_, _, _, _, _, rfl, (.tail _ (.tail _ (.tail _ (.head _)))), sz4, (fun _ => rfl), rfl⟩, trivial⟩ rfl


def chg_Kept (k : Nat) (a0 : dChange) : Option ((List dStep) × Int) :=
 (chg_begin k a0).bind fun r2 =>
 casesO r2.1 (if ¬ (r2.2 = (0 : Int)) then (some ([], r2.2)) else (none)) (fun q3 => if ¬ (r2.2 = (0 : Int)) then (some ([], r2.2)) else ((chg_quick_kept k ((q3.1.1, q3.1.2.1, q3.1.2.2.1, q3.1.2.2.2), q3.2.1, q3.2.2) (0 : Int)).bind fun r5 =>
 if ¬ (r5.2 = true) then (some ([], (11 : Int))) else (some (r5.1, (0 : Int)))))

theorem chg_Kept_ok (k : Nat) (a0 : dChange) (r : (List dStep) × Int) (h : chg_Kept k a0 = some r) :
 Ctr Try.prog 41 [.rep tChange a0] [] (fun _ : Unit => (resA [.rep (.slice tStep) r.1, .eq (.int .i64 r.2)], [])) := by
 unfold chg_Kept at h
 replace h := b_top h
 refine Ctr.of 24 Try.func41 rfl Try.ntmps41 rfl fun S w0 => ?_
 refine sr ?_
 refine JO.s01 rfl rfl rfl (o_box rfl rfl) ⟨rfl, trivial⟩ fun b1 => ?_
 refine cq ?_
 refine cq ?_
 refine nt ?_
 refine sr ?_
 refine JO.s11 rfl rfl rfl (o_load_obj rfl sz28 (nfn) rfl) ⟨rfl, trivial⟩ ?_
 obtain ⟨r2, er2, h⟩ := b_bind h
 have cr2 := chg_begin_ok k a0 r2 er2
 rcases hr : r2.1 with _ | q3
 ·
  rw [hr] at h cr2; replace h := co_n h
  refine JO.stepG (Δ := []) (F := _) (fun _ _ _ => wanted_none rfl _) rfl rfl (o_call [.tmp 9] rfl rfl en67 rfl cr2) ⟨rfl, trivial⟩ fun _ => ?_
  refine mq ?_
  refine JO.s rfl (o_extract rfl rfl) ⟨rfl, trivial⟩ ?_
  refine JO.s rfl (o_extract rfl rfl) ⟨rfl, trivial⟩ ?_
  refine aq ?_
  refine aq ?_
  refine nt ?_
  refine JC.seq ?_
  refine sr ?_
  refine mq ?_
  refine JO.s rfl (o_neq rfl) ⟨rfl, rfl, trivial⟩ ?_
  refine nt ?_
  refine JC.cond rfl (fun hb => ?_) (fun hb => ?_)
  ·
   replace h := b_if (n_t hb) h
   refine sr ?_
   refine mq ?_
   refine cq ?_
   refine aq ?_
   refine nt ?_
   refine JC.ret ?_
   refine JN.then_r ?_
   refine JN.se (SE.ent (t := (.slice tStep)) (x := []) 2 rfl .nil rfl rfl) ?_
   obtain rfl := Option.some.inj h
   exact JN.ret () [_, _] 0 ⟨rfl, rfl, trivial⟩ rfl
  ·
   replace h := b_ifn (n_fn hb) h
   refine JC.skip ?_
   refine JN.then_n ?_
   show JC _ _ _ _ _
   refine sr ?_
   refine mq ?_
   cases h
 ·
  rw [hr] at h cr2; replace h := co_s h
  refine JO.stepG (Δ := []) (F := _) (fun _ _ _ => wanted_none rfl _) rfl rfl (o_call [.tmp 9] rfl rfl en67 rfl cr2) ⟨rfl, trivial⟩ fun z4 => ?_
  refine mq ?_
  refine JO.s rfl (o_extract rfl rfl) ⟨rfl, trivial⟩ ?_
  refine JO.s rfl (o_extract rfl rfl) ⟨rfl, trivial⟩ ?_
  refine aq ?_
  refine aq ?_
  refine nt ?_
  refine JC.seq ?_
  refine sr ?_
  refine mq ?_
  refine JO.s rfl (o_neq rfl) ⟨rfl, rfl, trivial⟩ ?_
  refine nt ?_
  refine JC.cond rfl (fun hb => ?_) (fun hb => ?_)
  ·
   replace h := b_if (n_t hb) h
   refine sr ?_
   refine mq ?_
   refine cq ?_
   refine aq ?_
   refine nt ?_
   refine JC.ret ?_
   refine JN.then_r ?_
   refine JN.se (SE.ent (t := (.slice tStep)) (x := []) 2 rfl .nil rfl rfl) ?_
   obtain rfl := Option.some.inj h
   exact JN.ret () [_, _] 0 ⟨rfl, rfl, trivial⟩ rfl
  ·
   replace h := b_ifn (n_fn hb) h
   refine JC.skip ?_
   refine JN.then_n ?_
   show JC _ _ _ _ _
   refine sr ?_
   refine mq ?_
   obtain ⟨r5, er5, h⟩ := b_bind h
   have cr5 := chg_quick_kept_ok k ((q3.1.1, q3.1.2.1, q3.1.2.2.1, q3.1.2.2.2), q3.2.1, q3.2.2) z4.1 (.map (some z4.2)) (0 : Int) r5 er5
   refine JO.s11 rfl rfl rfl (o_call [.tmp 17, .const (.int .u8 (0))] rfl rfl en83 rfl cr5) ⟨rfl, rfl, trivial⟩ ?_
   refine mq ?_
   refine JO.s rfl (o_extract rfl rfl) ⟨rfl, trivial⟩ ?_
   refine JO.s rfl (o_extract rfl rfl) ⟨rfl, trivial⟩ ?_
   refine aq ?_
   refine aq ?_
   refine nt ?_
   refine JC.seq ?_
   refine sr ?_
   refine mq ?_
   refine JO.s rfl (o_not rfl) ⟨rfl, trivial⟩ ?_
   refine nt ?_
   refine JC.cond rfl (fun hb => ?_) (fun hb => ?_)
   ·
    replace h := b_if (nv_t hb) h
    refine sr ?_
    refine cq ?_
    refine cq ?_
    refine nt ?_
    refine JC.ret ?_
    refine JN.then_r ?_
    refine JN.se (SE.ent (t := (.slice tStep)) (x := []) 2 rfl .nil rfl rfl) ?_
    obtain rfl := Option.some.inj h
    exact JN.ret () [_, _] 0 ⟨rfl, rfl, trivial⟩ rfl
   ·
    replace h := b_ifn (nv_fn hb) h
    refine JC.skip ?_
    refine JN.then_n ?_
    show JC _ _ _ _ _
    refine sr ?_
    refine mq ?_
    refine aq ?_
    refine cq ?_
    refine nt ?_
    refine JC.ret ?_
    obtain rfl := Option.some.inj h
    exact JN.ret () [_, _] 0 ⟨rfl, rfl, trivial⟩ rfl


def kit_Tuples_l3 (k : Nat) (a0 : Int) (y3 : Int × (List (List Int))) (y9 : (List (List Int)) × Int) : Nat → ((List (List Int)) × Int) → Option (List (List Int))
 | 0, _ => none
 | n + 1, y13 =>
  if y13.2 < a0 then ((geti y3.2 y9.2).bind fun x15 =>
  (kit_CopyInts k x15).bind fun r16 =>
  (chkP (okLen (List.length r16 + List.length [y13.2]))).bind fun _ =>
  (chkP (okLen (List.length y13.1 + List.length [r16 ++ [y13.2]]))).bind fun _ =>
  (ck (y13.2 + (1 : Int))).bind fun x22 =>
  kit_Tuples_l3 k a0 y3 y9 n (y13.1 ++ [r16 ++ [y13.2]], x22)) else (some y13.1)

def kit_Tuples_l2 (k : Nat) (a0 : Int) (y3 : Int × (List (List Int))) : Nat → ((List (List Int)) × Int) → Option (List (List Int))
 | 0, _ => none
 | n + 1, y9 =>
  if y9.2 < (y3.2.length : Int) then (((kit_Tuples_l3 k a0 y3 y9 k (y9.1, (0 : Int))) : Option ((List (List Int)))).bind fun x11 =>
  (ck (y9.2 + (1 : Int))).bind fun x23 =>
  kit_Tuples_l2 k a0 y3 n (x11, x23)) else (some y9.1)

def kit_Tuples_l1 (k : Nat) (a0 : Int) : Nat → (Int × (List (List Int))) → Option (List (List Int))
 | 0, _ => none
 | n + 1, y3 =>
  if (0 : Int) < y3.1 then (((((kit_Tuples_l2 k a0 y3 k (([] : (List (List Int))), (0 : Int))) : Option ((List (List Int)))).bind fun x7 =>
  some x7) : Option ((List (List Int)))).bind fun x5 =>
  (ck (y3.1 - (1 : Int))).bind fun x24 =>
  kit_Tuples_l1 k a0 n (x24, x5)) else (some y3.2)
def kit_Tuples (k : Nat) (a0 : Int) (a1 : Int) : Option (List (List Int)) :=
 ((kit_Tuples_l1 k a0 k (a1, [[]])) : Option ((List (List Int)))).bind fun x1 =>
 some x1

theorem kit_Tuples_ok (k : Nat) (a0 : Int) (a1 : Int) (r : (List (List Int))) (h : kit_Tuples k a0 a1 = some r) :
 Ctr Try.prog 85 [.eq (.int .i64 a0), .eq (.int .i64 a1)] [] (fun _ : Unit => (resA [.rep (.slice (.slice (.int .i64))) r], [])) := by
 unfold kit_Tuples at h
 replace h := b_top h
 refine Ctr.of 38 Try.func85 rfl Try.ntmps85 rfl fun S w0 => ?_
 refine sr ?_
 refine cq ?_
 refine nt ?_
 refine sr ?_
 refine JO.s rfl (o_litB (t := (.slice (.int .i64))) [(.const (.slice none 0 0), _)] [[]] rfl rfl sl78 (.cons rfl .nil .nil) rfl rfl) ⟨rfl, trivial⟩ ?_
 refine aq ?_
 refine nt ?_
 refine JC.cutB (Z := Unit) (α := (List (List Int))) (fun z2 x1 => [(5, .rep (.slice (.slice (.int .i64))) x1)]) (fun z2 x1 => []) h (fun K h => ?_) (fun z2 x1 h => ?_)
 ·
  refine JC.block ?_
  refine JC.loopB (Z := Unit) (α := Int × (List (List Int))) (fun z4 y3 => [(0, .eq (.int .i64 a0)), (1, .eq (.int .i64 y3.1)), (5, .rep (.slice (.slice (.int .i64))) y3.2)]) (fun z4 y3 => []) (kit_Tuples_l1 k a0) k () (a1, [[]]) (fun _ => rfl) h (SE.fin [] ⟨rfl, rfl, rfl, trivial⟩ rfl) (fun n z4 y3 h => ?_)
  unfold kit_Tuples_l1 at h
  refine JC.seq ?_
  refine sr ?_
  refine mq ?_
  refine JO.s rfl (o_gtr rfl) ⟨rfl, rfl, trivial⟩ ?_
  refine nt ?_
  refine JC.cond rfl (fun hb => ?_) (fun hb => ?_)
  ·
   replace h := b_if (d_t hb) h
   refine JC.skip ?_
   refine JN.then_n ?_
   show JC _ _ _ _ _
   refine JC.cutB (Z := Value) (α := (List (List Int))) (fun z6 x5 => [(0, .eq (.int .i64 a0)), (1, .eq (.int .i64 y3.1)), (5, .eq z6)]) (fun z6 x5 => [.sl z6 22 (.slice (.int .i64)) x5]) h (fun K h => ?_) (fun z6 x5 h => ?_)
   ·
    refine JC.block ?_
    refine sr ?_
    refine cq ?_
    refine nt ?_
    refine JC.cutB (Z := Value) (α := (List (List Int))) (fun z8 x7 => [(0, .eq (.int .i64 a0)), (1, .eq (.int .i64 y3.1)), (6, .eq z8)]) (fun z8 x7 => [.sl z8 22 (.slice (.int .i64)) x7]) h (fun K h => ?_) (fun z8 x7 h => ?_)
    ·
     refine sr ?_
     refine cq ?_
     refine nt ?_
     refine JC.block ?_
     refine JC.se (SE.nil 22 (.slice (.int .i64))) ?_
     refine JC.loopB (Z := Value) (α := (List (List Int)) × Int) (fun z10 y9 => [(0, .eq (.int .i64 a0)), (1, .eq (.int .i64 y3.1)), (5, .rep (.slice (.slice (.int .i64))) y3.2), (6, .eq z10), (7, .eq (.int .i64 y9.2))]) (fun z10 y9 => [.sl z10 22 (.slice (.int .i64)) y9.1]) (kit_Tuples_l2 k a0 y3) k (.slice none 0 0) (([] : (List (List Int))), (0 : Int)) (fun _ => rfl) h (SE.fin [0] ⟨rfl, rfl, rfl, rfl, rfl, trivial⟩ rfl) (fun n z10 y9 h => ?_)
     unfold kit_Tuples_l2 at h
     refine JC.seq ?_
     refine sr ?_
     iterate 2 refine mq ?_
     refine JO.s rfl (o_len rfl rfl Try.underlying78) ⟨rfl, trivial⟩ ?_
     refine JO.s rfl (o_lss rfl) ⟨rfl, rfl, trivial⟩ ?_
     refine nt ?_
     refine JC.cond rfl (fun hb => ?_) (fun hb => ?_)
     ·
      replace h := b_if (d_t hb) h
      refine JC.skip ?_
      refine JN.then_n ?_
      show JC _ _ _ _ _
      refine JC.cutB (Z := Value) (α := (List (List Int))) (fun z12 x11 => [(0, .eq (.int .i64 a0)), (1, .eq (.int .i64 y3.1)), (5, .rep (.slice (.slice (.int .i64))) y3.2), (6, .eq z12), (7, .eq (.int .i64 y9.2))]) (fun z12 x11 => [.sl z12 22 (.slice (.int .i64)) x11]) h (fun K h => ?_) (fun z12 x11 h => ?_)
      ·
       refine JC.block ?_
       refine sr ?_
       refine cq ?_
       refine nt ?_
       refine JC.block ?_
       refine JC.loopB (Z := Value) (α := (List (List Int)) × Int) (fun z14 y13 => [(0, .eq (.int .i64 a0)), (1, .eq (.int .i64 y3.1)), (5, .rep (.slice (.slice (.int .i64))) y3.2), (6, .eq z14), (7, .eq (.int .i64 y9.2)), (8, .eq (.int .i64 y13.2))]) (fun z14 y13 => [.sl z14 22 (.slice (.int .i64)) y13.1]) (kit_Tuples_l3 k a0 y3 y9) k z10 (y9.1, (0 : Int)) (fun _ => rfl) h (SE.fin [0] ⟨rfl, rfl, rfl, rfl, rfl, rfl, trivial⟩ rfl) (fun n z14 y13 h => ?_)
       unfold kit_Tuples_l3 at h
       refine JC.seq ?_
       refine sr ?_
       iterate 2 refine mq ?_
       refine JO.s rfl (o_lss rfl) ⟨rfl, rfl, trivial⟩ ?_
       refine nt ?_
       refine JC.cond rfl (fun hb => ?_) (fun hb => ?_)
       ·
        replace h := b_if (d_t hb) h
        refine JC.skip ?_
        refine JN.then_n ?_
        show JC _ _ _ _ _
        refine JC.seq ?_
        refine JC.block ?_
        refine JC.region ?_
        iterate 3 refine mq ?_
        obtain ⟨x15, ex15, h⟩ := b_bind h
        refine JO.s rfl (o_index (t := (.slice (.int .i64))) rfl Try.underlying78 sz22 ex15) ⟨rfl, rfl, trivial⟩ ?_
        refine JO.s rfl (o_load_at (t := (.slice (.int .i64))) rfl sz22 rfl) ⟨rfl, trivial⟩ ?_
        obtain ⟨r16, er16, h⟩ := b_bind h
        have cr16 := kit_CopyInts_ok k x15 r16 er16
        refine JO.s01 rfl rfl rfl (o_call [.tmp 29] rfl rfl en37 rfl cr16) ⟨rfl, trivial⟩ fun v17 => ?_
        refine mq ?_
        refine JO.s rfl (o_litB (t := (.int .i64)) [(.tmp 31, _)] [y13.2] rfl rfl sl22 (.cons rfl .int .nil) rfl rfl) ⟨rfl, trivial⟩ ?_
        obtain ⟨u18, eu18, h⟩ := b_bind h
        refine JO.s1x rfl rfl rfl (o_append rfl rfl sl22 (chkP_some eu18)) ⟨rfl, rfl, trivial⟩ fun v19 => ?_
        refine JO.se (SE.frz [33] ⟨rfl, trivial⟩) ?_
        refine JO.s rfl (o_litB (t := (.slice (.int .i64))) [(.tmp 33, _)] [r16 ++ [y13.2]] rfl rfl sl78 (.cons rfl .rep .nil) rfl rfl) ⟨rfl, trivial⟩ ?_
        obtain ⟨u20, eu20, h⟩ := b_bind h
        refine JO.s1x rfl rfl rfl (o_append rfl rfl sl78 (chkP_some eu20)) ⟨rfl, rfl, trivial⟩ fun v21 => ?_
        refine aq ?_
        refine JO.nil ?_
        refine JN.blk_n ?_
        refine JN.then_n ?_
        show JC _ _ _ _ _
        refine JC.region ?_
        refine mq ?_
        obtain ⟨x22, ex22, h⟩ := b_bind h
        refine JO.s rfl (o_add rfl ex22) ⟨rfl, rfl, trivial⟩ ?_
        refine aq ?_
        refine JO.nil ?_
        refine JN.then_n ?_
        exact JN.z (v21, (y13.1 ++ [r16 ++ [y13.2]], x22)) h (SE.fin [0] ⟨rfl, rfl, rfl, rfl, rfl, rfl, trivial⟩ rfl)
       ·
        replace h := b_ifn (d_f hb) h
        refine JC.exit ?_
        refine JN.then_x ?_
        refine JN.then_x ?_
        refine JN.blk_hit ?_
        refine JN.blk_n ?_
        refine JN.then_n ?_
        exact JN.z (z14, y13.1) h (SE.fin [0] ⟨rfl, rfl, rfl, rfl, rfl, trivial⟩ rfl)
      ·
       refine JC.region ?_
       refine mq ?_
       obtain ⟨x23, ex23, h⟩ := b_bind h
       refine JO.s rfl (o_add rfl ex23) ⟨rfl, rfl, trivial⟩ ?_
       refine aq ?_
       refine JO.nil ?_
       refine JN.then_n ?_
       exact JN.z (z12, (x11, x23)) h (SE.fin [0] ⟨rfl, rfl, rfl, rfl, rfl, trivial⟩ rfl)
     ·
      replace h := b_ifn (d_f hb) h
      refine JC.exit ?_
      refine JN.then_x ?_
      refine JN.then_x ?_
      refine JN.blk_hit ?_
      refine JN.then_n ?_
      exact JN.z (z10, y9.1) h (SE.fin [0] ⟨rfl, rfl, rfl, trivial⟩ rfl)
    ·
     refine JC.region ?_
     refine mq ?_
     refine aq ?_
     refine JO.nil ?_
     refine JN.blk_n ?_
     refine JN.then_n ?_
     exact JN.z (z8, x7) h (SE.fin [0] ⟨rfl, rfl, rfl, trivial⟩ rfl)
   ·
    refine JC.region ?_
    refine mq ?_
    obtain ⟨x24, ex24, h⟩ := b_bind h
    refine JO.s rfl (o_sub rfl ex24) ⟨rfl, rfl, trivial⟩ ?_
    refine aq ?_
    refine JO.nil ?_
    refine JN.then_n ?_
    refine JN.se (SE.frz [5] ⟨rfl, trivial⟩) ?_
    exact JN.z ((), (x24, x5)) h (SE.fin [] ⟨rfl, rfl, rfl, trivial⟩ rfl)
  ·
   replace h := b_ifn (d_f hb) h
   refine JC.exit ?_
   refine JN.then_x ?_
   refine JN.then_x ?_
   refine JN.blk_hit ?_
   refine JN.then_n ?_
   exact JN.z ((), y3.2) h (SE.fin [] ⟨rfl, trivial⟩ rfl)
 ·
  refine sr ?_
  refine mq ?_
  refine aq ?_
  refine nt ?_
  refine JC.ret ?_
  obtain rfl := Option.some.inj h
  exact JN.ret () [_] 0 ⟨rfl, trivial⟩ rfl


def kit_Rows_l2 (k : Nat) (a0 : Int) (r1 : (List (List Int))) (y4 : (List (List Int)) × Int) : Nat → (Bool × Int) → Option Bool
 | 0, _ => none
 | n + 1, y10 =>
  if y10.2 < a0 then (((if y10.1 = true then ((geti r1 y4.2).bind fun x14 =>
  (kit_At k x14 y10.2).bind fun r15 =>
  some (decide ((0 : Int) ≤ r15))) else (some false)) : Option (Bool)).bind fun x12 =>
  (ck (y10.2 + (1 : Int))).bind fun x16 =>
  kit_Rows_l2 k a0 r1 y4 n (x12, x16)) else (some y10.1)

def kit_Rows_l1 (k : Nat) (a0 : Int) (r1 : (List (List Int))) : Nat → ((List (List Int)) × Int) → Option (List (List Int))
 | 0, _ => none
 | n + 1, y4 =>
  if y4.2 < (r1.length : Int) then (((((kit_Rows_l2 k a0 r1 y4 k (true, (0 : Int))) : Option (Bool)).bind fun x8 =>
  if x8 = true then ((geti r1 y4.2).bind fun x17 =>
  (chkP (okLen (List.length y4.1 + List.length [x17]))).bind fun _ =>
  some (y4.1 ++ [x17])) else (some y4.1)) : Option ((List (List Int)))).bind fun x6 =>
  (ck (y4.2 + (1 : Int))).bind fun x20 =>
  kit_Rows_l1 k a0 r1 n (x6, x20)) else (some y4.1)
def kit_Rows (k : Nat) (a0 : Int) : Option (List (List Int)) :=
 (kit_Tuples k a0 a0).bind fun r1 =>
 ((kit_Rows_l1 k a0 r1 k (([] : (List (List Int))), (0 : Int))) : Option ((List (List Int)))).bind fun x2 =>
 some x2

theorem kit_Rows_ok (k : Nat) (a0 : Int) (r : (List (List Int))) (h : kit_Rows k a0 = some r) :
 Ctr Try.prog 84 [.eq (.int .i64 a0)] [] (fun _ : Unit => (resA [.rep (.slice (.slice (.int .i64))) r], [])) := by
 unfold kit_Rows at h
 replace h := b_top h
 refine Ctr.of 41 Try.func84 rfl Try.ntmps84 rfl fun S w0 => ?_
 refine sr ?_
 refine cq ?_
 refine nt ?_
 refine sr ?_
 refine cq ?_
 refine nt ?_
 refine sr ?_
 iterate 2 refine mq ?_
 obtain ⟨r1, er1, h⟩ := b_bind h
 have cr1 := kit_Tuples_ok k a0 a0 r1 er1
 refine JO.s rfl (o_call [.tmp 8, .tmp 9] rfl rfl en85 rfl cr1) ⟨rfl, rfl, trivial⟩ ?_
 refine aq ?_
 refine nt ?_
 refine JC.cutB (Z := Value) (α := (List (List Int))) (fun z3 x2 => [(3, .eq z3)]) (fun z3 x2 => [.sl z3 22 (.slice (.int .i64)) x2]) h (fun K h => ?_) (fun z3 x2 h => ?_)
 ·
  refine sr ?_
  refine cq ?_
  refine nt ?_
  refine JC.block ?_
  refine JC.se (SE.nil 22 (.slice (.int .i64))) ?_
  refine JC.loopB (Z := Value) (α := (List (List Int)) × Int) (fun z5 y4 => [(0, .eq (.int .i64 a0)), (3, .eq z5), (4, .rep (.slice (.slice (.int .i64))) r1), (5, .eq (.int .i64 y4.2))]) (fun z5 y4 => [.sl z5 22 (.slice (.int .i64)) y4.1]) (kit_Rows_l1 k a0 r1) k (.slice none 0 0) (([] : (List (List Int))), (0 : Int)) (fun _ => rfl) h (SE.fin [0] ⟨rfl, rfl, rfl, rfl, trivial⟩ rfl) (fun n z5 y4 h => ?_)
  unfold kit_Rows_l1 at h
  refine JC.seq ?_
  refine sr ?_
  iterate 2 refine mq ?_
  refine JO.s rfl (o_len rfl rfl Try.underlying78) ⟨rfl, trivial⟩ ?_
  refine JO.s rfl (o_lss rfl) ⟨rfl, rfl, trivial⟩ ?_
  refine nt ?_
  refine JC.cond rfl (fun hb => ?_) (fun hb => ?_)
  ·
   replace h := b_if (d_t hb) h
   refine JC.skip ?_
   refine JN.then_n ?_
   show JC _ _ _ _ _
   refine JC.cutB (Z := Value) (α := (List (List Int))) (fun z7 x6 => [(0, .eq (.int .i64 a0)), (3, .eq z7), (4, .rep (.slice (.slice (.int .i64))) r1), (5, .eq (.int .i64 y4.2))]) (fun z7 x6 => [.sl z7 22 (.slice (.int .i64)) x6]) h (fun K h => ?_) (fun z7 x6 h => ?_)
   ·
    refine JC.block ?_
    refine sr ?_
    refine cq ?_
    refine nt ?_
    refine JC.cutB (Z := Unit) (α := Bool) (fun z9 x8 => [(0, .eq (.int .i64 a0)), (3, .eq z5), (4, .rep (.slice (.slice (.int .i64))) r1), (5, .eq (.int .i64 y4.2)), (6, .eq (.bool x8))]) (fun z9 x8 => [.sl z5 22 (.slice (.int .i64)) y4.1]) h (fun K h => ?_) (fun z9 x8 h => ?_)
    ·
     refine sr ?_
     refine cq ?_
     refine nt ?_
     refine JC.block ?_
     refine JC.loopB (Z := Unit) (α := Bool × Int) (fun z11 y10 => [(0, .eq (.int .i64 a0)), (3, .eq z5), (4, .rep (.slice (.slice (.int .i64))) r1), (5, .eq (.int .i64 y4.2)), (6, .eq (.bool y10.1)), (7, .eq (.int .i64 y10.2))]) (fun z11 y10 => [.sl z5 22 (.slice (.int .i64)) y4.1]) (kit_Rows_l2 k a0 r1 y4) k () (true, (0 : Int)) (fun _ => rfl) h (SE.fin [0] ⟨rfl, rfl, rfl, rfl, rfl, rfl, trivial⟩ rfl) (fun n z11 y10 h => ?_)
     unfold kit_Rows_l2 at h
     refine JC.seq ?_
     refine sr ?_
     iterate 2 refine mq ?_
     refine JO.s rfl (o_lss rfl) ⟨rfl, rfl, trivial⟩ ?_
     refine nt ?_
     refine JC.cond rfl (fun hb => ?_) (fun hb => ?_)
     ·
      replace h := b_if (d_t hb) h
      refine JC.skip ?_
      refine JN.then_n ?_
      show JC _ _ _ _ _
      refine JC.cutB (Z := Unit) (α := Bool) (fun z13 x12 => [(0, .eq (.int .i64 a0)), (3, .eq z5), (4, .rep (.slice (.slice (.int .i64))) r1), (5, .eq (.int .i64 y4.2)), (6, .eq (.bool x12)), (7, .eq (.int .i64 y10.2))]) (fun z13 x12 => [.sl z5 22 (.slice (.int .i64)) y4.1]) h (fun K h => ?_) (fun z13 x12 h => ?_)
      ·
       refine JC.block ?_
       refine JC.region ?_
       iterate 2 refine mq ?_
       refine JO.bool (s := 23) rfl (fun hb => ?_) (fun hb => ?_)
       ·
        replace h := b_if (v_t hb) h
        refine gm ?_
        refine gm ?_
        obtain ⟨x14, ex14, h⟩ := b_bind h
        refine JO.g00 rfl rfl rfl rfl rfl rfl (o_index (t := (.slice (.int .i64))) rfl Try.underlying78 sz22 ex14) ⟨rfl, rfl, trivial⟩ ?_
        refine JO.g00 rfl rfl rfl rfl rfl rfl (o_load_at (t := (.slice (.int .i64))) rfl sz22 rfl) ⟨rfl, trivial⟩ ?_
        refine gm ?_
        obtain ⟨r15, er15, h⟩ := b_bind h
        have cr15 := kit_At_ok k x14 y10.2 r15 er15
        refine JO.g00 rfl rfl rfl rfl rfl rfl (o_call [.tmp 27, .tmp 28] rfl rfl en30 rfl cr15) ⟨rfl, rfl, trivial⟩ ?_
        refine JO.g00 rfl rfl rfl rfl rfl rfl (o_geq rfl) ⟨rfl, rfl, trivial⟩ ?_
        refine pt ?_
        refine aq ?_
        refine JO.nil ?_
        refine JN.blk_n ?_
        refine JN.then_n ?_
        exact JN.z ((), decide ((0 : Int) ≤ r15)) h (SE.fin [0] ⟨rfl, rfl, rfl, rfl, rfl, rfl, trivial⟩ rfl)
       ·
        replace h := b_ifn (v_f hb) h
        iterate 7 refine gn ?_
        refine pf ?_
        refine aq ?_
        refine JO.nil ?_
        refine JN.blk_n ?_
        refine JN.then_n ?_
        exact JN.z ((), false) h (SE.fin [0] ⟨rfl, rfl, rfl, rfl, rfl, rfl, trivial⟩ rfl)
      ·
       refine JC.region ?_
       refine mq ?_
       obtain ⟨x16, ex16, h⟩ := b_bind h
       refine JO.s rfl (o_add rfl ex16) ⟨rfl, rfl, trivial⟩ ?_
       refine aq ?_
       refine JO.nil ?_
       refine JN.then_n ?_
       exact JN.z ((), (x12, x16)) h (SE.fin [0] ⟨rfl, rfl, rfl, rfl, rfl, rfl, trivial⟩ rfl)
     ·
      replace h := b_ifn (d_f hb) h
      refine JC.exit ?_
      refine JN.then_x ?_
      refine JN.then_x ?_
      refine JN.blk_hit ?_
      refine JN.then_n ?_
      exact JN.z ((), y10.1) h (SE.fin [0] ⟨rfl, rfl, rfl, rfl, rfl, trivial⟩ rfl)
    ·
     refine sr ?_
     refine mq ?_
     refine nt ?_
     refine JC.cond rfl (fun hb => ?_) (fun hb => ?_)
     ·
      replace h := b_if (v_t hb) h
      refine JC.region ?_
      iterate 3 refine mq ?_
      obtain ⟨x17, ex17, h⟩ := b_bind h
      refine JO.s rfl (o_index (t := (.slice (.int .i64))) rfl Try.underlying78 sz22 ex17) ⟨rfl, rfl, trivial⟩ ?_
      refine JO.s rfl (o_load_at (t := (.slice (.int .i64))) rfl sz22 rfl) ⟨rfl, trivial⟩ ?_
      refine JO.s rfl (o_litB (t := (.slice (.int .i64))) [(.tmp 37, _)] [x17] rfl rfl sl78 (.cons rfl .rep .nil) rfl rfl) ⟨rfl, trivial⟩ ?_
      obtain ⟨u18, eu18, h⟩ := b_bind h
      refine JO.s1x rfl rfl rfl (o_append rfl rfl sl78 (chkP_some eu18)) ⟨rfl, rfl, trivial⟩ fun v19 => ?_
      refine aq ?_
      refine JO.nil ?_
      refine JN.blk_n ?_
      refine JN.then_n ?_
      exact JN.z (v19, y4.1 ++ [x17]) h (SE.fin [0] ⟨rfl, rfl, rfl, rfl, trivial⟩ rfl)
     ·
      replace h := b_ifn (v_f hb) h
      refine JC.skip ?_
      refine JN.blk_n ?_
      refine JN.then_n ?_
      exact JN.z (z5, y4.1) h (SE.fin [0] ⟨rfl, rfl, rfl, rfl, trivial⟩ rfl)
   ·
    refine JC.region ?_
    refine mq ?_
    obtain ⟨x20, ex20, h⟩ := b_bind h
    refine JO.s rfl (o_add rfl ex20) ⟨rfl, rfl, trivial⟩ ?_
    refine aq ?_
    refine JO.nil ?_
    refine JN.then_n ?_
    exact JN.z (z7, (x6, x20)) h (SE.fin [0] ⟨rfl, rfl, rfl, rfl, trivial⟩ rfl)
  ·
   replace h := b_ifn (d_f hb) h
   refine JC.exit ?_
   refine JN.then_x ?_
   refine JN.then_x ?_
   refine JN.blk_hit ?_
   refine JN.then_n ?_
   exact JN.z (z5, y4.1) h (SE.fin [0] ⟨rfl, trivial⟩ rfl)
 ·
  refine sr ?_
  refine mq ?_
  refine aq ?_
  refine nt ?_
  refine JC.ret ?_
  refine JN.se (SE.frz [2, 3, 40] ⟨rfl, rfl, rfl, trivial⟩) ?_
  obtain rfl := Option.some.inj h
  exact JN.ret () [_] 0 ⟨rfl, trivial⟩ rfl


def law_all_l3 (k : Nat) (r2 : (List dTask)) (r3 : (List (List Int))) (r4 : (List (List Int))) (y7 : (List (List dStep)) × Int) (y11 : (List (List dStep)) × Int) : Nat → ((List dStep) × Int) → Option (List dStep)
 | 0, _ => none
 | n + 1, y17 =>
  if y17.2 < (r2.length : Int) then ((geti r3 y7.2).bind fun x19 =>
  (geti x19 y17.2).bind fun x20 =>
  (geti r4 y11.2).bind fun x21 =>
  (geti x21 y17.2).bind fun x22 =>
  (chkP (okLen (List.length y17.1 + List.length [(x20, x22)]))).bind fun _ =>
  (ck (y17.2 + (1 : Int))).bind fun x25 =>
  law_all_l3 k r2 r3 r4 y7 y11 n (y17.1 ++ [(x20, x22)], x25)) else (some y17.1)

def law_all_l2 (k : Nat) (r2 : (List dTask)) (r3 : (List (List Int))) (r4 : (List (List Int))) (y7 : (List (List dStep)) × Int) : Nat → ((List (List dStep)) × Int) → Option (List (List dStep))
 | 0, _ => none
 | n + 1, y11 =>
  if y11.2 < (r4.length : Int) then (((((law_all_l3 k r2 r3 r4 y7 y11 k (([] : (List dStep)), (0 : Int))) : Option ((List dStep))).bind fun x15 =>
  (chkP (okLen (List.length y11.1 + List.length [x15]))).bind fun _ =>
  some (y11.1 ++ [x15])) : Option ((List (List dStep)))).bind fun x13 =>
  (ck (y11.2 + (1 : Int))).bind fun x28 =>
  law_all_l2 k r2 r3 r4 y7 n (x13, x28)) else (some y11.1)

def law_all_l1 (k : Nat) (r2 : (List dTask)) (r3 : (List (List Int))) (r4 : (List (List Int))) : Nat → ((List (List dStep)) × Int) → Option (List (List dStep))
 | 0, _ => none
 | n + 1, y7 =>
  if y7.2 < (r3.length : Int) then (((law_all_l2 k r2 r3 r4 y7 k (y7.1, (0 : Int))) : Option ((List (List dStep)))).bind fun x9 =>
  (ck (y7.2 + (1 : Int))).bind fun x29 =>
  law_all_l1 k r2 r3 r4 n (x9, x29)) else (some y7.1)
def law_all (k : Nat) (a0 : dChange) : Option (List (List dStep)) :=
 (kit_TasksOf k a0).bind fun r2 =>
 (kit_Rows k (r2.length : Int)).bind fun r3 =>
 (kit_Tuples k (a0.2.1.length : Int) (r2.length : Int)).bind fun r4 =>
 ((law_all_l1 k r2 r3 r4 k (([] : (List (List dStep))), (0 : Int))) : Option ((List (List dStep)))).bind fun x5 =>
 some x5

theorem law_all_ok (k : Nat) (a0 : dChange) (r : (List (List dStep))) (h : law_all k a0 = some r) :
 Ctr Try.prog 42 [.rep tChange a0] [] (fun _ : Unit => (resA [.rep (.slice (.slice tStep)) r], [])) := by
 unfold law_all at h
 replace h := b_top h
 refine Ctr.of 61 Try.func42 rfl Try.ntmps42 rfl fun S w0 => ?_
 refine sr ?_
 refine JO.s01 rfl rfl rfl (o_box rfl rfl) ⟨rfl, trivial⟩ fun b1 => ?_
 refine cq ?_
 refine nt ?_
 refine sr ?_
 refine JO.s11 rfl rfl rfl (o_load_obj rfl sz28 (nfn) rfl) ⟨rfl, trivial⟩ ?_
 obtain ⟨r2, er2, h⟩ := b_bind h
 have cr2 := kit_TasksOf_ok k a0 r2 er2
 refine JO.s rfl (o_call [.tmp 11] rfl rfl en23 rfl cr2) ⟨rfl, trivial⟩ ?_
 refine JO.s rfl (o_len rfl rfl Try.underlying38) ⟨rfl, trivial⟩ ?_
 refine aq ?_
 refine nt ?_
 refine JC.seq ?_
 refine JC.drawN ?_
 refine dm ?_
 obtain ⟨r3, er3, h⟩ := b_bind h
 have cr3 := kit_Rows_ok k (r2.length : Int) r3 er3
 refine DN.s00 rfl rfl rfl (o_call [.tmp 14] rfl rfl en84 rfl cr3) ⟨rfl, trivial⟩ ?_
 refine DN.s00 rfl rfl rfl (o_field_obj rfl fo28_1) ⟨rfl, trivial⟩ ?_
 refine DN.s11 0 rfl rfl rfl rfl (o_load_obj rfl sz26 (fun _ => rfl) rfl) ⟨rfl, trivial⟩ ?_
 refine DN.s00 rfl rfl rfl (o_len rfl rfl Try.underlying26) ⟨rfl, trivial⟩ ?_
 refine dm ?_
 refine DN.fin (by kernel_rfl) mixed ?_
 obtain ⟨r4, er4, h⟩ := b_bind h
 have cr4 := kit_Tuples_ok k (a0.2.1.length : Int) (r2.length : Int) r4 er4
 refine JO.s rfl (o_call [.tmp 18, .tmp 19] rfl rfl en85 rfl cr4) ⟨rfl, rfl, trivial⟩ ?_
 refine aq ?_
 refine aq ?_
 refine nt ?_
 refine sr ?_
 refine cq ?_
 refine nt ?_
 refine JC.cutB (Z := Value) (α := (List (List dStep))) (fun z6 x5 => [(6, .eq z6)]) (fun z6 x5 => [.sl z6 30 (.slice tStep) x5]) h (fun K h => ?_) (fun z6 x5 h => ?_)
 ·
  refine sr ?_
  refine cq ?_
  refine nt ?_
  refine JC.block ?_
  refine JC.se (SE.nil 30 (.slice tStep)) ?_
  refine JC.loopB (Z := Value) (α := (List (List dStep)) × Int) (fun z8 y7 => [(3, .eq (.int .i64 (r2.length : Int))), (4, .rep (.slice (.slice (.int .i64))) r3), (5, .rep (.slice (.slice (.int .i64))) r4), (6, .eq z8), (7, .eq (.int .i64 y7.2))]) (fun z8 y7 => [.sl z8 30 (.slice tStep) y7.1]) (law_all_l1 k r2 r3 r4) k (.slice none 0 0) (([] : (List (List dStep))), (0 : Int)) (fun _ => rfl) h (SE.fin [0] ⟨rfl, rfl, rfl, rfl, rfl, trivial⟩ rfl) (fun n z8 y7 h => ?_)
  unfold law_all_l1 at h
  refine JC.seq ?_
  refine sr ?_
  iterate 2 refine mq ?_
  refine JO.s rfl (o_len rfl rfl Try.underlying78) ⟨rfl, trivial⟩ ?_
  refine JO.s rfl (o_lss rfl) ⟨rfl, rfl, trivial⟩ ?_
  refine nt ?_
  refine JC.cond rfl (fun hb => ?_) (fun hb => ?_)
  ·
   replace h := b_if (d_t hb) h
   refine JC.skip ?_
   refine JN.then_n ?_
   show JC _ _ _ _ _
   refine JC.cutB (Z := Value) (α := (List (List dStep))) (fun z10 x9 => [(3, .eq (.int .i64 (r2.length : Int))), (4, .rep (.slice (.slice (.int .i64))) r3), (5, .rep (.slice (.slice (.int .i64))) r4), (6, .eq z10), (7, .eq (.int .i64 y7.2))]) (fun z10 x9 => [.sl z10 30 (.slice tStep) x9]) h (fun K h => ?_) (fun z10 x9 h => ?_)
   ·
    refine JC.block ?_
    refine sr ?_
    refine cq ?_
    refine nt ?_
    refine JC.block ?_
    refine JC.loopB (Z := Value) (α := (List (List dStep)) × Int) (fun z12 y11 => [(3, .eq (.int .i64 (r2.length : Int))), (4, .rep (.slice (.slice (.int .i64))) r3), (5, .rep (.slice (.slice (.int .i64))) r4), (6, .eq z12), (7, .eq (.int .i64 y7.2)), (8, .eq (.int .i64 y11.2))]) (fun z12 y11 => [.sl z12 30 (.slice tStep) y11.1]) (law_all_l2 k r2 r3 r4 y7) k z8 (y7.1, (0 : Int)) (fun _ => rfl) h (SE.fin [0] ⟨rfl, rfl, rfl, rfl, rfl, rfl, trivial⟩ rfl) (fun n z12 y11 h => ?_)
    unfold law_all_l2 at h
    refine JC.seq ?_
    refine sr ?_
    iterate 2 refine mq ?_
    refine JO.s rfl (o_len rfl rfl Try.underlying78) ⟨rfl, trivial⟩ ?_
    refine JO.s rfl (o_lss rfl) ⟨rfl, rfl, trivial⟩ ?_
    refine nt ?_
    refine JC.cond rfl (fun hb => ?_) (fun hb => ?_)
    ·
     replace h := b_if (d_t hb) h
     refine JC.skip ?_
     refine JN.then_n ?_
     show JC _ _ _ _ _
     refine JC.cutB (Z := Value) (α := (List (List dStep))) (fun z14 x13 => [(3, .eq (.int .i64 (r2.length : Int))), (4, .rep (.slice (.slice (.int .i64))) r3), (5, .rep (.slice (.slice (.int .i64))) r4), (6, .eq z14), (7, .eq (.int .i64 y7.2)), (8, .eq (.int .i64 y11.2))]) (fun z14 x13 => [.sl z14 30 (.slice tStep) x13]) h (fun K h => ?_) (fun z14 x13 h => ?_)
     ·
      refine JC.block ?_
      refine sr ?_
      refine cq ?_
      refine nt ?_
      refine JC.cutB (Z := Value) (α := (List dStep)) (fun z16 x15 => [(3, .eq (.int .i64 (r2.length : Int))), (4, .rep (.slice (.slice (.int .i64))) r3), (5, .rep (.slice (.slice (.int .i64))) r4), (6, .eq z12), (7, .eq (.int .i64 y7.2)), (8, .eq (.int .i64 y11.2)), (9, .eq z16)]) (fun z16 x15 => [.sl z12 30 (.slice tStep) y11.1, .sl z16 43 tStep x15]) h (fun K h => ?_) (fun z16 x15 h => ?_)
      ·
       refine sr ?_
       refine cq ?_
       refine nt ?_
       refine JC.block ?_
       refine JC.se (SE.nil 43 tStep) ?_
       refine JC.loopB (Z := Value) (α := (List dStep) × Int) (fun z18 y17 => [(3, .eq (.int .i64 (r2.length : Int))), (4, .rep (.slice (.slice (.int .i64))) r3), (5, .rep (.slice (.slice (.int .i64))) r4), (6, .eq z12), (7, .eq (.int .i64 y7.2)), (8, .eq (.int .i64 y11.2)), (9, .eq z18), (10, .eq (.int .i64 y17.2))]) (fun z18 y17 => [.sl z12 30 (.slice tStep) y11.1, .sl z18 43 tStep y17.1]) (law_all_l3 k r2 r3 r4 y7 y11) k (.slice none 0 0) (([] : (List dStep)), (0 : Int)) (fun _ => rfl) h (SE.fin [1, 0] ⟨rfl, rfl, rfl, rfl, rfl, rfl, rfl, rfl, trivial⟩ rfl) (fun n z18 y17 h => ?_)
       unfold law_all_l3 at h
       refine JC.seq ?_
       refine sr ?_
       iterate 2 refine mq ?_
       refine JO.s rfl (o_lss rfl) ⟨rfl, rfl, trivial⟩ ?_
       refine nt ?_
       refine JC.cond rfl (fun hb => ?_) (fun hb => ?_)
       ·
        replace h := b_if (d_t hb) h
        refine JC.skip ?_
        refine JN.then_n ?_
        show JC _ _ _ _ _
        refine JC.seq ?_
        refine JC.block ?_
        refine JC.drawN ?_
        refine dm ?_
        refine dm ?_
        refine dm ?_
        obtain ⟨x19, ex19, h⟩ := b_bind h
        refine DN.s00 rfl rfl rfl (o_index (t := (.slice (.int .i64))) rfl Try.underlying78 sz22 ex19) ⟨rfl, rfl, trivial⟩ ?_
        refine DN.s00 rfl rfl rfl (o_load_at (t := (.slice (.int .i64))) rfl sz22 rfl) ⟨rfl, trivial⟩ ?_
        refine dm ?_
        obtain ⟨x20, ex20, h⟩ := b_bind h
        refine DN.s00 rfl rfl rfl (o_index (t := (.int .i64)) rfl Try.underlying22 sz3 ex20) ⟨rfl, rfl, trivial⟩ ?_
        refine DN.s00 rfl rfl rfl (o_load_at (t := (.int .i64)) rfl sz3 rfl) ⟨rfl, trivial⟩ ?_
        refine dm ?_
        refine dm ?_
        obtain ⟨x21, ex21, h⟩ := b_bind h
        refine DN.s00 rfl rfl rfl (o_index (t := (.slice (.int .i64))) rfl Try.underlying78 sz22 ex21) ⟨rfl, rfl, trivial⟩ ?_
        refine DN.s00 rfl rfl rfl (o_load_at (t := (.slice (.int .i64))) rfl sz22 rfl) ⟨rfl, trivial⟩ ?_
        refine dm ?_
        obtain ⟨x22, ex22, h⟩ := b_bind h
        refine DN.s00 rfl rfl rfl (o_index (t := (.int .i64)) rfl Try.underlying22 sz3 ex22) ⟨rfl, rfl, trivial⟩ ?_
        refine DN.s00 rfl rfl rfl (o_load_at (t := (.int .i64)) rfl sz3 rfl) ⟨rfl, trivial⟩ ?_
        refine DN.s00 rfl rfl rfl (o_buildT [(0, .tmp 45, _), (1, .tmp 52, _)] rfl pl43 za43 alb43 (stors ⟨rfl, rfl, trivial⟩) rfl) ⟨rfl, rfl, trivial⟩ ?_
        refine DN.s00 rfl rfl rfl (o_litB (t := tStep) [(.tmp 53, _)] [(x20, x22)] rfl rfl sl30 (.cons trivial (.agg (.pair .int .int)) .nil) rfl rfl) ⟨rfl, trivial⟩ ?_
        refine DN.fin (by kernel_rfl) mixed ?_
        obtain ⟨u23, eu23, h⟩ := b_bind h
        refine JO.front 1 rfl ?_
        refine JO.s1x rfl rfl rfl (o_append rfl rfl sl30 (chkP_some eu23)) ⟨rfl, rfl, trivial⟩ fun v24 => ?_
        refine aq ?_
        refine JO.nil ?_
        refine JN.blk_n ?_
        refine JN.then_n ?_
        show JC _ _ _ _ _
        refine JC.region ?_
        refine mq ?_
        obtain ⟨x25, ex25, h⟩ := b_bind h
        refine JO.s rfl (o_add rfl ex25) ⟨rfl, rfl, trivial⟩ ?_
        refine aq ?_
        refine JO.nil ?_
        refine JN.then_n ?_
        exact JN.z (v24, (y17.1 ++ [(x20, x22)], x25)) h (SE.fin [1, 0] ⟨rfl, rfl, rfl, rfl, rfl, rfl, rfl, rfl, trivial⟩ rfl)
       ·
        replace h := b_ifn (d_f hb) h
        refine JC.exit ?_
        refine JN.then_x ?_
        refine JN.then_x ?_
        refine JN.blk_hit ?_
        refine JN.then_n ?_
        exact JN.z (z18, y17.1) h (SE.fin [0, 1] ⟨rfl, rfl, rfl, rfl, rfl, rfl, rfl, trivial⟩ rfl)
      ·
       refine JC.region ?_
       iterate 2 refine mq ?_
       refine JO.front 1 rfl ?_
       refine JO.se (SE.frz [9, 57] ⟨rfl, rfl, trivial⟩) ?_
       refine JO.s rfl (o_litB (t := (.slice tStep)) [(.tmp 57, _)] [x15] rfl rfl sl73 (.cons rfl .rep .nil) rfl rfl) ⟨rfl, trivial⟩ ?_
       obtain ⟨u26, eu26, h⟩ := b_bind h
       refine JO.s1x rfl rfl rfl (o_append rfl rfl sl73 (chkP_some eu26)) ⟨rfl, rfl, trivial⟩ fun v27 => ?_
       refine aq ?_
       refine JO.nil ?_
       refine JN.blk_n ?_
       refine JN.then_n ?_
       exact JN.z (v27, y11.1 ++ [x15]) h (SE.fin [0] ⟨rfl, rfl, rfl, rfl, rfl, rfl, trivial⟩ rfl)
     ·
      refine JC.region ?_
      refine mq ?_
      obtain ⟨x28, ex28, h⟩ := b_bind h
      refine JO.s rfl (o_add rfl ex28) ⟨rfl, rfl, trivial⟩ ?_
      refine aq ?_
      refine JO.nil ?_
      refine JN.then_n ?_
      exact JN.z (z14, (x13, x28)) h (SE.fin [0] ⟨rfl, rfl, rfl, rfl, rfl, rfl, trivial⟩ rfl)
    ·
     replace h := b_ifn (d_f hb) h
     refine JC.exit ?_
     refine JN.then_x ?_
     refine JN.then_x ?_
     refine JN.blk_hit ?_
     refine JN.blk_n ?_
     refine JN.then_n ?_
     exact JN.z (z12, y11.1) h (SE.fin [0] ⟨rfl, rfl, rfl, rfl, rfl, trivial⟩ rfl)
   ·
    refine JC.region ?_
    refine mq ?_
    obtain ⟨x29, ex29, h⟩ := b_bind h
    refine JO.s rfl (o_add rfl ex29) ⟨rfl, rfl, trivial⟩ ?_
    refine aq ?_
    refine JO.nil ?_
    refine JN.then_n ?_
    exact JN.z (z10, (x9, x29)) h (SE.fin [0] ⟨rfl, rfl, rfl, rfl, rfl, trivial⟩ rfl)
  ·
   replace h := b_ifn (d_f hb) h
   refine JC.exit ?_
   refine JN.then_x ?_
   refine JN.then_x ?_
   refine JN.blk_hit ?_
   refine JN.then_n ?_
   exact JN.z (z8, y7.1) h (SE.fin [0] ⟨rfl, trivial⟩ rfl)
 ·
  refine sr ?_
  refine mq ?_
  refine aq ?_
  refine nt ?_
  refine JC.ret ?_
  refine JN.se (SE.frz [2, 6, 60] ⟨rfl, rfl, rfl, trivial⟩) ?_
  obtain rfl := Option.some.inj h
  exact JN.ret () [_] 0 ⟨rfl, trivial⟩ rfl


def law_sooner_l1 (k : Nat) (a0 : (List dStep)) (a1 : (List dStep)) : Nat → Int → Option (Except Bool Unit)
 | 0, _ => none
 | n + 1, y3 =>
  if y3 < (a0.length : Int) then ((geti a0 y3).bind fun x5 =>
  (geti a1 y3).bind fun x6 =>
  if ¬ (x5 = x6) then ((((geti a0 y3).bind fun x9 =>
  (geti a1 y3).bind fun x10 =>
  if x9.1 < x10.1 then (some true) else ((geti a0 y3).bind fun x11 =>
  (geti a1 y3).bind fun x12 =>
  if x11.1 = x12.1 then ((geti a0 y3).bind fun x13 =>
  (geti a1 y3).bind fun x14 =>
  some (decide (x13.2 < x14.2))) else (some false))) : Option (Bool)).bind fun x7 =>
  some (.error x7)) else ((ck (y3 + (1 : Int))).bind fun x15 =>
  law_sooner_l1 k a0 a1 n x15)) else (some (.ok ()))
def law_sooner (k : Nat) (a0 : (List dStep)) (a1 : (List dStep)) : Option Bool :=
 bE (α := Unit) (law_sooner_l1 k a0 a1 k (0 : Int)) (some) fun _ =>
 some false

theorem law_sooner_ok (k : Nat) (a0 : (List dStep)) (a1 : (List dStep)) (r : Bool) (h : law_sooner k a0 a1 = some r) :
 Ctr Try.prog 43 [.rep (.slice tStep) a0, .rep (.slice tStep) a1] [] (fun _ : Unit => (resA [.eq (.bool r)], [])) := by
 unfold law_sooner at h
 replace h := b_top h
 refine Ctr.of 58 Try.func43 rfl Try.ntmps43 rfl fun S w0 => ?_
 refine sr ?_
 refine cq ?_
 refine nt ?_
 refine JC.cutE (Z := Unit) (α := Unit) (fun z2 x1 => []) (fun z2 x1 => []) (fun e => e = r) h (fun e h => Option.some.inj h) (fun K hR h => ?_) (fun z2 x1 h => ?_)
 ·
  refine sr ?_
  refine cq ?_
  refine nt ?_
  refine JC.block ?_
  refine JC.loopB (Z := Unit) (α := Int) (fun z4 y3 => [(0, .rep (.slice tStep) a0), (1, .rep (.slice tStep) a1), (5, .eq (.int .i64 y3))]) (fun z4 y3 => []) (law_sooner_l1 k a0 a1) k () (0 : Int) (fun _ => rfl) h (SE.fin [] ⟨rfl, rfl, rfl, trivial⟩ rfl) (fun n z4 y3 h => ?_)
  unfold law_sooner_l1 at h
  refine JC.seq ?_
  refine sr ?_
  iterate 2 refine mq ?_
  refine JO.s rfl (o_len rfl rfl Try.underlying30) ⟨rfl, trivial⟩ ?_
  refine JO.s rfl (o_lss rfl) ⟨rfl, rfl, trivial⟩ ?_
  refine nt ?_
  refine JC.cond rfl (fun hb => ?_) (fun hb => ?_)
  ·
   replace h := b_if (d_t hb) h
   refine JC.skip ?_
   refine JN.then_n ?_
   show JC _ _ _ _ _
   refine JC.seq ?_
   refine JC.block ?_
   refine JC.seq ?_
   refine JC.drawN ?_
   refine dm ?_
   refine dm ?_
   obtain ⟨x5, ex5, h⟩ := b_bind h
   refine DN.s00 rfl rfl rfl (o_index (t := tStep) rfl Try.underlying30 sz43 ex5) ⟨rfl, rfl, trivial⟩ ?_
   refine DN.s00 rfl rfl rfl (o_load_at (t := tStep) rfl sz43 rfl) ⟨rfl, trivial⟩ ?_
   refine dm ?_
   refine dm ?_
   obtain ⟨x6, ex6, h⟩ := b_bind h
   refine DN.s00 rfl rfl rfl (o_index (t := tStep) rfl Try.underlying30 sz43 ex6) ⟨rfl, rfl, trivial⟩ ?_
   refine DN.s00 rfl rfl rfl (o_load_at (t := tStep) rfl sz43 rfl) ⟨rfl, trivial⟩ ?_
   refine DN.fin (by kernel_rfl) mixed ?_
   refine JO.s rfl (o_neqs rfl eq43 rfl) ⟨rfl, rfl, trivial⟩ ?_
   refine nt ?_
   refine JC.cond rfl (fun hb => ?_) (fun hb => ?_)
   ·
    replace h := b_if (n_t hb) h
    refine JC.cutB (Z := Unit) (α := Bool) (fun z8 x7 => [(4, .eq (.bool x7))]) (fun z8 x7 => []) h (fun K h => ?_) (fun z8 x7 h => ?_)
    ·
     refine JC.drawN ?_
     refine dm ?_
     refine dm ?_
     obtain ⟨x9, ex9, h⟩ := b_bind h
     refine DN.s00 rfl rfl rfl (o_index (t := tStep) rfl Try.underlying30 sz43 ex9) ⟨rfl, rfl, trivial⟩ ?_
     refine DN.s00 rfl rfl rfl (o_field_at 1 false rfl fo43_0 rfl) ⟨rfl, trivial⟩ ?_
     refine DN.s00 rfl rfl rfl (o_load_at (t := (.int .i64)) rfl sz3 rfl) ⟨rfl, trivial⟩ ?_
     refine dm ?_
     refine dm ?_
     obtain ⟨x10, ex10, h⟩ := b_bind h
     refine DN.s00 rfl rfl rfl (o_index (t := tStep) rfl Try.underlying30 sz43 ex10) ⟨rfl, rfl, trivial⟩ ?_
     refine DN.s00 rfl rfl rfl (o_field_at 1 false rfl fo43_0 rfl) ⟨rfl, trivial⟩ ?_
     refine DN.s00 rfl rfl rfl (o_load_at (t := (.int .i64)) rfl sz3 rfl) ⟨rfl, trivial⟩ ?_
     refine DN.s00 rfl rfl rfl (o_lss rfl) ⟨rfl, rfl, trivial⟩ ?_
     refine DN.fork rfl rfl rfl (o_move rfl) ⟨rfl, trivial⟩ (fun hb => ?_) (fun hb => ?_)
     ·
      replace h := b_if (d_t hb) h
      iterate 12 refine dg ?_
      refine DN.sgnou rfl rfl rfl rfl rfl rfl ?_
      refine DN.sgnou rfl rfl rfl rfl rfl rfl ?_
      refine DN.sgnou rfl rfl rfl rfl rfl rfl ?_
      refine DN.sgnou rfl rfl rfl rfl rfl rfl ?_
      refine DN.sgnou rfl rfl rfl rfl rfl rfl ?_
      refine DN.sgnou rfl rfl rfl rfl rfl rfl ?_
      refine DN.sgnou rfl rfl rfl rfl rfl rfl ?_
      refine DN.sgnou rfl rfl rfl rfl rfl rfl ?_
      refine DN.sgnou rfl rfl rfl rfl rfl rfl ?_
      refine DN.sgnou rfl rfl rfl rfl rfl rfl ?_
      refine DN.fin (by kernel_rfl) mixed ?_
      refine JO.gnou rfl rfl rfl rfl rfl rfl ?_
      refine gn ?_
      refine pt ?_
      refine aq ?_
      refine JO.nil ?_
      refine JN.then_n ?_
      exact JN.z ((), true) h (SE.fin [] ⟨rfl, trivial⟩ rfl)
     ·
      replace h := b_ifn (d_f hb) h
      refine DN.sg00 rfl rfl rfl rfl rfl (o_move rfl) ⟨rfl, rfl, trivial⟩ ?_
      refine DN.sg00 rfl rfl rfl rfl rfl (o_move rfl) ⟨rfl, rfl, trivial⟩ ?_
      obtain ⟨x11, ex11, h⟩ := b_bind h
      refine DN.sg00 rfl rfl rfl rfl rfl (o_index (t := tStep) rfl Try.underlying30 sz43 ex11) ⟨rfl, rfl, rfl, trivial⟩ ?_
      refine DN.sg00 rfl rfl rfl rfl rfl (o_field_at 1 false rfl fo43_0 rfl) ⟨rfl, rfl, trivial⟩ ?_
      refine DN.sg00 rfl rfl rfl rfl rfl (o_load_at (t := (.int .i64)) rfl sz3 rfl) ⟨rfl, rfl, trivial⟩ ?_
      refine DN.sg00 rfl rfl rfl rfl rfl (o_move rfl) ⟨rfl, rfl, trivial⟩ ?_
      refine DN.sg00 rfl rfl rfl rfl rfl (o_move rfl) ⟨rfl, rfl, trivial⟩ ?_
      obtain ⟨x12, ex12, h⟩ := b_bind h
      refine DN.sg00 rfl rfl rfl rfl rfl (o_index (t := tStep) rfl Try.underlying30 sz43 ex12) ⟨rfl, rfl, rfl, trivial⟩ ?_
      refine DN.sg00 rfl rfl rfl rfl rfl (o_field_at 1 false rfl fo43_0 rfl) ⟨rfl, rfl, trivial⟩ ?_
      refine DN.sg00 rfl rfl rfl rfl rfl (o_load_at (t := (.int .i64)) rfl sz3 rfl) ⟨rfl, rfl, trivial⟩ ?_
      refine DN.sg00 rfl rfl rfl rfl rfl (o_eql rfl) ⟨rfl, rfl, rfl, trivial⟩ ?_
      refine DN.forkg rfl rfl rfl rfl rfl (o_move rfl) ⟨rfl, rfl, trivial⟩ (fun hb => ?_) (fun hb => ?_)
      ·
       replace h := b_if (d_t hb) h
       refine DN.sg00 rfl rfl rfl rfl rfl (o_move rfl) ⟨rfl, rfl, trivial⟩ ?_
       refine DN.sg00 rfl rfl rfl rfl rfl (o_move rfl) ⟨rfl, rfl, trivial⟩ ?_
       obtain ⟨x13, ex13, h⟩ := b_bind h
       refine DN.sg00 rfl rfl rfl rfl rfl (o_index (t := tStep) rfl Try.underlying30 sz43 ex13) ⟨rfl, rfl, rfl, trivial⟩ ?_
       refine DN.sg00 rfl rfl rfl rfl rfl (o_field_at 1 false rfl fo43_1 rfl) ⟨rfl, rfl, trivial⟩ ?_
       refine DN.sg00 rfl rfl rfl rfl rfl (o_load_at (t := (.int .i64)) rfl sz3 rfl) ⟨rfl, rfl, trivial⟩ ?_
       refine DN.sg00 rfl rfl rfl rfl rfl (o_move rfl) ⟨rfl, rfl, trivial⟩ ?_
       refine DN.sg00 rfl rfl rfl rfl rfl (o_move rfl) ⟨rfl, rfl, trivial⟩ ?_
       obtain ⟨x14, ex14, h⟩ := b_bind h
       refine DN.sg00 rfl rfl rfl rfl rfl (o_index (t := tStep) rfl Try.underlying30 sz43 ex14) ⟨rfl, rfl, rfl, trivial⟩ ?_
       refine DN.sg00 rfl rfl rfl rfl rfl (o_field_at 1 false rfl fo43_1 rfl) ⟨rfl, rfl, trivial⟩ ?_
       refine DN.sg00 rfl rfl rfl rfl rfl (o_load_at (t := (.int .i64)) rfl sz3 rfl) ⟨rfl, rfl, trivial⟩ ?_
       refine DN.fin (by kernel_rfl) mixed ?_
       refine JO.g00 rfl rfl rfl rfl rfl rfl (o_lss rfl) ⟨rfl, rfl, trivial⟩ ?_
       refine JO.g00 rfl rfl rfl rfl rfl rfl (o_pick_t rfl) ⟨rfl, rfl, trivial⟩ ?_
       refine pf ?_
       refine aq ?_
       refine JO.nil ?_
       refine JN.then_n ?_
       exact JN.z ((), decide (x13.2 < x14.2)) h (SE.fin [] ⟨rfl, trivial⟩ rfl)
      ·
       replace h := b_ifn (d_f hb) h
       iterate 10 refine dg ?_
       refine DN.fin (by kernel_rfl) mixed ?_
       refine gn ?_
       refine JO.g00 rfl rfl rfl rfl rfl rfl (o_pick_f rfl) ⟨rfl, rfl, trivial⟩ ?_
       refine pf ?_
       refine aq ?_
       refine JO.nil ?_
       refine JN.then_n ?_
       exact JN.z ((), false) h (SE.fin [] ⟨rfl, trivial⟩ rfl)
    ·
     refine JC.ret ?_
     refine JN.blk_r ?_
     refine JN.then_r ?_
     refine JN.then_r ?_
     refine JN.blk_r ?_
     refine JN.then_r ?_
     obtain rfl := hR _ h
     exact JN.ret () [_] 0 ⟨rfl, trivial⟩ rfl
   ·
    replace h := b_ifn (n_fn hb) h
    refine JC.skip ?_
    refine JN.blk_n ?_
    refine JN.then_n ?_
    show JC _ _ _ _ _
    refine JC.region ?_
    refine mq ?_
    obtain ⟨x15, ex15, h⟩ := b_bind h
    refine JO.s rfl (o_add rfl ex15) ⟨rfl, rfl, trivial⟩ ?_
    refine aq ?_
    refine JO.nil ?_
    refine JN.then_n ?_
    exact JN.z ((), x15) h (SE.fin [] ⟨rfl, rfl, rfl, trivial⟩ rfl)
  ·
   replace h := b_ifn (d_f hb) h
   refine JC.exit ?_
   refine JN.then_x ?_
   refine JN.then_x ?_
   refine JN.blk_hit ?_
   refine JN.then_n ?_
   exact JN.z ((), ()) h (SE.fin [] trivial rfl)
 ·
  refine sr ?_
  refine cq ?_
  refine nt ?_
  refine JC.ret ?_
  obtain rfl := Option.some.inj h
  exact JN.ret () [_] 0 ⟨rfl, trivial⟩ rfl


def law_ChangeFewest_l1 (k : Nat) (r3 : dChange × dLots) (r8 : (List (List dStep))) : Nat → ((List dStep) × (List dStep) × Int × Bool × Int) → Option (Except Bool ((List dStep) × (List dStep) × Int × Bool))
 | 0, _ => none
 | n + 1, y11 =>
  if y11.2.2.2.2 < (r8.length : Int) then (bE (α := (List dStep) × (List dStep) × Int × Bool) ((geti r8 y11.2.2.2.2).bind fun x15 =>
  (chg_Bars k (r3.1.1, List.take (Int.toNat (imin (2 : Int) (r3.1.2.1.length : Int))) r3.1.2.1, r3.1.2.2) x15).bind fun r16 =>
  if ¬ (r16.2 = (0 : Int)) then (some (.ok (y11.1, y11.2.1, y11.2.2.1, y11.2.2.2.1))) else (((((if y11.2.2.1 < (0 : Int) then (some true) else (if r16.1 < y11.2.2.1 then (some true) else (if r16.1 = y11.2.2.1 then ((geti r8 y11.2.2.2.2).bind fun x21 =>
  (law_sooner k x21 y11.1).bind fun r22 =>
  some r22) else (some false)))) : Option (Bool)).bind fun x19 =>
  if x19 = true then ((geti r8 y11.2.2.2.2).bind fun x23 =>
  some (x23, r16.1)) else (some (y11.1, y11.2.2.1))) : Option ((List dStep) × Int)).bind fun x17 =>
  (geti r8 y11.2.2.2.2).bind fun x24 =>
  (chg_Late k (r3.1.1, List.take (Int.toNat (imin (2 : Int) (r3.1.2.1.length : Int))) r3.1.2.1, r3.1.2.2) x24).bind fun r25 =>
  if ¬ (r25.2.2 = (0 : Int)) then (some (.error false)) else (((if r25.1 < (0 : Int) then (if ¬ (y11.2.2.2.1 = true) then (some true) else ((geti r8 y11.2.2.2.2).bind fun x28 =>
  (law_sooner k x28 y11.2.1).bind fun r29 =>
  some r29)) else (some false)) : Option (Bool)).bind fun x26 =>
  if x26 = true then ((geti r8 y11.2.2.2.2).bind fun x30 =>
  some (.ok (x17.1, x30, x17.2, true))) else (some (.ok (x17.1, y11.2.1, x17.2, y11.2.2.2.1)))))) (fun e => some (.error e)) fun x13 =>
  (ck (y11.2.2.2.2 + (1 : Int))).bind fun x31 =>
  law_ChangeFewest_l1 k r3 r8 n (x13.1, x13.2.1, x13.2.2.1, x13.2.2.2, x31)) else (some (.ok (y11.1, y11.2.1, y11.2.2.1, y11.2.2.2.1)))
def law_ChangeFewest (k : Nat) (a0 : (List Int)) : Option Bool :=
 (kit_NewLots k a0).bind fun r1 =>
 (kit_ChangeOf k (r1.1, r1.2.1, r1.2.2)).bind fun r3 =>
 (chkP (0 ≤ (imin (2 : Int) (r3.1.2.1.length : Int)) ∧ (imin (2 : Int) (r3.1.2.1.length : Int)) ≤ (r3.1.2.1.length : Int))).bind fun _ =>
 (chg_Fewest k (r3.1.1, List.take (Int.toNat (imin (2 : Int) (r3.1.2.1.length : Int))) r3.1.2.1, r3.1.2.2)).bind fun r6 =>
 (chg_Kept k (r3.1.1, List.take (Int.toNat (imin (2 : Int) (r3.1.2.1.length : Int))) r3.1.2.1, r3.1.2.2)).bind fun r7 =>
 (law_all k (r3.1.1, List.take (Int.toNat (imin (2 : Int) (r3.1.2.1.length : Int))) r3.1.2.1, r3.1.2.2)).bind fun r8 =>
 bE (α := (List dStep) × (List dStep) × Int × Bool) (law_ChangeFewest_l1 k r3 r8 k ([], [], (-1 : Int), false, (0 : Int))) (some) fun x9 =>
 if x9.2.2.1 < (0 : Int) then (((if r6.2.2 = (11 : Int) then (if r7.2 = (11 : Int) then (if (r6.1.length : Int) = (0 : Int) then (if r6.2.1 = (0 : Int) then (if (r7.1.length : Int) = (0 : Int) then ((law_dressed k).bind fun r34 =>
 some r34) else (some false)) else (some false)) else (some false)) else (some false)) else (some false)) : Option (Bool)).bind fun x32 =>
 some x32) else (((if ¬ (r6.2.2 = (0 : Int)) then (some true) else (if ¬ (r6.2.1 = x9.2.2.1) then (some true) else ((kit_SameSteps k r6.1 x9.1).bind fun r37 =>
 some (!r37)))) : Option (Bool)).bind fun x35 =>
 if x35 = true then (some false) else (if ¬ (x9.2.2.2 = true) then (((if r7.2 = (11 : Int) then (if (r7.1.length : Int) = (0 : Int) then ((law_dressed k).bind fun r40 =>
 some r40) else (some false)) else (some false)) : Option (Bool)).bind fun x38 =>
 some x38) else (((if r7.2 = (0 : Int) then ((kit_SameSteps k r7.1 x9.2.1).bind fun r43 =>
 if r43 = true then ((law_dressed k).bind fun r44 =>
 some r44) else (some false)) else (some false)) : Option (Bool)).bind fun x41 =>
 some x41)))

theorem law_ChangeFewest_ok (k : Nat) (a0 : (List Int)) (r : Bool) (h : law_ChangeFewest k a0 = some r) :
 Ctr Try.prog 11 [.rep (.slice (.int .i64)) a0] [] (fun _ : Unit => (resA [.eq (.bool r)], [])) := by
 unfold law_ChangeFewest at h
 replace h := b_top h
 refine Ctr.of 176 Try.func11 rfl Try.ntmps11 rfl fun S w0 => ?_
 refine sr ?_
 refine cq ?_
 refine nt ?_
 refine sr ?_
 refine mq ?_
 obtain ⟨r1, er1, h⟩ := b_bind h
 have cr1 := kit_NewLots_ok k a0 r1 er1
 refine JO.s01 rfl rfl rfl (o_call [.tmp 20] rfl rfl en17 rfl cr1) ⟨rfl, trivial⟩ fun b2 => ?_
 obtain ⟨r3, er3, h⟩ := b_bind h
 have cr3 := kit_ChangeOf_ok k (r1.1, r1.2.1, r1.2.2) b2 r3 er3
 refine JO.s11 rfl rfl rfl (o_call [.tmp 21] rfl rfl en18 rfl cr3) ⟨rfl, trivial⟩ ?_
 refine JO.s01 rfl rfl rfl (o_alloc rfl za28 al28) trivial fun b4 => ?_
 refine JO.n11 rfl rfl (o_store rfl sz28 rfl rfl rfl) ⟨rfl, rfl, trivial⟩ ?_
 refine nt ?_
 refine sr ?_
 refine JO.s rfl (o_field_obj rfl fo28_1) ⟨rfl, trivial⟩ ?_
 refine JO.s11 rfl rfl rfl (o_load_obj rfl sz26 (fun _ => rfl) rfl) ⟨rfl, trivial⟩ ?_
 refine JO.s rfl (o_field_obj rfl fo28_1) ⟨rfl, trivial⟩ ?_
 refine JO.s11 rfl rfl rfl (o_load_obj rfl sz26 (fun _ => rfl) rfl) ⟨rfl, trivial⟩ ?_
 refine JO.s rfl (o_len rfl rfl Try.underlying26) ⟨rfl, trivial⟩ ?_
 refine JO.s rfl (o_min rfl rfl) ⟨rfl, rfl, trivial⟩ ?_
 obtain ⟨u5, eu5, h⟩ := b_bind h
 refine JO.s rfl (o_slice_h (t := tDresser) rfl Try.underlying26 sz53 (chkP_some eu5).1 (chkP_some eu5).2) ⟨rfl, rfl, trivial⟩ ?_
 refine JO.s rfl (o_field_obj rfl fo28_1) ⟨rfl, trivial⟩ ?_
 refine JO.n11 rfl rfl (o_store rfl sz26 rfl rfl rfl) ⟨rfl, rfl, trivial⟩ ?_
 refine nt ?_
 refine sr ?_
 refine JO.s11 rfl rfl rfl (o_load_obj rfl sz28 (nfn) rfl) ⟨rfl, trivial⟩ ?_
 obtain ⟨r6, er6, h⟩ := b_bind h
 have cr6 := chg_Fewest_ok k (r3.1.1, List.take (Int.toNat (imin (2 : Int) (r3.1.2.1.length : Int))) r3.1.2.1, r3.1.2.2) r6 er6
 refine JO.s rfl (OpT.need (N := [(.tmp 32, .agg (.pair (.rep (.slice tThing) r3.1.1) (.pair (.rep (.slice tDresser) (List.take (Int.toNat (imin (2 : Int) (r3.1.2.1.length : Int))) r3.1.2.1)) (.rep (.pair (.slice (.int .i64)) (.slice (.int .i64))) r3.1.2.2))))]) (o_call [.tmp 32] rfl rfl en25 rfl cr6) fun _ _ _ hn => ⟨(ent_holds (t := tChange) (x := (r3.1.1, List.take (Int.toNat (imin (2 : Int) (r3.1.2.1.length : Int))) r3.1.2.1, r3.1.2.2)) (.agg (.pair .rep (.pair .rep .rep))) trivial rfl hn.1), trivial⟩) ⟨rfl, trivial⟩ ?_
 refine mq ?_
 refine JO.s rfl (o_extract rfl rfl) ⟨rfl, trivial⟩ ?_
 refine JO.s rfl (o_extract rfl rfl) ⟨rfl, trivial⟩ ?_
 refine JO.s rfl (o_extract rfl rfl) ⟨rfl, trivial⟩ ?_
 refine aq ?_
 refine aq ?_
 refine aq ?_
 refine nt ?_
 refine sr ?_
 refine JO.s11 rfl rfl rfl (o_load_obj rfl sz28 (nfn) rfl) ⟨rfl, trivial⟩ ?_
 obtain ⟨r7, er7, h⟩ := b_bind h
 have cr7 := chg_Kept_ok k (r3.1.1, List.take (Int.toNat (imin (2 : Int) (r3.1.2.1.length : Int))) r3.1.2.1, r3.1.2.2) r7 er7
 refine JO.s rfl (OpT.need (N := [(.tmp 38, .agg (.pair (.rep (.slice tThing) r3.1.1) (.pair (.rep (.slice tDresser) (List.take (Int.toNat (imin (2 : Int) (r3.1.2.1.length : Int))) r3.1.2.1)) (.rep (.pair (.slice (.int .i64)) (.slice (.int .i64))) r3.1.2.2))))]) (o_call [.tmp 38] rfl rfl en41 rfl cr7) fun _ _ _ hn => ⟨(ent_holds (t := tChange) (x := (r3.1.1, List.take (Int.toNat (imin (2 : Int) (r3.1.2.1.length : Int))) r3.1.2.1, r3.1.2.2)) (.agg (.pair .rep (.pair .rep .rep))) trivial rfl hn.1), trivial⟩) ⟨rfl, trivial⟩ ?_
 refine mq ?_
 refine JO.s rfl (o_extract rfl rfl) ⟨rfl, trivial⟩ ?_
 refine JO.s rfl (o_extract rfl rfl) ⟨rfl, trivial⟩ ?_
 refine aq ?_
 refine aq ?_
 refine nt ?_
 refine sr ?_
 refine JO.s11 rfl rfl rfl (o_load_obj rfl sz28 (nfn) rfl) ⟨rfl, trivial⟩ ?_
 obtain ⟨r8, er8, h⟩ := b_bind h
 have cr8 := law_all_ok k (r3.1.1, List.take (Int.toNat (imin (2 : Int) (r3.1.2.1.length : Int))) r3.1.2.1, r3.1.2.2) r8 er8
 refine JO.s rfl (OpT.need (N := [(.tmp 42, .agg (.pair (.rep (.slice tThing) r3.1.1) (.pair (.rep (.slice tDresser) (List.take (Int.toNat (imin (2 : Int) (r3.1.2.1.length : Int))) r3.1.2.1)) (.rep (.pair (.slice (.int .i64)) (.slice (.int .i64))) r3.1.2.2))))]) (o_call [.tmp 42] rfl rfl en42 rfl cr8) fun _ _ _ hn => ⟨(ent_holds (t := tChange) (x := (r3.1.1, List.take (Int.toNat (imin (2 : Int) (r3.1.2.1.length : Int))) r3.1.2.1, r3.1.2.2)) (.agg (.pair .rep (.pair .rep .rep))) trivial rfl hn.1), trivial⟩) ⟨rfl, trivial⟩ ?_
 refine aq ?_
 refine nt ?_
 refine sr ?_
 refine cq ?_
 refine cq ?_
 refine nt ?_
 refine sr ?_
 refine cq ?_
 refine cq ?_
 refine nt ?_
 refine JC.cutE (Z := Unit) (α := (List dStep) × (List dStep) × Int × Bool) (fun z10 x9 => [(4, .rep (.slice tStep) r6.1), (5, .eq (.int .i64 r6.2.1)), (6, .eq (.int .i64 r6.2.2)), (7, .rep (.slice tStep) r7.1), (8, .eq (.int .i64 r7.2)), (10, .rep (.slice tStep) x9.1), (11, .rep (.slice tStep) x9.2.1), (12, .eq (.int .i64 x9.2.2.1)), (13, .eq (.bool x9.2.2.2))]) (fun z10 x9 => []) (fun e => e = r) h (fun e h => Option.some.inj h) (fun K hR h => ?_) (fun z10 x9 h => ?_)
 ·
  refine sr ?_
  refine cq ?_
  refine nt ?_
  refine JC.block ?_
  refine JC.se (SE.ent (t := (.slice tStep)) (x := []) 10 rfl .nil rfl rfl) ?_
  refine JC.se (SE.ent (t := (.slice tStep)) (x := []) 11 rfl .nil rfl rfl) ?_
  refine JC.loopB (Z := Unit) (α := (List dStep) × (List dStep) × Int × Bool × Int) (fun z12 y11 => [(3, .eq (.pointer (some ⟨b4, 0, none⟩))), (4, .rep (.slice tStep) r6.1), (5, .eq (.int .i64 r6.2.1)), (6, .eq (.int .i64 r6.2.2)), (7, .rep (.slice tStep) r7.1), (8, .eq (.int .i64 r7.2)), (9, .rep (.slice (.slice tStep)) r8), (10, .rep (.slice tStep) y11.1), (11, .rep (.slice tStep) y11.2.1), (12, .eq (.int .i64 y11.2.2.1)), (13, .eq (.bool y11.2.2.2.1)), (14, .eq (.int .i64 y11.2.2.2.2))]) (fun z12 y11 => [.obj b4 28 (.agg (.pair (.rep (.slice tThing) r3.1.1) (.pair (.rep (.slice tDresser) (List.take (Int.toNat (imin (2 : Int) (r3.1.2.1.length : Int))) r3.1.2.1)) (.rep (.pair (.slice (.int .i64)) (.slice (.int .i64))) r3.1.2.2))))]) (law_ChangeFewest_l1 k r3 r8) k () ([], [], (-1 : Int), false, (0 : Int)) (fun _ => rfl) h (SE.fin [0] ⟨rfl, rfl, rfl, rfl, rfl, rfl, rfl, rfl, rfl, rfl, rfl, rfl, trivial⟩ rfl) (fun n z12 y11 h => ?_)
  unfold law_ChangeFewest_l1 at h
  refine JC.seq ?_
  refine sr ?_
  iterate 2 refine mq ?_
  refine JO.s rfl (o_len rfl rfl Try.underlying73) ⟨rfl, trivial⟩ ?_
  refine JO.s rfl (o_lss rfl) ⟨rfl, rfl, trivial⟩ ?_
  refine nt ?_
  refine JC.cond rfl (fun hb => ?_) (fun hb => ?_)
  ·
   replace h := b_if (d_t hb) h
   refine JC.skip ?_
   refine JN.then_n ?_
   show JC _ _ _ _ _
   refine JC.cutE (Z := Unit) (α := (List dStep) × (List dStep) × Int × Bool) (fun z14 x13 => [(3, .eq (.pointer (some ⟨b4, 0, none⟩))), (4, .rep (.slice tStep) r6.1), (5, .eq (.int .i64 r6.2.1)), (6, .eq (.int .i64 r6.2.2)), (7, .rep (.slice tStep) r7.1), (8, .eq (.int .i64 r7.2)), (9, .rep (.slice (.slice tStep)) r8), (10, .rep (.slice tStep) x13.1), (11, .rep (.slice tStep) x13.2.1), (12, .eq (.int .i64 x13.2.2.1)), (13, .eq (.bool x13.2.2.2)), (14, .eq (.int .i64 y11.2.2.2.2))]) (fun z14 x13 => [.obj b4 28 (.agg (.pair (.rep (.slice tThing) r3.1.1) (.pair (.rep (.slice tDresser) (List.take (Int.toNat (imin (2 : Int) (r3.1.2.1.length : Int))) r3.1.2.1)) (.rep (.pair (.slice (.int .i64)) (.slice (.int .i64))) r3.1.2.2))))]) (fun e => e = r) h (fun e h => hR e h) (fun K hR h => ?_) (fun z14 x13 h => ?_)
   ·
    refine JC.block ?_
    refine JC.seq ?_
    refine JC.drawN ?_
    refine DN.s11 0 rfl rfl rfl rfl (o_load_obj rfl sz28 (nfn) rfl) ⟨rfl, trivial⟩ ?_
    refine dm ?_
    refine dm ?_
    obtain ⟨x15, ex15, h⟩ := b_bind h
    refine DN.s00 rfl rfl rfl (o_index (t := (.slice tStep)) rfl Try.underlying73 sz30 ex15) ⟨rfl, rfl, trivial⟩ ?_
    refine DN.s00 rfl rfl rfl (o_load_at (t := (.slice tStep)) rfl sz30 rfl) ⟨rfl, trivial⟩ ?_
    obtain ⟨r16, er16, h⟩ := b_bind h
    have cr16 := chg_Bars_ok k (r3.1.1, List.take (Int.toNat (imin (2 : Int) (r3.1.2.1.length : Int))) r3.1.2.1, r3.1.2.2) x15 r16 er16
    refine DN.s00 rfl rfl rfl (OpT.need (N := [(.tmp 51, .agg (.pair (.rep (.slice tThing) r3.1.1) (.pair (.rep (.slice tDresser) (List.take (Int.toNat (imin (2 : Int) (r3.1.2.1.length : Int))) r3.1.2.1)) (.rep (.pair (.slice (.int .i64)) (.slice (.int .i64))) r3.1.2.2)))), (.tmp 55, .rep (.slice tStep) x15)]) (o_call [.tmp 51, .tmp 55] rfl rfl en38 rfl cr16) fun _ _ _ hn => ⟨(ent_holds (t := tChange) (x := (r3.1.1, List.take (Int.toNat (imin (2 : Int) (r3.1.2.1.length : Int))) r3.1.2.1, r3.1.2.2)) (.agg (.pair .rep (.pair .rep .rep))) trivial rfl hn.1), hn.2.1, trivial⟩) ⟨rfl, rfl, trivial⟩ ?_
    refine dm ?_
    refine DN.s00 rfl rfl rfl (o_extract rfl rfl) ⟨rfl, trivial⟩ ?_
    refine DN.s00 rfl rfl rfl (o_extract rfl rfl) ⟨rfl, trivial⟩ ?_
    refine DN.s00 rfl rfl rfl (o_assign rfl) ⟨rfl, trivial⟩ ?_
    refine DN.fin (by kernel_rfl) mixed ?_
    refine aq ?_
    refine nt ?_
    refine JC.seq ?_
    refine sr ?_
    refine mq ?_
    refine JO.s rfl (o_neq rfl) ⟨rfl, rfl, trivial⟩ ?_
    refine nt ?_
    refine JC.cond rfl (fun hb => ?_) (fun hb => ?_)
    ·
     replace h := b_if (n_t hb) h
     refine JC.exit ?_
     refine JN.then_x ?_
     refine JN.blk_hit ?_
     refine JN.then_n ?_
     exact JN.z ((), (y11.1, y11.2.1, y11.2.2.1, y11.2.2.2.1)) h (SE.fin [0] ⟨rfl, rfl, rfl, rfl, rfl, rfl, rfl, rfl, rfl, rfl, rfl, rfl, trivial⟩ rfl)
    ·
     replace h := b_ifn (n_fn hb) h
     refine JC.skip ?_
     refine JN.then_n ?_
     show JC _ _ _ _ _
     refine JC.cutB (Z := Unit) (α := (List dStep) × Int) (fun z18 x17 => [(3, .eq (.pointer (some ⟨b4, 0, none⟩))), (4, .rep (.slice tStep) r6.1), (5, .eq (.int .i64 r6.2.1)), (6, .eq (.int .i64 r6.2.2)), (7, .rep (.slice tStep) r7.1), (8, .eq (.int .i64 r7.2)), (9, .rep (.slice (.slice tStep)) r8), (10, .rep (.slice tStep) x17.1), (11, .rep (.slice tStep) y11.2.1), (12, .eq (.int .i64 x17.2)), (13, .eq (.bool y11.2.2.2.1)), (14, .eq (.int .i64 y11.2.2.2.2))]) (fun z18 x17 => [.obj b4 28 (.agg (.pair (.rep (.slice tThing) r3.1.1) (.pair (.rep (.slice tDresser) (List.take (Int.toNat (imin (2 : Int) (r3.1.2.1.length : Int))) r3.1.2.1)) (.rep (.pair (.slice (.int .i64)) (.slice (.int .i64))) r3.1.2.2))))]) h (fun K h => ?_) (fun z18 x17 h => ?_)
     ·
      refine JC.cutB (Z := Unit) (α := Bool) (fun z20 x19 => [(3, .eq (.pointer (some ⟨b4, 0, none⟩))), (4, .rep (.slice tStep) r6.1), (5, .eq (.int .i64 r6.2.1)), (6, .eq (.int .i64 r6.2.2)), (7, .rep (.slice tStep) r7.1), (8, .eq (.int .i64 r7.2)), (9, .rep (.slice (.slice tStep)) r8), (10, .rep (.slice tStep) y11.1), (11, .rep (.slice tStep) y11.2.1), (12, .eq (.int .i64 y11.2.2.1)), (13, .eq (.bool y11.2.2.2.1)), (14, .eq (.int .i64 y11.2.2.2.2)), (15, .eq (.int .i64 r16.1)), (80, .eq (.bool x19))]) (fun z20 x19 => [.obj b4 28 (.agg (.pair (.rep (.slice tThing) r3.1.1) (.pair (.rep (.slice tDresser) (List.take (Int.toNat (imin (2 : Int) (r3.1.2.1.length : Int))) r3.1.2.1)) (.rep (.pair (.slice (.int .i64)) (.slice (.int .i64))) r3.1.2.2))))]) h (fun K h => ?_) (fun z20 x19 h => ?_)
      ·
       refine JC.region ?_
       refine mq ?_
       refine JO.s rfl (o_lss rfl) ⟨rfl, rfl, trivial⟩ ?_
       refine mq ?_
       refine JO.bool (s := 63) rfl (fun hb => ?_) (fun hb => ?_)
       ·
        replace h := b_if (d_t hb) h
        iterate 3 refine gn ?_
        refine pt ?_
        refine mq ?_
        iterate 4 refine gn ?_
        refine JO.gnou rfl rfl rfl rfl rfl rfl ?_
        refine JO.gnou rfl rfl rfl rfl rfl rfl ?_
        refine JO.gnou rfl rfl rfl rfl rfl rfl ?_
        refine JO.gnou rfl rfl rfl rfl rfl rfl ?_
        refine JO.gnou rfl rfl rfl rfl rfl rfl ?_
        refine JO.gnou rfl rfl rfl rfl rfl rfl ?_
        refine gn ?_
        refine pt ?_
        refine JO.nil ?_
        refine JN.then_n ?_
        exact JN.z ((), true) h (SE.fin [0] ⟨rfl, rfl, rfl, rfl, rfl, rfl, rfl, rfl, rfl, rfl, rfl, rfl, rfl, rfl, trivial⟩ rfl)
       ·
        replace h := b_ifn (d_f hb) h
        refine gm ?_
        refine gm ?_
        refine JO.g00 rfl rfl rfl rfl rfl rfl (o_lss rfl) ⟨rfl, rfl, trivial⟩ ?_
        refine pf ?_
        refine mq ?_
        refine JO.bool (s := 68) rfl (fun hb => ?_) (fun hb => ?_)
        ·
         replace h := b_if (d_t hb) h
         iterate 4 refine gn ?_
         refine JO.gnou rfl rfl rfl rfl rfl rfl ?_
         refine JO.gnou rfl rfl rfl rfl rfl rfl ?_
         refine JO.gnou rfl rfl rfl rfl rfl rfl ?_
         refine JO.gnou rfl rfl rfl rfl rfl rfl ?_
         refine JO.gnou rfl rfl rfl rfl rfl rfl ?_
         refine JO.gnou rfl rfl rfl rfl rfl rfl ?_
         refine gn ?_
         refine pt ?_
         refine JO.nil ?_
         refine JN.then_n ?_
         exact JN.z ((), true) h (SE.fin [0] ⟨rfl, rfl, rfl, rfl, rfl, rfl, rfl, rfl, rfl, rfl, rfl, rfl, rfl, rfl, trivial⟩ rfl)
        ·
         replace h := b_ifn (d_f hb) h
         refine gm ?_
         refine gm ?_
         refine JO.g00 rfl rfl rfl rfl rfl rfl (o_eql rfl) ⟨rfl, rfl, trivial⟩ ?_
         refine gm ?_
         refine JO.bool (s := 72) rfl (fun hb => ?_) (fun hb => ?_)
         ·
          replace h := b_if (d_t hb) h
          refine gm ?_
          refine gm ?_
          obtain ⟨x21, ex21, h⟩ := b_bind h
          refine JO.g00 rfl rfl rfl rfl rfl rfl (o_index (t := (.slice tStep)) rfl Try.underlying73 sz30 ex21) ⟨rfl, rfl, trivial⟩ ?_
          refine JO.g00 rfl rfl rfl rfl rfl rfl (o_load_at (t := (.slice tStep)) rfl sz30 rfl) ⟨rfl, trivial⟩ ?_
          refine gm ?_
          obtain ⟨r22, er22, h⟩ := b_bind h
          have cr22 := law_sooner_ok k x21 y11.1 r22 er22
          refine JO.g00 rfl rfl rfl rfl rfl rfl (o_call [.tmp 76, .tmp 77] rfl rfl en43 rfl cr22) ⟨rfl, rfl, trivial⟩ ?_
          refine JO.g00 rfl rfl rfl rfl rfl rfl (o_pick_t rfl) ⟨rfl, rfl, trivial⟩ ?_
          refine pf ?_
          refine JO.nil ?_
          refine JN.then_n ?_
          exact JN.z ((), r22) h (SE.fin [0] ⟨rfl, rfl, rfl, rfl, rfl, rfl, rfl, rfl, rfl, rfl, rfl, rfl, rfl, rfl, trivial⟩ rfl)
         ·
          replace h := b_ifn (d_f hb) h
          iterate 6 refine gn ?_
          refine JO.g00 rfl rfl rfl rfl rfl rfl (o_pick_f rfl) ⟨rfl, rfl, trivial⟩ ?_
          refine pf ?_
          refine JO.nil ?_
          refine JN.then_n ?_
          exact JN.z ((), false) h (SE.fin [0] ⟨rfl, rfl, rfl, rfl, rfl, rfl, rfl, rfl, rfl, rfl, rfl, rfl, rfl, rfl, trivial⟩ rfl)
      ·
       refine JC.cond rfl (fun hb => ?_) (fun hb => ?_)
       ·
        replace h := b_if (v_t hb) h
        refine JC.region ?_
        iterate 2 refine mq ?_
        obtain ⟨x23, ex23, h⟩ := b_bind h
        refine JO.s rfl (o_index (t := (.slice tStep)) rfl Try.underlying73 sz30 ex23) ⟨rfl, rfl, trivial⟩ ?_
        refine JO.s rfl (o_load_at (t := (.slice tStep)) rfl sz30 rfl) ⟨rfl, trivial⟩ ?_
        refine mq ?_
        refine aq ?_
        refine aq ?_
        refine JO.nil ?_
        refine JN.then_n ?_
        exact JN.z ((), (x23, r16.1)) h (SE.fin [0] ⟨rfl, rfl, rfl, rfl, rfl, rfl, rfl, rfl, rfl, rfl, rfl, rfl, trivial⟩ rfl)
       ·
        replace h := b_ifn (v_f hb) h
        refine JC.skip ?_
        refine JN.then_n ?_
        exact JN.z ((), (y11.1, y11.2.2.1)) h (SE.fin [0] ⟨rfl, rfl, rfl, rfl, rfl, rfl, rfl, rfl, rfl, rfl, rfl, rfl, trivial⟩ rfl)
     ·
      refine JC.seq ?_
      refine JC.drawN ?_
      refine DN.s11 0 rfl rfl rfl rfl (o_load_obj rfl sz28 (nfn) rfl) ⟨rfl, trivial⟩ ?_
      refine dm ?_
      refine dm ?_
      obtain ⟨x24, ex24, h⟩ := b_bind h
      refine DN.s00 rfl rfl rfl (o_index (t := (.slice tStep)) rfl Try.underlying73 sz30 ex24) ⟨rfl, rfl, trivial⟩ ?_
      refine DN.s00 rfl rfl rfl (o_load_at (t := (.slice tStep)) rfl sz30 rfl) ⟨rfl, trivial⟩ ?_
      obtain ⟨r25, er25, h⟩ := b_bind h
      have cr25 := chg_Late_ok k (r3.1.1, List.take (Int.toNat (imin (2 : Int) (r3.1.2.1.length : Int))) r3.1.2.1, r3.1.2.2) x24 r25 er25
      refine DN.s00 rfl rfl rfl (OpT.need (N := [(.tmp 87, .agg (.pair (.rep (.slice tThing) r3.1.1) (.pair (.rep (.slice tDresser) (List.take (Int.toNat (imin (2 : Int) (r3.1.2.1.length : Int))) r3.1.2.1)) (.rep (.pair (.slice (.int .i64)) (.slice (.int .i64))) r3.1.2.2)))), (.tmp 91, .rep (.slice tStep) x24)]) (o_call [.tmp 87, .tmp 91] rfl rfl en21 rfl cr25) fun _ _ _ hn => ⟨(ent_holds (t := tChange) (x := (r3.1.1, List.take (Int.toNat (imin (2 : Int) (r3.1.2.1.length : Int))) r3.1.2.1, r3.1.2.2)) (.agg (.pair .rep (.pair .rep .rep))) trivial rfl hn.1), hn.2.1, trivial⟩) ⟨rfl, rfl, trivial⟩ ?_
      refine dm ?_
      refine DN.s00 rfl rfl rfl (o_extract rfl rfl) ⟨rfl, trivial⟩ ?_
      refine DN.s00 rfl rfl rfl (o_extract rfl rfl) ⟨rfl, trivial⟩ ?_
      refine DN.s00 rfl rfl rfl (o_extract rfl rfl) ⟨rfl, trivial⟩ ?_
      refine DN.s00 rfl rfl rfl (o_assign rfl) ⟨rfl, trivial⟩ ?_
      refine DN.s00 rfl rfl rfl (o_assign rfl) ⟨rfl, trivial⟩ ?_
      refine DN.fin (by kernel_rfl) mixed ?_
      refine aq ?_
      refine nt ?_
      refine JC.seq ?_
      refine sr ?_
      refine mq ?_
      refine JO.s rfl (o_neq rfl) ⟨rfl, rfl, trivial⟩ ?_
      refine nt ?_
      refine JC.cond rfl (fun hb => ?_) (fun hb => ?_)
      ·
       replace h := b_if (n_t hb) h
       refine sr ?_
       refine cq ?_
       refine nt ?_
       refine JC.ret ?_
       refine JN.then_r ?_
       refine JN.blk_r ?_
       refine JN.then_r ?_
       refine JN.then_r ?_
       refine JN.blk_r ?_
       refine JN.then_r ?_
       obtain rfl := hR _ h
       exact JN.ret () [_] 0 ⟨rfl, trivial⟩ rfl
      ·
       replace h := b_ifn (n_fn hb) h
       refine JC.skip ?_
       refine JN.then_n ?_
       show JC _ _ _ _ _
       refine JC.cutB (Z := Unit) (α := Bool) (fun z27 x26 => [(3, .eq (.pointer (some ⟨b4, 0, none⟩))), (4, .rep (.slice tStep) r6.1), (5, .eq (.int .i64 r6.2.1)), (6, .eq (.int .i64 r6.2.2)), (7, .rep (.slice tStep) r7.1), (8, .eq (.int .i64 r7.2)), (9, .rep (.slice (.slice tStep)) r8), (10, .rep (.slice tStep) x17.1), (11, .rep (.slice tStep) y11.2.1), (12, .eq (.int .i64 x17.2)), (13, .eq (.bool y11.2.2.2.1)), (14, .eq (.int .i64 y11.2.2.2.2)), (111, .eq (.bool x26))]) (fun z27 x26 => [.obj b4 28 (.agg (.pair (.rep (.slice tThing) r3.1.1) (.pair (.rep (.slice tDresser) (List.take (Int.toNat (imin (2 : Int) (r3.1.2.1.length : Int))) r3.1.2.1)) (.rep (.pair (.slice (.int .i64)) (.slice (.int .i64))) r3.1.2.2))))]) h (fun K h => ?_) (fun z27 x26 h => ?_)
       ·
        refine JC.region ?_
        refine mq ?_
        refine JO.s rfl (o_lss rfl) ⟨rfl, rfl, trivial⟩ ?_
        refine mq ?_
        refine JO.bool (s := 100) rfl (fun hb => ?_) (fun hb => ?_)
        ·
         replace h := b_if (d_t hb) h
         refine gm ?_
         refine JO.g00 rfl rfl rfl rfl rfl rfl (o_not rfl) ⟨rfl, trivial⟩ ?_
         refine gm ?_
         refine JO.bool (s := 103) rfl (fun hb => ?_) (fun hb => ?_)
         ·
          replace h := b_if (nv_t hb) h
          iterate 6 refine gn ?_
          refine JO.g00 rfl rfl rfl rfl rfl rfl (o_pick_t rfl) ⟨rfl, rfl, trivial⟩ ?_
          refine pt ?_
          refine JO.nil ?_
          refine JN.then_n ?_
          exact JN.z ((), true) h (SE.fin [0] ⟨rfl, rfl, rfl, rfl, rfl, rfl, rfl, rfl, rfl, rfl, rfl, rfl, rfl, trivial⟩ rfl)
         ·
          replace h := b_ifn (nv_fn hb) h
          refine gm ?_
          refine gm ?_
          obtain ⟨x28, ex28, h⟩ := b_bind h
          refine JO.g00 rfl rfl rfl rfl rfl rfl (o_index (t := (.slice tStep)) rfl Try.underlying73 sz30 ex28) ⟨rfl, rfl, trivial⟩ ?_
          refine JO.g00 rfl rfl rfl rfl rfl rfl (o_load_at (t := (.slice tStep)) rfl sz30 rfl) ⟨rfl, trivial⟩ ?_
          refine gm ?_
          obtain ⟨r29, er29, h⟩ := b_bind h
          have cr29 := law_sooner_ok k x28 y11.2.1 r29 er29
          refine JO.g00 rfl rfl rfl rfl rfl rfl (o_call [.tmp 107, .tmp 108] rfl rfl en43 rfl cr29) ⟨rfl, rfl, trivial⟩ ?_
          refine JO.g00 rfl rfl rfl rfl rfl rfl (o_pick_f rfl) ⟨rfl, rfl, trivial⟩ ?_
          refine pt ?_
          refine JO.nil ?_
          refine JN.then_n ?_
          exact JN.z ((), r29) h (SE.fin [0] ⟨rfl, rfl, rfl, rfl, rfl, rfl, rfl, rfl, rfl, rfl, rfl, rfl, rfl, trivial⟩ rfl)
        ·
         replace h := b_ifn (d_f hb) h
         iterate 3 refine gn ?_
         refine JO.gnou rfl rfl rfl rfl rfl rfl ?_
         refine JO.gnou rfl rfl rfl rfl rfl rfl ?_
         refine JO.gnou rfl rfl rfl rfl rfl rfl ?_
         refine JO.gnou rfl rfl rfl rfl rfl rfl ?_
         refine JO.gnou rfl rfl rfl rfl rfl rfl ?_
         refine JO.gnou rfl rfl rfl rfl rfl rfl ?_
         refine gn ?_
         refine pf ?_
         refine JO.nil ?_
         refine JN.then_n ?_
         exact JN.z ((), false) h (SE.fin [0] ⟨rfl, rfl, rfl, rfl, rfl, rfl, rfl, rfl, rfl, rfl, rfl, rfl, rfl, trivial⟩ rfl)
       ·
        refine JC.cond rfl (fun hb => ?_) (fun hb => ?_)
        ·
         replace h := b_if (v_t hb) h
         refine JC.region ?_
         iterate 2 refine mq ?_
         obtain ⟨x30, ex30, h⟩ := b_bind h
         refine JO.s rfl (o_index (t := (.slice tStep)) rfl Try.underlying73 sz30 ex30) ⟨rfl, rfl, trivial⟩ ?_
         refine JO.s rfl (o_load_at (t := (.slice tStep)) rfl sz30 rfl) ⟨rfl, trivial⟩ ?_
         refine aq ?_
         refine cq ?_
         refine JO.nil ?_
         refine JN.blk_n ?_
         refine JN.then_n ?_
         exact JN.z ((), (x17.1, x30, x17.2, true)) h (SE.fin [0] ⟨rfl, rfl, rfl, rfl, rfl, rfl, rfl, rfl, rfl, rfl, rfl, rfl, trivial⟩ rfl)
        ·
         replace h := b_ifn (v_f hb) h
         refine JC.skip ?_
         refine JN.blk_n ?_
         refine JN.then_n ?_
         exact JN.z ((), (x17.1, y11.2.1, x17.2, y11.2.2.2.1)) h (SE.fin [0] ⟨rfl, rfl, rfl, rfl, rfl, rfl, rfl, rfl, rfl, rfl, rfl, rfl, trivial⟩ rfl)
   ·
    refine JC.region ?_
    refine mq ?_
    obtain ⟨x31, ex31, h⟩ := b_bind h
    refine JO.s rfl (o_add rfl ex31) ⟨rfl, rfl, trivial⟩ ?_
    refine aq ?_
    refine JO.nil ?_
    refine JN.then_n ?_
    exact JN.z ((), (x13.1, x13.2.1, x13.2.2.1, x13.2.2.2, x31)) h (SE.fin [0] ⟨rfl, rfl, rfl, rfl, rfl, rfl, rfl, rfl, rfl, rfl, rfl, rfl, trivial⟩ rfl)
  ·
   replace h := b_ifn (d_f hb) h
   refine JC.exit ?_
   refine JN.then_x ?_
   refine JN.then_x ?_
   refine JN.blk_hit ?_
   refine JN.then_n ?_
   exact JN.z ((), (y11.1, y11.2.1, y11.2.2.1, y11.2.2.2.1)) h (SE.fin [] ⟨rfl, rfl, rfl, rfl, rfl, rfl, rfl, rfl, rfl, trivial⟩ rfl)
 ·
  refine JC.seq ?_
  refine sr ?_
  refine mq ?_
  refine JO.s rfl (o_lss rfl) ⟨rfl, rfl, trivial⟩ ?_
  refine nt ?_
  refine JC.cond rfl (fun hb => ?_) (fun hb => ?_)
  ·
   replace h := b_if (d_t hb) h
   refine JC.cutB (Z := Unit) (α := Bool) (fun z33 x32 => [(2, .eq (.bool x32))]) (fun z33 x32 => []) h (fun K h => ?_) (fun z33 x32 h => ?_)
   ·
    refine JC.region ?_
    refine mq ?_
    refine JO.s rfl (o_eql rfl) ⟨rfl, rfl, trivial⟩ ?_
    refine mq ?_
    refine JO.bool (s := 120) rfl (fun hb => ?_) (fun hb => ?_)
    ·
     replace h := b_if (d_t hb) h
     refine gm ?_
     refine JO.g00 rfl rfl rfl rfl rfl rfl (o_eql rfl) ⟨rfl, rfl, trivial⟩ ?_
     refine pt ?_
     refine mq ?_
     refine JO.bool (s := 124) rfl (fun hb => ?_) (fun hb => ?_)
     ·
      replace h := b_if (d_t hb) h
      refine gm ?_
      refine JO.g00 rfl rfl rfl rfl rfl rfl (o_len rfl rfl Try.underlying30) ⟨rfl, trivial⟩ ?_
      refine JO.g00 rfl rfl rfl rfl rfl rfl (o_eql rfl) ⟨rfl, rfl, trivial⟩ ?_
      refine pt ?_
      refine mq ?_
      refine JO.bool (s := 129) rfl (fun hb => ?_) (fun hb => ?_)
      ·
       replace h := b_if (d_t hb) h
       refine gm ?_
       refine JO.g00 rfl rfl rfl rfl rfl rfl (o_eql rfl) ⟨rfl, rfl, trivial⟩ ?_
       refine pt ?_
       refine mq ?_
       refine JO.bool (s := 133) rfl (fun hb => ?_) (fun hb => ?_)
       ·
        replace h := b_if (d_t hb) h
        refine gm ?_
        refine JO.g00 rfl rfl rfl rfl rfl rfl (o_len rfl rfl Try.underlying30) ⟨rfl, trivial⟩ ?_
        refine JO.g00 rfl rfl rfl rfl rfl rfl (o_eql rfl) ⟨rfl, rfl, trivial⟩ ?_
        refine pt ?_
        refine mq ?_
        refine JO.bool (s := 138) rfl (fun hb => ?_) (fun hb => ?_)
        ·
         replace h := b_if (d_t hb) h
         obtain ⟨r34, er34, h⟩ := b_bind h
         have cr34 := law_dressed_ok k  r34 er34
         refine JO.g00 rfl rfl rfl rfl rfl rfl (o_call [] rfl rfl en22 rfl cr34) trivial ?_
         refine pt ?_
         refine aq ?_
         refine JO.nil ?_
         refine JN.then_n ?_
         exact JN.z ((), r34) h (SE.fin [] ⟨rfl, trivial⟩ rfl)
        ·
         replace h := b_ifn (d_f hb) h
         refine gn ?_
         refine pf ?_
         refine aq ?_
         refine JO.nil ?_
         refine JN.then_n ?_
         exact JN.z ((), false) h (SE.fin [] ⟨rfl, trivial⟩ rfl)
       ·
        replace h := b_ifn (d_f hb) h
        iterate 3 refine gn ?_
        refine pf ?_
        refine mq ?_
        refine gn ?_
        refine pf ?_
        refine aq ?_
        refine JO.nil ?_
        refine JN.then_n ?_
        exact JN.z ((), false) h (SE.fin [] ⟨rfl, trivial⟩ rfl)
      ·
       replace h := b_ifn (d_f hb) h
       iterate 2 refine gn ?_
       refine pf ?_
       refine mq ?_
       iterate 3 refine gn ?_
       refine pf ?_
       refine mq ?_
       refine gn ?_
       refine pf ?_
       refine aq ?_
       refine JO.nil ?_
       refine JN.then_n ?_
       exact JN.z ((), false) h (SE.fin [] ⟨rfl, trivial⟩ rfl)
     ·
      replace h := b_ifn (d_f hb) h
      iterate 3 refine gn ?_
      refine pf ?_
      refine mq ?_
      iterate 2 refine gn ?_
      refine pf ?_
      refine mq ?_
      iterate 3 refine gn ?_
      refine pf ?_
      refine mq ?_
      refine gn ?_
      refine pf ?_
      refine aq ?_
      refine JO.nil ?_
      refine JN.then_n ?_
      exact JN.z ((), false) h (SE.fin [] ⟨rfl, trivial⟩ rfl)
    ·
     replace h := b_ifn (d_f hb) h
     iterate 2 refine gn ?_
     refine pf ?_
     refine mq ?_
     iterate 3 refine gn ?_
     refine pf ?_
     refine mq ?_
     iterate 2 refine gn ?_
     refine pf ?_
     refine mq ?_
     iterate 3 refine gn ?_
     refine pf ?_
     refine mq ?_
     refine gn ?_
     refine pf ?_
     refine aq ?_
     refine JO.nil ?_
     refine JN.then_n ?_
     exact JN.z ((), false) h (SE.fin [] ⟨rfl, trivial⟩ rfl)
   ·
    refine JC.ret ?_
    refine JN.then_r ?_
    obtain rfl := Option.some.inj h
    exact JN.ret () [_] 0 ⟨rfl, trivial⟩ rfl
  ·
   replace h := b_ifn (d_f hb) h
   refine JC.skip ?_
   refine JN.then_n ?_
   show JC _ _ _ _ _
   refine JC.seq ?_
   refine JC.cutB (Z := Unit) (α := Bool) (fun z36 x35 => [(7, .rep (.slice tStep) r7.1), (8, .eq (.int .i64 r7.2)), (11, .rep (.slice tStep) x9.2.1), (13, .eq (.bool x9.2.2.2)), (153, .eq (.bool x35))]) (fun z36 x35 => []) h (fun K h => ?_) (fun z36 x35 h => ?_)
   ·
    refine JC.region ?_
    refine mq ?_
    refine JO.s rfl (o_neq rfl) ⟨rfl, rfl, trivial⟩ ?_
    refine mq ?_
    refine JO.bool (s := 143) rfl (fun hb => ?_) (fun hb => ?_)
    ·
     replace h := b_if (n_t hb) h
     iterate 3 refine gn ?_
     refine pt ?_
     refine mq ?_
     iterate 4 refine gn ?_
     refine pt ?_
     refine JO.nil ?_
     refine JN.then_n ?_
     exact JN.z ((), true) h (SE.fin [] ⟨rfl, rfl, rfl, rfl, rfl, trivial⟩ rfl)
    ·
     replace h := b_ifn (n_fn hb) h
     refine gm ?_
     refine gm ?_
     refine JO.g00 rfl rfl rfl rfl rfl rfl (o_neq rfl) ⟨rfl, rfl, trivial⟩ ?_
     refine pf ?_
     refine mq ?_
     refine JO.bool (s := 148) rfl (fun hb => ?_) (fun hb => ?_)
     ·
      replace h := b_if (n_t hb) h
      iterate 4 refine gn ?_
      refine pt ?_
      refine JO.nil ?_
      refine JN.then_n ?_
      exact JN.z ((), true) h (SE.fin [] ⟨rfl, rfl, rfl, rfl, rfl, trivial⟩ rfl)
     ·
      replace h := b_ifn (n_fn hb) h
      refine gm ?_
      refine gm ?_
      obtain ⟨r37, er37, h⟩ := b_bind h
      have cr37 := kit_SameSteps_ok k r6.1 x9.1 r37 er37
      refine JO.g00 rfl rfl rfl rfl rfl rfl (o_call [.tmp 149, .tmp 150] rfl rfl en44 rfl cr37) ⟨rfl, rfl, trivial⟩ ?_
      refine JO.g00 rfl rfl rfl rfl rfl rfl (o_not rfl) ⟨rfl, trivial⟩ ?_
      refine pf ?_
      refine JO.nil ?_
      refine JN.then_n ?_
      exact JN.z ((), !r37) h (SE.fin [] ⟨rfl, rfl, rfl, rfl, rfl, trivial⟩ rfl)
   ·
    refine JC.cond rfl (fun hb => ?_) (fun hb => ?_)
    ·
     replace h := b_if (v_t hb) h
     refine sr ?_
     refine cq ?_
     refine nt ?_
     refine JC.ret ?_
     refine JN.then_r ?_
     obtain rfl := Option.some.inj h
     exact JN.ret () [_] 0 ⟨rfl, trivial⟩ rfl
    ·
     replace h := b_ifn (v_f hb) h
     refine JC.skip ?_
     refine JN.then_n ?_
     show JC _ _ _ _ _
     refine JC.seq ?_
     refine sr ?_
     refine mq ?_
     refine JO.s rfl (o_not rfl) ⟨rfl, trivial⟩ ?_
     refine nt ?_
     refine JC.cond rfl (fun hb => ?_) (fun hb => ?_)
     ·
      replace h := b_if (nv_t hb) h
      refine JC.cutB (Z := Unit) (α := Bool) (fun z39 x38 => [(2, .eq (.bool x38))]) (fun z39 x38 => []) h (fun K h => ?_) (fun z39 x38 h => ?_)
      ·
       refine JC.region ?_
       refine mq ?_
       refine JO.s rfl (o_eql rfl) ⟨rfl, rfl, trivial⟩ ?_
       refine mq ?_
       refine JO.bool (s := 158) rfl (fun hb => ?_) (fun hb => ?_)
       ·
        replace h := b_if (d_t hb) h
        refine gm ?_
        refine JO.g00 rfl rfl rfl rfl rfl rfl (o_len rfl rfl Try.underlying30) ⟨rfl, trivial⟩ ?_
        refine JO.g00 rfl rfl rfl rfl rfl rfl (o_eql rfl) ⟨rfl, rfl, trivial⟩ ?_
        refine pt ?_
        refine mq ?_
        refine JO.bool (s := 163) rfl (fun hb => ?_) (fun hb => ?_)
        ·
         replace h := b_if (d_t hb) h
         obtain ⟨r40, er40, h⟩ := b_bind h
         have cr40 := law_dressed_ok k  r40 er40
         refine JO.g00 rfl rfl rfl rfl rfl rfl (o_call [] rfl rfl en22 rfl cr40) trivial ?_
         refine pt ?_
         refine aq ?_
         refine JO.nil ?_
         refine JN.then_n ?_
         exact JN.z ((), r40) h (SE.fin [] ⟨rfl, trivial⟩ rfl)
        ·
         replace h := b_ifn (d_f hb) h
         refine gn ?_
         refine pf ?_
         refine aq ?_
         refine JO.nil ?_
         refine JN.then_n ?_
         exact JN.z ((), false) h (SE.fin [] ⟨rfl, trivial⟩ rfl)
       ·
        replace h := b_ifn (d_f hb) h
        iterate 3 refine gn ?_
        refine pf ?_
        refine mq ?_
        refine gn ?_
        refine pf ?_
        refine aq ?_
        refine JO.nil ?_
        refine JN.then_n ?_
        exact JN.z ((), false) h (SE.fin [] ⟨rfl, trivial⟩ rfl)
      ·
       refine JC.ret ?_
       refine JN.then_r ?_
       obtain rfl := Option.some.inj h
       exact JN.ret () [_] 0 ⟨rfl, trivial⟩ rfl
     ·
      replace h := b_ifn (nv_fn hb) h
      refine JC.skip ?_
      refine JN.then_n ?_
      show JC _ _ _ _ _
      refine JC.cutB (Z := Unit) (α := Bool) (fun z42 x41 => [(2, .eq (.bool x41))]) (fun z42 x41 => []) h (fun K h => ?_) (fun z42 x41 h => ?_)
      ·
       refine JC.region ?_
       refine mq ?_
       refine JO.s rfl (o_eql rfl) ⟨rfl, rfl, trivial⟩ ?_
       refine mq ?_
       refine JO.bool (s := 168) rfl (fun hb => ?_) (fun hb => ?_)
       ·
        replace h := b_if (d_t hb) h
        refine gm ?_
        refine gm ?_
        obtain ⟨r43, er43, h⟩ := b_bind h
        have cr43 := kit_SameSteps_ok k r7.1 x9.2.1 r43 er43
        refine JO.g00 rfl rfl rfl rfl rfl rfl (o_call [.tmp 169, .tmp 170] rfl rfl en44 rfl cr43) ⟨rfl, rfl, trivial⟩ ?_
        refine pt ?_
        refine mq ?_
        refine JO.bool (s := 173) rfl (fun hb => ?_) (fun hb => ?_)
        ·
         replace h := b_if (v_t hb) h
         obtain ⟨r44, er44, h⟩ := b_bind h
         have cr44 := law_dressed_ok k  r44 er44
         refine JO.g00 rfl rfl rfl rfl rfl rfl (o_call [] rfl rfl en22 rfl cr44) trivial ?_
         refine pt ?_
         refine aq ?_
         refine JO.nil ?_
         refine JN.then_n ?_
         exact JN.z ((), r44) h (SE.fin [] ⟨rfl, trivial⟩ rfl)
        ·
         replace h := b_ifn (v_f hb) h
         refine gn ?_
         refine pf ?_
         refine aq ?_
         refine JO.nil ?_
         refine JN.then_n ?_
         exact JN.z ((), false) h (SE.fin [] ⟨rfl, trivial⟩ rfl)
       ·
        replace h := b_ifn (d_f hb) h
        iterate 3 refine gn ?_
        refine pf ?_
        refine mq ?_
        refine gn ?_
        refine pf ?_
        refine aq ?_
        refine JO.nil ?_
        refine JN.then_n ?_
        exact JN.z ((), false) h (SE.fin [] ⟨rfl, trivial⟩ rfl)
      ·
       refine JC.ret ?_
       obtain rfl := Option.some.inj h
       exact JN.ret () [_] 0 ⟨rfl, trivial⟩ rfl


end Go.Proofs.Ytfhdclhbdmhnmaa
