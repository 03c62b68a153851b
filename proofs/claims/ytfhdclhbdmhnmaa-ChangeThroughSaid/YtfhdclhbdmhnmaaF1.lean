/- The program's functions, part 3: what each computes, and that the code computes it. Printed by a program of this proof's own. -/
import Derived.Test.YtfhdclhbdmhnmaaP2
set_option linter.unusedVariables false
set_option maxRecDepth 4000
namespace Go.Proofs.Ytfhdclhbdmhnmaa
open K Go Go.Proofs
def law_dressed (k : Nat) : Option Bool :=
 (law_quick k (0 : Int) (0 : Int) [(0 : Int), (2 : Int)]).bind fun r1 =>
 (chg_Fewest k r1).bind fun r3 =>
 (law_first k).bind fun r4 =>
 (chg_Begins k r1 r4).bind fun r5 =>
 (law_quick k (3 : Int) (0 : Int) [(0 : Int), (2 : Int)]).bind fun r6 =>
 (law_first k).bind fun r7 =>
 (chg_Late k r6 r7).bind fun r8 =>
 (chg_Spare k r1 (1 : Int)).bind fun r9 =>
 (law_first k).bind fun r10 =>
 (chg_Wearing k r1 r10 (4 : Int)).bind fun r11 =>
 (law_quick k (0 : Int) (3 : Int) [(0 : Int), (2 : Int)]).bind fun r12 =>
 (law_quick k (0 : Int) (3 : Int) [(0 : Int), (2 : Int)]).bind fun r13 =>
 (chg_Through k [r12, r13] [(0 : Int)]).bind fun r14 =>
 (law_quick k (0 : Int) (0 : Int) [(0 : Int)]).bind fun r15 =>
 (chg_Learn k r15).bind fun r16 =>
 ((if r3.2.2 = (0 : Int) then (if r5.2 = (0 : Int) then (if r8.2.2 = (0 : Int) then (if r9.2 = (0 : Int) then (if r11.2 = (0 : Int) then (if r14.2 = (0 : Int) then (if r16.2.2.2 = (0 : Int) then (if r3.2.1 = (4 : Int) then (if r8.1 = (2 : Int) then (if r8.2.1 = (3 : Int) then (if r9.1 = (3 : Int) then (if r16.1 = (1 : Int) then (if r16.2.1 = (2 : Int) then (if r16.2.2.1 = (4 : Int) then ((law_first k).bind fun r19 =>
 (kit_SameSteps k r3.1 r19).bind fun r20 =>
 if r20 = true then ((kit_SameInts k r5.1 [(0 : Int), (1 : Int), (3 : Int), (1 : Int)]).bind fun r21 =>
 if r21 = true then ((kit_SameInts k r11.1 [(1 : Int), (2 : Int)]).bind fun r22 =>
 if r22 = true then ((kit_SameInts k r14.1 [(7 : Int), (11 : Int)]).bind fun r23 =>
 some r23) else (some false)) else (some false)) else (some false)) else (some false)) else (some false)) else (some false)) else (some false)) else (some false)) else (some false)) else (some false)) else (some false)) else (some false)) else (some false)) else (some false)) else (some false)) else (some false)) else (some false)) : Option (Bool)).bind fun x17 =>
 some x17

theorem law_dressed_ok (k : Nat) (r : Bool) (h : law_dressed k = some r) :
 Ctr Try.prog 22 [] [] (fun _ : Unit => (resA [.eq (.bool r)], [])) := by
 unfold law_dressed at h
 replace h := b_top h
 refine Ctr.of 145 Try.func22 rfl Try.ntmps22 rfl fun S w0 => ?_
 refine sr ?_
 refine cq ?_
 refine nt ?_
 refine sr ?_
 refine JO.s rfl (o_litB (t := (.int .i64)) [(.const (.int .i64 (0)), _), (.const (.int .i64 (2)), _)] [(0 : Int), (2 : Int)] rfl rfl sl22 (.cons rfl .int (.cons rfl .int .nil)) rfl rfl) ⟨rfl, rfl, trivial⟩ ?_
 obtain ⟨r1, er1, h⟩ := b_bind h
 have cr1 := law_quick_ok k (0 : Int) (0 : Int) [(0 : Int), (2 : Int)] r1 er1
 refine JO.s rfl (o_call [.const (.int .i64 (0)), .const (.int .i64 (0)), .tmp 20] rfl rfl en58 rfl cr1) ⟨rfl, rfl, rfl, trivial⟩ ?_
 refine JO.s01 rfl rfl rfl (o_alloc rfl za28 al28) trivial fun b2 => ?_
 refine JO.n11 rfl rfl (o_store rfl sz28 rfl rfl rfl) ⟨rfl, rfl, trivial⟩ ?_
 refine nt ?_
 refine sr ?_
 refine JO.s11 rfl rfl rfl (o_load_obj rfl sz28 (nfn) rfl) ⟨rfl, trivial⟩ ?_
 obtain ⟨r3, er3, h⟩ := b_bind h
 have cr3 := chg_Fewest_ok k r1 r3 er3
 refine JO.s rfl (o_call [.tmp 23] rfl rfl en25 rfl cr3) ⟨rfl, trivial⟩ ?_
 refine mq ?_
 refine JO.s rfl (o_extract rfl rfl) ⟨rfl, trivial⟩ ?_
 refine JO.s rfl (o_extract rfl rfl) ⟨rfl, trivial⟩ ?_
 refine JO.s rfl (o_extract rfl rfl) ⟨rfl, trivial⟩ ?_
 refine aq ?_
 refine aq ?_
 refine aq ?_
 refine nt ?_
 refine JC.seq ?_
 refine JC.drawN ?_
 refine DN.s11 0 rfl rfl rfl rfl (o_load_obj rfl sz28 (nfn) rfl) ⟨rfl, trivial⟩ ?_
 obtain ⟨r4, er4, h⟩ := b_bind h
 have cr4 := law_first_ok k  r4 er4
 refine DN.s00 rfl rfl rfl (o_call [] rfl rfl en59 rfl cr4) trivial ?_
 obtain ⟨r5, er5, h⟩ := b_bind h
 have cr5 := chg_Begins_ok k r1 r4 r5 er5
 refine DN.s00 rfl rfl rfl (o_call [.tmp 29, .tmp 30] rfl rfl en20 rfl cr5) ⟨rfl, rfl, trivial⟩ ?_
 refine dm ?_
 refine DN.s00 rfl rfl rfl (o_extract rfl rfl) ⟨rfl, trivial⟩ ?_
 refine DN.s00 rfl rfl rfl (o_extract rfl rfl) ⟨rfl, trivial⟩ ?_
 refine DN.s00 rfl rfl rfl (o_assign rfl) ⟨rfl, trivial⟩ ?_
 refine DN.fin (by kernel_rfl) mixed ?_
 refine aq ?_
 refine nt ?_
 refine sr ?_
 refine JO.s rfl (o_litB (t := (.int .i64)) [(.const (.int .i64 (0)), _), (.const (.int .i64 (2)), _)] [(0 : Int), (2 : Int)] rfl rfl sl22 (.cons rfl .int (.cons rfl .int .nil)) rfl rfl) ⟨rfl, rfl, trivial⟩ ?_
 obtain ⟨r6, er6, h⟩ := b_bind h
 have cr6 := law_quick_ok k (3 : Int) (0 : Int) [(0 : Int), (2 : Int)] r6 er6
 refine JO.s rfl (o_call [.const (.int .i64 (3)), .const (.int .i64 (0)), .tmp 35] rfl rfl en58 rfl cr6) ⟨rfl, rfl, rfl, trivial⟩ ?_
 obtain ⟨r7, er7, h⟩ := b_bind h
 have cr7 := law_first_ok k  r7 er7
 refine JO.s rfl (o_call [] rfl rfl en59 rfl cr7) trivial ?_
 obtain ⟨r8, er8, h⟩ := b_bind h
 have cr8 := chg_Late_ok k r6 r7 r8 er8
 refine JO.s rfl (o_call [.tmp 36, .tmp 37] rfl rfl en21 rfl cr8) ⟨rfl, rfl, trivial⟩ ?_
 refine mq ?_
 refine JO.s rfl (o_extract rfl rfl) ⟨rfl, trivial⟩ ?_
 refine JO.s rfl (o_extract rfl rfl) ⟨rfl, trivial⟩ ?_
 refine JO.s rfl (o_extract rfl rfl) ⟨rfl, trivial⟩ ?_
 refine aq ?_
 refine aq ?_
 refine aq ?_
 refine nt ?_
 refine sr ?_
 refine JO.s11 rfl rfl rfl (o_load_obj rfl sz28 (nfn) rfl) ⟨rfl, trivial⟩ ?_
 obtain ⟨r9, er9, h⟩ := b_bind h
 have cr9 := chg_Spare_ok k r1 (1 : Int) r9 er9
 refine JO.s rfl (o_call [.tmp 43, .const (.int .i64 (1))] rfl rfl en26 rfl cr9) ⟨rfl, rfl, trivial⟩ ?_
 refine mq ?_
 refine JO.s rfl (o_extract rfl rfl) ⟨rfl, trivial⟩ ?_
 refine JO.s rfl (o_extract rfl rfl) ⟨rfl, trivial⟩ ?_
 refine aq ?_
 refine aq ?_
 refine nt ?_
 refine JC.seq ?_
 refine JC.drawN ?_
 refine DN.s11 0 rfl rfl rfl rfl (o_load_obj rfl sz28 (nfn) rfl) ⟨rfl, trivial⟩ ?_
 obtain ⟨r10, er10, h⟩ := b_bind h
 have cr10 := law_first_ok k  r10 er10
 refine DN.s00 rfl rfl rfl (o_call [] rfl rfl en59 rfl cr10) trivial ?_
 obtain ⟨r11, er11, h⟩ := b_bind h
 have cr11 := chg_Wearing_ok k r1 r10 (4 : Int) r11 er11
 refine DN.s00 rfl rfl rfl (o_call [.tmp 48, .tmp 49, .const (.int .i64 (4))] rfl rfl en39 rfl cr11) ⟨rfl, rfl, rfl, trivial⟩ ?_
 refine dm ?_
 refine DN.s00 rfl rfl rfl (o_extract rfl rfl) ⟨rfl, trivial⟩ ?_
 refine DN.s00 rfl rfl rfl (o_extract rfl rfl) ⟨rfl, trivial⟩ ?_
 refine DN.s00 rfl rfl rfl (o_assign rfl) ⟨rfl, trivial⟩ ?_
 refine DN.fin (by kernel_rfl) mixed ?_
 refine aq ?_
 refine nt ?_
 refine sr ?_
 refine JO.s rfl (o_litB (t := (.int .i64)) [(.const (.int .i64 (0)), _), (.const (.int .i64 (2)), _)] [(0 : Int), (2 : Int)] rfl rfl sl22 (.cons rfl .int (.cons rfl .int .nil)) rfl rfl) ⟨rfl, rfl, trivial⟩ ?_
 obtain ⟨r12, er12, h⟩ := b_bind h
 have cr12 := law_quick_ok k (0 : Int) (3 : Int) [(0 : Int), (2 : Int)] r12 er12
 refine JO.s rfl (o_call [.const (.int .i64 (0)), .const (.int .i64 (3)), .tmp 54] rfl rfl en58 rfl cr12) ⟨rfl, rfl, rfl, trivial⟩ ?_
 refine JO.s rfl (o_litB (t := (.int .i64)) [(.const (.int .i64 (0)), _), (.const (.int .i64 (2)), _)] [(0 : Int), (2 : Int)] rfl rfl sl22 (.cons rfl .int (.cons rfl .int .nil)) rfl rfl) ⟨rfl, rfl, trivial⟩ ?_
 obtain ⟨r13, er13, h⟩ := b_bind h
 have cr13 := law_quick_ok k (0 : Int) (3 : Int) [(0 : Int), (2 : Int)] r13 er13
 refine JO.s rfl (o_call [.const (.int .i64 (0)), .const (.int .i64 (3)), .tmp 56] rfl rfl en58 rfl cr13) ⟨rfl, rfl, rfl, trivial⟩ ?_
 refine JO.s rfl (o_litB (t := tChange) [(.tmp 55, _), (.tmp 57, _)] [r12, r13] rfl rfl sl62 (.cons rfl .rep (.cons rfl .rep .nil)) rfl rfl) ⟨rfl, rfl, trivial⟩ ?_
 refine JO.s rfl (o_litB (t := (.int .i64)) [(.const (.int .i64 (0)), _)] [(0 : Int)] rfl rfl sl22 (.cons rfl .int .nil) rfl rfl) ⟨rfl, trivial⟩ ?_
 obtain ⟨r14, er14, h⟩ := b_bind h
 have cr14 := chg_Through_ok k [r12, r13] [(0 : Int)] r14 er14
 refine JO.s rfl (o_call [.tmp 58, .tmp 59] rfl rfl en33 rfl cr14) ⟨rfl, rfl, trivial⟩ ?_
 refine mq ?_
 refine JO.s rfl (o_extract rfl rfl) ⟨rfl, trivial⟩ ?_
 refine JO.s rfl (o_extract rfl rfl) ⟨rfl, trivial⟩ ?_
 refine aq ?_
 refine aq ?_
 refine nt ?_
 refine sr ?_
 refine JO.s rfl (o_litB (t := (.int .i64)) [(.const (.int .i64 (0)), _)] [(0 : Int)] rfl rfl sl22 (.cons rfl .int .nil) rfl rfl) ⟨rfl, trivial⟩ ?_
 obtain ⟨r15, er15, h⟩ := b_bind h
 have cr15 := law_quick_ok k (0 : Int) (0 : Int) [(0 : Int)] r15 er15
 refine JO.s rfl (o_call [.const (.int .i64 (0)), .const (.int .i64 (0)), .tmp 64] rfl rfl en58 rfl cr15) ⟨rfl, rfl, rfl, trivial⟩ ?_
 obtain ⟨r16, er16, h⟩ := b_bind h
 have cr16 := chg_Learn_ok k r15 r16 er16
 refine JO.s rfl (o_call [.tmp 65] rfl rfl en29 rfl cr16) ⟨rfl, trivial⟩ ?_
 refine mq ?_
 refine JO.s rfl (o_extract rfl rfl) ⟨rfl, trivial⟩ ?_
 refine JO.s rfl (o_extract rfl rfl) ⟨rfl, trivial⟩ ?_
 refine JO.s rfl (o_extract rfl rfl) ⟨rfl, trivial⟩ ?_
 refine JO.s rfl (o_extract rfl rfl) ⟨rfl, trivial⟩ ?_
 refine aq ?_
 refine aq ?_
 refine aq ?_
 refine aq ?_
 refine nt ?_
 refine JC.cutB (Z := Unit) (α := Bool) (fun z18 x17 => [(0, .eq (.bool x17))]) (fun z18 x17 => []) h (fun K h => ?_) (fun z18 x17 h => ?_)
 ·
  refine JC.region ?_
  refine mq ?_
  refine JO.s rfl (o_eql rfl) ⟨rfl, rfl, trivial⟩ ?_
  refine mq ?_
  refine JO.bool (s := 73) rfl (fun hb => ?_) (fun hb => ?_)
  ·
   replace h := b_if (d_t hb) h
   refine gm ?_
   refine JO.g00 rfl rfl rfl rfl rfl rfl (o_eql rfl) ⟨rfl, rfl, trivial⟩ ?_
   refine pt ?_
   refine mq ?_
   refine JO.bool (s := 77) rfl (fun hb => ?_) (fun hb => ?_)
   ·
    replace h := b_if (d_t hb) h
    refine gm ?_
    refine JO.g00 rfl rfl rfl rfl rfl rfl (o_eql rfl) ⟨rfl, rfl, trivial⟩ ?_
    refine pt ?_
    refine mq ?_
    refine JO.bool (s := 81) rfl (fun hb => ?_) (fun hb => ?_)
    ·
     replace h := b_if (d_t hb) h
     refine gm ?_
     refine JO.g00 rfl rfl rfl rfl rfl rfl (o_eql rfl) ⟨rfl, rfl, trivial⟩ ?_
     refine pt ?_
     refine mq ?_
     refine JO.bool (s := 85) rfl (fun hb => ?_) (fun hb => ?_)
     ·
      replace h := b_if (d_t hb) h
      refine gm ?_
      refine JO.g00 rfl rfl rfl rfl rfl rfl (o_eql rfl) ⟨rfl, rfl, trivial⟩ ?_
      refine pt ?_
      refine mq ?_
      refine JO.bool (s := 89) rfl (fun hb => ?_) (fun hb => ?_)
      ·
       replace h := b_if (d_t hb) h
       refine gm ?_
       refine JO.g00 rfl rfl rfl rfl rfl rfl (o_eql rfl) ⟨rfl, rfl, trivial⟩ ?_
       refine pt ?_
       refine mq ?_
       refine JO.bool (s := 93) rfl (fun hb => ?_) (fun hb => ?_)
       ·
        replace h := b_if (d_t hb) h
        refine gm ?_
        refine JO.g00 rfl rfl rfl rfl rfl rfl (o_eql rfl) ⟨rfl, rfl, trivial⟩ ?_
        refine pt ?_
        refine mq ?_
        refine JO.bool (s := 97) rfl (fun hb => ?_) (fun hb => ?_)
        ·
         replace h := b_if (d_t hb) h
         refine gm ?_
         refine JO.g00 rfl rfl rfl rfl rfl rfl (o_eql rfl) ⟨rfl, rfl, trivial⟩ ?_
         refine pt ?_
         refine mq ?_
         refine JO.bool (s := 101) rfl (fun hb => ?_) (fun hb => ?_)
         ·
          replace h := b_if (d_t hb) h
          refine gm ?_
          refine JO.g00 rfl rfl rfl rfl rfl rfl (o_eql rfl) ⟨rfl, rfl, trivial⟩ ?_
          refine pt ?_
          refine mq ?_
          refine JO.bool (s := 105) rfl (fun hb => ?_) (fun hb => ?_)
          ·
           replace h := b_if (d_t hb) h
           refine gm ?_
           refine JO.g00 rfl rfl rfl rfl rfl rfl (o_eql rfl) ⟨rfl, rfl, trivial⟩ ?_
           refine pt ?_
           refine mq ?_
           refine JO.bool (s := 109) rfl (fun hb => ?_) (fun hb => ?_)
           ·
            replace h := b_if (d_t hb) h
            refine gm ?_
            refine JO.g00 rfl rfl rfl rfl rfl rfl (o_eql rfl) ⟨rfl, rfl, trivial⟩ ?_
            refine pt ?_
            refine mq ?_
            refine JO.bool (s := 113) rfl (fun hb => ?_) (fun hb => ?_)
            ·
             replace h := b_if (d_t hb) h
             refine gm ?_
             refine JO.g00 rfl rfl rfl rfl rfl rfl (o_eql rfl) ⟨rfl, rfl, trivial⟩ ?_
             refine pt ?_
             refine mq ?_
             refine JO.bool (s := 117) rfl (fun hb => ?_) (fun hb => ?_)
             ·
              replace h := b_if (d_t hb) h
              refine gm ?_
              refine JO.g00 rfl rfl rfl rfl rfl rfl (o_eql rfl) ⟨rfl, rfl, trivial⟩ ?_
              refine pt ?_
              refine mq ?_
              refine JO.bool (s := 121) rfl (fun hb => ?_) (fun hb => ?_)
              ·
               replace h := b_if (d_t hb) h
               refine gm ?_
               refine JO.g00 rfl rfl rfl rfl rfl rfl (o_eql rfl) ⟨rfl, rfl, trivial⟩ ?_
               refine pt ?_
               refine mq ?_
               refine JO.bool (s := 125) rfl (fun hb => ?_) (fun hb => ?_)
               ·
                replace h := b_if (d_t hb) h
                refine gm ?_
                obtain ⟨r19, er19, h⟩ := b_bind h
                have cr19 := law_first_ok k  r19 er19
                refine JO.g00 rfl rfl rfl rfl rfl rfl (o_call [] rfl rfl en59 rfl cr19) trivial ?_
                obtain ⟨r20, er20, h⟩ := b_bind h
                have cr20 := kit_SameSteps_ok k r3.1 r19 r20 er20
                refine JO.g00 rfl rfl rfl rfl rfl rfl (o_call [.tmp 126, .tmp 127] rfl rfl en44 rfl cr20) ⟨rfl, rfl, trivial⟩ ?_
                refine pt ?_
                refine mq ?_
                refine JO.bool (s := 130) rfl (fun hb => ?_) (fun hb => ?_)
                ·
                 replace h := b_if (v_t hb) h
                 refine gm ?_
                 refine JO.g00 rfl rfl rfl rfl rfl rfl (o_litB (t := (.int .i64)) [(.const (.int .i64 (0)), _), (.const (.int .i64 (1)), _), (.const (.int .i64 (3)), _), (.const (.int .i64 (1)), _)] [(0 : Int), (1 : Int), (3 : Int), (1 : Int)] rfl rfl sl22 (.cons rfl .int (.cons rfl .int (.cons rfl .int (.cons rfl .int .nil)))) rfl rfl) ⟨rfl, rfl, rfl, rfl, trivial⟩ ?_
                 obtain ⟨r21, er21, h⟩ := b_bind h
                 have cr21 := kit_SameInts_ok k r5.1 [(0 : Int), (1 : Int), (3 : Int), (1 : Int)] r21 er21
                 refine JO.g00 rfl rfl rfl rfl rfl rfl (o_call [.tmp 131, .tmp 132] rfl rfl en40 rfl cr21) ⟨rfl, rfl, trivial⟩ ?_
                 refine pt ?_
                 refine mq ?_
                 refine JO.bool (s := 135) rfl (fun hb => ?_) (fun hb => ?_)
                 ·
                  replace h := b_if (v_t hb) h
                  refine gm ?_
                  refine JO.g00 rfl rfl rfl rfl rfl rfl (o_litB (t := (.int .i64)) [(.const (.int .i64 (1)), _), (.const (.int .i64 (2)), _)] [(1 : Int), (2 : Int)] rfl rfl sl22 (.cons rfl .int (.cons rfl .int .nil)) rfl rfl) ⟨rfl, rfl, trivial⟩ ?_
                  obtain ⟨r22, er22, h⟩ := b_bind h
                  have cr22 := kit_SameInts_ok k r11.1 [(1 : Int), (2 : Int)] r22 er22
                  refine JO.g00 rfl rfl rfl rfl rfl rfl (o_call [.tmp 136, .tmp 137] rfl rfl en40 rfl cr22) ⟨rfl, rfl, trivial⟩ ?_
                  refine pt ?_
                  refine mq ?_
                  refine JO.bool (s := 140) rfl (fun hb => ?_) (fun hb => ?_)
                  ·
                   replace h := b_if (v_t hb) h
                   refine gm ?_
                   refine JO.g00 rfl rfl rfl rfl rfl rfl (o_litB (t := (.int .i64)) [(.const (.int .i64 (7)), _), (.const (.int .i64 (11)), _)] [(7 : Int), (11 : Int)] rfl rfl sl22 (.cons rfl .int (.cons rfl .int .nil)) rfl rfl) ⟨rfl, rfl, trivial⟩ ?_
                   obtain ⟨r23, er23, h⟩ := b_bind h
                   have cr23 := kit_SameInts_ok k r14.1 [(7 : Int), (11 : Int)] r23 er23
                   refine JO.g00 rfl rfl rfl rfl rfl rfl (o_call [.tmp 141, .tmp 142] rfl rfl en40 rfl cr23) ⟨rfl, rfl, trivial⟩ ?_
                   refine pt ?_
                   refine aq ?_
                   refine JO.nil ?_
                   refine JN.then_n ?_
                   exact JN.z ((), r23) h (SE.fin [] ⟨rfl, trivial⟩ rfl)
                  ·
                   replace h := b_ifn (v_f hb) h
                   iterate 3 refine gn ?_
                   refine pf ?_
                   refine aq ?_
                   refine JO.nil ?_
                   refine JN.then_n ?_
                   exact JN.z ((), false) h (SE.fin [] ⟨rfl, trivial⟩ rfl)
                 ·
                  replace h := b_ifn (v_f hb) h
                  iterate 3 refine gn ?_
                  refine pf ?_
                  refine mq ?_
                  iterate 3 refine gn ?_
                  refine pf ?_
                  refine aq ?_
                  refine JO.nil ?_
                  refine JN.then_n ?_
                  exact JN.z ((), false) h (SE.fin [] ⟨rfl, trivial⟩ rfl)
                ·
                 replace h := b_ifn (v_f hb) h
                 iterate 3 refine gn ?_
                 refine pf ?_
                 refine mq ?_
                 iterate 3 refine gn ?_
                 refine pf ?_
                 refine mq ?_
                 iterate 3 refine gn ?_
                 refine pf ?_
                 refine aq ?_
                 refine JO.nil ?_
                 refine JN.then_n ?_
                 exact JN.z ((), false) h (SE.fin [] ⟨rfl, trivial⟩ rfl)
               ·
                replace h := b_ifn (d_f hb) h
                iterate 3 refine gn ?_
                refine pf ?_
                refine mq ?_
                iterate 3 refine gn ?_
                refine pf ?_
                refine mq ?_
                iterate 3 refine gn ?_
                refine pf ?_
                refine mq ?_
                iterate 3 refine gn ?_
                refine pf ?_
                refine aq ?_
                refine JO.nil ?_
                refine JN.then_n ?_
                exact JN.z ((), false) h (SE.fin [] ⟨rfl, trivial⟩ rfl)
              ·
               replace h := b_ifn (d_f hb) h
               iterate 2 refine gn ?_
               refine pf ?_
               refine mq ?_
               iterate 3 refine gn ?_
               refine pf ?_
               refine mq ?_
               iterate 3 refine gn ?_
               refine pf ?_
               refine mq ?_
               iterate 3 refine gn ?_
               refine pf ?_
               refine mq ?_
               iterate 3 refine gn ?_
               refine pf ?_
               refine aq ?_
               refine JO.nil ?_
               refine JN.then_n ?_
               exact JN.z ((), false) h (SE.fin [] ⟨rfl, trivial⟩ rfl)
             ·
              replace h := b_ifn (d_f hb) h
              iterate 2 refine gn ?_
              refine pf ?_
              refine mq ?_
              iterate 2 refine gn ?_
              refine pf ?_
              refine mq ?_
              iterate 3 refine gn ?_
              refine pf ?_
              refine mq ?_
              iterate 3 refine gn ?_
              refine pf ?_
              refine mq ?_
              iterate 3 refine gn ?_
              refine pf ?_
              refine mq ?_
              iterate 3 refine gn ?_
              refine pf ?_
              refine aq ?_
              refine JO.nil ?_
              refine JN.then_n ?_
              exact JN.z ((), false) h (SE.fin [] ⟨rfl, trivial⟩ rfl)
            ·
             replace h := b_ifn (d_f hb) h
             iterate 2 refine gn ?_
             refine pf ?_
             refine mq ?_
             iterate 2 refine gn ?_
             refine pf ?_
             refine mq ?_
             iterate 2 refine gn ?_
             refine pf ?_
             refine mq ?_
             iterate 3 refine gn ?_
             refine pf ?_
             refine mq ?_
             iterate 3 refine gn ?_
             refine pf ?_
             refine mq ?_
             iterate 3 refine gn ?_
             refine pf ?_
             refine mq ?_
             iterate 3 refine gn ?_
             refine pf ?_
             refine aq ?_
             refine JO.nil ?_
             refine JN.then_n ?_
             exact JN.z ((), false) h (SE.fin [] ⟨rfl, trivial⟩ rfl)
           ·
            replace h := b_ifn (d_f hb) h
            iterate 2 refine gn ?_
            refine pf ?_
            refine mq ?_
            iterate 2 refine gn ?_
            refine pf ?_
            refine mq ?_
            iterate 2 refine gn ?_
            refine pf ?_
            refine mq ?_
            iterate 2 refine gn ?_
            refine pf ?_
            refine mq ?_
            iterate 3 refine gn ?_
            refine pf ?_
            refine mq ?_
            iterate 3 refine gn ?_
            refine pf ?_
            refine mq ?_
            iterate 3 refine gn ?_
            refine pf ?_
            refine mq ?_
            iterate 3 refine gn ?_
            refine pf ?_
            refine aq ?_
            refine JO.nil ?_
            refine JN.then_n ?_
            exact JN.z ((), false) h (SE.fin [] ⟨rfl, trivial⟩ rfl)
          ·
           replace h := b_ifn (d_f hb) h
           iterate 2 refine gn ?_
           refine pf ?_
           refine mq ?_
           iterate 2 refine gn ?_
           refine pf ?_
           refine mq ?_
           iterate 2 refine gn ?_
           refine pf ?_
           refine mq ?_
           iterate 2 refine gn ?_
           refine pf ?_
           refine mq ?_
           iterate 2 refine gn ?_
           refine pf ?_
           refine mq ?_
           iterate 3 refine gn ?_
           refine pf ?_
           refine mq ?_
           iterate 3 refine gn ?_
           refine pf ?_
           refine mq ?_
           iterate 3 refine gn ?_
           refine pf ?_
           refine mq ?_
           iterate 3 refine gn ?_
           refine pf ?_
           refine aq ?_
           refine JO.nil ?_
           refine JN.then_n ?_
           exact JN.z ((), false) h (SE.fin [] ⟨rfl, trivial⟩ rfl)
         ·
          replace h := b_ifn (d_f hb) h
          iterate 2 refine gn ?_
          refine pf ?_
          refine mq ?_
          iterate 2 refine gn ?_
          refine pf ?_
          refine mq ?_
          iterate 2 refine gn ?_
          refine pf ?_
          refine mq ?_
          iterate 2 refine gn ?_
          refine pf ?_
          refine mq ?_
          iterate 2 refine gn ?_
          refine pf ?_
          refine mq ?_
          iterate 2 refine gn ?_
          refine pf ?_
          refine mq ?_
          iterate 3 refine gn ?_
          refine pf ?_
          refine mq ?_
          iterate 3 refine gn ?_
          refine pf ?_
          refine mq ?_
          iterate 3 refine gn ?_
          refine pf ?_
          refine mq ?_
          iterate 3 refine gn ?_
          refine pf ?_
          refine aq ?_
          refine JO.nil ?_
          refine JN.then_n ?_
          exact JN.z ((), false) h (SE.fin [] ⟨rfl, trivial⟩ rfl)
        ·
         replace h := b_ifn (d_f hb) h
         iterate 2 refine gn ?_
         refine pf ?_
         refine mq ?_
         iterate 2 refine gn ?_
         refine pf ?_
         refine mq ?_
         iterate 2 refine gn ?_
         refine pf ?_
         refine mq ?_
         iterate 2 refine gn ?_
         refine pf ?_
         refine mq ?_
         iterate 2 refine gn ?_
         refine pf ?_
         refine mq ?_
         iterate 2 refine gn ?_
         refine pf ?_
         refine mq ?_
         iterate 2 refine gn ?_
         refine pf ?_
         refine mq ?_
         iterate 3 refine gn ?_
         refine pf ?_
         refine mq ?_
         iterate 3 refine gn ?_
         refine pf ?_
         refine mq ?_
         iterate 3 refine gn ?_
         refine pf ?_
         refine mq ?_
         iterate 3 refine gn ?_
         refine pf ?_
         refine aq ?_
         refine JO.nil ?_
         refine JN.then_n ?_
         exact JN.z ((), false) h (SE.fin [] ⟨rfl, trivial⟩ rfl)
       ·
        replace h := b_ifn (d_f hb) h
        iterate 2 refine gn ?_
        refine pf ?_
        refine mq ?_
        iterate 2 refine gn ?_
        refine pf ?_
        refine mq ?_
        iterate 2 refine gn ?_
        refine pf ?_
        refine mq ?_
        iterate 2 refine gn ?_
        refine pf ?_
        refine mq ?_
        iterate 2 refine gn ?_
        refine pf ?_
        refine mq ?_
        iterate 2 refine gn ?_
        refine pf ?_
        refine mq ?_
        iterate 2 refine gn ?_
        refine pf ?_
        refine mq ?_
        iterate 2 refine gn ?_
        refine pf ?_
        refine mq ?_
        iterate 3 refine gn ?_
        refine pf ?_
        refine mq ?_
        iterate 3 refine gn ?_
        refine pf ?_
        refine mq ?_
        iterate 3 refine gn ?_
        refine pf ?_
        refine mq ?_
        iterate 3 refine gn ?_
        refine pf ?_
        refine aq ?_
        refine JO.nil ?_
        refine JN.then_n ?_
        exact JN.z ((), false) h (SE.fin [] ⟨rfl, trivial⟩ rfl)
      ·
       replace h := b_ifn (d_f hb) h
       iterate 2 refine gn ?_
       refine pf ?_
       refine mq ?_
       iterate 2 refine gn ?_
       refine pf ?_
       refine mq ?_
       iterate 2 refine gn ?_
       refine pf ?_
       refine mq ?_
       iterate 2 refine gn ?_
       refine pf ?_
       refine mq ?_
       iterate 2 refine gn ?_
       refine pf ?_
       refine mq ?_
       iterate 2 refine gn ?_
       refine pf ?_
       refine mq ?_
       iterate 2 refine gn ?_
       refine pf ?_
       refine mq ?_
       iterate 2 refine gn ?_
       refine pf ?_
       refine mq ?_
       iterate 2 refine gn ?_
       refine pf ?_
       refine mq ?_
       iterate 3 refine gn ?_
       refine pf ?_
       refine mq ?_
       iterate 3 refine gn ?_
       refine pf ?_
       refine mq ?_
       iterate 3 refine gn ?_
       refine pf ?_
       refine mq ?_
       iterate 3 refine gn ?_
       refine pf ?_
       refine aq ?_
       refine JO.nil ?_
       refine JN.then_n ?_
       exact JN.z ((), false) h (SE.fin [] ⟨rfl, trivial⟩ rfl)
     ·
      replace h := b_ifn (d_f hb) h
      iterate 2 refine gn ?_
      refine pf ?_
      refine mq ?_
      iterate 2 refine gn ?_
      refine pf ?_
      refine mq ?_
      iterate 2 refine gn ?_
      refine pf ?_
      refine mq ?_
      iterate 2 refine gn ?_
      refine pf ?_
      refine mq ?_
      iterate 2 refine gn ?_
      refine pf ?_
      refine mq ?_
      iterate 2 refine gn ?_
      refine pf ?_
      refine mq ?_
      iterate 2 refine gn ?_
      refine pf ?_
      refine mq ?_
      iterate 2 refine gn ?_
      refine pf ?_
      refine mq ?_
      iterate 2 refine gn ?_
      refine pf ?_
      refine mq ?_
      iterate 2 refine gn ?_
      refine pf ?_
      refine mq ?_
      iterate 3 refine gn ?_
      refine pf ?_
      refine mq ?_
      iterate 3 refine gn ?_
      refine pf ?_
      refine mq ?_
      iterate 3 refine gn ?_
      refine pf ?_
      refine mq ?_
      iterate 3 refine gn ?_
      refine pf ?_
      refine aq ?_
      refine JO.nil ?_
      refine JN.then_n ?_
      exact JN.z ((), false) h (SE.fin [] ⟨rfl, trivial⟩ rfl)
    ·
     replace h := b_ifn (d_f hb) h
     iterate 2 refine gn ?_
     refine pf ?_
     refine mq ?_
     iterate 2 refine gn ?_
     refine pf ?_
     refine mq ?_
     iterate 2 refine gn ?_
     refine pf ?_
     refine mq ?_
     iterate 2 refine gn ?_
     refine pf ?_
     refine mq ?_
     iterate 2 refine gn ?_
     refine pf ?_
     refine mq ?_
     iterate 2 refine gn ?_
     refine pf ?_
     refine mq ?_
     iterate 2 refine gn ?_
     refine pf ?_
     refine mq ?_
     iterate 2 refine gn ?_
     refine pf ?_
     refine mq ?_
     iterate 2 refine gn ?_
     refine pf ?_
     refine mq ?_
     iterate 2 refine gn ?_
     refine pf ?_
     refine mq ?_
     iterate 2 refine gn ?_
     refine pf ?_
     refine mq ?_
     iterate 3 refine gn ?_
     refine pf ?_
     refine mq ?_
     iterate 3 refine gn ?_
     refine pf ?_
     refine mq ?_
     iterate 3 refine gn ?_
     refine pf ?_
     refine mq ?_
     iterate 3 refine gn ?_
     refine pf ?_
     refine aq ?_
     refine JO.nil ?_
     refine JN.then_n ?_
     exact JN.z ((), false) h (SE.fin [] ⟨rfl, trivial⟩ rfl)
   ·
    replace h := b_ifn (d_f hb) h
    iterate 2 refine gn ?_
    refine pf ?_
    refine mq ?_
    iterate 2 refine gn ?_
    refine pf ?_
    refine mq ?_
    iterate 2 refine gn ?_
    refine pf ?_
    refine mq ?_
    iterate 2 refine gn ?_
    refine pf ?_
    refine mq ?_
    iterate 2 refine gn ?_
    refine pf ?_
    refine mq ?_
    iterate 2 refine gn ?_
    refine pf ?_
    refine mq ?_
    iterate 2 refine gn ?_
    refine pf ?_
    refine mq ?_
    iterate 2 refine gn ?_
    refine pf ?_
    refine mq ?_
    iterate 2 refine gn ?_
    refine pf ?_
    refine mq ?_
    iterate 2 refine gn ?_
    refine pf ?_
    refine mq ?_
    iterate 2 refine gn ?_
    refine pf ?_
    refine mq ?_
    iterate 2 refine gn ?_
    refine pf ?_
    refine mq ?_
    iterate 3 refine gn ?_
    refine pf ?_
    refine mq ?_
    iterate 3 refine gn ?_
    refine pf ?_
    refine mq ?_
    iterate 3 refine gn ?_
    refine pf ?_
    refine mq ?_
    iterate 3 refine gn ?_
    refine pf ?_
    refine aq ?_
    refine JO.nil ?_
    refine JN.then_n ?_
    exact JN.z ((), false) h (SE.fin [] ⟨rfl, trivial⟩ rfl)
  ·
   replace h := b_ifn (d_f hb) h
   iterate 2 refine gn ?_
   refine pf ?_
   refine mq ?_
   iterate 2 refine gn ?_
   refine pf ?_
   refine mq ?_
   iterate 2 refine gn ?_
   refine pf ?_
   refine mq ?_
   iterate 2 refine gn ?_
   refine pf ?_
   refine mq ?_
   iterate 2 refine gn ?_
   refine pf ?_
   refine mq ?_
   iterate 2 refine gn ?_
   refine pf ?_
   refine mq ?_
   iterate 2 refine gn ?_
   refine pf ?_
   refine mq ?_
   iterate 2 refine gn ?_
   refine pf ?_
   refine mq ?_
   iterate 2 refine gn ?_
   refine pf ?_
   refine mq ?_
   iterate 2 refine gn ?_
   refine pf ?_
   refine mq ?_
   iterate 2 refine gn ?_
   refine pf ?_
   refine mq ?_
   iterate 2 refine gn ?_
   refine pf ?_
   refine mq ?_
   iterate 2 refine gn ?_
   refine pf ?_
   refine mq ?_
   iterate 3 refine gn ?_
   refine pf ?_
   refine mq ?_
   iterate 3 refine gn ?_
   refine pf ?_
   refine mq ?_
   iterate 3 refine gn ?_
   refine pf ?_
   refine mq ?_
   iterate 3 refine gn ?_
   refine pf ?_
   refine aq ?_
   refine JO.nil ?_
   refine JN.then_n ?_
   exact JN.z ((), false) h (SE.fin [] ⟨rfl, trivial⟩ rfl)
 ·
  refine JC.ret ?_
  obtain rfl := Option.some.inj h
  exact JN.ret () [_] 0 ⟨rfl, trivial⟩ rfl


def law_ChangeThrough (k : Nat) (a0 : (List Int)) : Option Bool :=
 (kit_NewLots k a0).bind fun r1 =>
 (kit_ChangeOf k (r1.1, r1.2.1, r1.2.2)).bind fun r3 =>
 (kit_ChangeOf k (r3.2.1, r3.2.2.1, r3.2.2.2)).bind fun r4 =>
 (chkP (0 ≤ (imin (r3.1.2.1.length : Int) (r4.1.2.1.length : Int)) ∧ (imin (r3.1.2.1.length : Int) (r4.1.2.1.length : Int)) ≤ (r3.1.2.1.length : Int))).bind fun _ =>
 (chkP (0 ≤ (imin (r3.1.2.1.length : Int) (r4.1.2.1.length : Int)) ∧ (imin (r3.1.2.1.length : Int) (r4.1.2.1.length : Int)) ≤ (r4.1.2.1.length : Int))).bind fun _ =>
 (kit_Lots_Upto k (r4.2.1, r4.2.2.1, r4.2.2.2) (8 : Int)).bind fun r9 =>
 (kit_Lots_Upto k (r9.2.1, r9.2.2.1, r9.2.2.2) (6 : Int)).bind fun r10 =>
 (chg_Fewest k (r3.1.1, List.take (Int.toNat (imin (r3.1.2.1.length : Int) (r4.1.2.1.length : Int))) r3.1.2.1, r3.1.2.2)).bind fun r11 =>
 (chg_Fewest k (r4.1.1, List.take (Int.toNat (imin (r3.1.2.1.length : Int) (r4.1.2.1.length : Int))) r4.1.2.1, r4.1.2.2)).bind fun r12 =>
 (chg_Through k [(r3.1.1, List.take (Int.toNat (imin (r3.1.2.1.length : Int) (r4.1.2.1.length : Int))) r3.1.2.1, r3.1.2.2), (r4.1.1, List.take (Int.toNat (imin (r3.1.2.1.length : Int) (r4.1.2.1.length : Int))) r4.1.2.1, r4.1.2.2)] [r9.1]).bind fun r13 =>
 (ck (r9.1 + r10.1)).bind fun x14 =>
 (chg_Through k [(r3.1.1, List.take (Int.toNat (imin (r3.1.2.1.length : Int) (r4.1.2.1.length : Int))) r3.1.2.1, r3.1.2.2), (r4.1.1, List.take (Int.toNat (imin (r3.1.2.1.length : Int) (r4.1.2.1.length : Int))) r4.1.2.1, r4.1.2.2)] [x14]).bind fun r15 =>
 ((if ¬ (r11.2.2 = (0 : Int)) then (some true) else (some (!decide (r12.2.2 = (0 : Int))))) : Option (Bool)).bind fun x16 =>
 if x16 = true then (((if r13.2 = (11 : Int) then (if r15.2 = (11 : Int) then (if (r13.1.length : Int) = (0 : Int) then (if (r15.1.length : Int) = (0 : Int) then (if r11.2.2 = (0 : Int) then (if r12.2.2 = (0 : Int) then ((law_dressed k).bind fun r20 =>
 some r20) else (if r12.2.2 = (11 : Int) then ((law_dressed k).bind fun r21 =>
 some r21) else (some false))) else (if r11.2.2 = (11 : Int) then (if r12.2.2 = (0 : Int) then ((law_dressed k).bind fun r22 =>
 some r22) else (if r12.2.2 = (11 : Int) then ((law_dressed k).bind fun r23 =>
 some r23) else (some false))) else (some false))) else (some false)) else (some false)) else (some false)) else (some false)) : Option (Bool)).bind fun x18 =>
 some x18) else (((if ¬ (r13.2 = (0 : Int)) then (some true) else (if ¬ (r15.2 = (0 : Int)) then (some true) else (if ¬ ((r13.1.length : Int) = (2 : Int)) then (some true) else (if ¬ ((r15.1.length : Int) = (2 : Int)) then (some true) else ((geti r13.1 (0 : Int)).bind fun x26 =>
 if ¬ (x26 = r11.2.1) then (some true) else ((geti r15.1 (0 : Int)).bind fun x27 =>
 some (!decide (x27 = r11.2.1)))))))) : Option (Bool)).bind fun x24 =>
 if x24 = true then (some false) else ((((geti r13.1 (1 : Int)).bind fun x30 =>
 if r12.2.1 ≤ x30 then ((geti r13.1 (1 : Int)).bind fun x31 =>
 (ck (r11.2.1 + r9.1)).bind fun x32 =>
 (ck (x32 + r12.2.1)).bind fun x33 =>
 if x31 ≤ x33 then ((geti r15.1 (1 : Int)).bind fun x34 =>
 (geti r13.1 (1 : Int)).bind fun x35 =>
 if x35 ≤ x34 then ((geti r15.1 (1 : Int)).bind fun x36 =>
 (geti r13.1 (1 : Int)).bind fun x37 =>
 (ck (x36 - x37)).bind fun x38 =>
 if x38 ≤ r10.1 then ((law_dressed k).bind fun r39 =>
 some r39) else (some false)) else (some false)) else (some false)) else (some false)) : Option (Bool)).bind fun x28 =>
 some x28))

theorem law_ChangeThrough_ok (k : Nat) (a0 : (List Int)) (r : Bool) (h : law_ChangeThrough k a0 = some r) :
 Ctr Try.prog 6 [.rep (.slice (.int .i64)) a0] [] (fun _ : Unit => (resA [.eq (.bool r)], [])) := by
 unfold law_ChangeThrough at h
 replace h := b_top h
 refine Ctr.of 188 Try.func6 rfl Try.ntmps6 rfl fun S w0 => ?_
 refine sr ?_
 refine cq ?_
 refine nt ?_
 refine sr ?_
 refine mq ?_
 obtain ⟨r1, er1, h⟩ := b_bind h
 have cr1 := kit_NewLots_ok k a0 r1 er1
 refine JO.s01 rfl rfl rfl (o_call [.tmp 19] rfl rfl en17 rfl cr1) ⟨rfl, trivial⟩ fun b2 => ?_
 refine aq ?_
 refine nt ?_
 refine sr ?_
 refine mq ?_
 obtain ⟨r3, er3, h⟩ := b_bind h
 have cr3 := kit_ChangeOf_ok k (r1.1, r1.2.1, r1.2.2) b2 r3 er3
 refine JO.s11 rfl rfl rfl (o_call [.tmp 21] rfl rfl en18 rfl cr3) ⟨rfl, trivial⟩ ?_
 refine mq ?_
 obtain ⟨r4, er4, h⟩ := b_bind h
 have cr4 := kit_ChangeOf_ok k (r3.2.1, r3.2.2.1, r3.2.2.2) b2 r4 er4
 refine JO.s11 rfl rfl rfl (o_call [.tmp 23] rfl rfl en18 rfl cr4) ⟨rfl, trivial⟩ ?_
 refine JO.s01 rfl rfl rfl (o_alloc rfl za28 al28) trivial fun b5 => ?_
 refine JO.s01 rfl rfl rfl (o_alloc rfl za28 al28) trivial fun b6 => ?_
 refine JO.front 1 rfl ?_
 refine JO.n11 rfl rfl (o_store rfl sz28 rfl rfl rfl) ⟨rfl, rfl, trivial⟩ ?_
 refine JO.front 1 rfl ?_
 refine JO.n11 rfl rfl (o_store rfl sz28 rfl rfl rfl) ⟨rfl, rfl, trivial⟩ ?_
 refine nt ?_
 refine sr ?_
 refine JO.s rfl (o_field_obj rfl fo28_1) ⟨rfl, trivial⟩ ?_
 refine JO.front 1 rfl ?_
 refine JO.s11 rfl rfl rfl (o_load_obj rfl sz26 (fun _ => rfl) rfl) ⟨rfl, trivial⟩ ?_
 refine JO.s rfl (o_len rfl rfl Try.underlying26) ⟨rfl, trivial⟩ ?_
 refine JO.s rfl (o_field_obj rfl fo28_1) ⟨rfl, trivial⟩ ?_
 refine JO.front 1 rfl ?_
 refine JO.s11 rfl rfl rfl (o_load_obj rfl sz26 (fun _ => rfl) rfl) ⟨rfl, trivial⟩ ?_
 refine JO.s rfl (o_len rfl rfl Try.underlying26) ⟨rfl, trivial⟩ ?_
 refine JO.s rfl (o_min rfl rfl) ⟨rfl, rfl, trivial⟩ ?_
 refine aq ?_
 refine nt ?_
 refine JC.seq ?_
 refine JC.drawW ?_
 refine DW.t00 rfl rfl rfl (o_field_obj rfl fo28_1) ⟨rfl, trivial⟩ ?_
 refine DW.t11 1 rfl rfl rfl rfl (o_load_obj rfl sz26 (fun _ => rfl) rfl) ⟨rfl, trivial⟩ ?_
 refine DW.t00 rfl rfl rfl (o_move rfl) ⟨rfl, trivial⟩ ?_
 obtain ⟨u7, eu7, h⟩ := b_bind h
 refine DW.t00 rfl rfl rfl (o_slice_h (t := tDresser) rfl Try.underlying26 sz53 (chkP_some eu7).1 (chkP_some eu7).2) ⟨rfl, rfl, trivial⟩ ?_
 refine DW.t00 rfl rfl rfl (o_field_obj rfl fo28_1) ⟨rfl, trivial⟩ ?_
 refine DW.t11 0 rfl rfl rfl rfl (o_load_obj rfl sz26 (fun _ => rfl) rfl) ⟨rfl, trivial⟩ ?_
 refine DW.t00 rfl rfl rfl (o_move rfl) ⟨rfl, trivial⟩ ?_
 obtain ⟨u8, eu8, h⟩ := b_bind h
 refine DW.t00 rfl rfl rfl (o_slice_h (t := tDresser) rfl Try.underlying26 sz53 (chkP_some eu8).1 (chkP_some eu8).2) ⟨rfl, rfl, trivial⟩ ?_
 refine DW.t00 rfl rfl rfl (o_field_obj rfl fo28_1) ⟨rfl, trivial⟩ ?_
 refine DW.fin 9 [true, true, true, true, false, false, false, false, true] [41] [0] [.obj b6 28 (.rep tChange r4.1)] rfl (by kernel_rfl) (by kernel_rfl) (by kernel_rfl) mixed (fun vs hv hB => ?_)
 obtain ⟨w0, vs1, rfl, hv1⟩ := len_cons hv
 obtain ⟨w1, vs2, rfl, hv2⟩ := len_cons hv1
 obtain ⟨w2, vs3, rfl, hv3⟩ := len_cons hv2
 obtain ⟨w3, vs4, rfl, hv4⟩ := len_cons hv3
 obtain ⟨w4, vs5, rfl, hv5⟩ := len_cons hv4
 obtain ⟨w5, vs6, rfl, hv6⟩ := len_cons hv5
 obtain ⟨w6, vs7, rfl, hv7⟩ := len_cons hv6
 obtain ⟨w7, vs8, rfl, hv8⟩ := len_cons hv7
 obtain ⟨w8, vs9, rfl, hv9⟩ := len_cons hv8
 obtain rfl := len_nil hv9
 refine ⟨[0, 1, 2], [.obj b5 28 (.rep tChange r3.1), .obj b2 93 (.agg (.pair (.rep (.slice (.int .i64)) r4.2.1) (.pair (.eq (.int .i64 r4.2.2.1)) (.eq (.int .u64 r4.2.2.2)))))], by kernel_rfl, by decide, ?_⟩
 refine JT.n11 rfl rfl (o_store rfl sz26 rfl rfl rfl) ⟨rfl, rfl, trivial⟩ (by kernel_rfl) ?_
 refine JT.all (by kernel_rfl) ?_
 refine JO.s rfl (o_field_obj rfl fo28_1) ⟨rfl, trivial⟩ ?_
 refine JO.n11 rfl rfl (o_store rfl sz26 rfl rfl rfl) ⟨rfl, rfl, trivial⟩ ?_
 refine nt ?_
 refine sr ?_
 refine mq ?_
 obtain ⟨r9, er9, h⟩ := b_bind h
 have cr9 := kit_Lots_Upto_ok k (r4.2.1, r4.2.2.1, r4.2.2.2) b2 (8 : Int) r9 er9
 refine JO.front 2 rfl ?_
 refine JO.s11 rfl rfl rfl (o_call [.tmp 42, .const (.int .i64 (8))] rfl rfl en32 rfl cr9) ⟨rfl, rfl, trivial⟩ ?_
 refine mq ?_
 obtain ⟨r10, er10, h⟩ := b_bind h
 have cr10 := kit_Lots_Upto_ok k (r9.2.1, r9.2.2.1, r9.2.2.2) b2 (6 : Int) r10 er10
 refine JO.s11 rfl rfl rfl (o_call [.tmp 44, .const (.int .i64 (6))] rfl rfl en32 rfl cr10) ⟨rfl, rfl, trivial⟩ ?_
 refine aq ?_
 refine aq ?_
 refine nt ?_
 refine sr ?_
 refine JO.front 2 rfl ?_
 refine JO.s11 rfl rfl rfl (o_load_obj rfl sz28 (nfn) rfl) ⟨rfl, trivial⟩ ?_
 obtain ⟨r11, er11, h⟩ := b_bind h
 have cr11 := chg_Fewest_ok k (r3.1.1, List.take (Int.toNat (imin (r3.1.2.1.length : Int) (r4.1.2.1.length : Int))) r3.1.2.1, r3.1.2.2) r11 er11
 refine JO.s rfl (OpT.need (N := [(.tmp 47, .agg (.pair (.rep (.slice tThing) r3.1.1) (.pair (.rep (.slice tDresser) (List.take (Int.toNat (imin (r3.1.2.1.length : Int) (r4.1.2.1.length : Int))) r3.1.2.1)) (.rep (.pair (.slice (.int .i64)) (.slice (.int .i64))) r3.1.2.2))))]) (o_call [.tmp 47] rfl rfl en25 rfl cr11) fun _ _ _ hn => ⟨(ent_holds (t := tChange) (x := (r3.1.1, List.take (Int.toNat (imin (r3.1.2.1.length : Int) (r4.1.2.1.length : Int))) r3.1.2.1, r3.1.2.2)) (.agg (.pair .rep (.pair .rep .rep))) trivial rfl hn.1), trivial⟩) ⟨rfl, trivial⟩ ?_
 refine mq ?_
 refine JO.s rfl (o_extract rfl rfl) ⟨rfl, trivial⟩ ?_
 refine JO.s rfl (o_extract rfl rfl) ⟨rfl, trivial⟩ ?_
 refine JO.s rfl (o_extract rfl rfl) ⟨rfl, trivial⟩ ?_
 refine aq ?_
 refine aq ?_
 refine aq ?_
 refine nt ?_
 refine sr ?_
 refine JO.front 2 rfl ?_
 refine JO.s11 rfl rfl rfl (o_load_obj rfl sz28 (nfn) rfl) ⟨rfl, trivial⟩ ?_
 obtain ⟨r12, er12, h⟩ := b_bind h
 have cr12 := chg_Fewest_ok k (r4.1.1, List.take (Int.toNat (imin (r3.1.2.1.length : Int) (r4.1.2.1.length : Int))) r4.1.2.1, r4.1.2.2) r12 er12
 refine JO.s rfl (OpT.need (N := [(.tmp 53, .agg (.pair (.rep (.slice tThing) r4.1.1) (.pair (.rep (.slice tDresser) (List.take (Int.toNat (imin (r3.1.2.1.length : Int) (r4.1.2.1.length : Int))) r4.1.2.1)) (.rep (.pair (.slice (.int .i64)) (.slice (.int .i64))) r4.1.2.2))))]) (o_call [.tmp 53] rfl rfl en25 rfl cr12) fun _ _ _ hn => ⟨(ent_holds (t := tChange) (x := (r4.1.1, List.take (Int.toNat (imin (r3.1.2.1.length : Int) (r4.1.2.1.length : Int))) r4.1.2.1, r4.1.2.2)) (.agg (.pair .rep (.pair .rep .rep))) trivial rfl hn.1), trivial⟩) ⟨rfl, trivial⟩ ?_
 refine mq ?_
 refine JO.s rfl (o_extract rfl rfl) ⟨rfl, trivial⟩ ?_
 refine JO.s rfl (o_extract rfl rfl) ⟨rfl, trivial⟩ ?_
 refine JO.s rfl (o_extract rfl rfl) ⟨rfl, trivial⟩ ?_
 refine aq ?_
 refine aq ?_
 refine aq ?_
 refine nt ?_
 refine sr ?_
 refine JO.front 1 rfl ?_
 refine JO.s11 rfl rfl rfl (o_load_obj rfl sz28 (nfn) rfl) ⟨rfl, trivial⟩ ?_
 refine JO.front 1 rfl ?_
 refine JO.s11 rfl rfl rfl (o_load_obj rfl sz28 (nfn) rfl) ⟨rfl, trivial⟩ ?_
 refine JO.s rfl (o_litB (t := tChange) [(.tmp 59, _), (.tmp 60, _)] [(r3.1.1, List.take (Int.toNat (imin (r3.1.2.1.length : Int) (r4.1.2.1.length : Int))) r3.1.2.1, r3.1.2.2), (r4.1.1, List.take (Int.toNat (imin (r3.1.2.1.length : Int) (r4.1.2.1.length : Int))) r4.1.2.1, r4.1.2.2)] rfl rfl sl62 (.cons trivial (.agg (.pair .rep (.pair .rep .rep))) (.cons trivial (.agg (.pair .rep (.pair .rep .rep))) .nil)) rfl rfl) ⟨rfl, rfl, trivial⟩ ?_
 refine mq ?_
 refine JO.s rfl (o_litB (t := (.int .i64)) [(.tmp 62, _)] [r9.1] rfl rfl sl22 (.cons rfl .int .nil) rfl rfl) ⟨rfl, trivial⟩ ?_
 obtain ⟨r13, er13, h⟩ := b_bind h
 have cr13 := chg_Through_ok k [(r3.1.1, List.take (Int.toNat (imin (r3.1.2.1.length : Int) (r4.1.2.1.length : Int))) r3.1.2.1, r3.1.2.2), (r4.1.1, List.take (Int.toNat (imin (r3.1.2.1.length : Int) (r4.1.2.1.length : Int))) r4.1.2.1, r4.1.2.2)] [r9.1] r13 er13
 refine JO.s rfl (o_call [.tmp 61, .tmp 63] rfl rfl en33 rfl cr13) ⟨rfl, rfl, trivial⟩ ?_
 refine mq ?_
 refine JO.s rfl (o_extract rfl rfl) ⟨rfl, trivial⟩ ?_
 refine JO.s rfl (o_extract rfl rfl) ⟨rfl, trivial⟩ ?_
 refine aq ?_
 refine aq ?_
 refine nt ?_
 refine sr ?_
 refine JO.front 1 rfl ?_
 refine JO.s11 rfl rfl rfl (o_load_obj rfl sz28 (nfn) rfl) ⟨rfl, trivial⟩ ?_
 refine JO.front 1 rfl ?_
 refine JO.s11 rfl rfl rfl (o_load_obj rfl sz28 (nfn) rfl) ⟨rfl, trivial⟩ ?_
 refine JO.s rfl (o_litB (t := tChange) [(.tmp 68, _), (.tmp 69, _)] [(r3.1.1, List.take (Int.toNat (imin (r3.1.2.1.length : Int) (r4.1.2.1.length : Int))) r3.1.2.1, r3.1.2.2), (r4.1.1, List.take (Int.toNat (imin (r3.1.2.1.length : Int) (r4.1.2.1.length : Int))) r4.1.2.1, r4.1.2.2)] rfl rfl sl62 (.cons trivial (.agg (.pair .rep (.pair .rep .rep))) (.cons trivial (.agg (.pair .rep (.pair .rep .rep))) .nil)) rfl rfl) ⟨rfl, rfl, trivial⟩ ?_
 iterate 2 refine mq ?_
 obtain ⟨x14, ex14, h⟩ := b_bind h
 refine JO.s rfl (o_add rfl ex14) ⟨rfl, rfl, trivial⟩ ?_
 refine JO.s rfl (o_litB (t := (.int .i64)) [(.tmp 73, _)] [x14] rfl rfl sl22 (.cons rfl .int .nil) rfl rfl) ⟨rfl, trivial⟩ ?_
 obtain ⟨r15, er15, h⟩ := b_bind h
 have cr15 := chg_Through_ok k [(r3.1.1, List.take (Int.toNat (imin (r3.1.2.1.length : Int) (r4.1.2.1.length : Int))) r3.1.2.1, r3.1.2.2), (r4.1.1, List.take (Int.toNat (imin (r3.1.2.1.length : Int) (r4.1.2.1.length : Int))) r4.1.2.1, r4.1.2.2)] [x14] r15 er15
 refine JO.s rfl (o_call [.tmp 70, .tmp 74] rfl rfl en33 rfl cr15) ⟨rfl, rfl, trivial⟩ ?_
 refine mq ?_
 refine JO.s rfl (o_extract rfl rfl) ⟨rfl, trivial⟩ ?_
 refine JO.s rfl (o_extract rfl rfl) ⟨rfl, trivial⟩ ?_
 refine aq ?_
 refine aq ?_
 refine nt ?_
 refine JC.seq ?_
 refine JC.cutB (Z := Unit) (α := Bool) (fun z17 x16 => [(7, .eq (.int .i64 r9.1)), (8, .eq (.int .i64 r10.1)), (10, .eq (.int .i64 r11.2.1)), (11, .eq (.int .i64 r11.2.2)), (13, .eq (.int .i64 r12.2.1)), (14, .eq (.int .i64 r12.2.2)), (15, .rep (.slice (.int .i64)) r13.1), (16, .eq (.int .i64 r13.2)), (17, .rep (.slice (.int .i64)) r15.1), (18, .eq (.int .i64 r15.2)), (83, .eq (.bool x16))]) (fun z17 x16 => []) h (fun K h => ?_) (fun z17 x16 h => ?_)
 ·
  refine JC.region ?_
  refine mq ?_
  refine JO.s rfl (o_neq rfl) ⟨rfl, rfl, trivial⟩ ?_
  refine mq ?_
  refine JO.bool (s := 80) rfl (fun hb => ?_) (fun hb => ?_)
  ·
   replace h := b_if (n_t hb) h
   iterate 2 refine gn ?_
   refine pt ?_
   refine JO.nil ?_
   refine JN.then_n ?_
   exact JN.z ((), true) h (SE.fin [] ⟨rfl, rfl, rfl, rfl, rfl, rfl, rfl, rfl, rfl, rfl, rfl, trivial⟩ rfl)
  ·
   replace h := b_ifn (n_fn hb) h
   refine gm ?_
   refine JO.g00 rfl rfl rfl rfl rfl rfl (o_neq rfl) ⟨rfl, rfl, trivial⟩ ?_
   refine pf ?_
   refine JO.nil ?_
   refine JN.then_n ?_
   exact JN.z ((), !decide (r12.2.2 = (0 : Int))) h (SE.fin [] ⟨rfl, rfl, rfl, rfl, rfl, rfl, rfl, rfl, rfl, rfl, rfl, trivial⟩ rfl)
 ·
  refine JC.cond rfl (fun hb => ?_) (fun hb => ?_)
  ·
   replace h := b_if (v_t hb) h
   refine JC.cutB (Z := Unit) (α := Bool) (fun z19 x18 => [(2, .eq (.bool x18))]) (fun z19 x18 => []) h (fun K h => ?_) (fun z19 x18 h => ?_)
   ·
    refine JC.region ?_
    refine mq ?_
    refine JO.s rfl (o_eql rfl) ⟨rfl, rfl, trivial⟩ ?_
    refine mq ?_
    refine JO.bool (s := 86) rfl (fun hb => ?_) (fun hb => ?_)
    ·
     replace h := b_if (d_t hb) h
     refine gm ?_
     refine JO.g00 rfl rfl rfl rfl rfl rfl (o_eql rfl) ⟨rfl, rfl, trivial⟩ ?_
     refine pt ?_
     refine mq ?_
     refine JO.bool (s := 90) rfl (fun hb => ?_) (fun hb => ?_)
     ·
      replace h := b_if (d_t hb) h
      refine gm ?_
      refine JO.g00 rfl rfl rfl rfl rfl rfl (o_len rfl rfl Try.underlying22) ⟨rfl, trivial⟩ ?_
      refine JO.g00 rfl rfl rfl rfl rfl rfl (o_eql rfl) ⟨rfl, rfl, trivial⟩ ?_
      refine pt ?_
      refine mq ?_
      refine JO.bool (s := 95) rfl (fun hb => ?_) (fun hb => ?_)
      ·
       replace h := b_if (d_t hb) h
       refine gm ?_
       refine JO.g00 rfl rfl rfl rfl rfl rfl (o_len rfl rfl Try.underlying22) ⟨rfl, trivial⟩ ?_
       refine JO.g00 rfl rfl rfl rfl rfl rfl (o_eql rfl) ⟨rfl, rfl, trivial⟩ ?_
       refine pt ?_
       refine mq ?_
       refine JO.bool (s := 100) rfl (fun hb => ?_) (fun hb => ?_)
       ·
        replace h := b_if (d_t hb) h
        refine gm ?_
        refine JO.g00 rfl rfl rfl rfl rfl rfl (o_eql rfl) ⟨rfl, rfl, trivial⟩ ?_
        refine gm ?_
        refine JO.bool (s := 103) rfl (fun hb => ?_) (fun hb => ?_)
        ·
         replace h := b_if (d_t hb) h
         iterate 2 refine gn ?_
         refine JO.g00 rfl rfl rfl rfl rfl rfl (o_pick_t rfl) ⟨rfl, rfl, trivial⟩ ?_
         refine pt ?_
         refine mq ?_
         refine gm ?_
         refine JO.g00 rfl rfl rfl rfl rfl rfl (o_eql rfl) ⟨rfl, rfl, trivial⟩ ?_
         refine gm ?_
         refine JO.bool (s := 111) rfl (fun hb => ?_) (fun hb => ?_)
         ·
          replace h := b_if (d_t hb) h
          iterate 2 refine gn ?_
          refine JO.g00 rfl rfl rfl rfl rfl rfl (o_pick_t rfl) ⟨rfl, rfl, trivial⟩ ?_
          refine pt ?_
          refine mq ?_
          obtain ⟨r20, er20, h⟩ := b_bind h
          have cr20 := law_dressed_ok k  r20 er20
          refine JO.g00 rfl rfl rfl rfl rfl rfl (o_call [] rfl rfl en22 rfl cr20) trivial ?_
          refine pt ?_
          refine aq ?_
          refine JO.nil ?_
          refine JN.then_n ?_
          exact JN.z ((), r20) h (SE.fin [] ⟨rfl, trivial⟩ rfl)
         ·
          replace h := b_ifn (d_f hb) h
          refine gm ?_
          refine JO.g00 rfl rfl rfl rfl rfl rfl (o_eql rfl) ⟨rfl, rfl, trivial⟩ ?_
          refine JO.g00 rfl rfl rfl rfl rfl rfl (o_pick_f rfl) ⟨rfl, rfl, trivial⟩ ?_
          refine pt ?_
          refine mq ?_
          refine JO.bool (s := 116) rfl (fun hb => ?_) (fun hb => ?_)
          ·
           replace h := b_if (d_t hb) h
           obtain ⟨r21, er21, h⟩ := b_bind h
           have cr21 := law_dressed_ok k  r21 er21
           refine JO.g00 rfl rfl rfl rfl rfl rfl (o_call [] rfl rfl en22 rfl cr21) trivial ?_
           refine pt ?_
           refine aq ?_
           refine JO.nil ?_
           refine JN.then_n ?_
           exact JN.z ((), r21) h (SE.fin [] ⟨rfl, trivial⟩ rfl)
          ·
           replace h := b_ifn (d_f hb) h
           refine gn ?_
           refine pf ?_
           refine aq ?_
           refine JO.nil ?_
           refine JN.then_n ?_
           exact JN.z ((), false) h (SE.fin [] ⟨rfl, trivial⟩ rfl)
        ·
         replace h := b_ifn (d_f hb) h
         refine gm ?_
         refine JO.g00 rfl rfl rfl rfl rfl rfl (o_eql rfl) ⟨rfl, rfl, trivial⟩ ?_
         refine JO.g00 rfl rfl rfl rfl rfl rfl (o_pick_f rfl) ⟨rfl, rfl, trivial⟩ ?_
         refine pt ?_
         refine mq ?_
         refine JO.bool (s := 108) rfl (fun hb => ?_) (fun hb => ?_)
         ·
          replace h := b_if (d_t hb) h
          refine gm ?_
          refine JO.g00 rfl rfl rfl rfl rfl rfl (o_eql rfl) ⟨rfl, rfl, trivial⟩ ?_
          refine gm ?_
          refine JO.bool (s := 111) rfl (fun hb => ?_) (fun hb => ?_)
          ·
           replace h := b_if (d_t hb) h
           iterate 2 refine gn ?_
           refine JO.g00 rfl rfl rfl rfl rfl rfl (o_pick_t rfl) ⟨rfl, rfl, trivial⟩ ?_
           refine pt ?_
           refine mq ?_
           obtain ⟨r22, er22, h⟩ := b_bind h
           have cr22 := law_dressed_ok k  r22 er22
           refine JO.g00 rfl rfl rfl rfl rfl rfl (o_call [] rfl rfl en22 rfl cr22) trivial ?_
           refine pt ?_
           refine aq ?_
           refine JO.nil ?_
           refine JN.then_n ?_
           exact JN.z ((), r22) h (SE.fin [] ⟨rfl, trivial⟩ rfl)
          ·
           replace h := b_ifn (d_f hb) h
           refine gm ?_
           refine JO.g00 rfl rfl rfl rfl rfl rfl (o_eql rfl) ⟨rfl, rfl, trivial⟩ ?_
           refine JO.g00 rfl rfl rfl rfl rfl rfl (o_pick_f rfl) ⟨rfl, rfl, trivial⟩ ?_
           refine pt ?_
           refine mq ?_
           refine JO.bool (s := 116) rfl (fun hb => ?_) (fun hb => ?_)
           ·
            replace h := b_if (d_t hb) h
            obtain ⟨r23, er23, h⟩ := b_bind h
            have cr23 := law_dressed_ok k  r23 er23
            refine JO.g00 rfl rfl rfl rfl rfl rfl (o_call [] rfl rfl en22 rfl cr23) trivial ?_
            refine pt ?_
            refine aq ?_
            refine JO.nil ?_
            refine JN.then_n ?_
            exact JN.z ((), r23) h (SE.fin [] ⟨rfl, trivial⟩ rfl)
           ·
            replace h := b_ifn (d_f hb) h
            refine gn ?_
            refine pf ?_
            refine aq ?_
            refine JO.nil ?_
            refine JN.then_n ?_
            exact JN.z ((), false) h (SE.fin [] ⟨rfl, trivial⟩ rfl)
         ·
          replace h := b_ifn (d_f hb) h
          iterate 3 refine gn ?_
          refine JO.gnou rfl rfl rfl rfl rfl rfl ?_
          refine JO.gnou rfl rfl rfl rfl rfl rfl ?_
          refine gn ?_
          refine pf ?_
          refine mq ?_
          refine gn ?_
          refine pf ?_
          refine aq ?_
          refine JO.nil ?_
          refine JN.then_n ?_
          exact JN.z ((), false) h (SE.fin [] ⟨rfl, trivial⟩ rfl)
       ·
        replace h := b_ifn (d_f hb) h
        iterate 3 refine gn ?_
        refine JO.gnou rfl rfl rfl rfl rfl rfl ?_
        refine JO.gnou rfl rfl rfl rfl rfl rfl ?_
        refine gn ?_
        refine pf ?_
        refine mq ?_
        iterate 3 refine gn ?_
        refine JO.gnou rfl rfl rfl rfl rfl rfl ?_
        refine JO.gnou rfl rfl rfl rfl rfl rfl ?_
        refine gn ?_
        refine pf ?_
        refine mq ?_
        refine gn ?_
        refine pf ?_
        refine aq ?_
        refine JO.nil ?_
        refine JN.then_n ?_
        exact JN.z ((), false) h (SE.fin [] ⟨rfl, trivial⟩ rfl)
      ·
       replace h := b_ifn (d_f hb) h
       iterate 3 refine gn ?_
       refine pf ?_
       refine mq ?_
       iterate 3 refine gn ?_
       refine JO.gnou rfl rfl rfl rfl rfl rfl ?_
       refine JO.gnou rfl rfl rfl rfl rfl rfl ?_
       refine gn ?_
       refine pf ?_
       refine mq ?_
       iterate 3 refine gn ?_
       refine JO.gnou rfl rfl rfl rfl rfl rfl ?_
       refine JO.gnou rfl rfl rfl rfl rfl rfl ?_
       refine gn ?_
       refine pf ?_
       refine mq ?_
       refine gn ?_
       refine pf ?_
       refine aq ?_
       refine JO.nil ?_
       refine JN.then_n ?_
       exact JN.z ((), false) h (SE.fin [] ⟨rfl, trivial⟩ rfl)
     ·
      replace h := b_ifn (d_f hb) h
      iterate 3 refine gn ?_
      refine pf ?_
      refine mq ?_
      iterate 3 refine gn ?_
      refine pf ?_
      refine mq ?_
      iterate 3 refine gn ?_
      refine JO.gnou rfl rfl rfl rfl rfl rfl ?_
      refine JO.gnou rfl rfl rfl rfl rfl rfl ?_
      refine gn ?_
      refine pf ?_
      refine mq ?_
      iterate 3 refine gn ?_
      refine JO.gnou rfl rfl rfl rfl rfl rfl ?_
      refine JO.gnou rfl rfl rfl rfl rfl rfl ?_
      refine gn ?_
      refine pf ?_
      refine mq ?_
      refine gn ?_
      refine pf ?_
      refine aq ?_
      refine JO.nil ?_
      refine JN.then_n ?_
      exact JN.z ((), false) h (SE.fin [] ⟨rfl, trivial⟩ rfl)
    ·
     replace h := b_ifn (d_f hb) h
     iterate 2 refine gn ?_
     refine pf ?_
     refine mq ?_
     iterate 3 refine gn ?_
     refine pf ?_
     refine mq ?_
     iterate 3 refine gn ?_
     refine pf ?_
     refine mq ?_
     iterate 3 refine gn ?_
     refine JO.gnou rfl rfl rfl rfl rfl rfl ?_
     refine JO.gnou rfl rfl rfl rfl rfl rfl ?_
     refine gn ?_
     refine pf ?_
     refine mq ?_
     iterate 3 refine gn ?_
     refine JO.gnou rfl rfl rfl rfl rfl rfl ?_
     refine JO.gnou rfl rfl rfl rfl rfl rfl ?_
     refine gn ?_
     refine pf ?_
     refine mq ?_
     refine gn ?_
     refine pf ?_
     refine aq ?_
     refine JO.nil ?_
     refine JN.then_n ?_
     exact JN.z ((), false) h (SE.fin [] ⟨rfl, trivial⟩ rfl)
   ·
    refine JC.ret ?_
    refine JN.then_r ?_
    obtain rfl := Option.some.inj h
    exact JN.ret () [_] 0 ⟨rfl, trivial⟩ rfl
  ·
   replace h := b_ifn (v_f hb) h
   refine JC.skip ?_
   refine JN.then_n ?_
   show JC _ _ _ _ _
   refine JC.seq ?_
   refine JC.cutB (Z := Unit) (α := Bool) (fun z25 x24 => [(7, .eq (.int .i64 r9.1)), (8, .eq (.int .i64 r10.1)), (10, .eq (.int .i64 r11.2.1)), (13, .eq (.int .i64 r12.2.1)), (15, .rep (.slice (.int .i64)) r13.1), (17, .rep (.slice (.int .i64)) r15.1), (148, .eq (.bool x24))]) (fun z25 x24 => []) h (fun K h => ?_) (fun z25 x24 h => ?_)
   ·
    refine JC.region ?_
    refine mq ?_
    refine JO.s rfl (o_neq rfl) ⟨rfl, rfl, trivial⟩ ?_
    refine mq ?_
    refine JO.bool (s := 121) rfl (fun hb => ?_) (fun hb => ?_)
    ·
     replace h := b_if (n_t hb) h
     iterate 2 refine gn ?_
     refine pt ?_
     refine mq ?_
     iterate 3 refine gn ?_
     refine pt ?_
     refine mq ?_
     iterate 3 refine gn ?_
     refine pt ?_
     refine mq ?_
     iterate 5 refine gn ?_
     refine pt ?_
     refine mq ?_
     iterate 5 refine gn ?_
     refine pt ?_
     refine JO.nil ?_
     refine JN.then_n ?_
     exact JN.z ((), true) h (SE.fin [] ⟨rfl, rfl, rfl, rfl, rfl, rfl, rfl, trivial⟩ rfl)
    ·
     replace h := b_ifn (n_fn hb) h
     refine gm ?_
     refine JO.g00 rfl rfl rfl rfl rfl rfl (o_neq rfl) ⟨rfl, rfl, trivial⟩ ?_
     refine pf ?_
     refine mq ?_
     refine JO.bool (s := 125) rfl (fun hb => ?_) (fun hb => ?_)
     ·
      replace h := b_if (n_t hb) h
      iterate 3 refine gn ?_
      refine pt ?_
      refine mq ?_
      iterate 3 refine gn ?_
      refine pt ?_
      refine mq ?_
      iterate 5 refine gn ?_
      refine pt ?_
      refine mq ?_
      iterate 5 refine gn ?_
      refine pt ?_
      refine JO.nil ?_
      refine JN.then_n ?_
      exact JN.z ((), true) h (SE.fin [] ⟨rfl, rfl, rfl, rfl, rfl, rfl, rfl, trivial⟩ rfl)
     ·
      replace h := b_ifn (n_fn hb) h
      refine gm ?_
      refine JO.g00 rfl rfl rfl rfl rfl rfl (o_len rfl rfl Try.underlying22) ⟨rfl, trivial⟩ ?_
      refine JO.g00 rfl rfl rfl rfl rfl rfl (o_neq rfl) ⟨rfl, rfl, trivial⟩ ?_
      refine pf ?_
      refine mq ?_
      refine JO.bool (s := 130) rfl (fun hb => ?_) (fun hb => ?_)
      ·
       replace h := b_if (n_t hb) h
       iterate 3 refine gn ?_
       refine pt ?_
       refine mq ?_
       iterate 5 refine gn ?_
       refine pt ?_
       refine mq ?_
       iterate 5 refine gn ?_
       refine pt ?_
       refine JO.nil ?_
       refine JN.then_n ?_
       exact JN.z ((), true) h (SE.fin [] ⟨rfl, rfl, rfl, rfl, rfl, rfl, rfl, trivial⟩ rfl)
      ·
       replace h := b_ifn (n_fn hb) h
       refine gm ?_
       refine JO.g00 rfl rfl rfl rfl rfl rfl (o_len rfl rfl Try.underlying22) ⟨rfl, trivial⟩ ?_
       refine JO.g00 rfl rfl rfl rfl rfl rfl (o_neq rfl) ⟨rfl, rfl, trivial⟩ ?_
       refine pf ?_
       refine mq ?_
       refine JO.bool (s := 135) rfl (fun hb => ?_) (fun hb => ?_)
       ·
        replace h := b_if (n_t hb) h
        iterate 5 refine gn ?_
        refine pt ?_
        refine mq ?_
        iterate 5 refine gn ?_
        refine pt ?_
        refine JO.nil ?_
        refine JN.then_n ?_
        exact JN.z ((), true) h (SE.fin [] ⟨rfl, rfl, rfl, rfl, rfl, rfl, rfl, trivial⟩ rfl)
       ·
        replace h := b_ifn (n_fn hb) h
        refine gm ?_
        obtain ⟨x26, ex26, h⟩ := b_bind h
        refine JO.g00 rfl rfl rfl rfl rfl rfl (o_index (t := (.int .i64)) rfl Try.underlying22 sz3 ex26) ⟨rfl, rfl, trivial⟩ ?_
        refine JO.g00 rfl rfl rfl rfl rfl rfl (o_load_at (t := (.int .i64)) rfl sz3 rfl) ⟨rfl, trivial⟩ ?_
        refine gm ?_
        refine JO.g00 rfl rfl rfl rfl rfl rfl (o_neq rfl) ⟨rfl, rfl, trivial⟩ ?_
        refine pf ?_
        refine mq ?_
        refine JO.bool (s := 142) rfl (fun hb => ?_) (fun hb => ?_)
        ·
         replace h := b_if (n_t hb) h
         iterate 5 refine gn ?_
         refine pt ?_
         refine JO.nil ?_
         refine JN.then_n ?_
         exact JN.z ((), true) h (SE.fin [] ⟨rfl, rfl, rfl, rfl, rfl, rfl, rfl, trivial⟩ rfl)
        ·
         replace h := b_ifn (n_fn hb) h
         refine gm ?_
         obtain ⟨x27, ex27, h⟩ := b_bind h
         refine JO.g00 rfl rfl rfl rfl rfl rfl (o_index (t := (.int .i64)) rfl Try.underlying22 sz3 ex27) ⟨rfl, rfl, trivial⟩ ?_
         refine JO.g00 rfl rfl rfl rfl rfl rfl (o_load_at (t := (.int .i64)) rfl sz3 rfl) ⟨rfl, trivial⟩ ?_
         refine gm ?_
         refine JO.g00 rfl rfl rfl rfl rfl rfl (o_neq rfl) ⟨rfl, rfl, trivial⟩ ?_
         refine pf ?_
         refine JO.nil ?_
         refine JN.then_n ?_
         exact JN.z ((), !decide (x27 = r11.2.1)) h (SE.fin [] ⟨rfl, rfl, rfl, rfl, rfl, rfl, rfl, trivial⟩ rfl)
   ·
    refine JC.cond rfl (fun hb => ?_) (fun hb => ?_)
    ·
     replace h := b_if (v_t hb) h
     refine sr ?_
     refine cq ?_
     refine nt ?_
     refine JC.ret ?_
     refine JN.then_r ?_
     obtain rfl := Option.some.inj h
     exact JN.ret () [_] 0 ⟨rfl, trivial⟩ rfl
    ·
     replace h := b_ifn (v_f hb) h
     refine JC.skip ?_
     refine JN.then_n ?_
     show JC _ _ _ _ _
     refine JC.cutB (Z := Unit) (α := Bool) (fun z29 x28 => [(2, .eq (.bool x28))]) (fun z29 x28 => []) h (fun K h => ?_) (fun z29 x28 h => ?_)
     ·
      refine JC.drawN ?_
      refine dm ?_
      obtain ⟨x30, ex30, h⟩ := b_bind h
      refine DN.s00 rfl rfl rfl (o_index (t := (.int .i64)) rfl Try.underlying22 sz3 ex30) ⟨rfl, rfl, trivial⟩ ?_
      refine DN.s00 rfl rfl rfl (o_load_at (t := (.int .i64)) rfl sz3 rfl) ⟨rfl, trivial⟩ ?_
      refine dm ?_
      refine DN.s00 rfl rfl rfl (o_geq rfl) ⟨rfl, rfl, trivial⟩ ?_
      refine DN.fork rfl rfl rfl (o_move rfl) ⟨rfl, trivial⟩ (fun hb => ?_) (fun hb => ?_)
      ·
       replace h := b_if (d_t hb) h
       refine DN.sg00 rfl rfl rfl rfl rfl (o_move rfl) ⟨rfl, rfl, trivial⟩ ?_
       obtain ⟨x31, ex31, h⟩ := b_bind h
       refine DN.sg00 rfl rfl rfl rfl rfl (o_index (t := (.int .i64)) rfl Try.underlying22 sz3 ex31) ⟨rfl, rfl, rfl, trivial⟩ ?_
       refine DN.sg00 rfl rfl rfl rfl rfl (o_load_at (t := (.int .i64)) rfl sz3 rfl) ⟨rfl, rfl, trivial⟩ ?_
       refine DN.sg00 rfl rfl rfl rfl rfl (o_move rfl) ⟨rfl, rfl, trivial⟩ ?_
       refine DN.sg00 rfl rfl rfl rfl rfl (o_move rfl) ⟨rfl, rfl, trivial⟩ ?_
       obtain ⟨x32, ex32, h⟩ := b_bind h
       refine DN.sg00 rfl rfl rfl rfl rfl (o_add rfl ex32) ⟨rfl, rfl, rfl, trivial⟩ ?_
       refine DN.sg00 rfl rfl rfl rfl rfl (o_move rfl) ⟨rfl, rfl, trivial⟩ ?_
       obtain ⟨x33, ex33, h⟩ := b_bind h
       refine DN.sg00 rfl rfl rfl rfl rfl (o_add rfl ex33) ⟨rfl, rfl, rfl, trivial⟩ ?_
       refine DN.sg00 rfl rfl rfl rfl rfl (o_leq rfl) ⟨rfl, rfl, rfl, trivial⟩ ?_
       refine DN.s00 rfl rfl rfl (o_pick_t rfl) ⟨rfl, rfl, trivial⟩ ?_
       refine DN.fork rfl rfl rfl (o_move rfl) ⟨rfl, trivial⟩ (fun hb => ?_) (fun hb => ?_)
       ·
        replace h := b_if (d_t hb) h
        refine DN.sg00 rfl rfl rfl rfl rfl (o_move rfl) ⟨rfl, rfl, trivial⟩ ?_
        obtain ⟨x34, ex34, h⟩ := b_bind h
        refine DN.sg00 rfl rfl rfl rfl rfl (o_index (t := (.int .i64)) rfl Try.underlying22 sz3 ex34) ⟨rfl, rfl, rfl, trivial⟩ ?_
        refine DN.sg00 rfl rfl rfl rfl rfl (o_load_at (t := (.int .i64)) rfl sz3 rfl) ⟨rfl, rfl, trivial⟩ ?_
        refine DN.sg00 rfl rfl rfl rfl rfl (o_move rfl) ⟨rfl, rfl, trivial⟩ ?_
        obtain ⟨x35, ex35, h⟩ := b_bind h
        refine DN.sg00 rfl rfl rfl rfl rfl (o_index (t := (.int .i64)) rfl Try.underlying22 sz3 ex35) ⟨rfl, rfl, rfl, trivial⟩ ?_
        refine DN.sg00 rfl rfl rfl rfl rfl (o_load_at (t := (.int .i64)) rfl sz3 rfl) ⟨rfl, rfl, trivial⟩ ?_
        refine DN.sg00 rfl rfl rfl rfl rfl (o_geq rfl) ⟨rfl, rfl, rfl, trivial⟩ ?_
        refine DN.s00 rfl rfl rfl (o_pick_t rfl) ⟨rfl, rfl, trivial⟩ ?_
        refine DN.fork rfl rfl rfl (o_move rfl) ⟨rfl, trivial⟩ (fun hb => ?_) (fun hb => ?_)
        ·
         replace h := b_if (d_t hb) h
         refine DN.sg00 rfl rfl rfl rfl rfl (o_move rfl) ⟨rfl, rfl, trivial⟩ ?_
         obtain ⟨x36, ex36, h⟩ := b_bind h
         refine DN.sg00 rfl rfl rfl rfl rfl (o_index (t := (.int .i64)) rfl Try.underlying22 sz3 ex36) ⟨rfl, rfl, rfl, trivial⟩ ?_
         refine DN.sg00 rfl rfl rfl rfl rfl (o_load_at (t := (.int .i64)) rfl sz3 rfl) ⟨rfl, rfl, trivial⟩ ?_
         refine DN.sg00 rfl rfl rfl rfl rfl (o_move rfl) ⟨rfl, rfl, trivial⟩ ?_
         obtain ⟨x37, ex37, h⟩ := b_bind h
         refine DN.sg00 rfl rfl rfl rfl rfl (o_index (t := (.int .i64)) rfl Try.underlying22 sz3 ex37) ⟨rfl, rfl, rfl, trivial⟩ ?_
         refine DN.sg00 rfl rfl rfl rfl rfl (o_load_at (t := (.int .i64)) rfl sz3 rfl) ⟨rfl, rfl, trivial⟩ ?_
         obtain ⟨x38, ex38, h⟩ := b_bind h
         refine DN.sg00 rfl rfl rfl rfl rfl (o_sub rfl ex38) ⟨rfl, rfl, rfl, trivial⟩ ?_
         refine DN.sg00 rfl rfl rfl rfl rfl (o_move rfl) ⟨rfl, rfl, trivial⟩ ?_
         refine DN.fin (by kernel_rfl) mixed ?_
         refine JO.g00 rfl rfl rfl rfl rfl rfl (o_leq rfl) ⟨rfl, rfl, trivial⟩ ?_
         refine pt ?_
         refine mq ?_
         refine JO.bool (s := 185) rfl (fun hb => ?_) (fun hb => ?_)
         ·
          replace h := b_if (d_t hb) h
          obtain ⟨r39, er39, h⟩ := b_bind h
          have cr39 := law_dressed_ok k  r39 er39
          refine JO.g00 rfl rfl rfl rfl rfl rfl (o_call [] rfl rfl en22 rfl cr39) trivial ?_
          refine pt ?_
          refine aq ?_
          refine JO.nil ?_
          refine JN.then_n ?_
          exact JN.z ((), r39) h (SE.fin [] ⟨rfl, trivial⟩ rfl)
         ·
          replace h := b_ifn (d_f hb) h
          refine gn ?_
          refine pf ?_
          refine aq ?_
          refine JO.nil ?_
          refine JN.then_n ?_
          exact JN.z ((), false) h (SE.fin [] ⟨rfl, trivial⟩ rfl)
        ·
         replace h := b_ifn (d_f hb) h
         iterate 8 refine dg ?_
         refine DN.fin (by kernel_rfl) mixed ?_
         refine gn ?_
         refine pf ?_
         refine mq ?_
         refine gn ?_
         refine pf ?_
         refine aq ?_
         refine JO.nil ?_
         refine JN.then_n ?_
         exact JN.z ((), false) h (SE.fin [] ⟨rfl, trivial⟩ rfl)
       ·
        replace h := b_ifn (d_f hb) h
        iterate 7 refine dg ?_
        refine DN.s00 rfl rfl rfl (o_pick_f rfl) ⟨rfl, rfl, trivial⟩ ?_
        refine dm ?_
        iterate 8 refine dg ?_
        refine DN.fin (by kernel_rfl) mixed ?_
        refine gn ?_
        refine pf ?_
        refine mq ?_
        refine gn ?_
        refine pf ?_
        refine aq ?_
        refine JO.nil ?_
        refine JN.then_n ?_
        exact JN.z ((), false) h (SE.fin [] ⟨rfl, trivial⟩ rfl)
      ·
       replace h := b_ifn (d_f hb) h
       iterate 9 refine dg ?_
       refine DN.s00 rfl rfl rfl (o_pick_f rfl) ⟨rfl, rfl, trivial⟩ ?_
       refine dm ?_
       iterate 7 refine dg ?_
       refine DN.s00 rfl rfl rfl (o_pick_f rfl) ⟨rfl, rfl, trivial⟩ ?_
       refine dm ?_
       iterate 8 refine dg ?_
       refine DN.fin (by kernel_rfl) mixed ?_
       refine gn ?_
       refine pf ?_
       refine mq ?_
       refine gn ?_
       refine pf ?_
       refine aq ?_
       refine JO.nil ?_
       refine JN.then_n ?_
       exact JN.z ((), false) h (SE.fin [] ⟨rfl, trivial⟩ rfl)
     ·
      refine JC.ret ?_
      obtain rfl := Option.some.inj h
      exact JN.ret () [_] 0 ⟨rfl, trivial⟩ rfl


end Go.Proofs.Ytfhdclhbdmhnmaa
