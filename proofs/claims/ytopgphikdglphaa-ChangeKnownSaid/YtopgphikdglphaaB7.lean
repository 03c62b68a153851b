/- law_ChangeKnown, in the mode of the starter. -/
import Derived.Test.YtopgphikdglphaaB6
set_option linter.unusedVariables false
set_option maxRecDepth 4000
set_option maxHeartbeats 1000000
namespace Go.Proofs.Ytopgphikdglphaa
open K Go Go.Proofs

def law_ChangeKnown_l1 (k : Nat) (r1 : dChange) (x31 : (List dThing) × Bool) : Nat → Int → Option (Except Bool Unit)
 | 0, _ => none
 | n + 1, y49 =>
  if y49 < ([[((0 : Int), (0 : Int)), ((1 : Int), (0 : Int)), ((2 : Int), (0 : Int)), ((3 : Int), (1 : Int))], [((1 : Int), (1 : Int)), ((0 : Int), (0 : Int)), ((2 : Int), (0 : Int)), ((3 : Int), (0 : Int))], [((1 : Int), (0 : Int)), ((0 : Int), (0 : Int)), ((3 : Int), (0 : Int)), ((2 : Int), (0 : Int))]].length : Int) then ((geti [[((0 : Int), (0 : Int)), ((1 : Int), (0 : Int)), ((2 : Int), (0 : Int)), ((3 : Int), (1 : Int))], [((1 : Int), (1 : Int)), ((0 : Int), (0 : Int)), ((2 : Int), (0 : Int)), ((3 : Int), (0 : Int))], [((1 : Int), (0 : Int)), ((0 : Int), (0 : Int)), ((3 : Int), (0 : Int)), ((2 : Int), (0 : Int))]] y49).bind fun x51 =>
  (chg_Begins k (x31.1, r1.2.1, r1.2.2.1, r1.2.2.2) x51).bind fun r52 =>
  (geti [(5 : Int), (8 : Int), (8 : Int)] y49).bind fun x53 =>
  if ¬ (r52.2 = x53) then (some (.error false)) else ((ck (y49 + (1 : Int))).bind fun x54 =>
  law_ChangeKnown_l1 k r1 x31 n x54)) else (some (.ok ()))

def law_ChangeKnown_l2 (k : Nat) (r1 : dChange) (x31 : (List dThing) × Bool) : Nat → Int → Option (Except Bool Unit)
 | 0, _ => none
 | n + 1, y79 =>
  if y79 < ([[(0 : Int)], [], [(2 : Int)], [(2 : Int)], [(1 : Int), (2 : Int)]].length : Int) then ((law_first k).bind fun r81 =>
  (chg_Wearing k (x31.1, r1.2.1, r1.2.2.1, r1.2.2.2) r81 y79).bind fun r82 =>
  ((if ¬ (r82.2 = (0 : Int)) then (some true) else ((geti [[(0 : Int)], [], [(2 : Int)], [(2 : Int)], [(1 : Int), (2 : Int)]] y79).bind fun x85 =>
  (kit_SameInts k r82.1 x85).bind fun r86 =>
  some (!r86))) : Option (Bool)).bind fun x83 =>
  if x83 = true then (some (.error false)) else ((ck (y79 + (1 : Int))).bind fun x87 =>
  law_ChangeKnown_l2 k r1 x31 n x87)) else (some (.ok ()))
def law_ChangeKnown (k : Nat) : Option Bool :=
 (law_quickF k (0 : Int) (0 : Int) [(0 : Int), (2 : Int)]).bind fun r1 =>
 (law_quickF k (3 : Int) (0 : Int) [(0 : Int), (2 : Int)]).bind fun r3 =>
 (law_quickF k (0 : Int) (0 : Int) [(0 : Int)]).bind fun r5 =>
 (law_quickF k (0 : Int) (3 : Int) [(0 : Int), (2 : Int)]).bind fun r7 =>
 (law_quickF k (0 : Int) (0 : Int) [(0 : Int), (2 : Int)]).bind fun r13 =>
 (law_quickF k (0 : Int) (0 : Int) [(0 : Int), (2 : Int)]).bind fun r15 =>
 (law_quickF k (0 : Int) (0 : Int) [(0 : Int), (2 : Int)]).bind fun r17 =>
 (law_quickF k (0 : Int) (0 : Int) [(0 : Int), (2 : Int)]).bind fun r19 =>
 (law_quickF k (0 : Int) (0 : Int) [(0 : Int), (2 : Int)]).bind fun r21 =>
 (geti r13.1 (1 : Int)).bind fun x28 =>
 (geti r15.1 (0 : Int)).bind fun x29 =>
 (geti r17.1 (3 : Int)).bind fun x30 =>
 (((law_dressed k).bind fun r33 =>
 if ¬ (r33 = true) then (some (r1.1, true)) else ((chg_Check k (r1.1, r1.2.1, r1.2.2.1, r1.2.2.2)).bind fun r34 =>
 if ¬ (r34 = (0 : Int)) then (some (r1.1, true)) else ((chg_Check k (List.set r13.1 (Int.toNat (1 : Int)) ([(0 : Int)], x28.2.1, x28.2.2.1, x28.2.2.2.1, x28.2.2.2.2), r13.2.1, r13.2.2.1, r13.2.2.2)).bind fun r35 =>
 if ¬ (r35 = (9 : Int)) then (some (r1.1, true)) else ((chg_Check k (List.set r15.1 (Int.toNat (0 : Int)) (x29.1, (5 : Int), x29.2.2.1, x29.2.2.2.1, x29.2.2.2.2), r15.2.1, r15.2.2.1, r15.2.2.2)).bind fun r36 =>
 if ¬ (r36 = (1 : Int)) then (some (r1.1, true)) else ((chg_Check k (List.set r17.1 (Int.toNat (3 : Int)) (x30.1, x30.2.1, x30.2.2.1, (3 : Int), x30.2.2.2.2), r17.2.1, r17.2.2.1, r17.2.2.2)).bind fun r37 =>
 if ¬ (r37 = (8 : Int)) then (some (r1.1, true)) else ((chg_Check k (r19.1, r19.2.1, [(1 : Int), (0 : Int)], r19.2.2.2)).bind fun r38 =>
 some (r1.1, !decide (r38 = (5 : Int))))))))) : Option ((List dThing) × Bool)).bind fun x31 =>
 if x31.2 = true then (some false) else ((chg_Tasks k (x31.1, r1.2.1, r1.2.2.1, r1.2.2.2)).bind fun r39 =>
 (chg_Firsts k (x31.1, r1.2.1, r1.2.2.1, r1.2.2.2)).bind fun r40 =>
 (law_first k).bind fun r41 =>
 (chg_Bars k (x31.1, r1.2.1, r1.2.2.1, r1.2.2.2) r41).bind fun r42 =>
 ((if ¬ (r39.2 = (0 : Int)) then (some true) else (if ¬ (r40.2 = (0 : Int)) then (some true) else (if ¬ (r42.2 = (0 : Int)) then (some true) else (if ¬ (r42.1 = (4 : Int)) then (some true) else ((kit_SameTasks k r39.1 [((0 : Int), false), ((1 : Int), false), ((1 : Int), true), ((2 : Int), true)]).bind fun r45 =>
 if ¬ (r45 = true) then (some true) else ((kit_SameLists k r40.1 [[(0 : Int), (2 : Int)], [(1 : Int), (0 : Int)], [(1 : Int), (2 : Int)]]).bind fun r46 =>
 some (!r46))))))) : Option (Bool)).bind fun x43 =>
 if x43 = true then (some false) else (bE (α := Unit) (law_ChangeKnown_l1 k r1 x31 k (0 : Int)) (some) fun _ =>
 (chg_Fewest k (r5.1, r5.2.1, r5.2.2.1, r5.2.2.2)).bind fun r55 =>
 (chg_Fewest k (r7.1, r7.2.1, r7.2.2.1, r7.2.2.2)).bind fun r56 =>
 (law_first k).bind fun r57 =>
 (chg_Late k (x31.1, r1.2.1, r1.2.2.1, r1.2.2.2) r57).bind fun r58 =>
 (chg_Kept k (x31.1, r1.2.1, r1.2.2.1, r1.2.2.2)).bind fun r59 =>
 (chg_Kept k (r3.1, r3.2.1, r3.2.2.1, r3.2.2.2)).bind fun r60 =>
 ((if ¬ (r55.2.2 = (11 : Int)) then (some true) else (if ¬ (r56.2.2 = (0 : Int)) then (some true) else (if ¬ (r58.2.2 = (0 : Int)) then (some true) else (if ¬ (r59.2 = (0 : Int)) then (some true) else (if ¬ (r60.2 = (11 : Int)) then (some true) else (if ¬ (r56.2.1 = (7 : Int)) then (some true) else (if ¬ (r58.1 = (-1 : Int)) then (some true) else (if ¬ (r58.2.1 = (0 : Int)) then (some true) else ((law_first k).bind fun r63 =>
 (kit_SameSteps k r56.1 r63).bind fun r64 =>
 if ¬ (r64 = true) then (some true) else ((law_first k).bind fun r65 =>
 (kit_SameSteps k r59.1 r65).bind fun r66 =>
 some (!r66))))))))))) : Option (Bool)).bind fun x61 =>
 if x61 = true then (some false) else ((chg_Gives k (x31.1, r1.2.1, r1.2.2.1, r1.2.2.2)).bind fun r67 =>
 (chg_Gives k (r3.1, r3.2.1, r3.2.2.1, r3.2.2.2)).bind fun r68 =>
 (chg_Needless k (x31.1, r1.2.1, r1.2.2.1, r1.2.2.2)).bind fun r69 =>
 (chg_Needless k (r21.1, r21.2.1, r21.2.2.1, [(1 : Int)])).bind fun r70 =>
 (chg_Spare k (x31.1, r1.2.1, r1.2.2.1, r1.2.2.2) (0 : Int)).bind fun r71 =>
 (chg_Learn k (x31.1, r1.2.1, r1.2.2.1, r1.2.2.2)).bind fun r72 =>
 ((if ¬ (r67.2 = (0 : Int)) then (some true) else (if ¬ (r68.2 = (0 : Int)) then (some true) else (if ¬ (r69.2 = (0 : Int)) then (some true) else (if ¬ (r70.2 = (0 : Int)) then (some true) else (if ¬ (r71.2 = (0 : Int)) then (some true) else (if ¬ (r72.2.2.2 = (11 : Int)) then (some true) else (if ¬ (r71.1 = (0 : Int)) then (some true) else (if (0 : Int) < (r67.1.length : Int) then (some true) else (if (0 : Int) < (r69.1.length : Int) then (some true) else ((kit_SameInts k r68.1 [(1 : Int)]).bind fun r75 =>
 if ¬ (r75 = true) then (some true) else ((kit_SameInts k r70.1 [(1 : Int)]).bind fun r76 =>
 some (!r76)))))))))))) : Option (Bool)).bind fun x73 =>
 if x73 = true then (some false) else (bE (α := Unit) (law_ChangeKnown_l2 k r1 x31 k (0 : Int)) (some) fun _ =>
 (chg_Through k [(x31.1, r1.2.1, r1.2.2.1, r1.2.2.2), (x31.1, r1.2.1, r1.2.2.1, r1.2.2.2)] [(2 : Int)]).bind fun r88 =>
 ((if r88.2 = (0 : Int) then ((kit_SameInts k r88.1 [(4 : Int), (10 : Int)]).bind fun r91 =>
 some r91) else (some false)) : Option (Bool)).bind fun x89 =>
 some x89))))

theorem law_ChangeKnown_ok (k : Nat) (r : Bool) (h : law_ChangeKnown k = some r) :
 CtrM (MMain Try.prog) 4 [] [] (fun _ : Unit => (resA [.eq (.bool r)], [])) := by
 unfold law_ChangeKnown at h
 replace h := b_top h
 refine CtrM.of 385 Try.func4 rfl Try.ntmps4 rfl fun S w0 => ?_
 refine sr ?_
 refine cq ?_
 refine nt ?_
 refine sr ?_
 refine jb (o_litB (t := (.int .i64)) [(.const (.int .i64 (0)), _), (.const (.int .i64 (2)), _)] [(0 : Int), (2 : Int)] rfl rfl sl22 (.cons rfl .int (.cons rfl .int .nil)) rfl rfl) ?_
 obtain ⟨r1, er1, h⟩ := b_bind h
 have cr1 := law_quickF_ok k (0 : Int) (0 : Int) [(0 : Int), (2 : Int)] r1 er1
 refine JO.s01 rfl rfl rfl (o_call [.const (.int .i64 (0)), .const (.int .i64 (0)), .tmp 41] rfl rfl en11 rfl cr1) ⟨rfl, rfl, rfl, trivial⟩ fun v2 => ?_
 refine jb (o_litB (t := (.int .i64)) [(.const (.int .i64 (0)), _), (.const (.int .i64 (2)), _)] [(0 : Int), (2 : Int)] rfl rfl sl22 (.cons rfl .int (.cons rfl .int .nil)) rfl rfl) ?_
 obtain ⟨r3, er3, h⟩ := b_bind h
 have cr3 := law_quickF_ok k (3 : Int) (0 : Int) [(0 : Int), (2 : Int)] r3 er3
 refine JO.s01 rfl rfl rfl (o_call [.const (.int .i64 (3)), .const (.int .i64 (0)), .tmp 43] rfl rfl en11 rfl cr3) ⟨rfl, rfl, rfl, trivial⟩ fun v4 => ?_
 refine ja (o_litB (t := (.int .i64)) [(.const (.int .i64 (0)), _)] [(0 : Int)] rfl rfl sl22 (.cons rfl .int .nil) rfl rfl) ?_
 obtain ⟨r5, er5, h⟩ := b_bind h
 have cr5 := law_quickF_ok k (0 : Int) (0 : Int) [(0 : Int)] r5 er5
 refine JO.s01 rfl rfl rfl (o_call [.const (.int .i64 (0)), .const (.int .i64 (0)), .tmp 45] rfl rfl en11 rfl cr5) ⟨rfl, rfl, rfl, trivial⟩ fun v6 => ?_
 refine jb (o_litB (t := (.int .i64)) [(.const (.int .i64 (0)), _), (.const (.int .i64 (2)), _)] [(0 : Int), (2 : Int)] rfl rfl sl22 (.cons rfl .int (.cons rfl .int .nil)) rfl rfl) ?_
 obtain ⟨r7, er7, h⟩ := b_bind h
 have cr7 := law_quickF_ok k (0 : Int) (3 : Int) [(0 : Int), (2 : Int)] r7 er7
 refine JO.s01 rfl rfl rfl (o_call [.const (.int .i64 (0)), .const (.int .i64 (3)), .tmp 47] rfl rfl en11 rfl cr7) ⟨rfl, rfl, rfl, trivial⟩ fun v8 => ?_
 refine JO.s01 rfl rfl rfl (o_alloc rfl za26 al26) trivial fun b9 => ?_
 refine JO.s01 rfl rfl rfl (o_alloc rfl za26 al26) trivial fun b10 => ?_
 refine JO.s01 rfl rfl rfl (o_alloc rfl za26 al26) trivial fun b11 => ?_
 refine JO.s01 rfl rfl rfl (o_alloc rfl za26 al26) trivial fun b12 => ?_
 refine fr 3 ?_
 refine JO.n11 rfl rfl (o_store rfl sz26 trivial rfl rfl) ⟨rfl, rfl, trivial⟩ ?_
 refine fr 3 ?_
 refine JO.n11 rfl rfl (o_store rfl sz26 trivial rfl rfl) ⟨rfl, rfl, trivial⟩ ?_
 refine fr 3 ?_
 refine JO.n11 rfl rfl (o_store rfl sz26 trivial rfl rfl) ⟨rfl, rfl, trivial⟩ ?_
 refine fr 3 ?_
 refine JO.n11 rfl rfl (o_store rfl sz26 trivial rfl rfl) ⟨rfl, rfl, trivial⟩ ?_
 refine nt ?_
 refine sr ?_
 refine jb (o_litB (t := (.int .i64)) [(.const (.int .i64 (0)), _), (.const (.int .i64 (2)), _)] [(0 : Int), (2 : Int)] rfl rfl sl22 (.cons rfl .int (.cons rfl .int .nil)) rfl rfl) ?_
 obtain ⟨r13, er13, h⟩ := b_bind h
 have cr13 := law_quickF_ok k (0 : Int) (0 : Int) [(0 : Int), (2 : Int)] r13 er13
 refine JO.s01 rfl rfl rfl (o_call [.const (.int .i64 (0)), .const (.int .i64 (0)), .tmp 49] rfl rfl en11 rfl cr13) ⟨rfl, rfl, rfl, trivial⟩ fun v14 => ?_
 refine jb (o_litB (t := (.int .i64)) [(.const (.int .i64 (0)), _), (.const (.int .i64 (2)), _)] [(0 : Int), (2 : Int)] rfl rfl sl22 (.cons rfl .int (.cons rfl .int .nil)) rfl rfl) ?_
 obtain ⟨r15, er15, h⟩ := b_bind h
 have cr15 := law_quickF_ok k (0 : Int) (0 : Int) [(0 : Int), (2 : Int)] r15 er15
 refine JO.s01 rfl rfl rfl (o_call [.const (.int .i64 (0)), .const (.int .i64 (0)), .tmp 51] rfl rfl en11 rfl cr15) ⟨rfl, rfl, rfl, trivial⟩ fun v16 => ?_
 refine jb (o_litB (t := (.int .i64)) [(.const (.int .i64 (0)), _), (.const (.int .i64 (2)), _)] [(0 : Int), (2 : Int)] rfl rfl sl22 (.cons rfl .int (.cons rfl .int .nil)) rfl rfl) ?_
 obtain ⟨r17, er17, h⟩ := b_bind h
 have cr17 := law_quickF_ok k (0 : Int) (0 : Int) [(0 : Int), (2 : Int)] r17 er17
 refine JO.s01 rfl rfl rfl (o_call [.const (.int .i64 (0)), .const (.int .i64 (0)), .tmp 53] rfl rfl en11 rfl cr17) ⟨rfl, rfl, rfl, trivial⟩ fun v18 => ?_
 refine jb (o_litB (t := (.int .i64)) [(.const (.int .i64 (0)), _), (.const (.int .i64 (2)), _)] [(0 : Int), (2 : Int)] rfl rfl sl22 (.cons rfl .int (.cons rfl .int .nil)) rfl rfl) ?_
 obtain ⟨r19, er19, h⟩ := b_bind h
 have cr19 := law_quickF_ok k (0 : Int) (0 : Int) [(0 : Int), (2 : Int)] r19 er19
 refine JO.s01 rfl rfl rfl (o_call [.const (.int .i64 (0)), .const (.int .i64 (0)), .tmp 55] rfl rfl en11 rfl cr19) ⟨rfl, rfl, rfl, trivial⟩ fun v20 => ?_
 refine jb (o_litB (t := (.int .i64)) [(.const (.int .i64 (0)), _), (.const (.int .i64 (2)), _)] [(0 : Int), (2 : Int)] rfl rfl sl22 (.cons rfl .int (.cons rfl .int .nil)) rfl rfl) ?_
 obtain ⟨r21, er21, h⟩ := b_bind h
 have cr21 := law_quickF_ok k (0 : Int) (0 : Int) [(0 : Int), (2 : Int)] r21 er21
 refine JO.s01 rfl rfl rfl (o_call [.const (.int .i64 (0)), .const (.int .i64 (0)), .tmp 57] rfl rfl en11 rfl cr21) ⟨rfl, rfl, rfl, trivial⟩ fun v22 => ?_
 refine JO.s01 rfl rfl rfl (o_alloc rfl za26 al26) trivial fun b23 => ?_
 refine JO.s01 rfl rfl rfl (o_alloc rfl za26 al26) trivial fun b24 => ?_
 refine JO.s01 rfl rfl rfl (o_alloc rfl za26 al26) trivial fun b25 => ?_
 refine JO.s01 rfl rfl rfl (o_alloc rfl za26 al26) trivial fun b26 => ?_
 refine JO.s01 rfl rfl rfl (o_alloc rfl za26 al26) trivial fun b27 => ?_
 refine fr 4 ?_
 refine JO.n11 rfl rfl (o_store rfl sz26 trivial rfl rfl) ⟨rfl, rfl, trivial⟩ ?_
 refine fr 4 ?_
 refine JO.n11 rfl rfl (o_store rfl sz26 trivial rfl rfl) ⟨rfl, rfl, trivial⟩ ?_
 refine fr 4 ?_
 refine JO.n11 rfl rfl (o_store rfl sz26 trivial rfl rfl) ⟨rfl, rfl, trivial⟩ ?_
 refine fr 4 ?_
 refine JO.n11 rfl rfl (o_store rfl sz26 trivial rfl rfl) ⟨rfl, rfl, trivial⟩ ?_
 refine fr 4 ?_
 refine JO.n11 rfl rfl (o_store rfl sz26 trivial rfl rfl) ⟨rfl, rfl, trivial⟩ ?_
 refine nt ?_
 refine JC.seq ?_
 refine JC.drawW ?_
 refine DW.t00 rfl rfl rfl (o_field_obj rfl fo26_0) ⟨rfl, trivial⟩ ?_
 refine DW.t11 4 rfl rfl rfl rfl (o_load_obj rfl sz23 nfs rfl) ⟨rfl, trivial⟩ ?_
 refine DW.t00 rfl rfl rfl (o_field_obj rfl fo26_0) ⟨rfl, trivial⟩ ?_
 refine DW.t11 3 rfl rfl rfl rfl (o_load_obj rfl sz23 nfs rfl) ⟨rfl, trivial⟩ ?_
 refine DW.t00 rfl rfl rfl (o_field_obj rfl fo26_0) ⟨rfl, trivial⟩ ?_
 refine DW.t11 2 rfl rfl rfl rfl (o_load_obj rfl sz23 nfs rfl) ⟨rfl, trivial⟩ ?_
 refine DW.t00 rfl rfl rfl (o_litB (t := (.int .i64)) [(.const (.int .i64 (0)), _)] [(0 : Int)] rfl rfl sl22 (.cons rfl .int .nil) rfl rfl) ⟨rfl, trivial⟩ ?_
 refine DW.t00 rfl rfl rfl (o_litB (t := (.int .i64)) [(.const (.int .i64 (1)), _), (.const (.int .i64 (0)), _)] [(1 : Int), (0 : Int)] rfl rfl sl22 (.cons rfl .int (.cons rfl .int .nil)) rfl rfl) ⟨rfl, rfl, trivial⟩ ?_
 refine DW.t00 rfl rfl rfl (o_litB (t := (.int .i64)) [(.const (.int .i64 (1)), _)] [(1 : Int)] rfl rfl sl22 (.cons rfl .int .nil) rfl rfl) ⟨rfl, trivial⟩ ?_
 obtain ⟨x28, ex28, h⟩ := b_bind h
 refine DW.t11 9 rfl rfl rfl rfl (o_index_own (t := tThing) rfl U23 sz43 ex28) ⟨rfl, rfl, trivial⟩ ?_
 refine DW.t11 9 rfl rfl rfl rfl (o_field_el rfl fo43_0 (geti_ne ex28)) ⟨rfl, trivial⟩ ?_
 refine DW.fin 11 [true, true, false, false, false, false, true, false, false, true, true] [70, 71, 72, 73, 74] [3, 2] [.obj b24 26 (.agg (.pair (.eq v16) (.pair (Rs tDresser r15.2.1) (.pair (Ri r15.2.2.1) (Ri r15.2.2.2))))), .obj b25 26 (.agg (.pair (.eq v18) (.pair (Rs tDresser r17.2.1) (.pair (Ri r17.2.2.1) (Ri r17.2.2.2)))))] rfl (by kernel_rfl) (by kernel_rfl) (by kernel_rfl) mixed (fun vs hv hB => ?_)
 obtain ⟨w0, vs1, rfl, hv1⟩ := len_cons hv
 obtain ⟨w1, vs2, rfl, hv2⟩ := len_cons hv1
 obtain ⟨w2, vs3, rfl, hv3⟩ := len_cons hv2
 obtain ⟨w3, vs4, rfl, hv4⟩ := len_cons hv3
 obtain ⟨w4, vs5, rfl, hv5⟩ := len_cons hv4
 obtain ⟨w5, vs6, rfl, hv6⟩ := len_cons hv5
 obtain ⟨w6, vs7, rfl, hv7⟩ := len_cons hv6
 obtain ⟨w7, vs8, rfl, hv8⟩ := len_cons hv7
 obtain ⟨w8, vs9, rfl, hv9⟩ := len_cons hv8
 obtain ⟨w9, vs10, rfl, hv10⟩ := len_cons hv9
 obtain ⟨w10, vs11, rfl, hv11⟩ := len_cons hv10
 obtain rfl := len_nil hv11
 refine ⟨[3, 2, 0, 1, 4, 5, 6, 7, 8, 9, 10, 11, 12, 13, 14, 15, 16, 17], [.obj b27 26 (.agg (.pair (.eq v22) (.pair (Rs tDresser r21.2.1) (.pair (Ri r21.2.2.1) (Ri r21.2.2.2))))), .obj b26 26 (.agg (.pair (.eq v20) (.pair (Rs tDresser r19.2.1) (.pair (Ri r19.2.2.1) (Ri r19.2.2.2))))), .obj b23 26 (.agg (.pair (.eq v14) (.pair (Rs tDresser r13.2.1) (.pair (Ri r13.2.2.1) (Ri r13.2.2.2))))), .sl v22 43 tThing r21.1, .sl v20 43 tThing r19.1, .sl v18 43 tThing r17.1, .sl v16 43 tThing r15.1, .sl v14 43 tThing r13.1, .obj b12 26 (.agg (.pair (.eq v8) (.pair (Rs tDresser r7.2.1) (.pair (Ri r7.2.2.1) (Ri r7.2.2.2))))), .obj b11 26 (.agg (.pair (.eq v6) (.pair (Rs tDresser r5.2.1) (.pair (Ri r5.2.2.1) (Ri r5.2.2.2))))), .obj b10 26 (.agg (.pair (.eq v4) (.pair (Rs tDresser r3.2.1) (.pair (Ri r3.2.2.1) (Ri r3.2.2.2))))), .obj b9 26 (.agg (.pair (.eq v2) (.pair (Rs tDresser r1.2.1) (.pair (Ri r1.2.2.1) (Ri r1.2.2.2))))), .sl v8 43 tThing r7.1, .sl v6 43 tThing r5.1, .sl v4 43 tThing r3.1, .sl v2 43 tThing r1.1], by kernel_rfl, by decide, ?_⟩
 refine JT.front 7 rfl ?_
 refine JT.n11 rfl rfl (o_store_el (i := Int.toNat (1 : Int)) (off := 0) rfl sz22 rfl (geti_some ex28).2.2 .rep rfl (.agg (.left .whole))) ⟨rfl, rfl, trivial⟩ (by kernel_rfl) ?_
 obtain ⟨x29, ex29, h⟩ := b_bind h
 refine JT.front 7 rfl ?_
 refine JT.y11 rfl rfl rfl rfl (o_index_own (t := tThing) rfl U23 sz43 ex29) ⟨rfl, rfl, trivial⟩ (by kernel_rfl) ?_
 refine JT.y11 rfl rfl rfl rfl (o_field_el rfl fo43_1 (geti_ne ex29)) ⟨rfl, trivial⟩ (by kernel_rfl) ?_
 refine JT.n11 rfl rfl (o_store_el (i := Int.toNat (0 : Int)) (off := 1) rfl sz3 rfl (geti_some ex29).2.2 .int rfl (.agg (.right (.left .whole) rfl))) ⟨rfl, rfl, trivial⟩ (by kernel_rfl) ?_
 obtain ⟨x30, ex30, h⟩ := b_bind h
 refine JT.front 7 rfl ?_
 refine JT.y11 rfl rfl rfl rfl (o_index_own (t := tThing) rfl U23 sz43 ex30) ⟨rfl, rfl, trivial⟩ (by kernel_rfl) ?_
 refine JT.y11 rfl rfl rfl rfl (o_field_el rfl fo43_3 (geti_ne ex30)) ⟨rfl, trivial⟩ (by kernel_rfl) ?_
 refine JT.n11 rfl rfl (o_store_el (i := Int.toNat (3 : Int)) (off := 3) rfl sz3 rfl (geti_some ex30).2.2 .int rfl (.agg (.right (.right (.right (.left .whole) rfl) rfl) rfl))) ⟨rfl, rfl, trivial⟩ (by kernel_rfl) ?_
 refine JT.y00 rfl rfl rfl rfl (o_field_obj rfl fo26_2) ⟨rfl, trivial⟩ (by kernel_rfl) ?_
 refine JT.front 4 rfl ?_
 refine JT.n11 rfl rfl (o_store rfl sz22 rfl rfl rfl) ⟨rfl, rfl, trivial⟩ (by kernel_rfl) ?_
 refine JT.all (by kernel_rfl) ?_
 refine fl fo26_3 ?_
 refine fr 6 ?_
 refine JO.n11 rfl rfl (o_store rfl sz22 rfl rfl rfl) ⟨rfl, rfl, trivial⟩ ?_
 refine nt ?_
 refine JC.seq ?_
 refine JC.cutB (Z := Unit) (α := (List dThing) × Bool) (fun z32 x31 => [(1, Pt b9), (2, Pt b10), (3, Pt b11), (4, Pt b12), (9, Pt b27), (102, .eq (.bool x31.2))]) (fun z32 x31 => [.obj b9 26 (.agg (.pair (Rs tThing x31.1) (.pair (Rs tDresser r1.2.1) (.pair (Ri r1.2.2.1) (Ri r1.2.2.2))))), .obj b10 26 (.agg (.pair (.eq v4) (.pair (Rs tDresser r3.2.1) (.pair (Ri r3.2.2.1) (Ri r3.2.2.2))))), .sl v4 43 tThing r3.1, .obj b11 26 (.agg (.pair (.eq v6) (.pair (Rs tDresser r5.2.1) (.pair (Ri r5.2.2.1) (Ri r5.2.2.2))))), .sl v6 43 tThing r5.1, .obj b12 26 (.agg (.pair (.eq v8) (.pair (Rs tDresser r7.2.1) (.pair (Ri r7.2.2.1) (Ri r7.2.2.2))))), .sl v8 43 tThing r7.1, .obj b27 26 (.agg (.pair (.eq v22) (.pair (Rs tDresser r21.2.1) (.pair (Ri r21.2.2.1) (Ri [(1 : Int)]))))), .sl v22 43 tThing r21.1]) h (fun K h => ?_) (fun z32 x31 h => ?_)
 ·
  refine JC.region ?_;obtain ⟨r33, er33, h⟩ := b_bind h;refine JO.s rfl (o_call [] rfl rfl en10 rfl (law_dressed_ok k  r33 er33)) trivial ?_;refine ja (o_not rfl) ?_;refine mq ?_;refine JO.bool (s := 78) rfl (fun hb => ?_) (fun hb => ?_)
  ·replace h := b_if (nv_t hb) h;iterate 3 refine gn ?_
   refine pt ?_;refine mq ?_;iterate 3 refine gn ?_
   refine pt ?_;refine mq ?_;iterate 3 refine gn ?_
   refine pt ?_;refine mq ?_;iterate 3 refine gn ?_
   refine pt ?_;refine mq ?_;iterate 3 refine gn ?_
   refine pt (nl ?_);refine JN.front 13 rfl ?_;refine JN.front 17 rfl ?_;refine JN.se (SE.frzBoth (off := 0) [] trivial rfl rfl) ?_;exact jz ((), (r1.1, true)) h [0, 13, 16, 12, 15, 11, 14, 1, 9]
  ·replace h := b_ifn (nv_fn hb) h;refine fr 13 ?_;refine fr 17 ?_;refine JO.se (SE.frzBoth (off := 0) [] trivial rfl rfl) ?_;refine JO.g11 rfl rfl rfl rfl rfl rfl (o_load_obj rfl sz26 (nfn) rfl) ⟨rfl, trivial⟩ ?_;obtain ⟨r34, er34, h⟩ := b_bind h;refine ga (OpT.need (N := [(.tmp 79, .agg (.pair (Rs tThing r1.1) (.pair (Rs tDresser r1.2.1) (.pair (Ri r1.2.2.1) (Ri r1.2.2.2)))))]) (o_call [.tmp 79] rfl rfl en12 rfl (chg_Check_ok k (r1.1, r1.2.1, r1.2.2.1, r1.2.2.2) r34 er34)) fun _ _ _ hn => ⟨(ent_holds (t := tChange) (x := (r1.1, r1.2.1, r1.2.2.1, r1.2.2.2)) (.agg (.pair .rep (.pair .rep (.pair .rep .rep)))) trivial rfl hn.1), trivial⟩) ?_;refine gb (o_neq rfl) ?_;refine pf ?_;refine mq ?_;refine JO.bool (s := 83) rfl (fun hb => ?_) (fun hb => ?_)
   ·replace h := b_if (n_t hb) h;iterate 3 refine gn ?_
    refine pt ?_;refine mq ?_;iterate 3 refine gn ?_
    refine pt ?_;refine mq ?_;iterate 3 refine gn ?_
    refine pt ?_;refine mq ?_;iterate 3 refine gn ?_
    refine pt (nl ?_);exact jz ((), (r1.1, true)) h [0, 13, 16, 12, 15, 11, 14, 1, 9]
   ·replace h := b_ifn (n_fn hb) h;refine fr 8 ?_;refine fr 8 ?_;refine JO.se (SE.frzBoth (off := 0) [60] ⟨rfl, trivial⟩ rfl rfl) ?_;refine JO.g11 rfl rfl rfl rfl rfl rfl (o_load_obj rfl sz26 (nfn) rfl) ⟨rfl, trivial⟩ ?_;obtain ⟨r35, er35, h⟩ := b_bind h;refine ga (OpT.need (N := [(.tmp 84, .agg (.pair (Rs tThing (List.set r13.1 (Int.toNat (1 : Int)) ([(0 : Int)], x28.2.1, x28.2.2.1, x28.2.2.2.1, x28.2.2.2.2))) (.pair (Rs tDresser r13.2.1) (.pair (Ri r13.2.2.1) (Ri r13.2.2.2)))))]) (o_call [.tmp 84] rfl rfl en12 rfl (chg_Check_ok k (List.set r13.1 (Int.toNat (1 : Int)) ([(0 : Int)], x28.2.1, x28.2.2.1, x28.2.2.2.1, x28.2.2.2.2), r13.2.1, r13.2.2.1, r13.2.2.2) r35 er35)) fun _ _ _ hn => ⟨(ent_holds (t := tChange) (x := (List.set r13.1 (Int.toNat (1 : Int)) ([(0 : Int)], x28.2.1, x28.2.2.1, x28.2.2.2.1, x28.2.2.2.2), r13.2.1, r13.2.2.1, r13.2.2.2)) (.agg (.pair .rep (.pair .rep (.pair .rep .rep)))) trivial rfl hn.1), trivial⟩) ?_;refine gb (o_neq rfl) ?_;refine pf ?_;refine mq ?_;refine JO.bool (s := 88) rfl (fun hb => ?_) (fun hb => ?_)
    ·replace h := b_if (n_t hb) h;iterate 3 refine gn ?_
     refine pt ?_;refine mq ?_;iterate 3 refine gn ?_
     refine pt ?_;refine mq ?_;iterate 3 refine gn ?_
     refine pt (nl ?_);exact jz ((), (r1.1, true)) h [1, 12, 15, 11, 14, 10, 13, 2, 8]
    ·replace h := b_ifn (n_fn hb) h;refine fr 3 ?_;refine fr 7 ?_;refine JO.se (SE.frzBoth (off := 0) [62] ⟨rfl, trivial⟩ rfl rfl) ?_;refine JO.g11 rfl rfl rfl rfl rfl rfl (o_load_obj rfl sz26 (nfn) rfl) ⟨rfl, trivial⟩ ?_;obtain ⟨r36, er36, h⟩ := b_bind h;refine ga (OpT.need (N := [(.tmp 89, .agg (.pair (Rs tThing (List.set r15.1 (Int.toNat (0 : Int)) (x29.1, (5 : Int), x29.2.2.1, x29.2.2.2.1, x29.2.2.2.2))) (.pair (Rs tDresser r15.2.1) (.pair (Ri r15.2.2.1) (Ri r15.2.2.2)))))]) (o_call [.tmp 89] rfl rfl en12 rfl (chg_Check_ok k (List.set r15.1 (Int.toNat (0 : Int)) (x29.1, (5 : Int), x29.2.2.1, x29.2.2.2.1, x29.2.2.2.2), r15.2.1, r15.2.2.1, r15.2.2.2) r36 er36)) fun _ _ _ hn => ⟨(ent_holds (t := tChange) (x := (List.set r15.1 (Int.toNat (0 : Int)) (x29.1, (5 : Int), x29.2.2.1, x29.2.2.2.1, x29.2.2.2.2), r15.2.1, r15.2.2.1, r15.2.2.2)) (.agg (.pair .rep (.pair .rep (.pair .rep .rep)))) trivial rfl hn.1), trivial⟩) ?_;refine gb (o_neq rfl) ?_;refine pf ?_;refine mq ?_;refine JO.bool (s := 93) rfl (fun hb => ?_) (fun hb => ?_)
     ·replace h := b_if (n_t hb) h;iterate 3 refine gn ?_
      refine pt ?_;refine mq ?_;iterate 3 refine gn ?_
      refine pt (nl ?_);exact jz ((), (r1.1, true)) h [2, 11, 14, 10, 13, 9, 12, 3, 7]
     ·replace h := b_ifn (n_fn hb) h;refine fr 4 ?_;refine fr 6 ?_;refine JO.se (SE.frzBoth (off := 0) [64] ⟨rfl, trivial⟩ rfl rfl) ?_;refine JO.g11 rfl rfl rfl rfl rfl rfl (o_load_obj rfl sz26 (nfn) rfl) ⟨rfl, trivial⟩ ?_;obtain ⟨r37, er37, h⟩ := b_bind h;refine ga (OpT.need (N := [(.tmp 94, .agg (.pair (Rs tThing (List.set r17.1 (Int.toNat (3 : Int)) (x30.1, x30.2.1, x30.2.2.1, (3 : Int), x30.2.2.2.2))) (.pair (Rs tDresser r17.2.1) (.pair (Ri r17.2.2.1) (Ri r17.2.2.2)))))]) (o_call [.tmp 94] rfl rfl en12 rfl (chg_Check_ok k (List.set r17.1 (Int.toNat (3 : Int)) (x30.1, x30.2.1, x30.2.2.1, (3 : Int), x30.2.2.2.2), r17.2.1, r17.2.2.1, r17.2.2.2) r37 er37)) fun _ _ _ hn => ⟨(ent_holds (t := tChange) (x := (List.set r17.1 (Int.toNat (3 : Int)) (x30.1, x30.2.1, x30.2.2.1, (3 : Int), x30.2.2.2.2), r17.2.1, r17.2.2.1, r17.2.2.2)) (.agg (.pair .rep (.pair .rep (.pair .rep .rep)))) trivial rfl hn.1), trivial⟩) ?_;refine gb (o_neq rfl) ?_;refine pf ?_;refine mq ?_;refine JO.bool (s := 98) rfl (fun hb => ?_) (fun hb => ?_)
      ·replace h := b_if (n_t hb) h;iterate 3 refine gn ?_
       refine pt (nl ?_);exact jz ((), (r1.1, true)) h [3, 10, 13, 9, 12, 8, 11, 4, 6]
      ·replace h := b_ifn (n_fn hb) h;refine fr 5 ?_;refine fr 7 ?_;refine JO.se (SE.frzBoth (off := 0) [] trivial rfl rfl) ?_;refine JO.g11 rfl rfl rfl rfl rfl rfl (o_load_obj rfl sz26 (nfn) rfl) ⟨rfl, trivial⟩ ?_;obtain ⟨r38, er38, h⟩ := b_bind h;refine ga (OpT.need (N := [(.tmp 99, .agg (.pair (Rs tThing r19.1) (.pair (Rs tDresser r19.2.1) (.pair (Ri [(1 : Int), (0 : Int)]) (Ri r19.2.2.2)))))]) (o_call [.tmp 99] rfl rfl en12 rfl (chg_Check_ok k (r19.1, r19.2.1, [(1 : Int), (0 : Int)], r19.2.2.2) r38 er38)) fun _ _ _ hn => ⟨(ent_holds (t := tChange) (x := (r19.1, r19.2.1, [(1 : Int), (0 : Int)], r19.2.2.2)) (.agg (.pair .rep (.pair .rep (.pair .rep .rep)))) trivial rfl hn.1), trivial⟩) ?_;refine gb (o_neq rfl) ?_;refine pf (nl ?_);exact jz ((), (r1.1, !decide (r38 = (5 : Int)))) h [4, 9, 12, 8, 11, 7, 10, 5, 6]
 ·
  refine cv h (fun h => ?_) (fun h => ?_)
  ·refine sr (cq (nt (rx ?_)));cases h;exact ra
  ·refine sk (sr (lo sz26 ?_));obtain ⟨r39, er39, h⟩ := b_bind h;refine ja (OpT.need (N := [(.tmp 104, .agg (.pair (Rs tThing x31.1) (.pair (Rs tDresser r1.2.1) (.pair (Ri r1.2.2.1) (Ri r1.2.2.2)))))]) (o_call [.tmp 104] rfl rfl en13 rfl (chg_Tasks_ok k (x31.1, r1.2.1, r1.2.2.1, r1.2.2.2) r39 er39)) fun _ _ _ hn => ⟨(ent_holds (t := tChange) (x := (x31.1, r1.2.1, r1.2.2.1, r1.2.2.2)) (.agg (.pair .rep (.pair .rep (.pair .rep .rep)))) trivial rfl hn.1), trivial⟩) ?_;refine mq ?_;refine xr ?_;refine xr ?_;refine aq ?_;refine aq (nt (sr ?_));refine lo sz26 ?_;obtain ⟨r40, er40, h⟩ := b_bind h;refine ja (OpT.need (N := [(.tmp 109, .agg (.pair (Rs tThing x31.1) (.pair (Rs tDresser r1.2.1) (.pair (Ri r1.2.2.1) (Ri r1.2.2.2)))))]) (o_call [.tmp 109] rfl rfl en14 rfl (chg_Firsts_ok k (x31.1, r1.2.1, r1.2.2.1, r1.2.2.2) r40 er40)) fun _ _ _ hn => ⟨(ent_holds (t := tChange) (x := (x31.1, r1.2.1, r1.2.2.1, r1.2.2.2)) (.agg (.pair .rep (.pair .rep (.pair .rep .rep)))) trivial rfl hn.1), trivial⟩) ?_;refine mq ?_;refine xr ?_;refine xr ?_;refine aq ?_;refine aq (nt (JC.seq ?_));refine JC.drawN ?_;refine ea 0 (o_load_obj rfl sz26 (nfn) rfl) ?_;obtain ⟨r41, er41, h⟩ := b_bind h;refine DN.s00 rfl rfl rfl (o_call [] rfl rfl en16 rfl (law_first_ok k  r41 er41)) trivial ?_;obtain ⟨r42, er42, h⟩ := b_bind h;refine db (OpT.need (N := [(.tmp 114, .agg (.pair (Rs tThing x31.1) (.pair (Rs tDresser r1.2.1) (.pair (Ri r1.2.2.1) (Ri r1.2.2.2))))), (.tmp 115, Rs tStep r41)]) (o_call [.tmp 114, .tmp 115] rfl rfl en15 rfl (chg_Bars_ok k (x31.1, r1.2.1, r1.2.2.1, r1.2.2.2) r41 r42 er42)) fun _ _ _ hn => ⟨(ent_holds (t := tChange) (x := (x31.1, r1.2.1, r1.2.2.1, r1.2.2.2)) (.agg (.pair .rep (.pair .rep (.pair .rep .rep)))) trivial rfl hn.1), hn.2.1, trivial⟩) ?_;refine dm ?_;refine da (o_extract rfl rfl) ?_;refine da (o_extract rfl rfl) ?_;refine da (o_assign rfl) ?_;refine df mixed ?_;refine aq (nt (JC.seq ?_));refine JC.cutB (Z := Unit) (α := Bool) (fun z44 x43 => [(1, Pt b9), (2, Pt b10), (3, Pt b11), (4, Pt b12), (9, Pt b27), (151, .eq (.bool x43))]) (fun z44 x43 => [.obj b9 26 (.agg (.pair (Rs tThing x31.1) (.pair (Rs tDresser r1.2.1) (.pair (Ri r1.2.2.1) (Ri r1.2.2.2))))), .obj b10 26 (.agg (.pair (.eq v4) (.pair (Rs tDresser r3.2.1) (.pair (Ri r3.2.2.1) (Ri r3.2.2.2))))), .sl v4 43 tThing r3.1, .obj b11 26 (.agg (.pair (.eq v6) (.pair (Rs tDresser r5.2.1) (.pair (Ri r5.2.2.1) (Ri r5.2.2.2))))), .sl v6 43 tThing r5.1, .obj b12 26 (.agg (.pair (.eq v8) (.pair (Rs tDresser r7.2.1) (.pair (Ri r7.2.2.1) (Ri r7.2.2.2))))), .sl v8 43 tThing r7.1, .obj b27 26 (.agg (.pair (.eq v22) (.pair (Rs tDresser r21.2.1) (.pair (Ri r21.2.2.1) (Ri [(1 : Int)]))))), .sl v22 43 tThing r21.1]) h (fun K h => ?_) (fun z44 x43 h => ?_)
   ·refine JC.region (mq ?_);refine jb (o_neq rfl) ?_;refine mq ?_;refine JO.bool (s := 121) rfl (fun hb => ?_) (fun hb => ?_)
    ·replace h := b_if (n_t hb) h;iterate 2 refine gn ?_
     refine pt ?_;refine mq ?_;iterate 2 refine gn ?_
     refine pt ?_;refine mq ?_;iterate 2 refine gn ?_
     refine pt ?_;refine mq ?_;iterate 8 refine gn ?_
     refine pt ?_;refine mq ?_;iterate 7 refine gn ?_
     refine pt (nl ?_);exact jz ((), true) h [0, 1, 2, 3, 4, 5, 6, 7, 8]
    ·replace h := b_ifn (n_fn hb) h;refine gm ?_;refine gb (o_neq rfl) ?_;refine pf ?_;refine mq ?_;refine JO.bool (s := 125) rfl (fun hb => ?_) (fun hb => ?_)
     ·replace h := b_if (n_t hb) h;iterate 2 refine gn ?_
      refine pt ?_;refine mq ?_;iterate 2 refine gn ?_
      refine pt ?_;refine mq ?_;iterate 8 refine gn ?_
      refine pt ?_;refine mq ?_;iterate 7 refine gn ?_
      refine pt (nl ?_);exact jz ((), true) h [0, 1, 2, 3, 4, 5, 6, 7, 8]
     ·replace h := b_ifn (n_fn hb) h;refine gm ?_;refine gb (o_neq rfl) ?_;refine pf ?_;refine mq ?_;refine JO.bool (s := 129) rfl (fun hb => ?_) (fun hb => ?_)
      ·replace h := b_if (n_t hb) h;iterate 2 refine gn ?_
       refine pt ?_;refine mq ?_;iterate 8 refine gn ?_
       refine pt ?_;refine mq ?_;iterate 7 refine gn ?_
       refine pt (nl ?_);exact jz ((), true) h [0, 1, 2, 3, 4, 5, 6, 7, 8]
      ·replace h := b_ifn (n_fn hb) h;refine gm ?_;refine gb (o_neq rfl) ?_;refine pf ?_;refine mq ?_;refine JO.bool (s := 133) rfl (fun hb => ?_) (fun hb => ?_)
       ·replace h := b_if (n_t hb) h;iterate 8 refine gn ?_
        refine pt ?_;refine mq ?_;iterate 7 refine gn ?_
        refine pt (nl ?_);exact jz ((), true) h [0, 1, 2, 3, 4, 5, 6, 7, 8]
       ·replace h := b_ifn (n_fn hb) h;refine gm ?_;refine ga (o_buildT [(0, .const (.int .i64 (0)), _)] rfl pl56 za56 alb56 (stors ⟨rfl, trivial⟩) rfl) ?_;refine ga (o_buildT [(0, .const (.int .i64 (1)), _)] rfl pl56 za56 alb56 (stors ⟨rfl, trivial⟩) rfl) ?_;refine gb (o_buildT [(0, .const (.int .i64 (1)), _), (1, .const (.bool true), _)] rfl pl56 za56 alb56 (stors ⟨rfl, rfl, trivial⟩) rfl) ?_;refine gb (o_buildT [(0, .const (.int .i64 (2)), _), (1, .const (.bool true), _)] rfl pl56 za56 alb56 (stors ⟨rfl, rfl, trivial⟩) rfl) ?_;refine JO.g00 rfl rfl rfl rfl rfl rfl (o_litB (t := tTask) [(.tmp 135, _), (.tmp 136, _), (.tmp 137, _), (.tmp 138, _)] [((0 : Int), false), ((1 : Int), false), ((1 : Int), true), ((2 : Int), true)] rfl rfl sl45 (.cons trivial (.agg (.pair .int .bool)) (.cons trivial (.agg (.pair .int .bool)) (.cons trivial (.agg (.pair .int .bool)) (.cons trivial (.agg (.pair .int .bool)) .nil)))) rfl rfl) ⟨rfl, rfl, rfl, rfl, trivial⟩ ?_;obtain ⟨r45, er45, h⟩ := b_bind h;refine gb (o_call [.tmp 134, .tmp 139] rfl rfl en17 rfl (kit_SameTasks_ok k r39.1 [((0 : Int), false), ((1 : Int), false), ((1 : Int), true), ((2 : Int), true)] r45 er45)) ?_;refine ga (o_not rfl) ?_;refine pf ?_;refine mq ?_;refine JO.bool (s := 143) rfl (fun hb => ?_) (fun hb => ?_)
        ·replace h := b_if (nv_t hb) h;iterate 7 refine gn ?_
         refine pt (nl ?_);exact jz ((), true) h [0, 1, 2, 3, 4, 5, 6, 7, 8]
        ·replace h := b_ifn (nv_fn hb) h;refine gm ?_;refine gb (o_litB (t := (.int .i64)) [(.const (.int .i64 (0)), _), (.const (.int .i64 (2)), _)] [(0 : Int), (2 : Int)] rfl rfl sl22 (.cons rfl .int (.cons rfl .int .nil)) rfl rfl) ?_;refine gb (o_litB (t := (.int .i64)) [(.const (.int .i64 (1)), _), (.const (.int .i64 (0)), _)] [(1 : Int), (0 : Int)] rfl rfl sl22 (.cons rfl .int (.cons rfl .int .nil)) rfl rfl) ?_;refine gb (o_litB (t := (.int .i64)) [(.const (.int .i64 (1)), _), (.const (.int .i64 (2)), _)] [(1 : Int), (2 : Int)] rfl rfl sl22 (.cons rfl .int (.cons rfl .int .nil)) rfl rfl) ?_;refine gc (o_litB (t := (.slice (.int .i64))) [(.tmp 145, _), (.tmp 146, _), (.tmp 147, _)] [[(0 : Int), (2 : Int)], [(1 : Int), (0 : Int)], [(1 : Int), (2 : Int)]] rfl rfl sl48 (.cons rfl .rep (.cons rfl .rep (.cons rfl .rep .nil))) rfl rfl) ?_;obtain ⟨r46, er46, h⟩ := b_bind h;refine gb (o_call [.tmp 144, .tmp 148] rfl rfl en18 rfl (kit_SameLists_ok k r40.1 [[(0 : Int), (2 : Int)], [(1 : Int), (0 : Int)], [(1 : Int), (2 : Int)]] r46 er46)) ?_;refine ga (o_not rfl) ?_;refine pf (nl ?_);exact jz ((), !r46) h [0, 1, 2, 3, 4, 5, 6, 7, 8]
   ·refine cv h (fun h => ?_) (fun h => ?_)
    ·refine sr (cq (nt (rx ?_)));cases h;exact ra
    ·refine sk (sr (ja (o_buildT [(0, .const (.int .i64 (0)), _)] rfl pl59 za59 alb59 (stors ⟨rfl, trivial⟩) rfl) ?_));refine ja (o_buildT [(0, .const (.int .i64 (1)), _)] rfl pl59 za59 alb59 (stors ⟨rfl, trivial⟩) rfl) ?_;refine ja (o_buildT [(0, .const (.int .i64 (2)), _)] rfl pl59 za59 alb59 (stors ⟨rfl, trivial⟩) rfl) ?_;refine jb (o_buildT [(0, .const (.int .i64 (3)), _), (1, .const (.int .i64 (1)), _)] rfl pl59 za59 alb59 (stors ⟨rfl, rfl, trivial⟩) rfl) ?_;refine JO.s rfl (o_litB (t := tStep) [(.tmp 152, _), (.tmp 153, _), (.tmp 154, _), (.tmp 155, _)] [((0 : Int), (0 : Int)), ((1 : Int), (0 : Int)), ((2 : Int), (0 : Int)), ((3 : Int), (1 : Int))] rfl rfl sl33 (.cons trivial (.agg (.pair .int .int)) (.cons trivial (.agg (.pair .int .int)) (.cons trivial (.agg (.pair .int .int)) (.cons trivial (.agg (.pair .int .int)) .nil)))) rfl rfl) ⟨rfl, rfl, rfl, rfl, trivial⟩ ?_;refine jb (o_buildT [(0, .const (.int .i64 (1)), _), (1, .const (.int .i64 (1)), _)] rfl pl59 za59 alb59 (stors ⟨rfl, rfl, trivial⟩) rfl) ?_;refine ja (o_buildT [(0, .const (.int .i64 (0)), _)] rfl pl59 za59 alb59 (stors ⟨rfl, trivial⟩) rfl) ?_;refine ja (o_buildT [(0, .const (.int .i64 (2)), _)] rfl pl59 za59 alb59 (stors ⟨rfl, trivial⟩) rfl) ?_;refine ja (o_buildT [(0, .const (.int .i64 (3)), _)] rfl pl59 za59 alb59 (stors ⟨rfl, trivial⟩) rfl) ?_;refine JO.s rfl (o_litB (t := tStep) [(.tmp 157, _), (.tmp 158, _), (.tmp 159, _), (.tmp 160, _)] [((1 : Int), (1 : Int)), ((0 : Int), (0 : Int)), ((2 : Int), (0 : Int)), ((3 : Int), (0 : Int))] rfl rfl sl33 (.cons trivial (.agg (.pair .int .int)) (.cons trivial (.agg (.pair .int .int)) (.cons trivial (.agg (.pair .int .int)) (.cons trivial (.agg (.pair .int .int)) .nil)))) rfl rfl) ⟨rfl, rfl, rfl, rfl, trivial⟩ ?_;refine ja (o_buildT [(0, .const (.int .i64 (1)), _)] rfl pl59 za59 alb59 (stors ⟨rfl, trivial⟩) rfl) ?_;refine ja (o_buildT [(0, .const (.int .i64 (0)), _)] rfl pl59 za59 alb59 (stors ⟨rfl, trivial⟩) rfl) ?_;refine ja (o_buildT [(0, .const (.int .i64 (3)), _)] rfl pl59 za59 alb59 (stors ⟨rfl, trivial⟩) rfl) ?_;refine ja (o_buildT [(0, .const (.int .i64 (2)), _)] rfl pl59 za59 alb59 (stors ⟨rfl, trivial⟩) rfl) ?_;refine JO.s rfl (o_litB (t := tStep) [(.tmp 162, _), (.tmp 163, _), (.tmp 164, _), (.tmp 165, _)] [((1 : Int), (0 : Int)), ((0 : Int), (0 : Int)), ((3 : Int), (0 : Int)), ((2 : Int), (0 : Int))] rfl rfl sl33 (.cons trivial (.agg (.pair .int .int)) (.cons trivial (.agg (.pair .int .int)) (.cons trivial (.agg (.pair .int .int)) (.cons trivial (.agg (.pair .int .int)) .nil)))) rfl rfl) ⟨rfl, rfl, rfl, rfl, trivial⟩ ?_;refine jc (o_litB (t := (.slice tStep)) [(.tmp 156, _), (.tmp 161, _), (.tmp 166, _)] [[((0 : Int), (0 : Int)), ((1 : Int), (0 : Int)), ((2 : Int), (0 : Int)), ((3 : Int), (1 : Int))], [((1 : Int), (1 : Int)), ((0 : Int), (0 : Int)), ((2 : Int), (0 : Int)), ((3 : Int), (0 : Int))], [((1 : Int), (0 : Int)), ((0 : Int), (0 : Int)), ((3 : Int), (0 : Int)), ((2 : Int), (0 : Int))]] rfl rfl sl60 (.cons rfl .rep (.cons rfl .rep (.cons rfl .rep .nil))) rfl rfl) ?_;refine jc (o_litB (t := (.int .i64)) [(.const (.int .i64 (5)), _), (.const (.int .i64 (8)), _), (.const (.int .i64 (8)), _)] [(5 : Int), (8 : Int), (8 : Int)] rfl rfl sl61 (.cons rfl .int (.cons rfl .int (.cons rfl .int .nil))) rfl rfl) ?_;refine aq ?_;refine aq (nt ?_);refine JC.cutE (Z := Unit) (α := Unit) (fun z48 x47 => [(1, Pt b9), (2, Pt b10), (3, Pt b11), (4, Pt b12), (9, Pt b27)]) (fun z48 x47 => [.obj b9 26 (.agg (.pair (Rs tThing x31.1) (.pair (Rs tDresser r1.2.1) (.pair (Ri r1.2.2.1) (Ri r1.2.2.2))))), .obj b10 26 (.agg (.pair (.eq v4) (.pair (Rs tDresser r3.2.1) (.pair (Ri r3.2.2.1) (Ri r3.2.2.2))))), .sl v4 43 tThing r3.1, .obj b11 26 (.agg (.pair (.eq v6) (.pair (Rs tDresser r5.2.1) (.pair (Ri r5.2.2.1) (Ri r5.2.2.2))))), .sl v6 43 tThing r5.1, .obj b12 26 (.agg (.pair (.eq v8) (.pair (Rs tDresser r7.2.1) (.pair (Ri r7.2.2.1) (Ri r7.2.2.2))))), .sl v8 43 tThing r7.1, .obj b27 26 (.agg (.pair (.eq v22) (.pair (Rs tDresser r21.2.1) (.pair (Ri r21.2.2.1) (Ri [(1 : Int)]))))), .sl v22 43 tThing r21.1]) (fun e => e = r) h (fun e h => Option.some.inj h) (fun K hR h => ?_) (fun z48 x47 h => ?_)
     ·refine sr (cq (nt (JC.block ?_)));refine JC.loopB (Z := Unit) (α := Int) (fun z50 y49 => [(1, Pt b9), (2, Pt b10), (3, Pt b11), (4, Pt b12), (9, Pt b27), (16, .rep (.slice (.slice tStep)) [[((0 : Int), (0 : Int)), ((1 : Int), (0 : Int)), ((2 : Int), (0 : Int)), ((3 : Int), (1 : Int))], [((1 : Int), (1 : Int)), ((0 : Int), (0 : Int)), ((2 : Int), (0 : Int)), ((3 : Int), (0 : Int))], [((1 : Int), (0 : Int)), ((0 : Int), (0 : Int)), ((3 : Int), (0 : Int)), ((2 : Int), (0 : Int))]]), (17, Ri [(5 : Int), (8 : Int), (8 : Int)]), (18, I y49)]) (fun z50 y49 => [.obj b9 26 (.agg (.pair (Rs tThing x31.1) (.pair (Rs tDresser r1.2.1) (.pair (Ri r1.2.2.1) (Ri r1.2.2.2))))), .obj b10 26 (.agg (.pair (.eq v4) (.pair (Rs tDresser r3.2.1) (.pair (Ri r3.2.2.1) (Ri r3.2.2.2))))), .sl v4 43 tThing r3.1, .obj b11 26 (.agg (.pair (.eq v6) (.pair (Rs tDresser r5.2.1) (.pair (Ri r5.2.2.1) (Ri r5.2.2.2))))), .sl v6 43 tThing r5.1, .obj b12 26 (.agg (.pair (.eq v8) (.pair (Rs tDresser r7.2.1) (.pair (Ri r7.2.2.1) (Ri r7.2.2.2))))), .sl v8 43 tThing r7.1, .obj b27 26 (.agg (.pair (.eq v22) (.pair (Rs tDresser r21.2.1) (.pair (Ri r21.2.2.1) (Ri [(1 : Int)]))))), .sl v22 43 tThing r21.1]) (law_ChangeKnown_l1 k r1 x31) k () (0 : Int) (fun _ => rfl) h (SE.fin [0, 1, 2, 3, 4, 5, 6, 7, 8] ⟨rfl, rfl, rfl, rfl, rfl, rfl, rfl, rfl, trivial⟩ rfl) (fun n z50 y49 h => ?_);unfold law_ChangeKnown_l1 at h;refine JC.seq (sr ?_);iterate 2 refine mq ?_
      refine ol U60 ?_;refine jb (o_lss rfl) ?_;refine nt (ci h (fun h => ?_) (fun h => ?_))
      ·refine sk (JC.seq (JC.block (JC.seq (JC.drawN ?_))));refine ea 0 (o_load_obj rfl sz26 (nfn) rfl) ?_;refine dm ?_;refine dm ?_;obtain ⟨x51, ex51, h⟩ := b_bind h;refine db (o_index (t := (.slice tStep)) rfl U60 sz33 ex51) ?_;refine da (o_load_at (t := (.slice tStep)) rfl sz33 rfl) ?_;obtain ⟨r52, er52, h⟩ := b_bind h;refine db (OpT.need (N := [(.tmp 176, .agg (.pair (Rs tThing x31.1) (.pair (Rs tDresser r1.2.1) (.pair (Ri r1.2.2.1) (Ri r1.2.2.2))))), (.tmp 180, Rs tStep x51)]) (o_call [.tmp 176, .tmp 180] rfl rfl en19 rfl (chg_Begins_ok k (x31.1, r1.2.1, r1.2.2.1, r1.2.2.2) x51 r52 er52)) fun _ _ _ hn => ⟨(ent_holds (t := tChange) (x := (x31.1, r1.2.1, r1.2.2.1, r1.2.2.2)) (.agg (.pair .rep (.pair .rep (.pair .rep .rep)))) trivial rfl hn.1), hn.2.1, trivial⟩) ?_;refine dm ?_;refine da (o_extract rfl rfl) ?_;refine da (o_extract rfl rfl) ?_;refine da (o_assign rfl) ?_;refine df mixed ?_;refine aq (nt (sr ?_));iterate 3 refine mq ?_
       obtain ⟨x53, ex53, h⟩ := b_bind h;refine jb (o_index (t := (.int .i64)) rfl U61 sz30 ex53) ?_;refine ja (o_load_at (t := (.int .i64)) rfl sz30 rfl) ?_;refine jb (o_neq rfl) ?_;refine nt (cn h (fun h => ?_) (fun h => ?_))
       ·refine sr (cq (nt (JC.ret (br (JN.blk_r (JN.then_r ?_))))));obtain rfl := hR _ h;exact ra
       ·refine JC.skip (JN.blk_n (tn (JC.region (mq ?_))));obtain ⟨x54, ex54, h⟩ := b_bind h;refine jb (o_add rfl ex54) ?_;refine aq (nl ?_);exact jz ((), x54) h [0, 1, 2, 3, 4, 5, 6, 7, 8]
      ·refine xa ?_;exact jz ((), ()) h [0, 1, 2, 3, 4, 5, 6, 7, 8]
     ·refine sr (fr 3 ?_);refine fr 4 ?_;refine JO.se (SE.frzBoth (off := 0) [] trivial rfl rfl) ?_;refine lo sz26 ?_;obtain ⟨r55, er55, h⟩ := b_bind h;refine ja (OpT.need (N := [(.tmp 191, .agg (.pair (Rs tThing r5.1) (.pair (Rs tDresser r5.2.1) (.pair (Ri r5.2.2.1) (Ri r5.2.2.2)))))]) (o_call [.tmp 191] rfl rfl en8 rfl (chg_Fewest_ok k (r5.1, r5.2.1, r5.2.2.1, r5.2.2.2) r55 er55)) fun _ _ _ hn => ⟨(ent_holds (t := tChange) (x := (r5.1, r5.2.1, r5.2.2.1, r5.2.2.2)) (.agg (.pair .rep (.pair .rep (.pair .rep .rep)))) trivial rfl hn.1), trivial⟩) ?_;refine mq ?_;refine xr ?_;refine xr ?_;refine xr ?_;refine aq (nt (sr ?_));refine fr 4 ?_;refine fr 5 ?_;refine JO.se (SE.frzBoth (off := 0) [] trivial rfl rfl) ?_;refine lo sz26 ?_;obtain ⟨r56, er56, h⟩ := b_bind h;refine ja (OpT.need (N := [(.tmp 197, .agg (.pair (Rs tThing r7.1) (.pair (Rs tDresser r7.2.1) (.pair (Ri r7.2.2.1) (Ri r7.2.2.2)))))]) (o_call [.tmp 197] rfl rfl en8 rfl (chg_Fewest_ok k (r7.1, r7.2.1, r7.2.2.1, r7.2.2.2) r56 er56)) fun _ _ _ hn => ⟨(ent_holds (t := tChange) (x := (r7.1, r7.2.1, r7.2.2.1, r7.2.2.2)) (.agg (.pair .rep (.pair .rep (.pair .rep .rep)))) trivial rfl hn.1), trivial⟩) ?_;refine mq ?_;refine xr ?_;refine xr ?_;refine xr ?_;refine aq ?_;refine aq ?_;refine aq (nt (JC.seq ?_));refine JC.drawN ?_;refine ea 2 (o_load_obj rfl sz26 (nfn) rfl) ?_;obtain ⟨r57, er57, h⟩ := b_bind h;refine DN.s00 rfl rfl rfl (o_call [] rfl rfl en16 rfl (law_first_ok k  r57 er57)) trivial ?_;obtain ⟨r58, er58, h⟩ := b_bind h;refine db (OpT.need (N := [(.tmp 203, .agg (.pair (Rs tThing x31.1) (.pair (Rs tDresser r1.2.1) (.pair (Ri r1.2.2.1) (Ri r1.2.2.2))))), (.tmp 204, Rs tStep r57)]) (o_call [.tmp 203, .tmp 204] rfl rfl en20 rfl (chg_Late_ok k (x31.1, r1.2.1, r1.2.2.1, r1.2.2.2) r57 r58 er58)) fun _ _ _ hn => ⟨(ent_holds (t := tChange) (x := (x31.1, r1.2.1, r1.2.2.1, r1.2.2.2)) (.agg (.pair .rep (.pair .rep (.pair .rep .rep)))) trivial rfl hn.1), hn.2.1, trivial⟩) ?_;refine dm ?_;refine da (o_extract rfl rfl) ?_;refine da (o_extract rfl rfl) ?_;refine da (o_extract rfl rfl) ?_;refine da (o_assign rfl) ?_;refine da (o_assign rfl) ?_;refine df mixed ?_;refine aq (nt (sr ?_));refine fr 2 ?_;refine lo sz26 ?_;obtain ⟨r59, er59, h⟩ := b_bind h;refine ja (OpT.need (N := [(.tmp 210, .agg (.pair (Rs tThing x31.1) (.pair (Rs tDresser r1.2.1) (.pair (Ri r1.2.2.1) (Ri r1.2.2.2)))))]) (o_call [.tmp 210] rfl rfl en21 rfl (chg_Kept_ok k (x31.1, r1.2.1, r1.2.2.1, r1.2.2.2) r59 er59)) fun _ _ _ hn => ⟨(ent_holds (t := tChange) (x := (x31.1, r1.2.1, r1.2.2.1, r1.2.2.2)) (.agg (.pair .rep (.pair .rep (.pair .rep .rep)))) trivial rfl hn.1), trivial⟩) ?_;refine mq ?_;refine xr ?_;refine xr ?_;refine aq ?_;refine aq (nt (sr ?_));refine fr 3 ?_;refine fr 4 ?_;refine JO.se (SE.frzBoth (off := 0) [] trivial rfl rfl) ?_;refine lo sz26 ?_;obtain ⟨r60, er60, h⟩ := b_bind h;refine ja (OpT.need (N := [(.tmp 215, .agg (.pair (Rs tThing r3.1) (.pair (Rs tDresser r3.2.1) (.pair (Ri r3.2.2.1) (Ri r3.2.2.2)))))]) (o_call [.tmp 215] rfl rfl en21 rfl (chg_Kept_ok k (r3.1, r3.2.1, r3.2.2.1, r3.2.2.2) r60 er60)) fun _ _ _ hn => ⟨(ent_holds (t := tChange) (x := (r3.1, r3.2.1, r3.2.2.1, r3.2.2.2)) (.agg (.pair .rep (.pair .rep (.pair .rep .rep)))) trivial rfl hn.1), trivial⟩) ?_;refine mq ?_;refine xr ?_;refine xr ?_;refine aq ?_;refine aq (nt (JC.seq ?_));refine JC.cutB (Z := Unit) (α := Bool) (fun z62 x61 => [(1, Pt b9), (2, Pt b10), (9, Pt b27), (260, .eq (.bool x61))]) (fun z62 x61 => [.obj b9 26 (.agg (.pair (Rs tThing x31.1) (.pair (Rs tDresser r1.2.1) (.pair (Ri r1.2.2.1) (Ri r1.2.2.2))))), .obj b10 26 (Qc r3), .obj b27 26 (.agg (.pair (.eq v22) (.pair (Rs tDresser r21.2.1) (.pair (Ri r21.2.2.1) (Ri [(1 : Int)]))))), .sl v22 43 tThing r21.1]) h (fun K h => ?_) (fun z62 x61 h => ?_)
      ·refine JC.region (mq ?_);refine jb (o_neq rfl) ?_;refine mq ?_;refine JO.bool (s := 221) rfl (fun hb => ?_) (fun hb => ?_)
       ·replace h := b_if (n_t hb) h;iterate 2 refine gn ?_
        refine pt ?_;refine mq ?_;iterate 2 refine gn ?_
        refine pt ?_;refine mq ?_;iterate 2 refine gn ?_
        refine pt ?_;refine mq ?_;iterate 2 refine gn ?_
        refine pt ?_;refine mq ?_;iterate 2 refine gn ?_
        refine pt ?_;refine mq ?_;iterate 2 refine gn ?_
        refine pt ?_;refine mq ?_;iterate 2 refine gn ?_
        refine pt ?_;refine mq ?_;iterate 4 refine gn ?_
        refine pt ?_;refine mq ?_;iterate 4 refine gn ?_
        refine pt (nl ?_);exact jz ((), true) h [1, 0, 4, 5]
       ·replace h := b_ifn (n_fn hb) h;refine gm ?_;refine gb (o_neq rfl) ?_;refine pf ?_;refine mq ?_;refine JO.bool (s := 225) rfl (fun hb => ?_) (fun hb => ?_)
        ·replace h := b_if (n_t hb) h;iterate 2 refine gn ?_
         refine pt ?_;refine mq ?_;iterate 2 refine gn ?_
         refine pt ?_;refine mq ?_;iterate 2 refine gn ?_
         refine pt ?_;refine mq ?_;iterate 2 refine gn ?_
         refine pt ?_;refine mq ?_;iterate 2 refine gn ?_
         refine pt ?_;refine mq ?_;iterate 2 refine gn ?_
         refine pt ?_;refine mq ?_;iterate 4 refine gn ?_
         refine pt ?_;refine mq ?_;iterate 4 refine gn ?_
         refine pt (nl ?_);exact jz ((), true) h [1, 0, 4, 5]
        ·replace h := b_ifn (n_fn hb) h;refine gm ?_;refine gb (o_neq rfl) ?_;refine pf ?_;refine mq ?_;refine JO.bool (s := 229) rfl (fun hb => ?_) (fun hb => ?_)
         ·replace h := b_if (n_t hb) h;iterate 2 refine gn ?_
          refine pt ?_;refine mq ?_;iterate 2 refine gn ?_
          refine pt ?_;refine mq ?_;iterate 2 refine gn ?_
          refine pt ?_;refine mq ?_;iterate 2 refine gn ?_
          refine pt ?_;refine mq ?_;iterate 2 refine gn ?_
          refine pt ?_;refine mq ?_;iterate 4 refine gn ?_
          refine pt ?_;refine mq ?_;iterate 4 refine gn ?_
          refine pt (nl ?_);exact jz ((), true) h [1, 0, 4, 5]
         ·replace h := b_ifn (n_fn hb) h;refine gm ?_;refine gb (o_neq rfl) ?_;refine pf ?_;refine mq ?_;refine JO.bool (s := 233) rfl (fun hb => ?_) (fun hb => ?_)
          ·replace h := b_if (n_t hb) h;iterate 2 refine gn ?_
           refine pt ?_;refine mq ?_;iterate 2 refine gn ?_
           refine pt ?_;refine mq ?_;iterate 2 refine gn ?_
           refine pt ?_;refine mq ?_;iterate 2 refine gn ?_
           refine pt ?_;refine mq ?_;iterate 4 refine gn ?_
           refine pt ?_;refine mq ?_;iterate 4 refine gn ?_
           refine pt (nl ?_);exact jz ((), true) h [1, 0, 4, 5]
          ·replace h := b_ifn (n_fn hb) h;refine gm ?_;refine gb (o_neq rfl) ?_;refine pf ?_;refine mq ?_;refine JO.bool (s := 237) rfl (fun hb => ?_) (fun hb => ?_)
           ·replace h := b_if (n_t hb) h;iterate 2 refine gn ?_
            refine pt ?_;refine mq ?_;iterate 2 refine gn ?_
            refine pt ?_;refine mq ?_;iterate 2 refine gn ?_
            refine pt ?_;refine mq ?_;iterate 4 refine gn ?_
            refine pt ?_;refine mq ?_;iterate 4 refine gn ?_
            refine pt (nl ?_);exact jz ((), true) h [1, 0, 4, 5]
           ·replace h := b_ifn (n_fn hb) h;refine gm ?_;refine gb (o_neq rfl) ?_;refine pf ?_;refine mq ?_;refine JO.bool (s := 241) rfl (fun hb => ?_) (fun hb => ?_)
            ·replace h := b_if (n_t hb) h;iterate 2 refine gn ?_
             refine pt ?_;refine mq ?_;iterate 2 refine gn ?_
             refine pt ?_;refine mq ?_;iterate 4 refine gn ?_
             refine pt ?_;refine mq ?_;iterate 4 refine gn ?_
             refine pt (nl ?_);exact jz ((), true) h [1, 0, 4, 5]
            ·replace h := b_ifn (n_fn hb) h;refine gm ?_;refine gb (o_neq rfl) ?_;refine pf ?_;refine mq ?_;refine JO.bool (s := 245) rfl (fun hb => ?_) (fun hb => ?_)
             ·replace h := b_if (n_t hb) h;iterate 2 refine gn ?_
              refine pt ?_;refine mq ?_;iterate 4 refine gn ?_
              refine pt ?_;refine mq ?_;iterate 4 refine gn ?_
              refine pt (nl ?_);exact jz ((), true) h [1, 0, 4, 5]
             ·replace h := b_ifn (n_fn hb) h;refine gm ?_;refine gb (o_neq rfl) ?_;refine pf ?_;refine mq ?_;refine JO.bool (s := 249) rfl (fun hb => ?_) (fun hb => ?_)
              ·replace h := b_if (n_t hb) h;iterate 4 refine gn ?_
               refine pt ?_;refine mq ?_;iterate 4 refine gn ?_
               refine pt (nl ?_);exact jz ((), true) h [1, 0, 4, 5]
              ·replace h := b_ifn (n_fn hb) h;refine gm ?_;obtain ⟨r63, er63, h⟩ := b_bind h;refine JO.g00 rfl rfl rfl rfl rfl rfl (o_call [] rfl rfl en16 rfl (law_first_ok k  r63 er63)) trivial ?_;obtain ⟨r64, er64, h⟩ := b_bind h;refine gb (o_call [.tmp 250, .tmp 251] rfl rfl en22 rfl (kit_SameSteps_ok k r56.1 r63 r64 er64)) ?_;refine ga (o_not rfl) ?_;refine pf ?_;refine mq ?_;refine JO.bool (s := 255) rfl (fun hb => ?_) (fun hb => ?_)
               ·replace h := b_if (nv_t hb) h;iterate 4 refine gn ?_
                refine pt (nl ?_);exact jz ((), true) h [1, 0, 4, 5]
               ·replace h := b_ifn (nv_fn hb) h;refine gm ?_;obtain ⟨r65, er65, h⟩ := b_bind h;refine JO.g00 rfl rfl rfl rfl rfl rfl (o_call [] rfl rfl en16 rfl (law_first_ok k  r65 er65)) trivial ?_;obtain ⟨r66, er66, h⟩ := b_bind h;refine gb (o_call [.tmp 256, .tmp 257] rfl rfl en22 rfl (kit_SameSteps_ok k r59.1 r65 r66 er66)) ?_;refine ga (o_not rfl) ?_;refine pf (nl ?_);exact jz ((), !r66) h [1, 0, 4, 5]
      ·refine cv h (fun h => ?_) (fun h => ?_)
       ·refine sr (cq (nt (rx ?_)));cases h;exact ra
       ·refine sk (sr (lo sz26 ?_));obtain ⟨r67, er67, h⟩ := b_bind h;refine ja (OpT.need (N := [(.tmp 262, .agg (.pair (Rs tThing x31.1) (.pair (Rs tDresser r1.2.1) (.pair (Ri r1.2.2.1) (Ri r1.2.2.2)))))]) (o_call [.tmp 262] rfl rfl en23 rfl (chg_Gives_ok k (x31.1, r1.2.1, r1.2.2.1, r1.2.2.2) r67 er67)) fun _ _ _ hn => ⟨(ent_holds (t := tChange) (x := (x31.1, r1.2.1, r1.2.2.1, r1.2.2.2)) (.agg (.pair .rep (.pair .rep (.pair .rep .rep)))) trivial rfl hn.1), trivial⟩) ?_;refine mq ?_;refine xr ?_;refine xr ?_;refine aq ?_;refine aq (nt (sr ?_));refine fr 1 ?_;refine lo sz26 ?_;obtain ⟨r68, er68, h⟩ := b_bind h;refine ja (OpT.need (N := [(.tmp 267, .agg (.pair (Rs tThing r3.1) (.pair (Rs tDresser r3.2.1) (.pair (Ri r3.2.2.1) (Ri r3.2.2.2)))))]) (o_call [.tmp 267] rfl rfl en23 rfl (chg_Gives_ok k (r3.1, r3.2.1, r3.2.2.1, r3.2.2.2) r68 er68)) fun _ _ _ hn => ⟨(ent_holds (t := tChange) (x := (r3.1, r3.2.1, r3.2.2.1, r3.2.2.2)) (.agg (.pair .rep (.pair .rep (.pair .rep .rep)))) trivial rfl hn.1), trivial⟩) ?_;refine mq ?_;refine xr ?_;refine xr ?_;refine aq ?_;refine aq (nt (sr ?_));refine fr 1 ?_;refine lo sz26 ?_;obtain ⟨r69, er69, h⟩ := b_bind h;refine ja (OpT.need (N := [(.tmp 272, .agg (.pair (Rs tThing x31.1) (.pair (Rs tDresser r1.2.1) (.pair (Ri r1.2.2.1) (Ri r1.2.2.2)))))]) (o_callM [.tmp 272] rfl rfl en7 rfl (chg_Needless_ok k (x31.1, r1.2.1, r1.2.2.1, r1.2.2.2) r69 er69)) fun _ _ _ hn => ⟨(ent_holds (t := tChange) (x := (x31.1, r1.2.1, r1.2.2.1, r1.2.2.2)) (.agg (.pair .rep (.pair .rep (.pair .rep .rep)))) trivial rfl hn.1), trivial⟩) ?_;refine mq ?_;refine xr ?_;refine xr ?_;refine aq ?_;refine aq (nt (sr ?_));refine fr 2 ?_;refine fr 3 ?_;refine JO.se (SE.frzBoth (off := 0) [] trivial rfl rfl) ?_;refine lo sz26 ?_;obtain ⟨r70, er70, h⟩ := b_bind h;refine ja (OpT.need (N := [(.tmp 277, .agg (.pair (Rs tThing r21.1) (.pair (Rs tDresser r21.2.1) (.pair (Ri r21.2.2.1) (Ri [(1 : Int)])))))]) (o_callM [.tmp 277] rfl rfl en7 rfl (chg_Needless_ok k (r21.1, r21.2.1, r21.2.2.1, [(1 : Int)]) r70 er70)) fun _ _ _ hn => ⟨(ent_holds (t := tChange) (x := (r21.1, r21.2.1, r21.2.2.1, [(1 : Int)])) (.agg (.pair .rep (.pair .rep (.pair .rep .rep)))) trivial rfl hn.1), trivial⟩) ?_;refine mq ?_;refine xr ?_;refine xr ?_;refine aq ?_;refine aq (nt (sr ?_));refine fr 1 ?_;refine lo sz26 ?_;obtain ⟨r71, er71, h⟩ := b_bind h;refine jb (OpT.need (N := [(.tmp 282, .agg (.pair (Rs tThing x31.1) (.pair (Rs tDresser r1.2.1) (.pair (Ri r1.2.2.1) (Ri r1.2.2.2))))), (.const (.int .i64 (0)), I (0 : Int))]) (o_call [.tmp 282, .const (.int .i64 (0))] rfl rfl en24 rfl (chg_Spare_ok k (x31.1, r1.2.1, r1.2.2.1, r1.2.2.2) (0 : Int) r71 er71)) fun _ _ _ hn => ⟨(ent_holds (t := tChange) (x := (x31.1, r1.2.1, r1.2.2.1, r1.2.2.2)) (.agg (.pair .rep (.pair .rep (.pair .rep .rep)))) trivial rfl hn.1), hn.2.1, trivial⟩) ?_;refine mq ?_;refine xr ?_;refine xr ?_;refine aq ?_;refine aq (nt (sr ?_));refine lo sz26 ?_;obtain ⟨r72, er72, h⟩ := b_bind h;refine ja (OpT.need (N := [(.tmp 287, .agg (.pair (Rs tThing x31.1) (.pair (Rs tDresser r1.2.1) (.pair (Ri r1.2.2.1) (Ri r1.2.2.2)))))]) (o_call [.tmp 287] rfl rfl en25 rfl (chg_Learn_ok k (x31.1, r1.2.1, r1.2.2.1, r1.2.2.2) r72 er72)) fun _ _ _ hn => ⟨(ent_holds (t := tChange) (x := (x31.1, r1.2.1, r1.2.2.1, r1.2.2.2)) (.agg (.pair .rep (.pair .rep (.pair .rep .rep)))) trivial rfl hn.1), trivial⟩) ?_;refine mq ?_;refine xr ?_;refine xr ?_;refine xr ?_;refine xr ?_;refine aq ?_;refine aq ?_;refine aq ?_
        refine aq (nt (JC.seq ?_));refine JC.cutB (Z := Unit) (α := Bool) (fun z74 x73 => [(1, Pt b9), (340, .eq (.bool x73))]) (fun z74 x73 => [.obj b9 26 (.agg (.pair (Rs tThing x31.1) (.pair (Rs tDresser r1.2.1) (.pair (Ri r1.2.2.1) (Ri r1.2.2.2)))))]) h (fun K h => ?_) (fun z74 x73 h => ?_)
        ·refine JC.region (mq ?_);refine jb (o_neq rfl) ?_;refine mq ?_;refine JO.bool (s := 295) rfl (fun hb => ?_) (fun hb => ?_)
         ·replace h := b_if (n_t hb) h;iterate 2 refine gn ?_
          refine pt ?_;refine mq ?_;iterate 2 refine gn ?_
          refine pt ?_;refine mq ?_;iterate 2 refine gn ?_
          refine pt ?_;refine mq ?_;iterate 2 refine gn ?_
          refine pt ?_;refine mq ?_;iterate 2 refine gn ?_
          refine pt ?_;refine mq ?_;iterate 2 refine gn ?_
          refine pt ?_;refine mq ?_;iterate 3 refine gn ?_
          refine pt ?_;refine mq ?_;iterate 3 refine gn ?_
          refine pt ?_;refine mq ?_;iterate 4 refine gn ?_
          refine pt ?_;refine mq ?_;iterate 4 refine gn ?_
          refine pt (nl ?_);exact jz ((), true) h [0]
         ·replace h := b_ifn (n_fn hb) h;refine gm ?_;refine gb (o_neq rfl) ?_;refine pf ?_;refine mq ?_;refine JO.bool (s := 299) rfl (fun hb => ?_) (fun hb => ?_)
          ·replace h := b_if (n_t hb) h;iterate 2 refine gn ?_
           refine pt ?_;refine mq ?_;iterate 2 refine gn ?_
           refine pt ?_;refine mq ?_;iterate 2 refine gn ?_
           refine pt ?_;refine mq ?_;iterate 2 refine gn ?_
           refine pt ?_;refine mq ?_;iterate 2 refine gn ?_
           refine pt ?_;refine mq ?_;iterate 3 refine gn ?_
           refine pt ?_;refine mq ?_;iterate 3 refine gn ?_
           refine pt ?_;refine mq ?_;iterate 4 refine gn ?_
           refine pt ?_;refine mq ?_;iterate 4 refine gn ?_
           refine pt (nl ?_);exact jz ((), true) h [0]
          ·replace h := b_ifn (n_fn hb) h;refine gm ?_;refine gb (o_neq rfl) ?_;refine pf ?_;refine mq ?_;refine JO.bool (s := 303) rfl (fun hb => ?_) (fun hb => ?_)
           ·replace h := b_if (n_t hb) h;iterate 2 refine gn ?_
            refine pt ?_;refine mq ?_;iterate 2 refine gn ?_
            refine pt ?_;refine mq ?_;iterate 2 refine gn ?_
            refine pt ?_;refine mq ?_;iterate 2 refine gn ?_
            refine pt ?_;refine mq ?_;iterate 3 refine gn ?_
            refine pt ?_;refine mq ?_;iterate 3 refine gn ?_
            refine pt ?_;refine mq ?_;iterate 4 refine gn ?_
            refine pt ?_;refine mq ?_;iterate 4 refine gn ?_
            refine pt (nl ?_);exact jz ((), true) h [0]
           ·replace h := b_ifn (n_fn hb) h;refine gm ?_;refine gb (o_neq rfl) ?_;refine pf ?_;refine mq ?_;refine JO.bool (s := 307) rfl (fun hb => ?_) (fun hb => ?_)
            ·replace h := b_if (n_t hb) h;iterate 2 refine gn ?_
             refine pt ?_;refine mq ?_;iterate 2 refine gn ?_
             refine pt ?_;refine mq ?_;iterate 2 refine gn ?_
             refine pt ?_;refine mq ?_;iterate 3 refine gn ?_
             refine pt ?_;refine mq ?_;iterate 3 refine gn ?_
             refine pt ?_;refine mq ?_;iterate 4 refine gn ?_
             refine pt ?_;refine mq ?_;iterate 4 refine gn ?_
             refine pt (nl ?_);exact jz ((), true) h [0]
            ·replace h := b_ifn (n_fn hb) h;refine gm ?_;refine gb (o_neq rfl) ?_;refine pf ?_;refine mq ?_;refine JO.bool (s := 311) rfl (fun hb => ?_) (fun hb => ?_)
             ·replace h := b_if (n_t hb) h;iterate 2 refine gn ?_
              refine pt ?_;refine mq ?_;iterate 2 refine gn ?_
              refine pt ?_;refine mq ?_;iterate 3 refine gn ?_
              refine pt ?_;refine mq ?_;iterate 3 refine gn ?_
              refine pt ?_;refine mq ?_;iterate 4 refine gn ?_
              refine pt ?_;refine mq ?_;iterate 4 refine gn ?_
              refine pt (nl ?_);exact jz ((), true) h [0]
             ·replace h := b_ifn (n_fn hb) h;refine gm ?_;refine gb (o_neq rfl) ?_;refine pf ?_;refine mq ?_;refine JO.bool (s := 315) rfl (fun hb => ?_) (fun hb => ?_)
              ·replace h := b_if (n_t hb) h;iterate 2 refine gn ?_
               refine pt ?_;refine mq ?_;iterate 3 refine gn ?_
               refine pt ?_;refine mq ?_;iterate 3 refine gn ?_
               refine pt ?_;refine mq ?_;iterate 4 refine gn ?_
               refine pt ?_;refine mq ?_;iterate 4 refine gn ?_
               refine pt (nl ?_);exact jz ((), true) h [0]
              ·replace h := b_ifn (n_fn hb) h;refine gm ?_;refine gb (o_neq rfl) ?_;refine pf ?_;refine mq ?_;refine JO.bool (s := 319) rfl (fun hb => ?_) (fun hb => ?_)
               ·replace h := b_if (n_t hb) h;iterate 3 refine gn ?_
                refine pt ?_;refine mq ?_;iterate 3 refine gn ?_
                refine pt ?_;refine mq ?_;iterate 4 refine gn ?_
                refine pt ?_;refine mq ?_;iterate 4 refine gn ?_
                refine pt (nl ?_);exact jz ((), true) h [0]
               ·replace h := b_ifn (n_fn hb) h;refine gm ?_;refine ga (o_len rfl rfl U22) ?_;refine gb (o_gtr rfl) ?_;refine pf ?_;refine mq ?_;refine JO.bool (s := 324) rfl (fun hb => ?_) (fun hb => ?_)
                ·replace h := b_if (d_t hb) h;iterate 3 refine gn ?_
                 refine pt ?_;refine mq ?_;iterate 4 refine gn ?_
                 refine pt ?_;refine mq ?_;iterate 4 refine gn ?_
                 refine pt (nl ?_);exact jz ((), true) h [0]
                ·replace h := b_ifn (d_f hb) h;refine gm ?_;refine ga (o_len rfl rfl U22) ?_;refine gb (o_gtr rfl) ?_;refine pf ?_;refine mq ?_;refine JO.bool (s := 329) rfl (fun hb => ?_) (fun hb => ?_)
                 ·replace h := b_if (d_t hb) h;iterate 4 refine gn ?_
                  refine pt ?_;refine mq ?_;iterate 4 refine gn ?_
                  refine pt (nl ?_);exact jz ((), true) h [0]
                 ·replace h := b_ifn (d_f hb) h;refine gm ?_;refine ga (o_litB (t := (.int .i64)) [(.const (.int .i64 (1)), _)] [(1 : Int)] rfl rfl sl22 (.cons rfl .int .nil) rfl rfl) ?_;obtain ⟨r75, er75, h⟩ := b_bind h;refine gb (o_call [.tmp 330, .tmp 331] rfl rfl en26 rfl (kit_SameInts_ok k r68.1 [(1 : Int)] r75 er75)) ?_;refine ga (o_not rfl) ?_;refine pf ?_;refine mq ?_;refine JO.bool (s := 335) rfl (fun hb => ?_) (fun hb => ?_)
                  ·replace h := b_if (nv_t hb) h;iterate 4 refine gn ?_
                   refine pt (nl ?_);exact jz ((), true) h [0]
                  ·replace h := b_ifn (nv_fn hb) h;refine gm ?_;refine ga (o_litB (t := (.int .i64)) [(.const (.int .i64 (1)), _)] [(1 : Int)] rfl rfl sl22 (.cons rfl .int .nil) rfl rfl) ?_;obtain ⟨r76, er76, h⟩ := b_bind h;refine gb (o_call [.tmp 336, .tmp 337] rfl rfl en26 rfl (kit_SameInts_ok k r70.1 [(1 : Int)] r76 er76)) ?_;refine ga (o_not rfl) ?_;refine pf (nl ?_);exact jz ((), !r76) h [0]
        ·refine cv h (fun h => ?_) (fun h => ?_)
         ·refine sr (cq (nt (rx ?_)));cases h;exact ra
         ·refine sk (sr (ja (o_litB (t := (.int .i64)) [(.const (.int .i64 (0)), _)] [(0 : Int)] rfl rfl sl22 (.cons rfl .int .nil) rfl rfl) ?_));refine ja (o_litB (t := (.int .i64)) [(.const (.int .i64 (2)), _)] [(2 : Int)] rfl rfl sl22 (.cons rfl .int .nil) rfl rfl) ?_;refine ja (o_litB (t := (.int .i64)) [(.const (.int .i64 (2)), _)] [(2 : Int)] rfl rfl sl22 (.cons rfl .int .nil) rfl rfl) ?_;refine jb (o_litB (t := (.int .i64)) [(.const (.int .i64 (1)), _), (.const (.int .i64 (2)), _)] [(1 : Int), (2 : Int)] rfl rfl sl22 (.cons rfl .int (.cons rfl .int .nil)) rfl rfl) ?_;refine JO.s rfl (o_litB (t := (.slice (.int .i64))) [(.tmp 341, _), (.const (.slice none 0 0), _), (.tmp 342, _), (.tmp 343, _), (.tmp 344, _)] [[(0 : Int)], [], [(2 : Int)], [(2 : Int)], [(1 : Int), (2 : Int)]] rfl rfl sl48 (.cons rfl .rep (.cons rfl .nil (.cons rfl .rep (.cons rfl .rep (.cons rfl .rep .nil))))) rfl rfl) ⟨rfl, rfl, rfl, rfl, rfl, trivial⟩ ?_;refine aq (nt ?_);refine JC.cutE (Z := Unit) (α := Unit) (fun z78 x77 => [(1, Pt b9)]) (fun z78 x77 => [.obj b9 26 (.agg (.pair (Rs tThing x31.1) (.pair (Rs tDresser r1.2.1) (.pair (Ri r1.2.2.1) (Ri r1.2.2.2)))))]) (fun e => e = r) h (fun e h => Option.some.inj h) (fun K hR h => ?_) (fun z78 x77 h => ?_)
          ·refine sr (cq (nt (JC.block ?_)));refine JC.loopB (Z := Unit) (α := Int) (fun z80 y79 => [(1, Pt b9), (36, .rep (.slice (.slice (.int .i64))) [[(0 : Int)], [], [(2 : Int)], [(2 : Int)], [(1 : Int), (2 : Int)]]), (37, I y79)]) (fun z80 y79 => [.obj b9 26 (.agg (.pair (Rs tThing x31.1) (.pair (Rs tDresser r1.2.1) (.pair (Ri r1.2.2.1) (Ri r1.2.2.2)))))]) (law_ChangeKnown_l2 k r1 x31) k () (0 : Int) (fun _ => rfl) h (SE.fin [0] ⟨rfl, rfl, rfl, trivial⟩ rfl) (fun n z80 y79 h => ?_);unfold law_ChangeKnown_l2 at h;refine JC.seq (sr ?_);iterate 2 refine mq ?_
           refine ol U48 ?_;refine jb (o_lss rfl) ?_;refine nt (ci h (fun h => ?_) (fun h => ?_))
           ·refine sk (JC.seq (JC.block (JC.seq (JC.drawN ?_))));refine ea 0 (o_load_obj rfl sz26 (nfn) rfl) ?_;obtain ⟨r81, er81, h⟩ := b_bind h;refine DN.s00 rfl rfl rfl (o_call [] rfl rfl en16 rfl (law_first_ok k  r81 er81)) trivial ?_;refine dm ?_;obtain ⟨r82, er82, h⟩ := b_bind h;refine dc (OpT.need (N := [(.tmp 353, .agg (.pair (Rs tThing x31.1) (.pair (Rs tDresser r1.2.1) (.pair (Ri r1.2.2.1) (Ri r1.2.2.2))))), (.tmp 354, Rs tStep r81), (.tmp 355, I y79)]) (o_call [.tmp 353, .tmp 354, .tmp 355] rfl rfl en27 rfl (chg_Wearing_ok k (x31.1, r1.2.1, r1.2.2.1, r1.2.2.2) r81 y79 r82 er82)) fun _ _ _ hn => ⟨(ent_holds (t := tChange) (x := (x31.1, r1.2.1, r1.2.2.1, r1.2.2.2)) (.agg (.pair .rep (.pair .rep (.pair .rep .rep)))) trivial rfl hn.1), hn.2.1, hn.2.2.1, trivial⟩) ?_;refine dm ?_;refine da (o_extract rfl rfl) ?_;refine da (o_extract rfl rfl) ?_;refine da (o_assign rfl) ?_;refine df mixed ?_;refine aq (nt ?_);refine JC.cutB (Z := Unit) (α := Bool) (fun z84 x83 => [(1, Pt b9), (36, .rep (.slice (.slice (.int .i64))) [[(0 : Int)], [], [(2 : Int)], [(2 : Int)], [(1 : Int), (2 : Int)]]), (37, I y79), (369, .eq (.bool x83))]) (fun z84 x83 => [.obj b9 26 (.agg (.pair (Rs tThing x31.1) (.pair (Rs tDresser r1.2.1) (.pair (Ri r1.2.2.1) (Ri r1.2.2.2)))))]) h (fun K h => ?_) (fun z84 x83 h => ?_)
            ·refine JC.region (mq ?_);refine jb (o_neq rfl) ?_;refine mq ?_;refine JO.bool (s := 361) rfl (fun hb => ?_) (fun hb => ?_)
             ·replace h := b_if (n_t hb) h;iterate 7 refine gn ?_
              refine pt (nl ?_);exact jz ((), true) h [0]
             ·replace h := b_ifn (n_fn hb) h;refine gm ?_;refine gm ?_;refine gm ?_;obtain ⟨x85, ex85, h⟩ := b_bind h;refine gb (o_index (t := (.slice (.int .i64))) rfl U48 sz22 ex85) ?_;refine ga (o_load_at (t := (.slice (.int .i64))) rfl sz22 rfl) ?_;obtain ⟨r86, er86, h⟩ := b_bind h;refine gb (o_call [.tmp 362, .tmp 366] rfl rfl en26 rfl (kit_SameInts_ok k r82.1 x85 r86 er86)) ?_;refine ga (o_not rfl) ?_;refine pf (nl ?_);exact jz ((), !r86) h [0]
            ·refine cv h (fun h => ?_) (fun h => ?_)
             ·refine sr (cq (nt (JC.ret (br (JN.blk_r (JN.then_r ?_))))));obtain rfl := hR _ h;exact ra
             ·refine JC.skip (JN.blk_n (tn (JC.region (mq ?_))));obtain ⟨x87, ex87, h⟩ := b_bind h;refine jb (o_add rfl ex87) ?_;refine aq (nl ?_);exact jz ((), x87) h [0]
           ·refine xa ?_;exact jz ((), ()) h [0]
          ·refine sr (lo sz26 ?_);refine lo sz26 ?_;refine jb (o_litB (t := tChange) [(.tmp 371, _), (.tmp 372, _)] [(x31.1, r1.2.1, r1.2.2.1, r1.2.2.2), (x31.1, r1.2.1, r1.2.2.1, r1.2.2.2)] rfl rfl sl74 (.cons trivial (.agg (.pair .rep (.pair .rep (.pair .rep .rep)))) (.cons trivial (.agg (.pair .rep (.pair .rep (.pair .rep .rep)))) .nil)) rfl rfl) ?_;refine ja (o_litB (t := (.int .i64)) [(.const (.int .i64 (2)), _)] [(2 : Int)] rfl rfl sl22 (.cons rfl .int .nil) rfl rfl) ?_;obtain ⟨r88, er88, h⟩ := b_bind h;refine jb (o_call [.tmp 373, .tmp 374] rfl rfl en28 rfl (chg_Through_ok k [(x31.1, r1.2.1, r1.2.2.1, r1.2.2.2), (x31.1, r1.2.1, r1.2.2.1, r1.2.2.2)] [(2 : Int)] r88 er88)) ?_;refine mq ?_;refine xr ?_;refine xr ?_;refine aq ?_;refine aq (nt ?_);refine JC.cutB (Z := Unit) (α := Bool) (fun z90 x89 => [(0, .eq (.bool x89))]) (fun z90 x89 => []) h (fun K h => ?_) (fun z90 x89 h => ?_)
           ·refine JC.region (mq ?_);refine jb (o_eql rfl) ?_;refine mq ?_;refine JO.bool (s := 380) rfl (fun hb => ?_) (fun hb => ?_)
            ·replace h := b_if (d_t hb) h;refine gm ?_;refine gb (o_litB (t := (.int .i64)) [(.const (.int .i64 (4)), _), (.const (.int .i64 (10)), _)] [(4 : Int), (10 : Int)] rfl rfl sl22 (.cons rfl .int (.cons rfl .int .nil)) rfl rfl) ?_;obtain ⟨r91, er91, h⟩ := b_bind h;refine gb (o_call [.tmp 381, .tmp 382] rfl rfl en26 rfl (kit_SameInts_ok k r88.1 [(4 : Int), (10 : Int)] r91 er91)) ?_;refine pt ?_;refine aq (nl ?_);exact jz ((), r91) h []
            ·replace h := b_ifn (d_f hb) h;iterate 3 refine gn ?_
             refine pf ?_;refine aq (nl ?_);exact jz ((), false) h []
           ·refine JC.ret ?_;cases h;exact ra


end Go.Proofs.Ytopgphikdglphaa

/- Plain law: the chapter's examples. -/
namespace Go.Proofs.Ytopgphikdglphaa
open K Go Go.Proofs

/-- **The chapter's examples.** -/
theorem known_law : law_ChangeKnown 200 = some true := by decide +kernel
end Go.Proofs.Ytopgphikdglphaa
