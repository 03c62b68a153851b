import Derived.Test.YtmeojbemjkmebaaGreatDoorREB12
import Derived.Test.YtmeojbemjkmebaaGreatDoorSwapsL
import Derived.Test.YtmeojbemjkmebaaGreatDoorRows
import Derived.Test.YtmeojbemjkmebaaGreatDoorSwapsT
import Derived.LaidLaws
import Derived.LaidHandle
import Derived.ChangeSame
import Derived.ChangeVars
import Derived.JoinedOf
import Derived.RowKit
import Derived.RowKitTokens
import Derived.Stop.Joined
import Derived.Test.YtmeojbemjkmebaaGreatDoorTie
import Derived.Test.YtmeojbemjkmebaaGreatDoorCards
import Derived.SevenTiedAt
set_option linter.unusedSimpArgs false
set_option linter.unusedVariables false
namespace Go.Proofs.YtmeojbemjkmebaaGreatDoor
open K Go Go.Proofs Go.ChangeShapes Go.WideShapes Go.ChangeAt Go.RowKit
theorem Hl:kH 50=some true:=by decide+kernel
theorem et:Tryz.prog.globalNamed "errors.errorType" =some 0:=by kernel_rfl
theorem rt:(Tryz.prog.cutTypes.find? (·.1 == "internal/reflectlite.rtype")).map (·.2)=some 221:=by kernel_rfl
theorem PL:Tryz.prog.types.size=291:=by kernel_rfl
theorem NE:((List.range 291).filter fun t=>Tryz.prog.rowNamed t [101,114,114,111,114])=[94]:=by kernel_rfl
theorem vM{W:World}(h:laidMetH Tryz.prog Rows.trunkSwapsRow.laid W):W.cell? ⟨0,0,none⟩=some sA:=by
 have h':laidMet Tryz.prog [] W∧handlesMet Tryz.prog Rows.trunkSwapsRow.laid W:=h;obtain⟨name,u,ty,e1,e2,e3,e4,e5⟩:=h'.2 _ (List.mem_singleton.2 rfl);have en:name=[101,114,114,111,114]:=(Option.some.inj e1).symm;subst en;obtain rfl:=Option.some.inj (rt.symm.trans e2);have hm:ty∈(List.range 291).filter fun t=>Tryz.prog.rowNamed t [101,114,114,111,114]:=List.mem_filter.2 ⟨List.mem_range.2 (by rw [←PL];exact e3),e4⟩;rw [NE] at hm;obtain rfl:=List.mem_singleton.1 hm;have hh:typeHandle Tryz.prog 94=hd 94:=by kernel_rfl
 rw [hh] at e5;simpa using World.var?_cell et e5 0
theorem Nv{W:World}(hs:W.ShapedOpen Tryz.prog)(h:W.cell? ⟨0,0,none⟩=some sA):W.heap[0]? =some (.cells #[sA] 186 (0,0)):=by
 obtain⟨cs,h1,h2,_⟩:=hs.1 0 #[.nilIface] 186 (Nat.lt_of_lt_of_eq (by decide:0 < 2) (show 2=Tryz.prog.globals.size by kernel_rfl)) (by kernel_rfl);have h3:cs[0]? =some sA:=by simpa [World.cell?,h1] using h
 have h4:cs= #[sA]:=by
  apply Array.ext';match cs,h2,h3 with
  |⟨[a]⟩,_,h3=>simpa using h3
 rw [h1,h4]
theorem aT{a b:Bool}(h:a=true)(h':b=true):(a && b)=true:=by rw [h,h'];rfl
theorem j6:joinedFacts Tryz.prog 6 Tryz.f6 Rows.trunkSwapsSpec Rows.trunkSwapsRow=true:=by
 unfold joinedFacts;exact(aT (aT (aT (aT (aT (aT (aT (aT (aT (aT (aT (aT (aT (aT (aT (aT (aT (aT (aT (aT (aT (aT (aT (aT (aT (aT (aT (aT (aT (aT (aT Tm Tj) Ti) Tf) Td) Ta) S9) S8) S7) S5) Qo) Qn) Qm) Ql) Qk) Qj) Qi) Qh) Qg) Qf) Qe) Qd) Qc) Qb) Qa) P9) P8) P7) (by kernel_rfl)) P6) P5) P4)
theorem own:ownKnob Tryz.prog.godebug=none:=by kernel_rfl
theorem laid:laidOutB Tryz.prog=true:=by kernel_rfl
noncomputable def xx (os:Os):World:=
 let w0:=World.holding Tryz.prog os ⟨#[], #[],[]⟩
 { w0 with heap:=w0.heap.modify 0 fun
  | .cells _ t frozen=>.cells #[sA] t frozen
  |o=>o }
theorem wP(os:Os)(args:Array Value):laidMetH Tryz.prog Rows.trunkSwapsRow.laid ((xx os).forCall (fun _ _=>0) ⟨#[],args,[]⟩).memory:=
 laidMetH_of_parts (laidMet_nil _ _) (by kernel_rfl)
theorem Dk:Tryz.prog.cellsOf 3=1:=by kernel_rfl
theorem yS:Tryz.prog.cellsOf 22=1:=by kernel_rfl
theorem LJ:Tryz.prog.cellsOf 25=1:=by kernel_rfl
theorem LI:Tryz.prog.cellsOf 35=2:=by kernel_rfl
theorem KQ:MT Tryz.prog (.slice (.int .i64)) (.inl 22):=⟨3,Tryz.underlying22,Dk,Tryz.underlying3⟩
theorem PZ:MT Tryz.prog aH (.inl 35):=⟨_,Tryz.underlying35,by kernel_rfl,rfl,Dk,Tryz.underlying3,.inl ⟨_,rfl,rfl,yS,KQ⟩⟩
theorem SS:MT Tryz.prog (.slice aH) (.inl 25):=⟨35,Tryz.underlying25,LI,PZ⟩
theorem SR:MT Tryz.prog ao (.inl 27):=⟨_,Tryz.underlying27,by kernel_rfl,rfl,Dk,Tryz.underlying3,.inr ⟨rfl,LJ,SS,.inl ⟨_,rfl,rfl,yS,KQ⟩⟩⟩
theorem SQ:MT Tryz.prog (.slice (.slice (.int .i64))) (.inl 28):=⟨22,Tryz.underlying28,yS,KQ⟩
theorem SJ:Tryz.prog.readableRec 27=true∧27 < Tryz.prog.types.size:=⟨by kernel_rfl,of_decide_eq_true (by kernel_rfl)⟩
theorem SH:Tryz.prog.readableRec 35=true∧35 < Tryz.prog.types.size:=⟨by kernel_rfl,of_decide_eq_true (by kernel_rfl)⟩
theorem SI:Tryz.prog.readableRec 28=true∧28 < Tryz.prog.types.size:=⟨by kernel_rfl,of_decide_eq_true (by kernel_rfl)⟩
theorem SK:Tryz.prog.readableRec 22=true∧22 < Tryz.prog.types.size:=⟨by kernel_rfl,of_decide_eq_true (by kernel_rfl)⟩
set_option maxRecDepth 100000 in
theorem lifted(os:Os)(started:os.Started)(H:Type)(enc:TypeId×Value→H):
 ReturnsInLeavingWide {} Tryz.checked os 6 .any (fun w args=>(Rows.trunkSwapsSpec.pre enc Tryz.prog Tryz.f6 [] false w args∧laidMetH Tryz.prog Rows.trunkSwapsRow.laid w)∧sizedMet enc Tryz.prog Tryz.f6 (OpenSpec.ofChange Rows.trunkSwapsSpec) false w args) (Rows.trunkSwapsSpec.post enc Tryz.prog Tryz.f6 false true false false):=by
 refine yF (C:=Tryz.checked) (X:=fun w=>laidMetH Tryz.prog Rows.trunkSwapsRow.laid w) (fun _ _ hh h=>h.of_heap hh) own started Tryz.func6
  (ChangeSpec.witness_at (enc:=enc) (C:=Tryz.checked) (os:=os) (X:=fun w _=>laidMetH Tryz.prog Rows.trunkSwapsRow.laid w) false (xx os) #[.agg #[.int .i64 0,.slice none 0 0,.slice none 0 0],.agg #[.int .i64 0,.slice none 0 0],.slice none 0 0,.slice none 0 0] 8 rfl (by kernel_rfl) (by kernel_rfl) (by kernel_rfl) (by kernel_rfl) (by kernel_rfl) (wP os _)) ?_
 intro W base args ds gs before hsh hval hW hL _
 refine JY (by kernel_rfl) ?_
 refine A2 (b0:=0) (c0:= #[sA]) (T0:=186) (p0:=eM) (s:=Rows.trunkSwapsSpec) (fun o=>Iff.rfl) (fun v hv=>by simp at hv;subst hv;rfl) [(27,ao),(35,aH),(28,(.slice (.slice (.int .i64)))),(22,(.slice (.int .i64)))] (fun p hp=>by simp only [List.mem_cons,List.not_mem_nil,or_false] at hp;rcases hp with rfl |rfl |rfl |rfl <;> rfl) (by rw [Tryz.params6];rfl) rfl Tryz.underlying4 ?_ laid ?_ ?_ rfl ?_ W base args ds gs before (Nv hsh (vM hL)) hval hW
 ·
  intro p hp;simp only [List.mem_cons,List.not_mem_nil,or_false] at hp;rcases hp with rfl |rfl |rfl |rfl
  ·exact SR
  ·exact PZ
  ·exact SQ
  ·exact KQ
 ·
  intro T hT;simp only [List.map_cons,List.map_nil,List.mem_cons,List.not_mem_nil,or_false] at hT;rcases hT with rfl |rfl |rfl |rfl
  ·exact SJ
  ·exact SH
  ·exact SI
  ·exact SK
 ·
  rintro ds hd;obtain⟨d0,ds,rfl⟩:=List.exists_cons_of_length_eq_add_one (by simpa using hd:ds.length=3+1);obtain⟨d1,ds,rfl⟩:=List.exists_cons_of_length_eq_add_one (by simpa using hd:ds.length=2+1);obtain⟨d2,ds,rfl⟩:=List.exists_cons_of_length_eq_add_one (by simpa using hd:ds.length=1+1);obtain⟨d3,ds,rfl⟩:=List.exists_cons_of_length_eq_add_one (by simpa using hd:ds.length=0+1);have:ds=[]:=List.eq_nil_of_length_eq_zero (by simpa using hd);subst this;rfl
 ·
  rintro l ⟨a0,l0,rfl,a1,l1,rfl,a2,l2,rfl,a3,l3,rfl,rfl⟩;exact sd 50 a0 a1 a2 a3 true (uo (by decide) (by decide) Hl a0 a1 a2 a3)
theorem wG:Rows.TrunkSwapsSaid:=
 OpenClaim.holds_of_wide_leaving 6 Tryz.f6 rfl rfl rfl rfl rfl rfl rfl ⟨rfl,rfl,rfl,rfl,rfl⟩ rfl rfl rfl rfl rfl (by kernel_rfl) Tryz.func6 j6
  (of_decide_eq_true (by kernel_rfl)) (by unfold Func.isWrapper;rw [if_neg (by decide+kernel)];exact⟨rfl,rfl⟩)
  (fun os started H enc _=>lifted os started H enc)
theorem OB:Tryz.prog.mainIs=some (Rows.trunkSwapsCard.stood.harness.1,Rows.trunkSwapsCard.stood.harness.2.toList):=by kernel_rfl
theorem LL:true=Tryz.prog.looks []:=by kernel_rfl
theorem LK:Tryz.prog.funcNamed Rows.trunkSwapsRow.func=some 6:=by kernel_rfl
theorem I9:Tryz.prog.wantsStandIn 27=false:=by kernel_rfl
theorem I7:Tryz.prog.wantsStandIn 35=false:=by kernel_rfl
theorem I8:Tryz.prog.wantsStandIn 28=false:=by kernel_rfl
theorem Jb:Tryz.prog.wantsStandIn 22=false:=by kernel_rfl
theorem Oz(t:TypeId)(h:t=27∨t=35∨t=28∨t=22):Tryz.prog.wantsStandIn t=false:=by
 rcases h with rfl |rfl |rfl |rfl
 ·exact I9
 ·exact I7
 ·exact I8
 ·exact Jb
theorem OA:Rows.trunkSwapsRow.wfByText (OpenSpec.ofChange Rows.trunkSwapsSpec)=true:=by kernel_rfl
theorem OC:true=Rows.trunkSwapsRow.goesBy Tryz.prog:=by kernel_rfl
theorem trunk_swaps_holds:Rows.TrunkSwapsCardSaid:=
 ⟨(Claim7.holdsOne_goes _ _ { Rows.trunkSwapsCard with goes:=false } true).2 (Claim7.tied_new_at .later [.handle] true (Claim7.new_of_sixth wG Rows.trunkSwapsCard.stood.harness true rfl ⟨rfl,rfl⟩ OB rfl
  (fun f fn hf hfn=>by
   obtain rfl:f=6:=Option.some.inj (LK.symm.trans hf) |>.symm
   obtain rfl:fn=Tryz.f6:=(Option.some.inj (Tryz.func6.symm.trans hfn)).symm
   exact⟨LL,fun j t ht=>by
    rw [Tryz.params6] at ht
    have h3:=Array.mem_of_getElem? ht
    simp only [List.mem_toArray,List.mem_cons,List.not_mem_nil,or_false] at h3
    exact Oz t h3⟩)) OA),(fun _ hD=>(nomatch hD)),trunkSwaps_row_tie,(fun h=>(nomatch h)),OC⟩
end Go.Proofs.YtmeojbemjkmebaaGreatDoor
