import Derived.Test.YtmeojbemjkmebaaGreatDoorRDB12
import Derived.Test.YtmeojbemjkmebaaGreatDoorBestsL
import Derived.Test.YtmeojbemjkmebaaGreatDoorRows
import Derived.Test.YtmeojbemjkmebaaGreatDoorBestsT
import Derived.LaidLaws
import Derived.LaidHandle
import Derived.ChangeSame
import Derived.ChangeVars
import Derived.JoinedOf
import Derived.RowKit
import Derived.RowKitTokens
import Derived.Stop.Joined
import Derived.Test.YtmeojbemjkmebaaGreatDoorTie
import Derived.Test.YtmeojbemjkmebaaGreatDoorCards
import Derived.SevenTiedAt
set_option linter.unusedSimpArgs false
set_option linter.unusedVariables false
namespace Go.Proofs.YtmeojbemjkmebaaGreatDoor
open K Go Go.Proofs Go.ChangeShapes Go.WideShapes Go.ChangeAt Go.RowKit
theorem CG:kC 3000=some true:=by decide+kernel
theorem et:Tryz.prog.globalNamed "errors.errorType" =some 0:=by kernel_rfl
theorem rt:(Tryz.prog.cutTypes.find? (·.1 == "internal/reflectlite.rtype")).map (·.2)=some 221:=by kernel_rfl
theorem P2:Tryz.prog.types.size=291:=by kernel_rfl
theorem NR:((List.range 291).filter fun t=>Tryz.prog.rowNamed t [101,114,114,111,114])=[94]:=by kernel_rfl
theorem vY{W:World}(h:laidMetH Tryz.prog Rows.trunkBestsRow.laid W):W.cell? ⟨0,0,none⟩=some sU:=by
 have h':laidMet Tryz.prog [] W∧handlesMet Tryz.prog Rows.trunkBestsRow.laid W:=h;obtain⟨name,u,ty,e1,e2,e3,e4,e5⟩:=h'.2 _ (List.mem_singleton.2 rfl);have en:name=[101,114,114,111,114]:=(Option.some.inj e1).symm;subst en;obtain rfl:=Option.some.inj (rt.symm.trans e2);have hm:ty∈(List.range 291).filter fun t=>Tryz.prog.rowNamed t [101,114,114,111,114]:=List.mem_filter.2 ⟨List.mem_range.2 (by rw [←P2];exact e3),e4⟩;rw [NR] at hm;obtain rfl:=List.mem_singleton.1 hm;have hh:typeHandle Tryz.prog 94=hd 94:=by kernel_rfl
 rw [hh] at e5;simpa using World.var?_cell et e5 0
theorem NF{W:World}(hs:W.ShapedOpen Tryz.prog)(h:W.cell? ⟨0,0,none⟩=some sU):W.heap[0]? =some (.cells #[sU] 186 (0,0)):=by
 obtain⟨cs,h1,h2,_⟩:=hs.1 0 #[.nilIface] 186 (Nat.lt_of_lt_of_eq (by decide:0 < 2) (show 2=Tryz.prog.globals.size by kernel_rfl)) (by kernel_rfl);have h3:cs[0]? =some sU:=by simpa [World.cell?,h1] using h
 have h4:cs= #[sU]:=by
  apply Array.ext';match cs,h2,h3 with
  |⟨[a]⟩,_,h3=>simpa using h3
 rw [h1,h4]
theorem aT{a b:Bool}(h:a=true)(h':b=true):(a && b)=true:=by rw [h,h'];rfl
theorem j6:joinedFacts Tryz.prog 5 Tryz.f5 Rows.trunkBestsSpec Rows.trunkBestsRow=true:=by
 unfold joinedFacts;exact(aT (aT (aT (aT (aT (aT (aT (aT (aT (aT (aT (aT (aT (aT (aT (aT (aT (aT (aT (aT (aT (aT (aT (aT (aT (aT (aT (aT (aT (aT (aT TD TC) TB) TA) Tz) Tv) Tt) To) Tn) Tm) QG) QF) QE) QD) QC) QB) QA) Qz) Qy) Qx) Qw) Qv) Qu) Qs) Qq) Qp) Qo) Qn) (by kernel_rfl)) Qm) Ql) Qk)
theorem own:ownKnob Tryz.prog.godebug=none:=by kernel_rfl
theorem laid:laidOutB Tryz.prog=true:=by kernel_rfl
noncomputable def xF (os:Os):World:=
 let w0:=World.holding Tryz.prog os ⟨#[], #[],[]⟩
 { w0 with heap:=w0.heap.modify 0 fun
  | .cells _ t frozen=>.cells #[sU] t frozen
  |o=>o }
theorem wX(os:Os)(args:Array Value):laidMetH Tryz.prog Rows.trunkBestsRow.laid ((xF os).forCall (fun _ _=>0) ⟨#[],args,[]⟩).memory:=
 laidMetH_of_parts (laidMet_nil _ _) (by kernel_rfl)
theorem Dt:Tryz.prog.cellsOf 3=1:=by kernel_rfl
theorem EA:Tryz.prog.cellsOf 22=1:=by kernel_rfl
theorem LS:Tryz.prog.cellsOf 25=1:=by kernel_rfl
theorem LR:Tryz.prog.cellsOf 35=2:=by kernel_rfl
theorem NZ:MT Tryz.prog (.slice (.int .i64)) (.inl 22):=⟨3,Tryz.underlying22,Dt,Tryz.underlying3⟩
theorem Qf:MT Tryz.prog aJ (.inl 35):=⟨_,Tryz.underlying35,by kernel_rfl,rfl,Dt,Tryz.underlying3,.inl ⟨_,rfl,rfl,EA,NZ⟩⟩
theorem S9:MT Tryz.prog (.slice aJ) (.inl 25):=⟨35,Tryz.underlying25,LR,Qf⟩
theorem S8:MT Tryz.prog ak (.inl 27):=⟨_,Tryz.underlying27,by kernel_rfl,rfl,Dt,Tryz.underlying3,.inr ⟨rfl,LS,S9,.inl ⟨_,rfl,rfl,EA,NZ⟩⟩⟩
theorem SY:Tryz.prog.readableRec 27=true∧27 < Tryz.prog.types.size:=⟨by kernel_rfl,of_decide_eq_true (by kernel_rfl)⟩
theorem SX:Tryz.prog.readableRec 35=true∧35 < Tryz.prog.types.size:=⟨by kernel_rfl,of_decide_eq_true (by kernel_rfl)⟩
theorem SZ:Tryz.prog.readableRec 22=true∧22 < Tryz.prog.types.size:=⟨by kernel_rfl,of_decide_eq_true (by kernel_rfl)⟩
set_option maxRecDepth 100000 in
theorem lifted(os:Os)(started:os.Started)(H:Type)(enc:TypeId×Value→H):
 ReturnsInLeavingWide {} Tryz.checked os 5 .any (fun w args=>(Rows.trunkBestsSpec.pre enc Tryz.prog Tryz.f5 [] false w args∧laidMetH Tryz.prog Rows.trunkBestsRow.laid w)∧sizedMet enc Tryz.prog Tryz.f5 (OpenSpec.ofChange Rows.trunkBestsSpec) false w args) (Rows.trunkBestsSpec.post enc Tryz.prog Tryz.f5 false true false false):=by
 refine yN (C:=Tryz.checked) (X:=fun w=>laidMetH Tryz.prog Rows.trunkBestsRow.laid w) (fun _ _ hh h=>h.of_heap hh) own started Tryz.func5
  (ChangeSpec.witness_at (enc:=enc) (C:=Tryz.checked) (os:=os) (X:=fun w _=>laidMetH Tryz.prog Rows.trunkBestsRow.laid w) false (xF os) #[.agg #[.int .i64 0,.slice none 0 0,.slice none 0 0],.agg #[.int .i64 0,.slice none 0 0],.slice none 0 0] 8 rfl (by kernel_rfl) (by kernel_rfl) (by kernel_rfl) (by kernel_rfl) (by kernel_rfl) (wX os _)) ?_
 intro W base args ds gs before hsh hval hW hL _
 refine J9 (by kernel_rfl) ?_
 refine A7 (b0:=0) (c0:= #[sU]) (T0:=186) (p0:=f4) (s:=Rows.trunkBestsSpec) (fun o=>Iff.rfl) (fun v hv=>by simp at hv;subst hv;rfl) [(27,ak),(35,aJ),(22,(.slice (.int .i64)))] (fun p hp=>by simp only [List.mem_cons,List.not_mem_nil,or_false] at hp;rcases hp with rfl |rfl |rfl <;> rfl) (by rw [Tryz.params5];rfl) rfl Tryz.underlying4 ?_ laid ?_ ?_ rfl ?_ W base args ds gs before (NF hsh (vY hL)) hval hW
 ·
  intro p hp;simp only [List.mem_cons,List.not_mem_nil,or_false] at hp;rcases hp with rfl |rfl |rfl
  ·exact S8
  ·exact Qf
  ·exact NZ
 ·
  intro T hT;simp only [List.map_cons,List.map_nil,List.mem_cons,List.not_mem_nil,or_false] at hT;rcases hT with rfl |rfl |rfl
  ·exact SY
  ·exact SX
  ·exact SZ
 ·
  rintro ds hd;obtain⟨d0,ds,rfl⟩:=List.exists_cons_of_length_eq_add_one (by simpa using hd:ds.length=2+1);obtain⟨d1,ds,rfl⟩:=List.exists_cons_of_length_eq_add_one (by simpa using hd:ds.length=1+1);obtain⟨d2,ds,rfl⟩:=List.exists_cons_of_length_eq_add_one (by simpa using hd:ds.length=0+1);have:ds=[]:=List.eq_nil_of_length_eq_zero (by simpa using hd);subst this;rfl
 ·
  rintro l ⟨a0,l0,rfl,a1,l1,rfl,a2,l2,rfl,rfl⟩;exact sM 3000 a0 a1 a2 true (uI (by decide) (by decide) CG a0 a1 a2)
theorem wO:Rows.TrunkBestsSaid:=
 OpenClaim.holds_of_wide_leaving 5 Tryz.f5 rfl rfl rfl rfl rfl rfl rfl ⟨rfl,rfl,rfl,rfl,rfl⟩ rfl rfl rfl rfl rfl (by kernel_rfl) Tryz.func5 j6
  (of_decide_eq_true (by kernel_rfl)) (by unfold Func.isWrapper;rw [if_neg (by decide+kernel)];exact⟨rfl,rfl⟩)
  (fun os started H enc _=>lifted os started H enc)
theorem OQ:Tryz.prog.mainIs=some (Rows.trunkBestsCard.stood.harness.1,Rows.trunkBestsCard.stood.harness.2.toList):=by kernel_rfl
theorem LV:true=Tryz.prog.looks []:=by kernel_rfl
theorem LU:Tryz.prog.funcNamed Rows.trunkBestsRow.func=some 5:=by kernel_rfl
theorem Jk:Tryz.prog.wantsStandIn 27=false:=by kernel_rfl
theorem Jj:Tryz.prog.wantsStandIn 35=false:=by kernel_rfl
theorem Jl:Tryz.prog.wantsStandIn 22=false:=by kernel_rfl
theorem OO(t:TypeId)(h:t=27∨t=35∨t=22):Tryz.prog.wantsStandIn t=false:=by
 rcases h with rfl |rfl |rfl
 ·exact Jk
 ·exact Jj
 ·exact Jl
theorem OP:Rows.trunkBestsRow.wfByText (OpenSpec.ofChange Rows.trunkBestsSpec)=true:=by kernel_rfl
theorem OR:true=Rows.trunkBestsRow.goesBy Tryz.prog:=by kernel_rfl
theorem trunk_bests_holds:Rows.TrunkBestsCardSaid:=
 ⟨(Claim7.holdsOne_goes _ _ { Rows.trunkBestsCard with goes:=false } true).2 (Claim7.tied_new_at .later [.handle] true (Claim7.new_of_sixth wO Rows.trunkBestsCard.stood.harness true rfl ⟨rfl,rfl⟩ OQ rfl
  (fun f fn hf hfn=>by
   obtain rfl:f=5:=Option.some.inj (LU.symm.trans hf) |>.symm
   obtain rfl:fn=Tryz.f5:=(Option.some.inj (Tryz.func5.symm.trans hfn)).symm
   exact⟨LV,fun j t ht=>by
    rw [Tryz.params5] at ht
    have h3:=Array.mem_of_getElem? ht
    simp only [List.mem_toArray,List.mem_cons,List.not_mem_nil,or_false] at h3
    exact OO t h3⟩)) OP),(fun _ hD=>(nomatch hD)),trunkBests_row_tie,(fun h=>(nomatch h)),OR⟩
end Go.Proofs.YtmeojbemjkmebaaGreatDoor
