import Derived.Test.YtddneonghpmidaaGreatDoorFewsL
import Derived.Test.YtddneonghpmidaaGreatDoorFewsT
import Derived.LaidLaws
import Derived.LaidHandle
import Derived.ChangeVars
import Derived.RowKit
import Derived.RowKitTokens
import Derived.Stop.Joined
import Derived.Test.YtddneonghpmidaaGreatDoorTie
import Derived.Test.YtddneonghpmidaaGreatDoorCards
import Derived.SevenTiedAt
set_option linter.unusedSimpArgs false
set_option linter.unusedVariables false
namespace Go.Proofs.YtddneonghpmidaaGreatDoor
open K Go Go.Proofs Go.ChangeShapes Go.WideShapes Go.ChangeAt Go.RowKit
theorem Df:kH 3000=some true:=by decide+kernel
theorem et:Tryz.prog.globalNamed "errors.errorType" =some 0:=by kernel_rfl
theorem rt:(Tryz.prog.cutTypes.find? (·.1 == "internal/reflectlite.rtype")).map (·.2)=some 210:=by kernel_rfl
theorem Qo:Tryz.prog.types.size=279:=by kernel_rfl
theorem Oh:((List.range 279).filter fun t=>Tryz.prog.rowNamed t [101,114,114,111,114])=[118]:=by kernel_rfl
theorem wz{W:World}(h:laidMetH Tryz.prog Rows.trunkFewsRow.laid W):W.cell? ⟨0,0,none⟩=some td:=by
 have h':laidMet Tryz.prog [] W∧handlesMet Tryz.prog Rows.trunkFewsRow.laid W:=h;obtain⟨name,u,ty,e1,e2,e3,e4,e5⟩:=h'.2 _ (List.mem_singleton.2 rfl);have en:name=[101,114,114,111,114]:=(Option.some.inj e1).symm;subst en;obtain rfl:=Option.some.inj (rt.symm.trans e2);have hm:ty∈(List.range 279).filter fun t=>Tryz.prog.rowNamed t [101,114,114,111,114]:=List.mem_filter.2 ⟨List.mem_range.2 (by rw [←Qo];exact e3),e4⟩;rw [Oh] at hm;obtain rfl:=List.mem_singleton.1 hm;have hh:typeHandle Tryz.prog 118=hd 118:=by kernel_rfl
 rw [hh] at e5;simpa using World.var?_cell et e5 0
theorem N7{W:World}(hs:W.ShapedOpen Tryz.prog)(h:W.cell? ⟨0,0,none⟩=some td):W.heap[0]? =some (.cells #[td] 176 (0,0)):=by
 obtain⟨cs,h1,h2,_⟩:=hs.1 0 #[.nilIface] 176 (Nat.lt_of_lt_of_eq (by decide:0 < 2) (show 2=Tryz.prog.globals.size by kernel_rfl)) (by kernel_rfl);have h3:cs[0]? =some td:=by simpa [World.cell?,h1] using h
 have h4:cs= #[td]:=by
  apply Array.ext';match cs,h2,h3 with
  |⟨[a]⟩,_,h3=>simpa using h3
 rw [h1,h4]
theorem aT{a b:Bool}(h:a=true)(h':b=true):(a && b)=true:=by rw [h,h'];rfl
theorem j6:joinedFacts Tryz.prog 3 Tryz.f3 Rows.trunkFewsSpec Rows.trunkFewsRow=true:=by
 unfold joinedFacts;exact(aT (aT (aT (aT (aT (aT (aT (aT (aT (aT (aT (aT (aT (aT (aT (aT (aT (aT (aT (aT (aT (aT (aT (aT (aT (aT (aT (aT (aT (aT (aT T9 T8) TZ) TY) TX) TU) TS) TR) TP) TO) Q5) Q4) Q3) Q2) Q1) Q0) QZ) QY) QX) QW) QV) QU) QT) QR) QQ) QP) QO) QN) (by kernel_rfl)) QM) QL) QK)
theorem own:ownKnob Tryz.prog.godebug=none:=by kernel_rfl
theorem laid:laidOutB Tryz.prog=true:=by kernel_rfl
noncomputable def xZ (os:Os):World:=
 let w0:=World.holding Tryz.prog os ⟨#[], #[],[]⟩
 { w0 with heap:=w0.heap.modify 0 fun
  | .cells _ t frozen=>.cells #[td] t frozen
  |o=>o }
theorem xq(os:Os)(args:Array Value):laidMetH Tryz.prog Rows.trunkFewsRow.laid ((xZ os).forCall (fun _ _=>0) ⟨#[],args,[]⟩).memory:=
 laidMetH_of_parts (laidMet_nil _ _) (by kernel_rfl)
theorem D5:Tryz.prog.cellsOf 3=1:=by kernel_rfl
theorem MK:Tryz.prog.cellsOf 22=1:=by kernel_rfl
theorem EU:Tryz.prog.cellsOf 23=1:=by kernel_rfl
theorem MJ:Tryz.prog.cellsOf 27=2:=by kernel_rfl
theorem Ot:MT Tryz.prog (.slice (.int .i64)) (.inl 23):=⟨3,Tryz.underlying23,D5,Tryz.underlying3⟩
theorem QF:MT Tryz.prog aK (.inl 27):=⟨_,Tryz.underlying27,by kernel_rfl,rfl,D5,Tryz.underlying3,.inl ⟨_,rfl,rfl,EU,Ot⟩⟩
theorem TG:MT Tryz.prog (.slice aK) (.inl 22):=⟨27,Tryz.underlying22,MJ,QF⟩
theorem TF:MT Tryz.prog an (.inl 25):=⟨_,Tryz.underlying25,by kernel_rfl,rfl,D5,Tryz.underlying3,.inr ⟨rfl,MK,TG,.inl ⟨_,rfl,rfl,EU,Ot⟩⟩⟩
theorem TA:Tryz.prog.readableRec 25=true∧25 < Tryz.prog.types.size:=⟨by kernel_rfl,of_decide_eq_true (by kernel_rfl)⟩
theorem Tz:Tryz.prog.readableRec 27=true∧27 < Tryz.prog.types.size:=⟨by kernel_rfl,of_decide_eq_true (by kernel_rfl)⟩
theorem TB:Tryz.prog.readableRec 23=true∧23 < Tryz.prog.types.size:=⟨by kernel_rfl,of_decide_eq_true (by kernel_rfl)⟩
set_option maxRecDepth 100000 in
theorem lifted(os:Os)(started:os.Started)(H:Type)(enc:TypeId×Value→H):
 ReturnsInLeavingWide {} Tryz.checked os 3 .any (fun w args=>(Rows.trunkFewsSpec.pre enc Tryz.prog Tryz.f3 [] false w args∧laidMetH Tryz.prog Rows.trunkFewsRow.laid w)∧sizedMet enc Tryz.prog Tryz.f3 (OpenSpec.ofChange Rows.trunkFewsSpec) false w args) (Rows.trunkFewsSpec.post enc Tryz.prog Tryz.f3 false true false false):=by
 refine zh (C:=Tryz.checked) (X:=fun w=>laidMetH Tryz.prog Rows.trunkFewsRow.laid w) (fun _ _ hh h=>h.of_heap hh) own started Tryz.func3
  (ChangeSpec.witness_at (enc:=enc) (C:=Tryz.checked) (os:=os) (X:=fun w _=>laidMetH Tryz.prog Rows.trunkFewsRow.laid w) false (xZ os) #[.agg #[.int .i64 0,.slice none 0 0,.slice none 0 0],.agg #[.int .i64 0,.slice none 0 0],.slice none 0 0] 8 rfl (by kernel_rfl) (by kernel_rfl) (by kernel_rfl) (by kernel_rfl) (by kernel_rfl) (xq os _)) ?_
 intro W base args ds gs before hsh hval hW hL _
 refine KG (by kernel_rfl) ?_
 refine BB (b0:=0) (c0:= #[td]) (T0:=176) (p0:=f8) (s:=Rows.trunkFewsSpec) (fun o=>Iff.rfl) (fun v hv=>by simp at hv;subst hv;rfl) [(25,an),(27,aK),(23,(.slice (.int .i64)))] (fun p hp=>by simp only [List.mem_cons,List.not_mem_nil,or_false] at hp;rcases hp with rfl |rfl |rfl <;> rfl) (by rw [Tryz.params3];rfl) rfl Tryz.underlying4 ?_ laid ?_ ?_ rfl ?_ W base args ds gs before (N7 hsh (wz hL)) hval hW
 ·
  intro p hp;simp only [List.mem_cons,List.not_mem_nil,or_false] at hp;rcases hp with rfl |rfl |rfl
  ·exact TF
  ·exact QF
  ·exact Ot
 ·
  intro T hT;simp only [List.map_cons,List.map_nil,List.mem_cons,List.not_mem_nil,or_false] at hT;rcases hT with rfl |rfl |rfl
  ·exact TA
  ·exact Tz
  ·exact TB
 ·
  rintro ds hd;obtain⟨d0,ds,rfl⟩:=List.exists_cons_of_length_eq_add_one (by simpa using hd:ds.length=2+1);obtain⟨d1,ds,rfl⟩:=List.exists_cons_of_length_eq_add_one (by simpa using hd:ds.length=1+1);obtain⟨d2,ds,rfl⟩:=List.exists_cons_of_length_eq_add_one (by simpa using hd:ds.length=0+1);have:ds=[]:=List.eq_nil_of_length_eq_zero (by simpa using hd);subst this;rfl
 ·
  rintro l ⟨a0,l0,rfl,a1,l1,rfl,a2,l2,rfl,rfl⟩;exact ug 3000 a0 a1 a2 true (vB (by decide) Df a0 a1 a2)
theorem xh:Rows.TrunkFewsSaid:=
 OpenClaim.holds_of_wide_leaving 3 Tryz.f3 rfl rfl rfl rfl rfl rfl rfl ⟨rfl,rfl,rfl,rfl,rfl⟩ rfl rfl rfl rfl rfl (by kernel_rfl) Tryz.func3 j6
  (of_decide_eq_true (by kernel_rfl)) (by unfold Func.isWrapper;rw [if_neg (by decide+kernel)];exact⟨rfl,rfl⟩)
  (fun os started H enc _=>lifted os started H enc)
theorem Pi:Tryz.prog.mainIs=some (Rows.trunkFewsCard.stood.harness.1,Rows.trunkFewsCard.stood.harness.2.toList):=by kernel_rfl
theorem MM:true=Tryz.prog.looks []:=by kernel_rfl
theorem ML:Tryz.prog.funcNamed Rows.trunkFewsRow.func=some 3:=by kernel_rfl
theorem JE:Tryz.prog.wantsStandIn 25=false:=by kernel_rfl
theorem JB:Tryz.prog.wantsStandIn 27=false:=by kernel_rfl
theorem JF:Tryz.prog.wantsStandIn 23=false:=by kernel_rfl
theorem Pe(t:TypeId)(h:t=25∨t=27∨t=23):Tryz.prog.wantsStandIn t=false:=by
 rcases h with rfl |rfl |rfl
 ·exact JE
 ·exact JB
 ·exact JF
theorem Pg:Rows.trunkFewsRow.wfByText (OpenSpec.ofChange Rows.trunkFewsSpec)=true:=by kernel_rfl
theorem Pj:true=Rows.trunkFewsRow.goesBy Tryz.prog:=by kernel_rfl
theorem trunk_fews_holds:Rows.TrunkFewsCardSaid:=
 ⟨(Claim7.holdsOne_goes _ _ { Rows.trunkFewsCard with goes:=false } true).2 (Claim7.tied_new_at .later [.handle] true (Claim7.new_of_sixth xh Rows.trunkFewsCard.stood.harness true rfl ⟨rfl,rfl⟩ Pi rfl
  (fun f fn hf hfn=>by
   obtain rfl:f=3:=Option.some.inj (ML.symm.trans hf) |>.symm
   obtain rfl:fn=Tryz.f3:=(Option.some.inj (Tryz.func3.symm.trans hfn)).symm
   exact⟨MM,fun j t ht=>by
    rw [Tryz.params3] at ht
    have h3:=Array.mem_of_getElem? ht
    simp only [List.mem_toArray,List.mem_cons,List.not_mem_nil,or_false] at h3
    exact Pe t h3⟩)) Pg),(fun _ hD=>(nomatch hD)),trunkFews_row_tie,(fun h=>(nomatch h)),Pj⟩
end Go.Proofs.YtddneonghpmidaaGreatDoor
