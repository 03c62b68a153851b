import Derived.Test.YtghkncjelangeaaGreatDoorQDB11
import Derived.Test.YtghkncjelangeaaGreatDoorLiftsL
import Derived.Test.YtghkncjelangeaaGreatDoorRows
import Derived.Test.YtghkncjelangeaaGreatDoorLiftsT
import Derived.LaidLaws
import Derived.LaidHandle
import Derived.ChangeSame
import Derived.ChangeVars
import Derived.JoinedOf
import Derived.RowKit
import Derived.RowKitTokens
import Derived.Stop.Joined
import Derived.Test.YtghkncjelangeaaGreatDoorTie
import Derived.Test.YtghkncjelangeaaGreatDoorCards
import Derived.SevenTiedAt
set_option linter.unusedSimpArgs false
set_option linter.unusedVariables false
namespace Go.Proofs.YtghkncjelangeaaGreatDoor
open K Go Go.Proofs Go.ChangeShapes Go.WideShapes Go.ChangeAt Go.RowKit
theorem GY:kw 50=some true:=by decide+kernel
theorem et:Tryz.prog.globalNamed "errors.errorType" =some 0:=by kernel_rfl
theorem rt:(Tryz.prog.cutTypes.find? (·.1 == "internal/reflectlite.rtype")).map (·.2)=some 207:=by kernel_rfl
theorem OY:Tryz.prog.types.size=296:=by kernel_rfl
theorem MV:((List.range 296).filter fun t=>Tryz.prog.rowNamed t [101,114,114,111,114])=[100]:=by kernel_rfl
theorem vx{W:World}(h:laidMetH Tryz.prog Rows.trunkLiftsRow.laid W):W.cell? ⟨0,0,none⟩=some sj:=by
 have h':laidMet Tryz.prog [] W∧handlesMet Tryz.prog Rows.trunkLiftsRow.laid W:=h;obtain⟨name,u,ty,e1,e2,e3,e4,e5⟩:=h'.2 _ (List.mem_singleton.2 rfl);have en:name=[101,114,114,111,114]:=(Option.some.inj e1).symm;subst en;obtain rfl:=Option.some.inj (rt.symm.trans e2);have hm:ty∈(List.range 296).filter fun t=>Tryz.prog.rowNamed t [101,114,114,111,114]:=List.mem_filter.2 ⟨List.mem_range.2 (by rw [←OY];exact e3),e4⟩;rw [MV] at hm;obtain rfl:=List.mem_singleton.1 hm;have hh:typeHandle Tryz.prog 100=hd 100:=by kernel_rfl
 rw [hh] at e5;simpa using World.var?_cell et e5 0
theorem MN{W:World}(hs:W.ShapedOpen Tryz.prog)(h:W.cell? ⟨0,0,none⟩=some sj):W.heap[0]? =some (.cells #[sj] 169 (0,0)):=by
 obtain⟨cs,h1,h2,_⟩:=hs.1 0 #[.nilIface] 169 (Nat.lt_of_lt_of_eq (by decide:0 < 2) (show 2=Tryz.prog.globals.size by kernel_rfl)) (by kernel_rfl);have h3:cs[0]? =some sj:=by simpa [World.cell?,h1] using h
 have h4:cs= #[sj]:=by
  apply Array.ext';match cs,h2,h3 with
  |⟨[a]⟩,_,h3=>simpa using h3
 rw [h1,h4]
theorem aT{a b:Bool}(h:a=true)(h':b=true):(a && b)=true:=by rw [h,h'];rfl
theorem j6:joinedFacts Tryz.prog 7 Tryz.f7 Rows.trunkLiftsSpec Rows.trunkLiftsRow=true:=by
 unfold joinedFacts;exact(aT (aT (aT (aT (aT (aT (aT (aT (aT (aT (aT (aT (aT (aT (aT (aT (aT (aT (aT (aT (aT (aT (aT (aT (aT (aT (aT (aT (aT (aT (aT Su Ss) Sr) Sm) Sl) Sj) Si) R9) R7) R2) PT) PS) PR) PQ) PP) PO) PN) PM) PL) PK) PI) PH) PG) PE) PD) PC) Pz) Py) (by kernel_rfl)) Px) Po) Pn)
theorem own:ownKnob Tryz.prog.godebug=none:=by kernel_rfl
theorem laid:laidOutB Tryz.prog=true:=by kernel_rfl
noncomputable def xb (os:Os):World:=
 let w0:=World.holding Tryz.prog os ⟨#[], #[],[]⟩
 { w0 with heap:=w0.heap.modify 0 fun
  | .cells _ t frozen=>.cells #[sj] t frozen
  |o=>o }
theorem wv(os:Os)(args:Array Value):laidMetH Tryz.prog Rows.trunkLiftsRow.laid ((xb os).forCall (fun _ _=>0) ⟨#[],args,[]⟩).memory:=
 laidMetH_of_parts (laidMet_nil _ _) (by kernel_rfl)
theorem CY:Tryz.prog.cellsOf 3=1:=by kernel_rfl
theorem K9:Tryz.prog.cellsOf 22=1:=by kernel_rfl
theorem yG:Tryz.prog.cellsOf 23=1:=by kernel_rfl
theorem K8:Tryz.prog.cellsOf 27=2:=by kernel_rfl
theorem Kr:MT Tryz.prog (.slice (.int .i64)) (.inl 23):=⟨3,Tryz.underlying23,CY,Tryz.underlying3⟩
theorem Pg:MT Tryz.prog aH (.inl 27):=⟨_,Tryz.underlying27,by kernel_rfl,rfl,CY,Tryz.underlying3,.inl ⟨_,rfl,rfl,yG,Kr⟩⟩
theorem RS:MT Tryz.prog (.slice aH) (.inl 22):=⟨27,Tryz.underlying22,K8,Pg⟩
theorem RR:MT Tryz.prog ap (.inl 25):=⟨_,Tryz.underlying25,by kernel_rfl,rfl,CY,Tryz.underlying3,.inr ⟨rfl,K9,RS,.inl ⟨_,rfl,rfl,yG,Kr⟩⟩⟩
theorem RQ:MT Tryz.prog (.slice (.slice (.int .i64))) (.inl 28):=⟨23,Tryz.underlying28,yG,Kr⟩
theorem RL:Tryz.prog.readableRec 25=true∧25 < Tryz.prog.types.size:=⟨by kernel_rfl,of_decide_eq_true (by kernel_rfl)⟩
theorem RJ:Tryz.prog.readableRec 27=true∧27 < Tryz.prog.types.size:=⟨by kernel_rfl,of_decide_eq_true (by kernel_rfl)⟩
theorem RI:Tryz.prog.readableRec 28=true∧28 < Tryz.prog.types.size:=⟨by kernel_rfl,of_decide_eq_true (by kernel_rfl)⟩
theorem RN:Tryz.prog.readableRec 23=true∧23 < Tryz.prog.types.size:=⟨by kernel_rfl,of_decide_eq_true (by kernel_rfl)⟩
set_option maxRecDepth 100000 in
theorem lifted(os:Os)(started:os.Started)(H:Type)(enc:TypeId×Value→H):
 ReturnsInLeavingWide {} Tryz.checked os 7 .any (fun w args=>(Rows.trunkLiftsSpec.pre enc Tryz.prog Tryz.f7 [] false w args∧laidMetH Tryz.prog Rows.trunkLiftsRow.laid w)∧sizedMet enc Tryz.prog Tryz.f7 (OpenSpec.ofChange Rows.trunkLiftsSpec) false w args) (Rows.trunkLiftsSpec.post enc Tryz.prog Tryz.f7 false true false false):=by
 refine yq (C:=Tryz.checked) (X:=fun w=>laidMetH Tryz.prog Rows.trunkLiftsRow.laid w) (fun _ _ hh h=>h.of_heap hh) own started Tryz.func7
  (ChangeSpec.witness_at (enc:=enc) (C:=Tryz.checked) (os:=os) (X:=fun w _=>laidMetH Tryz.prog Rows.trunkLiftsRow.laid w) false (xb os) #[.agg #[.int .i64 0,.slice none 0 0,.slice none 0 0],.agg #[.int .i64 0,.slice none 0 0],.slice none 0 0,.slice none 0 0] 8 rfl (by kernel_rfl) (by kernel_rfl) (by kernel_rfl) (by kernel_rfl) (by kernel_rfl) (wv os _)) ?_
 intro W base args ds gs before hsh hval hW hL _
 refine Jz (by kernel_rfl) ?_
 refine AN (b0:=0) (c0:= #[sj]) (T0:=169) (p0:=dZ) (s:=Rows.trunkLiftsSpec) (fun o=>Iff.rfl) (fun v hv=>by simp at hv;subst hv;rfl) [(25,ap),(27,aH),(28,(.slice (.slice (.int .i64)))),(23,(.slice (.int .i64)))] (fun p hp=>by simp only [List.mem_cons,List.not_mem_nil,or_false] at hp;rcases hp with rfl |rfl |rfl |rfl <;> rfl) (by rw [Tryz.params7];rfl) rfl Tryz.underlying4 ?_ laid ?_ ?_ rfl ?_ W base args ds gs before (MN hsh (vx hL)) hval hW
 ·
  intro p hp;simp only [List.mem_cons,List.not_mem_nil,or_false] at hp;rcases hp with rfl |rfl |rfl |rfl
  ·exact RR
  ·exact Pg
  ·exact RQ
  ·exact Kr
 ·
  intro T hT;simp only [List.map_cons,List.map_nil,List.mem_cons,List.not_mem_nil,or_false] at hT;rcases hT with rfl |rfl |rfl |rfl
  ·exact RL
  ·exact RJ
  ·exact RI
  ·exact RN
 ·
  rintro ds hd;obtain⟨d0,ds,rfl⟩:=List.exists_cons_of_length_eq_add_one (by simpa using hd:ds.length=3+1);obtain⟨d1,ds,rfl⟩:=List.exists_cons_of_length_eq_add_one (by simpa using hd:ds.length=2+1);obtain⟨d2,ds,rfl⟩:=List.exists_cons_of_length_eq_add_one (by simpa using hd:ds.length=1+1);obtain⟨d3,ds,rfl⟩:=List.exists_cons_of_length_eq_add_one (by simpa using hd:ds.length=0+1);have:ds=[]:=List.eq_nil_of_length_eq_zero (by simpa using hd);subst this;rfl
 ·
  rintro l ⟨a0,l0,rfl,a1,l1,rfl,a2,l2,rfl,a3,l3,rfl,rfl⟩;exact rX 50 a0 a1 a2 a3 true (ud (by decide) (by decide) GY a0 a1 a2 a3)
theorem wd:Rows.TrunkLiftsSaid:=
 OpenClaim.holds_of_wide_leaving 7 Tryz.f7 rfl rfl rfl rfl rfl rfl rfl ⟨rfl,rfl,rfl,rfl,rfl⟩ rfl rfl rfl rfl rfl (by kernel_rfl) Tryz.func7 j6
  (of_decide_eq_true (by kernel_rfl)) (by unfold Func.isWrapper;rw [if_neg (by decide+kernel)];exact⟨rfl,rfl⟩)
  (fun os started H enc _=>lifted os started H enc)
theorem NZ:Tryz.prog.mainIs=some (Rows.trunkLiftsCard.stood.harness.1,Rows.trunkLiftsCard.stood.harness.2.toList):=by kernel_rfl
theorem Lc:true=Tryz.prog.looks []:=by kernel_rfl
theorem La:Tryz.prog.funcNamed Rows.trunkLiftsRow.func=some 7:=by kernel_rfl
theorem IN:Tryz.prog.wantsStandIn 25=false:=by kernel_rfl
theorem IM:Tryz.prog.wantsStandIn 27=false:=by kernel_rfl
theorem IL:Tryz.prog.wantsStandIn 28=false:=by kernel_rfl
theorem IO:Tryz.prog.wantsStandIn 23=false:=by kernel_rfl
theorem NX(t:TypeId)(h:t=25∨t=27∨t=28∨t=23):Tryz.prog.wantsStandIn t=false:=by
 rcases h with rfl |rfl |rfl |rfl
 ·exact IN
 ·exact IM
 ·exact IL
 ·exact IO
theorem NY:Rows.trunkLiftsRow.wfByText (OpenSpec.ofChange Rows.trunkLiftsSpec)=true:=by kernel_rfl
theorem N3:true=Rows.trunkLiftsRow.goesBy Tryz.prog:=by kernel_rfl
theorem trunk_lifts_holds:Rows.TrunkLiftsCardSaid:=
 ⟨(Claim7.holdsOne_goes _ _ { Rows.trunkLiftsCard with goes:=false } true).2 (Claim7.tied_new_at .later [.handle] true (Claim7.new_of_sixth wd Rows.trunkLiftsCard.stood.harness true rfl ⟨rfl,rfl⟩ NZ rfl
  (fun f fn hf hfn=>by
   obtain rfl:f=7:=Option.some.inj (La.symm.trans hf) |>.symm
   obtain rfl:fn=Tryz.f7:=(Option.some.inj (Tryz.func7.symm.trans hfn)).symm
   exact⟨Lc,fun j t ht=>by
    rw [Tryz.params7] at ht
    have h3:=Array.mem_of_getElem? ht
    simp only [List.mem_toArray,List.mem_cons,List.not_mem_nil,or_false] at h3
    exact NX t h3⟩)) NY),(fun _ hD=>(nomatch hD)),trunkLifts_row_tie,(fun h=>(nomatch h)),N3⟩
end Go.Proofs.YtghkncjelangeaaGreatDoor
