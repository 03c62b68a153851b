import Derived.Test.YtghkncjelangeaaGreatDoorQCB11
import Derived.Test.YtghkncjelangeaaGreatDoorPlacesL
import Derived.Test.YtghkncjelangeaaGreatDoorRows
import Derived.Test.YtghkncjelangeaaGreatDoorPlacesT
import Derived.LaidLaws
import Derived.LaidHandle
import Derived.ChangeSame
import Derived.ChangeVars
import Derived.JoinedOf
import Derived.RowKit
import Derived.RowKitTokens
import Derived.Stop.Joined
import Derived.Test.YtghkncjelangeaaGreatDoorTie
import Derived.Test.YtghkncjelangeaaGreatDoorCards
import Derived.SevenTiedAt
set_option linter.unusedSimpArgs false
set_option linter.unusedVariables false
namespace Go.Proofs.YtghkncjelangeaaGreatDoor
open K Go Go.Proofs Go.ChangeShapes Go.WideShapes Go.ChangeAt Go.RowKit
theorem GU:kG 50=some true:=by decide+kernel
theorem et:Tryz.prog.globalNamed "errors.errorType" =some 0:=by kernel_rfl
theorem rt:(Tryz.prog.cutTypes.find? (·.1 == "internal/reflectlite.rtype")).map (·.2)=some 207:=by kernel_rfl
theorem OM:Tryz.prog.types.size=296:=by kernel_rfl
theorem MM:((List.range 296).filter fun t=>Tryz.prog.rowNamed t [101,114,114,111,114])=[100]:=by kernel_rfl
theorem vD{W:World}(h:laidMetH Tryz.prog Rows.trunkPlacesRow.laid W):W.cell? ⟨0,0,none⟩=some sq:=by
 have h':laidMet Tryz.prog [] W∧handlesMet Tryz.prog Rows.trunkPlacesRow.laid W:=h;obtain⟨name,u,ty,e1,e2,e3,e4,e5⟩:=h'.2 _ (List.mem_singleton.2 rfl);have en:name=[101,114,114,111,114]:=(Option.some.inj e1).symm;subst en;obtain rfl:=Option.some.inj (rt.symm.trans e2);have hm:ty∈(List.range 296).filter fun t=>Tryz.prog.rowNamed t [101,114,114,111,114]:=List.mem_filter.2 ⟨List.mem_range.2 (by rw [←OM];exact e3),e4⟩;rw [MM] at hm;obtain rfl:=List.mem_singleton.1 hm;have hh:typeHandle Tryz.prog 100=hd 100:=by kernel_rfl
 rw [hh] at e5;simpa using World.var?_cell et e5 0
theorem MG{W:World}(hs:W.ShapedOpen Tryz.prog)(h:W.cell? ⟨0,0,none⟩=some sq):W.heap[0]? =some (.cells #[sq] 169 (0,0)):=by
 obtain⟨cs,h1,h2,_⟩:=hs.1 0 #[.nilIface] 169 (Nat.lt_of_lt_of_eq (by decide:0 < 2) (show 2=Tryz.prog.globals.size by kernel_rfl)) (by kernel_rfl);have h3:cs[0]? =some sq:=by simpa [World.cell?,h1] using h
 have h4:cs= #[sq]:=by
  apply Array.ext';match cs,h2,h3 with
  |⟨[a]⟩,_,h3=>simpa using h3
 rw [h1,h4]
theorem aT{a b:Bool}(h:a=true)(h':b=true):(a && b)=true:=by rw [h,h'];rfl
theorem j6:joinedFacts Tryz.prog 8 Tryz.f8 Rows.trunkPlacesSpec Rows.trunkPlacesRow=true:=by
 unfold joinedFacts;exact(aT (aT (aT (aT (aT (aT (aT (aT (aT (aT (aT (aT (aT (aT (aT (aT (aT (aT (aT (aT (aT (aT (aT (aT (aT (aT (aT (aT (aT (aT (aT R9 R7) R2) RZ) RY) RX) RV) RU) RS) RR) PI) PH) PG) PE) PD) PC) Pz) Py) Px) Po) Pn) Pm) Pl) Pj) Pi) Pg) Pe) O9) (by kernel_rfl)) O8) O7) O6)
theorem own:ownKnob Tryz.prog.godebug=none:=by kernel_rfl
theorem laid:laidOutB Tryz.prog=true:=by kernel_rfl
noncomputable def xe (os:Os):World:=
 let w0:=World.holding Tryz.prog os ⟨#[], #[],[]⟩
 { w0 with heap:=w0.heap.modify 0 fun
  | .cells _ t frozen=>.cells #[sq] t frozen
  |o=>o }
theorem wB(os:Os)(args:Array Value):laidMetH Tryz.prog Rows.trunkPlacesRow.laid ((xe os).forCall (fun _ _=>0) ⟨#[],args,[]⟩).memory:=
 laidMetH_of_parts (laidMet_nil _ _) (by kernel_rfl)
theorem CS:Tryz.prog.cellsOf 3=1:=by kernel_rfl
theorem K2:Tryz.prog.cellsOf 22=1:=by kernel_rfl
theorem yE:Tryz.prog.cellsOf 23=1:=by kernel_rfl
theorem K1:Tryz.prog.cellsOf 27=2:=by kernel_rfl
theorem J4:MT Tryz.prog (.slice (.int .i64)) (.inl 23):=⟨3,Tryz.underlying23,CS,Tryz.underlying3⟩
theorem O1:MT Tryz.prog aY (.inl 27):=⟨_,Tryz.underlying27,by kernel_rfl,rfl,CS,Tryz.underlying3,.inl ⟨_,rfl,rfl,yE,J4⟩⟩
theorem RJ:MT Tryz.prog (.slice aY) (.inl 22):=⟨27,Tryz.underlying22,K1,O1⟩
theorem RI:MT Tryz.prog av (.inl 25):=⟨_,Tryz.underlying25,by kernel_rfl,rfl,CS,Tryz.underlying3,.inr ⟨rfl,K2,RJ,.inl ⟨_,rfl,rfl,yE,J4⟩⟩⟩
theorem RH:MT Tryz.prog (.slice (.slice (.int .i64))) (.inl 28):=⟨23,Tryz.underlying28,yE,J4⟩
theorem RD:Tryz.prog.readableRec 25=true∧25 < Tryz.prog.types.size:=⟨by kernel_rfl,of_decide_eq_true (by kernel_rfl)⟩
theorem RB:Tryz.prog.readableRec 27=true∧27 < Tryz.prog.types.size:=⟨by kernel_rfl,of_decide_eq_true (by kernel_rfl)⟩
theorem RA:Tryz.prog.readableRec 28=true∧28 < Tryz.prog.types.size:=⟨by kernel_rfl,of_decide_eq_true (by kernel_rfl)⟩
theorem TL:Tryz.prog.readableRec 3=true∧3 < Tryz.prog.types.size:=⟨by kernel_rfl,of_decide_eq_true (by kernel_rfl)⟩
theorem RE:Tryz.prog.readableRec 23=true∧23 < Tryz.prog.types.size:=⟨by kernel_rfl,of_decide_eq_true (by kernel_rfl)⟩
set_option maxRecDepth 100000 in
theorem lifted(os:Os)(started:os.Started)(H:Type)(enc:TypeId×Value→H):
 ReturnsInLeavingWide {} Tryz.checked os 8 .any (fun w args=>(Rows.trunkPlacesSpec.pre enc Tryz.prog Tryz.f8 [] false w args∧laidMetH Tryz.prog Rows.trunkPlacesRow.laid w)∧sizedMet enc Tryz.prog Tryz.f8 (OpenSpec.ofChange Rows.trunkPlacesSpec) false w args) (Rows.trunkPlacesSpec.post enc Tryz.prog Tryz.f8 false true false false):=by
 refine yo (C:=Tryz.checked) (X:=fun w=>laidMetH Tryz.prog Rows.trunkPlacesRow.laid w) (fun _ _ hh h=>h.of_heap hh) own started Tryz.func8
  (ChangeSpec.witness_at (enc:=enc) (C:=Tryz.checked) (os:=os) (X:=fun w _=>laidMetH Tryz.prog Rows.trunkPlacesRow.laid w) false (xe os) #[.agg #[.int .i64 0,.slice none 0 0,.slice none 0 0],.agg #[.int .i64 0,.slice none 0 0],.slice none 0 0,.int .i64 0,.int .i64 0,.slice none 0 0] 8 rfl (by kernel_rfl) (by kernel_rfl) (by kernel_rfl) (by kernel_rfl) (by kernel_rfl) (wB os _)) ?_
 intro W base args ds gs before hsh hval hW hL _
 refine Jr (by kernel_rfl) ?_
 refine AI (b0:=0) (c0:= #[sq]) (T0:=169) (p0:=iI) (s:=Rows.trunkPlacesSpec) (fun o=>Iff.rfl) (fun v hv=>by simp at hv;subst hv;rfl) [(25,av),(27,aY),(28,(.slice (.slice (.int .i64)))),(3,(.int .i64)),(3,(.int .i64)),(23,(.slice (.int .i64)))] (fun p hp=>by simp only [List.mem_cons,List.not_mem_nil,or_false] at hp;rcases hp with rfl |rfl |rfl |rfl |rfl |rfl <;> rfl) (by rw [Tryz.params8];rfl) rfl Tryz.underlying4 ?_ laid ?_ ?_ rfl ?_ W base args ds gs before (MG hsh (vD hL)) hval hW
 ·
  intro p hp;simp only [List.mem_cons,List.not_mem_nil,or_false] at hp;rcases hp with rfl |rfl |rfl |rfl |rfl |rfl
  ·exact RI
  ·exact O1
  ·exact RH
  ·exact Tryz.underlying3
  ·exact Tryz.underlying3
  ·exact J4
 ·
  intro T hT;simp only [List.map_cons,List.map_nil,List.mem_cons,List.not_mem_nil,or_false] at hT;rcases hT with rfl |rfl |rfl |rfl |rfl |rfl
  ·exact RD
  ·exact RB
  ·exact RA
  ·exact TL
  ·exact TL
  ·exact RE
 ·
  rintro ds hd;obtain⟨d0,ds,rfl⟩:=List.exists_cons_of_length_eq_add_one (by simpa using hd:ds.length=5+1);obtain⟨d1,ds,rfl⟩:=List.exists_cons_of_length_eq_add_one (by simpa using hd:ds.length=4+1);obtain⟨d2,ds,rfl⟩:=List.exists_cons_of_length_eq_add_one (by simpa using hd:ds.length=3+1);obtain⟨d3,ds,rfl⟩:=List.exists_cons_of_length_eq_add_one (by simpa using hd:ds.length=2+1);obtain⟨d4,ds,rfl⟩:=List.exists_cons_of_length_eq_add_one (by simpa using hd:ds.length=1+1);obtain⟨d5,ds,rfl⟩:=List.exists_cons_of_length_eq_add_one (by simpa using hd:ds.length=0+1);have:ds=[]:=List.eq_nil_of_length_eq_zero (by simpa using hd);subst this;rfl
 ·
  rintro l ⟨a0,l0,rfl,a1,l1,rfl,a2,l2,rfl,a3,l3,rfl,a4,l4,rfl,a5,l5,rfl,rfl⟩;exact xH 4 rfl (xH 3 rfl (q9 50 a0 a1 a2 a3 a4 a5 true (sT (by decide) (by decide) GU a0 a1 a2 a3 a4 a5)))
theorem wn:Rows.TrunkPlacesSaid:=
 OpenClaim.holds_of_wide_leaving 8 Tryz.f8 rfl rfl rfl rfl rfl rfl rfl ⟨rfl,rfl,rfl,rfl,rfl⟩ rfl rfl rfl rfl rfl (by kernel_rfl) Tryz.func8 j6
  (of_decide_eq_true (by kernel_rfl)) (by unfold Func.isWrapper;rw [if_neg (by decide+kernel)];exact⟨rfl,rfl⟩)
  (fun os started H enc _=>lifted os started H enc)
theorem NN:Tryz.prog.mainIs=some (Rows.trunkPlacesCard.stood.harness.1,Rows.trunkPlacesCard.stood.harness.2.toList):=by kernel_rfl
theorem K4:true=Tryz.prog.looks []:=by kernel_rfl
theorem K3:Tryz.prog.funcNamed Rows.trunkPlacesRow.func=some 8:=by kernel_rfl
theorem IH:Tryz.prog.wantsStandIn 25=false:=by kernel_rfl
theorem IG:Tryz.prog.wantsStandIn 27=false:=by kernel_rfl
theorem IF:Tryz.prog.wantsStandIn 28=false:=by kernel_rfl
theorem D2:Tryz.prog.wantsStandIn 3=false:=by kernel_rfl
theorem II:Tryz.prog.wantsStandIn 23=false:=by kernel_rfl
theorem NK(t:TypeId)(h:t=25∨t=27∨t=28∨t=3∨t=3∨t=23):Tryz.prog.wantsStandIn t=false:=by
 rcases h with rfl |rfl |rfl |rfl |rfl |rfl
 ·exact IH
 ·exact IG
 ·exact IF
 ·exact D2
 ·exact D2
 ·exact II
theorem NL:Rows.trunkPlacesRow.wfByText (OpenSpec.ofChange Rows.trunkPlacesSpec)=true:=by kernel_rfl
theorem NP:true=Rows.trunkPlacesRow.goesBy Tryz.prog:=by kernel_rfl
theorem trunk_places_holds:Rows.TrunkPlacesCardSaid:=
 ⟨(Claim7.holdsOne_goes _ _ { Rows.trunkPlacesCard with goes:=false } true).2 (Claim7.tied_new_at .later [.handle] true (Claim7.new_of_sixth wn Rows.trunkPlacesCard.stood.harness true rfl ⟨rfl,rfl⟩ NN rfl
  (fun f fn hf hfn=>by
   obtain rfl:f=8:=Option.some.inj (K3.symm.trans hf) |>.symm
   obtain rfl:fn=Tryz.f8:=(Option.some.inj (Tryz.func8.symm.trans hfn)).symm
   exact⟨K4,fun j t ht=>by
    rw [Tryz.params8] at ht
    have h3:=Array.mem_of_getElem? ht
    simp only [List.mem_toArray,List.mem_cons,List.not_mem_nil,or_false] at h3
    exact NK t h3⟩)) NL),(fun _ hD=>(nomatch hD)),trunkPlaces_row_tie,(fun h=>(nomatch h)),NP⟩
end Go.Proofs.YtghkncjelangeaaGreatDoor
