import Derived.Test.YtghkncjelangeaaGreatDoorQBB11
import Derived.Test.YtghkncjelangeaaGreatDoorRepacksL
import Derived.Test.YtghkncjelangeaaGreatDoorRows
import Derived.Test.YtghkncjelangeaaGreatDoorRepacksT
import Derived.LaidLaws
import Derived.LaidHandle
import Derived.ChangeSame
import Derived.ChangeVars
import Derived.JoinedOf
import Derived.RowKit
import Derived.RowKitTokens
import Derived.Stop.Joined
import Derived.Test.YtghkncjelangeaaGreatDoorTie
import Derived.Test.YtghkncjelangeaaGreatDoorCards
import Derived.SevenTiedAt
set_option linter.unusedSimpArgs false
set_option linter.unusedVariables false
namespace Go.Proofs.YtghkncjelangeaaGreatDoor
open K Go Go.Proofs Go.ChangeShapes Go.WideShapes Go.ChangeAt Go.RowKit
theorem E5:kL 200=some true:=by decide+kernel
theorem et:Tryz.prog.globalNamed "errors.errorType" =some 0:=by kernel_rfl
theorem rt:(Tryz.prog.cutTypes.find? (·.1 == "internal/reflectlite.rtype")).map (·.2)=some 207:=by kernel_rfl
theorem Pm:Tryz.prog.types.size=296:=by kernel_rfl
theorem Nk:((List.range 296).filter fun t=>Tryz.prog.rowNamed t [101,114,114,111,114])=[100]:=by kernel_rfl
theorem vG{W:World}(h:laidMetH Tryz.prog Rows.trunkRepacksRow.laid W):W.cell? ⟨0,0,none⟩=some sw:=by
 have h':laidMet Tryz.prog [] W∧handlesMet Tryz.prog Rows.trunkRepacksRow.laid W:=h;obtain⟨name,u,ty,e1,e2,e3,e4,e5⟩:=h'.2 _ (List.mem_singleton.2 rfl);have en:name=[101,114,114,111,114]:=(Option.some.inj e1).symm;subst en;obtain rfl:=Option.some.inj (rt.symm.trans e2);have hm:ty∈(List.range 296).filter fun t=>Tryz.prog.rowNamed t [101,114,114,111,114]:=List.mem_filter.2 ⟨List.mem_range.2 (by rw [←Pm];exact e3),e4⟩;rw [Nk] at hm;obtain rfl:=List.mem_singleton.1 hm;have hh:typeHandle Tryz.prog 100=hd 100:=by kernel_rfl
 rw [hh] at e5;simpa using World.var?_cell et e5 0
theorem Na{W:World}(hs:W.ShapedOpen Tryz.prog)(h:W.cell? ⟨0,0,none⟩=some sw):W.heap[0]? =some (.cells #[sw] 169 (0,0)):=by
 obtain⟨cs,h1,h2,_⟩:=hs.1 0 #[.nilIface] 169 (Nat.lt_of_lt_of_eq (by decide:0 < 2) (show 2=Tryz.prog.globals.size by kernel_rfl)) (by kernel_rfl);have h3:cs[0]? =some sw:=by simpa [World.cell?,h1] using h
 have h4:cs= #[sw]:=by
  apply Array.ext';match cs,h2,h3 with
  |⟨[a]⟩,_,h3=>simpa using h3
 rw [h1,h4]
theorem aT{a b:Bool}(h:a=true)(h':b=true):(a && b)=true:=by rw [h,h'];rfl
theorem j6:joinedFacts Tryz.prog 5 Tryz.f5 Rows.trunkRepacksSpec Rows.trunkRepacksRow=true:=by
 unfold joinedFacts;exact(aT (aT (aT (aT (aT (aT (aT (aT (aT (aT (aT (aT (aT (aT (aT (aT (aT (aT (aT (aT (aT (aT (aT (aT (aT (aT (aT (aT (aT (aT (aT SX SV) SU) SS) SR) SQ) SO) SN) SL) SK) Qb) Qa) P9) P8) P7) P6) P5) P4) P3) P2) P1) P0) PZ) PY) PX) PW) PV) PU) (by kernel_rfl)) PT) PS) PR)
theorem own:ownKnob Tryz.prog.godebug=none:=by kernel_rfl
theorem laid:laidOutB Tryz.prog=true:=by kernel_rfl
noncomputable def xm (os:Os):World:=
 let w0:=World.holding Tryz.prog os ⟨#[], #[],[]⟩
 { w0 with heap:=w0.heap.modify 0 fun
  | .cells _ t frozen=>.cells #[sw] t frozen
  |o=>o }
theorem wI(os:Os)(args:Array Value):laidMetH Tryz.prog Rows.trunkRepacksRow.laid ((xm os).forCall (fun _ _=>0) ⟨#[],args,[]⟩).memory:=
 laidMetH_of_parts (laidMet_nil _ _) (by kernel_rfl)
theorem Di:Tryz.prog.cellsOf 3=1:=by kernel_rfl
theorem LC:Tryz.prog.cellsOf 22=1:=by kernel_rfl
theorem yR:Tryz.prog.cellsOf 23=1:=by kernel_rfl
theorem LA:Tryz.prog.cellsOf 27=2:=by kernel_rfl
theorem KI:MT Tryz.prog (.slice (.int .i64)) (.inl 23):=⟨3,Tryz.underlying23,Di,Tryz.underlying3⟩
theorem PM:MT Tryz.prog aZ (.inl 27):=⟨_,Tryz.underlying27,by kernel_rfl,rfl,Di,Tryz.underlying3,.inl ⟨_,rfl,rfl,yR,KI⟩⟩
theorem SC:MT Tryz.prog (.slice aZ) (.inl 22):=⟨27,Tryz.underlying22,LA,PM⟩
theorem SB:MT Tryz.prog av (.inl 25):=⟨_,Tryz.underlying25,by kernel_rfl,rfl,Di,Tryz.underlying3,.inr ⟨rfl,LC,SC,.inl ⟨_,rfl,rfl,yR,KI⟩⟩⟩
theorem SA:MT Tryz.prog (.slice (.slice (.int .i64))) (.inl 28):=⟨23,Tryz.underlying28,yR,KI⟩
theorem Ss:Tryz.prog.readableRec 25=true∧25 < Tryz.prog.types.size:=⟨by kernel_rfl,of_decide_eq_true (by kernel_rfl)⟩
theorem Sr:Tryz.prog.readableRec 27=true∧27 < Tryz.prog.types.size:=⟨by kernel_rfl,of_decide_eq_true (by kernel_rfl)⟩
theorem Sm:Tryz.prog.readableRec 28=true∧28 < Tryz.prog.types.size:=⟨by kernel_rfl,of_decide_eq_true (by kernel_rfl)⟩
theorem Uo:Tryz.prog.readableRec 3=true∧3 < Tryz.prog.types.size:=⟨by kernel_rfl,of_decide_eq_true (by kernel_rfl)⟩
theorem Su:Tryz.prog.readableRec 23=true∧23 < Tryz.prog.types.size:=⟨by kernel_rfl,of_decide_eq_true (by kernel_rfl)⟩
set_option maxRecDepth 100000 in
theorem lifted(os:Os)(started:os.Started)(H:Type)(enc:TypeId×Value→H):
 ReturnsInLeavingWide {} Tryz.checked os 5 .any (fun w args=>(Rows.trunkRepacksSpec.pre enc Tryz.prog Tryz.f5 [] false w args∧laidMetH Tryz.prog Rows.trunkRepacksRow.laid w)∧sizedMet enc Tryz.prog Tryz.f5 (OpenSpec.ofChange Rows.trunkRepacksSpec) false w args) (Rows.trunkRepacksSpec.post enc Tryz.prog Tryz.f5 false true false false):=by
 refine yA (C:=Tryz.checked) (X:=fun w=>laidMetH Tryz.prog Rows.trunkRepacksRow.laid w) (fun _ _ hh h=>h.of_heap hh) own started Tryz.func5
  (ChangeSpec.witness_at (enc:=enc) (C:=Tryz.checked) (os:=os) (X:=fun w _=>laidMetH Tryz.prog Rows.trunkRepacksRow.laid w) false (xm os) #[.agg #[.int .i64 0,.slice none 0 0,.slice none 0 0],.agg #[.int .i64 0,.slice none 0 0],.slice none 0 0,.int .i64 0,.int .i64 0,.slice none 0 0] 8 rfl (by kernel_rfl) (by kernel_rfl) (by kernel_rfl) (by kernel_rfl) (by kernel_rfl) (wI os _)) ?_
 intro W base args ds gs before hsh hval hW hL _
 refine JQ (by kernel_rfl) ?_
 refine AY (b0:=0) (c0:= #[sw]) (T0:=169) (p0:=jv) (s:=Rows.trunkRepacksSpec) (fun o=>Iff.rfl) (fun v hv=>by simp at hv;subst hv;rfl) [(25,av),(27,aZ),(28,(.slice (.slice (.int .i64)))),(3,(.int .i64)),(3,(.int .i64)),(23,(.slice (.int .i64)))] (fun p hp=>by simp only [List.mem_cons,List.not_mem_nil,or_false] at hp;rcases hp with rfl |rfl |rfl |rfl |rfl |rfl <;> rfl) (by rw [Tryz.params5];rfl) rfl Tryz.underlying4 ?_ laid ?_ ?_ rfl ?_ W base args ds gs before (Na hsh (vG hL)) hval hW
 ·
  intro p hp;simp only [List.mem_cons,List.not_mem_nil,or_false] at hp;rcases hp with rfl |rfl |rfl |rfl |rfl |rfl
  ·exact SB
  ·exact PM
  ·exact SA
  ·exact Tryz.underlying3
  ·exact Tryz.underlying3
  ·exact KI
 ·
  intro T hT;simp only [List.map_cons,List.map_nil,List.mem_cons,List.not_mem_nil,or_false] at hT;rcases hT with rfl |rfl |rfl |rfl |rfl |rfl
  ·exact Ss
  ·exact Sr
  ·exact Sm
  ·exact Uo
  ·exact Uo
  ·exact Su
 ·
  rintro ds hd;obtain⟨d0,ds,rfl⟩:=List.exists_cons_of_length_eq_add_one (by simpa using hd:ds.length=5+1);obtain⟨d1,ds,rfl⟩:=List.exists_cons_of_length_eq_add_one (by simpa using hd:ds.length=4+1);obtain⟨d2,ds,rfl⟩:=List.exists_cons_of_length_eq_add_one (by simpa using hd:ds.length=3+1);obtain⟨d3,ds,rfl⟩:=List.exists_cons_of_length_eq_add_one (by simpa using hd:ds.length=2+1);obtain⟨d4,ds,rfl⟩:=List.exists_cons_of_length_eq_add_one (by simpa using hd:ds.length=1+1);obtain⟨d5,ds,rfl⟩:=List.exists_cons_of_length_eq_add_one (by simpa using hd:ds.length=0+1);have:ds=[]:=List.eq_nil_of_length_eq_zero (by simpa using hd);subst this;rfl
 ·
  rintro l ⟨a0,l0,rfl,a1,l1,rfl,a2,l2,rfl,a3,l3,rfl,a4,l4,rfl,a5,l5,rfl,rfl⟩;exact xQ 4 rfl (xQ 3 rfl (qw 200 a0 a1 a2 a3 a4 a5 true (rC (by decide) E5 a0 a1 a2 a3 a4 a5)))
theorem wv:Rows.TrunkRepacksSaid:=
 OpenClaim.holds_of_wide_leaving 5 Tryz.f5 rfl rfl rfl rfl rfl rfl rfl ⟨rfl,rfl,rfl,rfl,rfl⟩ rfl rfl rfl rfl rfl (by kernel_rfl) Tryz.func5 j6
  (of_decide_eq_true (by kernel_rfl)) (by unfold Func.isWrapper;rw [if_neg (by decide+kernel)];exact⟨rfl,rfl⟩)
  (fun os started H enc _=>lifted os started H enc)
theorem Oj:Tryz.prog.mainIs=some (Rows.trunkRepacksCard.stood.harness.1,Rows.trunkRepacksCard.stood.harness.2.toList):=by kernel_rfl
theorem LE:true=Tryz.prog.looks []:=by kernel_rfl
theorem LD:Tryz.prog.funcNamed Rows.trunkRepacksRow.func=some 5:=by kernel_rfl
theorem I1:Tryz.prog.wantsStandIn 25=false:=by kernel_rfl
theorem I0:Tryz.prog.wantsStandIn 27=false:=by kernel_rfl
theorem IZ:Tryz.prog.wantsStandIn 28=false:=by kernel_rfl
theorem Eg:Tryz.prog.wantsStandIn 3=false:=by kernel_rfl
theorem I2:Tryz.prog.wantsStandIn 23=false:=by kernel_rfl
theorem Oh(t:TypeId)(h:t=25∨t=27∨t=28∨t=3∨t=3∨t=23):Tryz.prog.wantsStandIn t=false:=by
 rcases h with rfl |rfl |rfl |rfl |rfl |rfl
 ·exact I1
 ·exact I0
 ·exact IZ
 ·exact Eg
 ·exact Eg
 ·exact I2
theorem Oi:Rows.trunkRepacksRow.wfByText (OpenSpec.ofChange Rows.trunkRepacksSpec)=true:=by kernel_rfl
theorem Ol:true=Rows.trunkRepacksRow.goesBy Tryz.prog:=by kernel_rfl
theorem trunk_repacks_holds:Rows.TrunkRepacksCardSaid:=
 ⟨(Claim7.holdsOne_goes _ _ { Rows.trunkRepacksCard with goes:=false } true).2 (Claim7.tied_new_at .later [.handle] true (Claim7.new_of_sixth wv Rows.trunkRepacksCard.stood.harness true rfl ⟨rfl,rfl⟩ Oj rfl
  (fun f fn hf hfn=>by
   obtain rfl:f=5:=Option.some.inj (LD.symm.trans hf) |>.symm
   obtain rfl:fn=Tryz.f5:=(Option.some.inj (Tryz.func5.symm.trans hfn)).symm
   exact⟨LE,fun j t ht=>by
    rw [Tryz.params5] at ht
    have h3:=Array.mem_of_getElem? ht
    simp only [List.mem_toArray,List.mem_cons,List.not_mem_nil,or_false] at h3
    exact Oh t h3⟩)) Oi),(fun _ hD=>(nomatch hD)),trunkRepacks_row_tie,(fun h=>(nomatch h)),Ol⟩
end Go.Proofs.YtghkncjelangeaaGreatDoor
