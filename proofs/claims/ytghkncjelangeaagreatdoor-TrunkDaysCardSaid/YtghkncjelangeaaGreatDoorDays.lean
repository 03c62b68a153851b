import Derived.Test.YtghkncjelangeaaGreatDoorQAB11
import Derived.Test.YtghkncjelangeaaGreatDoorDaysL
import Derived.Test.YtghkncjelangeaaGreatDoorRows
import Derived.Test.YtghkncjelangeaaGreatDoorDaysT
import Derived.LaidLaws
import Derived.LaidHandle
import Derived.ChangeSame
import Derived.ChangeVars
import Derived.JoinedOf
import Derived.RowKit
import Derived.RowKitTokens
import Derived.Stop.Joined
import Derived.Test.YtghkncjelangeaaGreatDoorTie
import Derived.Test.YtghkncjelangeaaGreatDoorCards
import Derived.SevenTiedAt
set_option linter.unusedSimpArgs false
set_option linter.unusedVariables false
namespace Go.Proofs.YtghkncjelangeaaGreatDoor
open K Go Go.Proofs Go.ChangeShapes Go.WideShapes Go.ChangeAt Go.RowKit
theorem Gu:ku 50=some true:=by decide+kernel
theorem et:Tryz.prog.globalNamed "errors.errorType" =some 0:=by kernel_rfl
theorem rt:(Tryz.prog.cutTypes.find? (·.1 == "internal/reflectlite.rtype")).map (·.2)=some 207:=by kernel_rfl
theorem Oy:Tryz.prog.types.size=296:=by kernel_rfl
theorem L1:((List.range 296).filter fun t=>Tryz.prog.rowNamed t [101,114,114,111,114])=[100]:=by kernel_rfl
theorem vq{W:World}(h:laidMetH Tryz.prog Rows.trunkDaysRow.laid W):W.cell? ⟨0,0,none⟩=some rY:=by
 have h':laidMet Tryz.prog [] W∧handlesMet Tryz.prog Rows.trunkDaysRow.laid W:=h;obtain⟨name,u,ty,e1,e2,e3,e4,e5⟩:=h'.2 _ (List.mem_singleton.2 rfl);have en:name=[101,114,114,111,114]:=(Option.some.inj e1).symm;subst en;obtain rfl:=Option.some.inj (rt.symm.trans e2);have hm:ty∈(List.range 296).filter fun t=>Tryz.prog.rowNamed t [101,114,114,111,114]:=List.mem_filter.2 ⟨List.mem_range.2 (by rw [←Oy];exact e3),e4⟩;rw [L1] at hm;obtain rfl:=List.mem_singleton.1 hm;have hh:typeHandle Tryz.prog 100=hd 100:=by kernel_rfl
 rw [hh] at e5;simpa using World.var?_cell et e5 0
theorem LV{W:World}(hs:W.ShapedOpen Tryz.prog)(h:W.cell? ⟨0,0,none⟩=some rY):W.heap[0]? =some (.cells #[rY] 169 (0,0)):=by
 obtain⟨cs,h1,h2,_⟩:=hs.1 0 #[.nilIface] 169 (Nat.lt_of_lt_of_eq (by decide:0 < 2) (show 2=Tryz.prog.globals.size by kernel_rfl)) (by kernel_rfl);have h3:cs[0]? =some rY:=by simpa [World.cell?,h1] using h
 have h4:cs= #[rY]:=by
  apply Array.ext';match cs,h2,h3 with
  |⟨[a]⟩,_,h3=>simpa using h3
 rw [h1,h4]
theorem aT{a b:Bool}(h:a=true)(h':b=true):(a && b)=true:=by rw [h,h'];rfl
theorem j6:joinedFacts Tryz.prog 3 Tryz.f3 Rows.trunkDaysSpec Rows.trunkDaysRow=true:=by
 unfold joinedFacts;exact(aT (aT (aT (aT (aT (aT (aT (aT (aT (aT (aT (aT (aT (aT (aT (aT (aT (aT (aT (aT (aT (aT (aT (aT (aT (aT (aT (aT (aT (aT (aT RF RE) RD) RB) RA) Rz) Ry) Rx) Rw) Ru) Pi) Pg) Pe) O9) O8) O7) O6) O5) O4) O3) O2) O1) O0) OZ) OY) OX) OW) OU) (by kernel_rfl)) OT) OS) OR)
theorem own:ownKnob Tryz.prog.godebug=none:=by kernel_rfl
theorem laid:laidOutB Tryz.prog=true:=by kernel_rfl
noncomputable def wP (os:Os):World:=
 let w0:=World.holding Tryz.prog os ⟨#[], #[],[]⟩
 { w0 with heap:=w0.heap.modify 0 fun
  | .cells _ t frozen=>.cells #[rY] t frozen
  |o=>o }
theorem wh(os:Os)(args:Array Value):laidMetH Tryz.prog Rows.trunkDaysRow.laid ((wP os).forCall (fun _ _=>0) ⟨#[],args,[]⟩).memory:=
 laidMetH_of_parts (laidMet_nil _ _) (by kernel_rfl)
theorem Ce:Tryz.prog.cellsOf 3=1:=by kernel_rfl
theorem KF:Tryz.prog.cellsOf 22=1:=by kernel_rfl
theorem yl:Tryz.prog.cellsOf 23=1:=by kernel_rfl
theorem KE:Tryz.prog.cellsOf 27=2:=by kernel_rfl
theorem JF:MT Tryz.prog (.slice (.int .i64)) (.inl 23):=⟨3,Tryz.underlying23,Ce,Tryz.underlying3⟩
theorem OM:MT Tryz.prog aY (.inl 27):=⟨_,Tryz.underlying27,by kernel_rfl,rfl,Ce,Tryz.underlying3,.inl ⟨_,rfl,rfl,yl,JF⟩⟩
theorem Rm:MT Tryz.prog (.slice aY) (.inl 22):=⟨27,Tryz.underlying22,KE,OM⟩
theorem Rl:MT Tryz.prog av (.inl 25):=⟨_,Tryz.underlying25,by kernel_rfl,rfl,Ce,Tryz.underlying3,.inr ⟨rfl,KF,Rm,.inl ⟨_,rfl,rfl,yl,JF⟩⟩⟩
theorem Rk:MT Tryz.prog (.slice (.slice (.int .i64))) (.inl 28):=⟨23,Tryz.underlying28,yl,JF⟩
theorem Re:Tryz.prog.readableRec 25=true∧25 < Tryz.prog.types.size:=⟨by kernel_rfl,of_decide_eq_true (by kernel_rfl)⟩
theorem Rb:Tryz.prog.readableRec 27=true∧27 < Tryz.prog.types.size:=⟨by kernel_rfl,of_decide_eq_true (by kernel_rfl)⟩
theorem Q9:Tryz.prog.readableRec 28=true∧28 < Tryz.prog.types.size:=⟨by kernel_rfl,of_decide_eq_true (by kernel_rfl)⟩
theorem Tt:Tryz.prog.readableRec 3=true∧3 < Tryz.prog.types.size:=⟨by kernel_rfl,of_decide_eq_true (by kernel_rfl)⟩
theorem Rf:Tryz.prog.readableRec 23=true∧23 < Tryz.prog.types.size:=⟨by kernel_rfl,of_decide_eq_true (by kernel_rfl)⟩
set_option maxRecDepth 100000 in
theorem lifted(os:Os)(started:os.Started)(H:Type)(enc:TypeId×Value→H):
 ReturnsInLeavingWide {} Tryz.checked os 3 .any (fun w args=>(Rows.trunkDaysSpec.pre enc Tryz.prog Tryz.f3 [] false w args∧laidMetH Tryz.prog Rows.trunkDaysRow.laid w)∧sizedMet enc Tryz.prog Tryz.f3 (OpenSpec.ofChange Rows.trunkDaysSpec) false w args) (Rows.trunkDaysSpec.post enc Tryz.prog Tryz.f3 false true false false):=by
 refine xX (C:=Tryz.checked) (X:=fun w=>laidMetH Tryz.prog Rows.trunkDaysRow.laid w) (fun _ _ hh h=>h.of_heap hh) own started Tryz.func3
  (ChangeSpec.witness_at (enc:=enc) (C:=Tryz.checked) (os:=os) (X:=fun w _=>laidMetH Tryz.prog Rows.trunkDaysRow.laid w) false (wP os) #[.agg #[.int .i64 0,.slice none 0 0,.slice none 0 0],.agg #[.int .i64 0,.slice none 0 0],.slice none 0 0,.int .i64 0,.slice none 0 0] 8 rfl (by kernel_rfl) (by kernel_rfl) (by kernel_rfl) (by kernel_rfl) (by kernel_rfl) (wh os _)) ?_
 intro W base args ds gs before hsh hval hW hL _
 refine I3 (by kernel_rfl) ?_
 refine An (b0:=0) (c0:= #[rY]) (T0:=169) (p0:=iZ) (s:=Rows.trunkDaysSpec) (fun o=>Iff.rfl) (fun v hv=>by simp at hv;subst hv;rfl) [(25,av),(27,aY),(28,(.slice (.slice (.int .i64)))),(3,(.int .i64)),(23,(.slice (.int .i64)))] (fun p hp=>by simp only [List.mem_cons,List.not_mem_nil,or_false] at hp;rcases hp with rfl |rfl |rfl |rfl |rfl <;> rfl) (by rw [Tryz.params3];rfl) rfl Tryz.underlying4 ?_ laid ?_ ?_ rfl ?_ W base args ds gs before (LV hsh (vq hL)) hval hW
 ·
  intro p hp;simp only [List.mem_cons,List.not_mem_nil,or_false] at hp;rcases hp with rfl |rfl |rfl |rfl |rfl
  ·exact Rl
  ·exact OM
  ·exact Rk
  ·exact Tryz.underlying3
  ·exact JF
 ·
  intro T hT;simp only [List.map_cons,List.map_nil,List.mem_cons,List.not_mem_nil,or_false] at hT;rcases hT with rfl |rfl |rfl |rfl |rfl
  ·exact Re
  ·exact Rb
  ·exact Q9
  ·exact Tt
  ·exact Rf
 ·
  rintro ds hd;obtain⟨d0,ds,rfl⟩:=List.exists_cons_of_length_eq_add_one (by simpa using hd:ds.length=4+1);obtain⟨d1,ds,rfl⟩:=List.exists_cons_of_length_eq_add_one (by simpa using hd:ds.length=3+1);obtain⟨d2,ds,rfl⟩:=List.exists_cons_of_length_eq_add_one (by simpa using hd:ds.length=2+1);obtain⟨d3,ds,rfl⟩:=List.exists_cons_of_length_eq_add_one (by simpa using hd:ds.length=1+1);obtain⟨d4,ds,rfl⟩:=List.exists_cons_of_length_eq_add_one (by simpa using hd:ds.length=0+1);have:ds=[]:=List.eq_nil_of_length_eq_zero (by simpa using hd);subst this;rfl
 ·
  rintro l ⟨a0,l0,rfl,a1,l1,rfl,a2,l2,rfl,a3,l3,rfl,a4,l4,rfl,rfl⟩;exact Fp 3 rfl (td 50 a0 a1 a2 a3 a4 true (ux (by decide) (by decide) Gu a0 a1 a2 a3 a4))
theorem vV:Rows.TrunkDaysSaid:=
 OpenClaim.holds_of_wide_leaving 3 Tryz.f3 rfl rfl rfl rfl rfl rfl rfl ⟨rfl,rfl,rfl,rfl,rfl⟩ rfl rfl rfl rfl rfl (by kernel_rfl) Tryz.func3 j6
  (of_decide_eq_true (by kernel_rfl)) (by unfold Func.isWrapper;rw [if_neg (by decide+kernel)];exact⟨rfl,rfl⟩)
  (fun os started H enc _=>lifted os started H enc)
theorem Np:Tryz.prog.mainIs=some (Rows.trunkDaysCard.stood.harness.1,Rows.trunkDaysCard.stood.harness.2.toList):=by kernel_rfl
theorem KI:true=Tryz.prog.looks []:=by kernel_rfl
theorem KH:Tryz.prog.funcNamed Rows.trunkDaysRow.func=some 3:=by kernel_rfl
theorem Ig:Tryz.prog.wantsStandIn 25=false:=by kernel_rfl
theorem If:Tryz.prog.wantsStandIn 27=false:=by kernel_rfl
theorem Ie:Tryz.prog.wantsStandIn 28=false:=by kernel_rfl
theorem KG:Tryz.prog.wantsStandIn 3=false:=by kernel_rfl
theorem Ih:Tryz.prog.wantsStandIn 23=false:=by kernel_rfl
theorem Nl(t:TypeId)(h:t=25∨t=27∨t=28∨t=3∨t=23):Tryz.prog.wantsStandIn t=false:=by
 rcases h with rfl |rfl |rfl |rfl |rfl
 ·exact Ig
 ·exact If
 ·exact Ie
 ·exact KG
 ·exact Ih
theorem Nn:Rows.trunkDaysRow.wfByText (OpenSpec.ofChange Rows.trunkDaysSpec)=true:=by kernel_rfl
theorem Nq:true=Rows.trunkDaysRow.goesBy Tryz.prog:=by kernel_rfl
theorem trunk_days_holds:Rows.TrunkDaysCardSaid:=
 ⟨(Claim7.holdsOne_goes _ _ { Rows.trunkDaysCard with goes:=false } true).2 (Claim7.tied_new_at .later [.handle] true (Claim7.new_of_sixth vV Rows.trunkDaysCard.stood.harness true rfl ⟨rfl,rfl⟩ Np rfl
  (fun f fn hf hfn=>by
   obtain rfl:f=3:=Option.some.inj (KH.symm.trans hf) |>.symm
   obtain rfl:fn=Tryz.f3:=(Option.some.inj (Tryz.func3.symm.trans hfn)).symm
   exact⟨KI,fun j t ht=>by
    rw [Tryz.params3] at ht
    have h3:=Array.mem_of_getElem? ht
    simp only [List.mem_toArray,List.mem_cons,List.not_mem_nil,or_false] at h3
    exact Nl t h3⟩)) Nn),(fun _ hD=>(nomatch hD)),trunkDays_row_tie,(fun h=>(nomatch h)),Nq⟩
end Go.Proofs.YtghkncjelangeaaGreatDoor
