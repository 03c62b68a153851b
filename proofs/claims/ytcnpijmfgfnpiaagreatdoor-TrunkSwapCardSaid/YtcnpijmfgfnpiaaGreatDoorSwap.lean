import Derived.Test.YtcnpijmfgfnpiaaGreatDoorVB11
import Derived.Test.YtcnpijmfgfnpiaaGreatDoorSwapL
import Derived.Test.YtcnpijmfgfnpiaaGreatDoorRows
import Derived.Test.YtcnpijmfgfnpiaaGreatDoorSwapT
import Derived.LaidLaws
import Derived.LaidHandle
import Derived.ChangeSame
import Derived.ChangeVars
import Derived.JoinedOf
import Derived.RowKit
import Derived.RowKitTokens
import Derived.Stop.Joined
import Derived.Test.YtcnpijmfgfnpiaaGreatDoorTie
import Derived.Test.YtcnpijmfgfnpiaaGreatDoorCards
import Derived.SevenTiedAt
set_option linter.unusedSimpArgs false
set_option linter.unusedVariables false
namespace Go.Proofs.YtcnpijmfgfnpiaaGreatDoor
open K Go Go.Proofs Go.ChangeShapes Go.WideShapes Go.ChangeAt Go.RowKit
theorem uK:fp 50=some true:=by decide+kernel
theorem et:Tryz.prog.globalNamed "errors.errorType" =some 0:=by kernel_rfl
theorem rt:(Tryz.prog.cutTypes.find? (·.1 == "internal/reflectlite.rtype")).map (·.2)=some 221:=by kernel_rfl
theorem FN:Tryz.prog.types.size=310:=by kernel_rfl
theorem A3:((List.range 310).filter fun t=>Tryz.prog.rowNamed t [101,114,114,111,114])=[121]:=by kernel_rfl
theorem lW{W:World}(h:laidMetH Tryz.prog Rows.trunkSwapRow.laid W):W.cell? ⟨0,0,none⟩=some mJ:=by
 have h':laidMet Tryz.prog [] W∧handlesMet Tryz.prog Rows.trunkSwapRow.laid W:=h;obtain⟨name,u,ty,e1,e2,e3,e4,e5⟩:=h'.2 _ (List.mem_singleton.2 rfl);have en:name=[101,114,114,111,114]:=(Option.some.inj e1).symm;subst en;obtain rfl:=Option.some.inj (rt.symm.trans e2);have hm:ty∈(List.range 310).filter fun t=>Tryz.prog.rowNamed t [101,114,114,111,114]:=List.mem_filter.2 ⟨List.mem_range.2 (by rw [←FN];exact e3),e4⟩;rw [A3] at hm;obtain rfl:=List.mem_singleton.1 hm;have hh:typeHandle Tryz.prog 121=hd 121:=by kernel_rfl
 rw [hh] at e5;simpa using World.var?_cell et e5 0
theorem AT{W:World}(hs:W.ShapedOpen Tryz.prog)(h:W.cell? ⟨0,0,none⟩=some mJ):W.heap[0]? =some (.cells #[mJ] 185 (0,0)):=by
 obtain⟨cs,h1,h2,_⟩:=hs.1 0 #[.nilIface] 185 (Nat.lt_of_lt_of_eq (by decide:0 < 2) (show 2=Tryz.prog.globals.size by kernel_rfl)) (by kernel_rfl);have h3:cs[0]? =some mJ:=by simpa [World.cell?,h1] using h
 have h4:cs= #[mJ]:=by
  apply Array.ext';match cs,h2,h3 with
  |⟨[a]⟩,_,h3=>simpa using h3
 rw [h1,h4]
theorem aT{a b:Bool}(h:a=true)(h':b=true):(a && b)=true:=by rw [h,h'];rfl
theorem j6:joinedFacts Tryz.prog 7 Tryz.f7 Rows.trunkSwapSpec Rows.trunkSwapRow=true:=by
 unfold joinedFacts;exact(aT (aT (aT (aT (aT (aT (aT (aT (aT (aT (aT (aT (aT (aT (aT (aT (aT (aT (aT (aT (aT (aT (aT (aT (aT (aT (aT (aT (aT (aT (aT Nc Nb) Na) M9) M8) M7) M6) M5) M4) MZ) HO) HN) HM) HL) HK) HJ) HI) HH) HG) HF) HE) HD) HC) HB) HA) Hz) Hy) Hw) (by kernel_rfl)) Hv) Hu) Ht)
theorem own:ownKnob Tryz.prog.godebug=none:=by kernel_rfl
theorem laid:laidOutB Tryz.prog=true:=by kernel_rfl
noncomputable def nc (os:Os):World:=
 let w0:=World.holding Tryz.prog os ⟨#[], #[],[]⟩
 { w0 with heap:=w0.heap.modify 0 fun
  | .cells _ t frozen=>.cells #[mJ] t frozen
  |o=>o }
theorem mI(os:Os)(args:Array Value):laidMetH Tryz.prog Rows.trunkSwapRow.laid ((nc os).forCall (fun _ _=>0) ⟨#[],args,[]⟩).memory:=
 laidMetH_of_parts (laidMet_nil _ _) (by kernel_rfl)
set_option maxRecDepth 100000 in
theorem lifted(os:Os)(started:os.Started)(H:Type)(enc:TypeId×Value→H):
 ReturnsInLeavingWide {} Tryz.checked os 7 .any (fun w args=>(Rows.trunkSwapSpec.pre enc Tryz.prog Tryz.f7 [] false w args∧laidMetH Tryz.prog Rows.trunkSwapRow.laid w)∧sizedMet enc Tryz.prog Tryz.f7 (OpenSpec.ofChange Rows.trunkSwapSpec) false w args) (Rows.trunkSwapSpec.post enc Tryz.prog Tryz.f7 false true false false):=by
 refine rJ (C:=Tryz.checked) (X:=fun w=>laidMetH Tryz.prog Rows.trunkSwapRow.laid w) (fun _ _ hh h=>h.of_heap hh) own started Tryz.func7
  (ChangeSpec.witness_at (enc:=enc) (C:=Tryz.checked) (os:=os) (X:=fun w _=>laidMetH Tryz.prog Rows.trunkSwapRow.laid w) false (nc os) #[.slice none 0 0] 8 rfl (by kernel_rfl) (by kernel_rfl) (by kernel_rfl) (by kernel_rfl) (by kernel_rfl) (mI os _)) ?_
 intro W base args ds gs before hsh hval hW hL _
 refine B0 (by kernel_rfl) ?_
 refine tM (b0:=0) (c0:= #[mJ]) (T0:=185) (p0:=dO) (s:=Rows.trunkSwapSpec) (fun o=>Iff.rfl) (fun v hv=>by simp at hv;subst hv;rfl) [(23,.slice (.int .i64))] (fun p hp=>by simp at hp;subst hp;rfl) (by rw [Tryz.params7];rfl) rfl Tryz.underlying4 ?_ laid ?_ ?_ rfl ?_ W base args ds gs before (AT hsh (lW hL)) hval hW
 ·
  intro p hp;simp only [List.mem_cons,List.not_mem_nil,or_false] at hp;subst hp;exact⟨3,Tryz.underlying23,by kernel_rfl,Tryz.underlying3⟩
 ·
  intro T hT;simp only [List.map_cons,List.map_nil,List.mem_cons,List.not_mem_nil,or_false] at hT;subst hT;exact⟨by kernel_rfl,of_decide_eq_true (by kernel_rfl)⟩
 ·
  rintro ds hd;match ds,hd with
  |[d],_=>rfl
 ·
  rintro l ⟨a0,_,rfl,rfl⟩;exact sW 50 a0 true (uh (by decide) (by decide) uK a0)
theorem mH:Rows.TrunkSwapSaid:=
 OpenClaim.holds_of_wide_leaving 7 Tryz.f7 rfl rfl rfl rfl rfl rfl rfl ⟨rfl,rfl,rfl,rfl,rfl⟩ rfl rfl rfl rfl rfl (by kernel_rfl) Tryz.func7 j6
  (of_decide_eq_true (by kernel_rfl)) (by unfold Func.isWrapper;rw [if_neg (by decide+kernel)];exact⟨rfl,rfl⟩)
  (fun os started H enc _=>lifted os started H enc)
theorem BP:Tryz.prog.mainIs=some (Rows.trunkSwapCard.stood.harness.1,Rows.trunkSwapCard.stood.harness.2.toList):=by kernel_rfl
theorem yg:true=Tryz.prog.looks []:=by kernel_rfl
theorem yf:Tryz.prog.funcNamed Rows.trunkSwapRow.func=some 7:=by kernel_rfl
theorem BN:Tryz.prog.wantsStandIn 23=false:=by kernel_rfl
theorem BO:Rows.trunkSwapRow.wfByText (OpenSpec.ofChange Rows.trunkSwapSpec)=true:=by kernel_rfl
theorem BQ:true=Rows.trunkSwapRow.goesBy Tryz.prog:=by kernel_rfl
theorem trunk_swap_holds:Rows.TrunkSwapCardSaid:=
 ⟨(Claim7.holdsOne_goes _ _ { Rows.trunkSwapCard with goes:=false } true).2 (Claim7.tied_new_at .later [.handle] true (Claim7.new_of_sixth mH Rows.trunkSwapCard.stood.harness true rfl ⟨rfl,rfl⟩ BP rfl
  (fun f fn hf hfn=>by
   obtain rfl:f=7:=Option.some.inj (yf.symm.trans hf) |>.symm
   obtain rfl:fn=Tryz.f7:=(Option.some.inj (Tryz.func7.symm.trans hfn)).symm
   exact⟨yg,fun j t ht=>by
    rw [Tryz.params7] at ht
    have h3:t=23:=by
     rcases j with _ |j
     ·simpa using ht.symm
     ·simp at ht
    subst h3;exact BN⟩)) BO),(fun _ hD=>(nomatch hD)),trunkSwap_row_tie,(fun h=>(nomatch h)),BQ⟩
end Go.Proofs.YtcnpijmfgfnpiaaGreatDoor
