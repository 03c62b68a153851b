import Derived.Test.YtcnpijmfgfnpiaaGreatDoorXXB12
import Derived.Test.YtcnpijmfgfnpiaaGreatDoorFewL
import Derived.Test.YtcnpijmfgfnpiaaGreatDoorRows
import Derived.Test.YtcnpijmfgfnpiaaGreatDoorFewT
import Derived.LaidLaws
import Derived.LaidHandle
import Derived.ChangeSame
import Derived.ChangeVars
import Derived.JoinedOf
import Derived.RowKit
import Derived.RowKitTokens
import Derived.Stop.Joined
import Derived.Test.YtcnpijmfgfnpiaaGreatDoorTie
import Derived.Test.YtcnpijmfgfnpiaaGreatDoorCards
import Derived.SevenTiedAt
set_option linter.unusedSimpArgs false
set_option linter.unusedVariables false
namespace Go.Proofs.YtcnpijmfgfnpiaaGreatDoor
open K Go Go.Proofs Go.ChangeShapes Go.WideShapes Go.ChangeAt Go.RowKit
theorem A7:jd 3000=some true:=by decide+kernel
theorem et:Tryz.prog.globalNamed "errors.errorType" =some 0:=by kernel_rfl
theorem rt:(Tryz.prog.cutTypes.find? (·.1 == "internal/reflectlite.rtype")).map (·.2)=some 221:=by kernel_rfl
theorem N5:Tryz.prog.types.size=310:=by kernel_rfl
theorem LJ:((List.range 310).filter fun t=>Tryz.prog.rowNamed t [101,114,114,111,114])=[121]:=by kernel_rfl
theorem uY{W:World}(h:laidMetH Tryz.prog Rows.trunkFewRow.laid W):W.cell? ⟨0,0,none⟩=some rG:=by
 have h':laidMet Tryz.prog [] W∧handlesMet Tryz.prog Rows.trunkFewRow.laid W:=h;obtain⟨name,u,ty,e1,e2,e3,e4,e5⟩:=h'.2 _ (List.mem_singleton.2 rfl);have en:name=[101,114,114,111,114]:=(Option.some.inj e1).symm;subst en;obtain rfl:=Option.some.inj (rt.symm.trans e2);have hm:ty∈(List.range 310).filter fun t=>Tryz.prog.rowNamed t [101,114,114,111,114]:=List.mem_filter.2 ⟨List.mem_range.2 (by rw [←N5];exact e3),e4⟩;rw [LJ] at hm;obtain rfl:=List.mem_singleton.1 hm;have hh:typeHandle Tryz.prog 121=hd 121:=by kernel_rfl
 rw [hh] at e5;simpa using World.var?_cell et e5 0
theorem Lu{W:World}(hs:W.ShapedOpen Tryz.prog)(h:W.cell? ⟨0,0,none⟩=some rG):W.heap[0]? =some (.cells #[rG] 185 (0,0)):=by
 obtain⟨cs,h1,h2,_⟩:=hs.1 0 #[.nilIface] 185 (Nat.lt_of_lt_of_eq (by decide:0 < 2) (show 2=Tryz.prog.globals.size by kernel_rfl)) (by kernel_rfl);have h3:cs[0]? =some rG:=by simpa [World.cell?,h1] using h
 have h4:cs= #[rG]:=by
  apply Array.ext';match cs,h2,h3 with
  |⟨[a]⟩,_,h3=>simpa using h3
 rw [h1,h4]
theorem aT{a b:Bool}(h:a=true)(h':b=true):(a && b)=true:=by rw [h,h'];rfl
theorem j6:joinedFacts Tryz.prog 21 Tryz.f21 Rows.trunkFewSpec Rows.trunkFewRow=true:=by
 unfold joinedFacts;exact(aT (aT (aT (aT (aT (aT (aT (aT (aT (aT (aT (aT (aT (aT (aT (aT (aT (aT (aT (aT (aT (aT (aT (aT (aT (aT (aT (aT (aT (aT (aT Q6 Q5) Q4) Q3) Q2) Q1) Q0) QZ) QY) QX) OQ) OP) OO) ON) OM) OL) OK) OJ) OI) OH) OG) OF) OE) OD) OC) OB) OA) Oz) (by kernel_rfl)) Oy) Ox) Ov)
theorem own:ownKnob Tryz.prog.godebug=none:=by kernel_rfl
theorem laid:laidOutB Tryz.prog=true:=by kernel_rfl
noncomputable def wE (os:Os):World:=
 let w0:=World.holding Tryz.prog os ⟨#[], #[],[]⟩
 { w0 with heap:=w0.heap.modify 0 fun
  | .cells _ t frozen=>.cells #[rG] t frozen
  |o=>o }
theorem vR(os:Os)(args:Array Value):laidMetH Tryz.prog Rows.trunkFewRow.laid ((wE os).forCall (fun _ _=>0) ⟨#[],args,[]⟩).memory:=
 laidMetH_of_parts (laidMet_nil _ _) (by kernel_rfl)
set_option maxRecDepth 100000 in
theorem lifted(os:Os)(started:os.Started)(H:Type)(enc:TypeId×Value→H):
 ReturnsInLeavingWide {} Tryz.checked os 21 .any (fun w args=>(Rows.trunkFewSpec.pre enc Tryz.prog Tryz.f21 [] false w args∧laidMetH Tryz.prog Rows.trunkFewRow.laid w)∧sizedMet enc Tryz.prog Tryz.f21 (OpenSpec.ofChange Rows.trunkFewSpec) false w args) (Rows.trunkFewSpec.post enc Tryz.prog Tryz.f21 false true false false):=by
 refine xJ (C:=Tryz.checked) (X:=fun w=>laidMetH Tryz.prog Rows.trunkFewRow.laid w) (fun _ _ hh h=>h.of_heap hh) own started Tryz.func21
  (ChangeSpec.witness_at (enc:=enc) (C:=Tryz.checked) (os:=os) (X:=fun w _=>laidMetH Tryz.prog Rows.trunkFewRow.laid w) false (wE os) #[.slice none 0 0] 8 rfl (by kernel_rfl) (by kernel_rfl) (by kernel_rfl) (by kernel_rfl) (by kernel_rfl) (vR os _)) ?_
 intro W base args ds gs before hsh hval hW hL _
 refine Iu (by kernel_rfl) ?_
 refine Ac (b0:=0) (c0:= #[rG]) (T0:=185) (p0:=ig) (s:=Rows.trunkFewSpec) (fun o=>Iff.rfl) (fun v hv=>by simp at hv;subst hv;rfl) [(23,.slice (.int .i64))] (fun p hp=>by simp at hp;subst hp;rfl) (by rw [Tryz.params21];rfl) rfl Tryz.underlying4 ?_ laid ?_ ?_ rfl ?_ W base args ds gs before (Lu hsh (uY hL)) hval hW
 ·
  intro p hp;simp only [List.mem_cons,List.not_mem_nil,or_false] at hp;subst hp;exact⟨3,Tryz.underlying23,by kernel_rfl,Tryz.underlying3⟩
 ·
  intro T hT;simp only [List.map_cons,List.map_nil,List.mem_cons,List.not_mem_nil,or_false] at hT;subst hT;exact⟨by kernel_rfl,of_decide_eq_true (by kernel_rfl)⟩
 ·
  rintro ds hd;match ds,hd with
  |[d],_=>rfl
 ·
  rintro l ⟨a0,_,rfl,rfl⟩;exact tN 3000 a0 true (vE rfl A7 a0)
theorem vI:Rows.TrunkFewSaid:=
 OpenClaim.holds_of_wide_leaving 21 Tryz.f21 rfl rfl rfl rfl rfl rfl rfl ⟨rfl,rfl,rfl,rfl,rfl⟩ rfl rfl rfl rfl rfl (by kernel_rfl) Tryz.func21 j6
  (of_decide_eq_true (by kernel_rfl)) (by unfold Func.isWrapper;rw [if_neg (by decide+kernel)];exact⟨rfl,rfl⟩)
  (fun os started H enc _=>lifted os started H enc)
theorem MZ:Tryz.prog.mainIs=some (Rows.trunkFewCard.stood.harness.1,Rows.trunkFewCard.stood.harness.2.toList):=by kernel_rfl
theorem JV:true=Tryz.prog.looks []:=by kernel_rfl
theorem JU:Tryz.prog.funcNamed Rows.trunkFewRow.func=some 21:=by kernel_rfl
theorem MX:Tryz.prog.wantsStandIn 23=false:=by kernel_rfl
theorem MY:Rows.trunkFewRow.wfByText (OpenSpec.ofChange Rows.trunkFewSpec)=true:=by kernel_rfl
theorem M4:true=Rows.trunkFewRow.goesBy Tryz.prog:=by kernel_rfl
theorem trunk_few_holds:Rows.TrunkFewCardSaid:=
 ⟨(Claim7.holdsOne_goes _ _ { Rows.trunkFewCard with goes:=false } true).2 (Claim7.tied_new_at .later [.handle] true (Claim7.new_of_sixth vI Rows.trunkFewCard.stood.harness true rfl ⟨rfl,rfl⟩ MZ rfl
  (fun f fn hf hfn=>by
   obtain rfl:f=21:=Option.some.inj (JU.symm.trans hf) |>.symm
   obtain rfl:fn=Tryz.f21:=(Option.some.inj (Tryz.func21.symm.trans hfn)).symm
   exact⟨JV,fun j t ht=>by
    rw [Tryz.params21] at ht
    have h3:t=23:=by
     rcases j with _ |j
     ·simpa using ht.symm
     ·simp at ht
    subst h3;exact MX⟩)) MY),(fun _ hD=>(nomatch hD)),trunkFew_row_tie,(fun h=>(nomatch h)),M4⟩
end Go.Proofs.YtcnpijmfgfnpiaaGreatDoor
