import Derived.Test.YtcnpijmfgfnpiaaGreatDoorXZB11
import Derived.Test.YtcnpijmfgfnpiaaGreatDoorRoomL
import Derived.Test.YtcnpijmfgfnpiaaGreatDoorRows
import Derived.Test.YtcnpijmfgfnpiaaGreatDoorRoomT
import Derived.LaidLaws
import Derived.LaidHandle
import Derived.ChangeSame
import Derived.ChangeVars
import Derived.JoinedOf
import Derived.RowKit
import Derived.RowKitTokens
import Derived.Stop.Joined
import Derived.Test.YtcnpijmfgfnpiaaGreatDoorTie
import Derived.Test.YtcnpijmfgfnpiaaGreatDoorCards
import Derived.SevenTiedAt
set_option linter.unusedSimpArgs false
set_option linter.unusedVariables false
namespace Go.Proofs.YtcnpijmfgfnpiaaGreatDoor
open K Go Go.Proofs Go.ChangeShapes Go.WideShapes Go.ChangeAt Go.RowKit
theorem AA:k7 3000=some true:=by decide+kernel
theorem et:Tryz.prog.globalNamed "errors.errorType" =some 0:=by kernel_rfl
theorem rt:(Tryz.prog.cutTypes.find? (·.1 == "internal/reflectlite.rtype")).map (·.2)=some 221:=by kernel_rfl
theorem NJ:Tryz.prog.types.size=310:=by kernel_rfl
theorem Lj:((List.range 310).filter fun t=>Tryz.prog.rowNamed t [101,114,114,111,114])=[121]:=by kernel_rfl
theorem uw{W:World}(h:laidMetH Tryz.prog Rows.trunkRoomRow.laid W):W.cell? ⟨0,0,none⟩=some rf:=by
 have h':laidMet Tryz.prog [] W∧handlesMet Tryz.prog Rows.trunkRoomRow.laid W:=h;obtain⟨name,u,ty,e1,e2,e3,e4,e5⟩:=h'.2 _ (List.mem_singleton.2 rfl);have en:name=[101,114,114,111,114]:=(Option.some.inj e1).symm;subst en;obtain rfl:=Option.some.inj (rt.symm.trans e2);have hm:ty∈(List.range 310).filter fun t=>Tryz.prog.rowNamed t [101,114,114,111,114]:=List.mem_filter.2 ⟨List.mem_range.2 (by rw [←NJ];exact e3),e4⟩;rw [Lj] at hm;obtain rfl:=List.mem_singleton.1 hm;have hh:typeHandle Tryz.prog 121=hd 121:=by kernel_rfl
 rw [hh] at e5;simpa using World.var?_cell et e5 0
theorem K7{W:World}(hs:W.ShapedOpen Tryz.prog)(h:W.cell? ⟨0,0,none⟩=some rf):W.heap[0]? =some (.cells #[rf] 185 (0,0)):=by
 obtain⟨cs,h1,h2,_⟩:=hs.1 0 #[.nilIface] 185 (Nat.lt_of_lt_of_eq (by decide:0 < 2) (show 2=Tryz.prog.globals.size by kernel_rfl)) (by kernel_rfl);have h3:cs[0]? =some rf:=by simpa [World.cell?,h1] using h
 have h4:cs= #[rf]:=by
  apply Array.ext';match cs,h2,h3 with
  |⟨[a]⟩,_,h3=>simpa using h3
 rw [h1,h4]
theorem aT{a b:Bool}(h:a=true)(h':b=true):(a && b)=true:=by rw [h,h'];rfl
theorem j6:joinedFacts Tryz.prog 8 Tryz.f8 Rows.trunkRoomSpec Rows.trunkRoomRow=true:=by
 unfold joinedFacts;exact(aT (aT (aT (aT (aT (aT (aT (aT (aT (aT (aT (aT (aT (aT (aT (aT (aT (aT (aT (aT (aT (aT (aT (aT (aT (aT (aT (aT (aT (aT (aT QM QL) QK) QJ) QI) QH) QG) QF) QE) QD) Oz) Oy) Ox) Ov) Ou) Ot) Oq) Oo) On) Om) Ol) Oj) Oi) Oh) Og) Of) Oe) Oc) (by kernel_rfl)) Ob) Oa) N9)
theorem own:ownKnob Tryz.prog.godebug=none:=by kernel_rfl
theorem laid:laidOutB Tryz.prog=true:=by kernel_rfl
noncomputable def wc (os:Os):World:=
 let w0:=World.holding Tryz.prog os ⟨#[], #[],[]⟩
 { w0 with heap:=w0.heap.modify 0 fun
  | .cells _ t frozen=>.cells #[rf] t frozen
  |o=>o }
theorem vq(os:Os)(args:Array Value):laidMetH Tryz.prog Rows.trunkRoomRow.laid ((wc os).forCall (fun _ _=>0) ⟨#[],args,[]⟩).memory:=
 laidMetH_of_parts (laidMet_nil _ _) (by kernel_rfl)
set_option maxRecDepth 100000 in
theorem lifted(os:Os)(started:os.Started)(H:Type)(enc:TypeId×Value→H):
 ReturnsInLeavingWide {} Tryz.checked os 8 .any (fun w args=>(Rows.trunkRoomSpec.pre enc Tryz.prog Tryz.f8 [] false w args∧laidMetH Tryz.prog Rows.trunkRoomRow.laid w)∧sizedMet enc Tryz.prog Tryz.f8 (OpenSpec.ofChange Rows.trunkRoomSpec) false w args) (Rows.trunkRoomSpec.post enc Tryz.prog Tryz.f8 false true false false):=by
 refine xl (C:=Tryz.checked) (X:=fun w=>laidMetH Tryz.prog Rows.trunkRoomRow.laid w) (fun _ _ hh h=>h.of_heap hh) own started Tryz.func8
  (ChangeSpec.witness_at (enc:=enc) (C:=Tryz.checked) (os:=os) (X:=fun w _=>laidMetH Tryz.prog Rows.trunkRoomRow.laid w) false (wc os) #[.slice none 0 0] 8 rfl (by kernel_rfl) (by kernel_rfl) (by kernel_rfl) (by kernel_rfl) (by kernel_rfl) (vq os _)) ?_
 intro W base args ds gs before hsh hval hW hL _
 refine H9 (by kernel_rfl) ?_
 refine zE (b0:=0) (c0:= #[rf]) (T0:=185) (p0:=gx) (s:=Rows.trunkRoomSpec) (fun o=>Iff.rfl) (fun v hv=>by simp at hv;subst hv;rfl) [(23,.slice (.int .i64))] (fun p hp=>by simp at hp;subst hp;rfl) (by rw [Tryz.params8];rfl) rfl Tryz.underlying4 ?_ laid ?_ ?_ rfl ?_ W base args ds gs before (K7 hsh (uw hL)) hval hW
 ·
  intro p hp;simp only [List.mem_cons,List.not_mem_nil,or_false] at hp;subst hp;exact⟨3,Tryz.underlying23,by kernel_rfl,Tryz.underlying3⟩
 ·
  intro T hT;simp only [List.map_cons,List.map_nil,List.mem_cons,List.not_mem_nil,or_false] at hT;subst hT;exact⟨by kernel_rfl,of_decide_eq_true (by kernel_rfl)⟩
 ·
  rintro ds hd;match ds,hd with
  |[d],_=>rfl
 ·
  rintro l ⟨a0,_,rfl,rfl⟩;exact sq 3000 a0 true (tN (by decide) (by decide) AA a0)
theorem vb:Rows.TrunkRoomSaid:=
 OpenClaim.holds_of_wide_leaving 8 Tryz.f8 rfl rfl rfl rfl rfl rfl rfl ⟨rfl,rfl,rfl,rfl,rfl⟩ rfl rfl rfl rfl rfl (by kernel_rfl) Tryz.func8 j6
  (of_decide_eq_true (by kernel_rfl)) (by unfold Func.isWrapper;rw [if_neg (by decide+kernel)];exact⟨rfl,rfl⟩)
  (fun os started H enc _=>lifted os started H enc)
theorem ME:Tryz.prog.mainIs=some (Rows.trunkRoomCard.stood.harness.1,Rows.trunkRoomCard.stood.harness.2.toList):=by kernel_rfl
theorem JB:true=Tryz.prog.looks []:=by kernel_rfl
theorem JA:Tryz.prog.funcNamed Rows.trunkRoomRow.func=some 8:=by kernel_rfl
theorem MC:Tryz.prog.wantsStandIn 23=false:=by kernel_rfl
theorem MD:Rows.trunkRoomRow.wfByText (OpenSpec.ofChange Rows.trunkRoomSpec)=true:=by kernel_rfl
theorem MF:true=Rows.trunkRoomRow.goesBy Tryz.prog:=by kernel_rfl
theorem trunk_room_holds:Rows.TrunkRoomCardSaid:=
 ⟨(Claim7.holdsOne_goes _ _ { Rows.trunkRoomCard with goes:=false } true).2 (Claim7.tied_new_at .later [.handle] true (Claim7.new_of_sixth vb Rows.trunkRoomCard.stood.harness true rfl ⟨rfl,rfl⟩ ME rfl
  (fun f fn hf hfn=>by
   obtain rfl:f=8:=Option.some.inj (JA.symm.trans hf) |>.symm
   obtain rfl:fn=Tryz.f8:=(Option.some.inj (Tryz.func8.symm.trans hfn)).symm
   exact⟨JB,fun j t ht=>by
    rw [Tryz.params8] at ht
    have h3:t=23:=by
     rcases j with _ |j
     ·simpa using ht.symm
     ·simp at ht
    subst h3;exact MC⟩)) MD),(fun _ hD=>(nomatch hD)),trunkRoom_row_tie,(fun h=>(nomatch h)),MF⟩
end Go.Proofs.YtcnpijmfgfnpiaaGreatDoor
