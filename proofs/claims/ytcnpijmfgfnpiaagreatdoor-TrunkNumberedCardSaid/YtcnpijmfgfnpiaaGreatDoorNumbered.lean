import Derived.Test.YtcnpijmfgfnpiaaGreatDoorWB11
import Derived.Test.YtcnpijmfgfnpiaaGreatDoorNumberedL
import Derived.Test.YtcnpijmfgfnpiaaGreatDoorRows
import Derived.Test.YtcnpijmfgfnpiaaGreatDoorNumberedT
import Derived.LaidLaws
import Derived.LaidHandle
import Derived.ChangeSame
import Derived.ChangeVars
import Derived.JoinedOf
import Derived.RowKit
import Derived.RowKitTokens
import Derived.Stop.Joined
import Derived.Test.YtcnpijmfgfnpiaaGreatDoorTie
import Derived.Test.YtcnpijmfgfnpiaaGreatDoorCards
import Derived.SevenTiedAt
set_option linter.unusedSimpArgs false
set_option linter.unusedVariables false
namespace Go.Proofs.YtcnpijmfgfnpiaaGreatDoor
open K Go Go.Proofs Go.ChangeShapes Go.WideShapes Go.ChangeAt Go.RowKit
theorem rf:fp 3000=some true:=by decide+kernel
theorem et:Tryz.prog.globalNamed "errors.errorType" =some 0:=by kernel_rfl
theorem rt:(Tryz.prog.cutTypes.find? (·.1 == "internal/reflectlite.rtype")).map (·.2)=some 221:=by kernel_rfl
theorem GQ:Tryz.prog.types.size=310:=by kernel_rfl
theorem Cc:((List.range 310).filter fun t=>Tryz.prog.rowNamed t [101,114,114,111,114])=[121]:=by kernel_rfl
theorem me{W:World}(h:laidMetH Tryz.prog Rows.trunkNumberedRow.laid W):W.cell? ⟨0,0,none⟩=some m6:=by
 have h':laidMet Tryz.prog [] W∧handlesMet Tryz.prog Rows.trunkNumberedRow.laid W:=h;obtain⟨name,u,ty,e1,e2,e3,e4,e5⟩:=h'.2 _ (List.mem_singleton.2 rfl);have en:name=[101,114,114,111,114]:=(Option.some.inj e1).symm;subst en;obtain rfl:=Option.some.inj (rt.symm.trans e2);have hm:ty∈(List.range 310).filter fun t=>Tryz.prog.rowNamed t [101,114,114,111,114]:=List.mem_filter.2 ⟨List.mem_range.2 (by rw [←GQ];exact e3),e4⟩;rw [Cc] at hm;obtain rfl:=List.mem_singleton.1 hm;have hh:typeHandle Tryz.prog 121=hd 121:=by kernel_rfl
 rw [hh] at e5;simpa using World.var?_cell et e5 0
theorem BS{W:World}(hs:W.ShapedOpen Tryz.prog)(h:W.cell? ⟨0,0,none⟩=some m6):W.heap[0]? =some (.cells #[m6] 185 (0,0)):=by
 obtain⟨cs,h1,h2,_⟩:=hs.1 0 #[.nilIface] 185 (Nat.lt_of_lt_of_eq (by decide:0 < 2) (show 2=Tryz.prog.globals.size by kernel_rfl)) (by kernel_rfl);have h3:cs[0]? =some m6:=by simpa [World.cell?,h1] using h
 have h4:cs= #[m6]:=by
  apply Array.ext';match cs,h2,h3 with
  |⟨[a]⟩,_,h3=>simpa using h3
 rw [h1,h4]
theorem aT{a b:Bool}(h:a=true)(h':b=true):(a && b)=true:=by rw [h,h'];rfl
theorem j6:joinedFacts Tryz.prog 14 Tryz.f14 Rows.trunkNumberedSpec Rows.trunkNumberedRow=true:=by
 unfold joinedFacts;exact(aT (aT (aT (aT (aT (aT (aT (aT (aT (aT (aT (aT (aT (aT (aT (aT (aT (aT (aT (aT (aT (aT (aT (aT (aT (aT (aT (aT (aT (aT (aT NZ NY) NX) NW) NV) NU) NT) NS) NR) NQ) IC) IB) IA) Iz) Iy) Ix) Iw) Iu) It) Is) Ir) Iq) Ip) Io) Im) Il) Ik) Ij) (by kernel_rfl)) Ii) Ih) Ig)
theorem own:ownKnob Tryz.prog.godebug=none:=by kernel_rfl
theorem laid:laidOutB Tryz.prog=true:=by kernel_rfl
noncomputable def nJ (os:Os):World:=
 let w0:=World.holding Tryz.prog os ⟨#[], #[],[]⟩
 { w0 with heap:=w0.heap.modify 0 fun
  | .cells _ t frozen=>.cells #[m6] t frozen
  |o=>o }
theorem m4(os:Os)(args:Array Value):laidMetH Tryz.prog Rows.trunkNumberedRow.laid ((nJ os).forCall (fun _ _=>0) ⟨#[],args,[]⟩).memory:=
 laidMetH_of_parts (laidMet_nil _ _) (by kernel_rfl)
set_option maxRecDepth 100000 in
theorem lifted(os:Os)(started:os.Started)(H:Type)(enc:TypeId×Value→H):
 ReturnsInLeavingWide {} Tryz.checked os 14 .any (fun w args=>(Rows.trunkNumberedSpec.pre enc Tryz.prog Tryz.f14 [] false w args∧laidMetH Tryz.prog Rows.trunkNumberedRow.laid w)∧sizedMet enc Tryz.prog Tryz.f14 (OpenSpec.ofChange Rows.trunkNumberedSpec) false w args) (Rows.trunkNumberedSpec.post enc Tryz.prog Tryz.f14 false true false false):=by
 refine sA (C:=Tryz.checked) (X:=fun w=>laidMetH Tryz.prog Rows.trunkNumberedRow.laid w) (fun _ _ hh h=>h.of_heap hh) own started Tryz.func14
  (ChangeSpec.witness_at (enc:=enc) (C:=Tryz.checked) (os:=os) (X:=fun w _=>laidMetH Tryz.prog Rows.trunkNumberedRow.laid w) false (nJ os) #[.slice none 0 0] 8 rfl (by kernel_rfl) (by kernel_rfl) (by kernel_rfl) (by kernel_rfl) (by kernel_rfl) (m4 os _)) ?_
 intro W base args ds gs before hsh hval hW hL _
 refine Dx (by kernel_rfl) ?_
 refine uo (b0:=0) (c0:= #[m6]) (T0:=185) (p0:=gG) (s:=Rows.trunkNumberedSpec) (fun o=>Iff.rfl) (fun v hv=>by simp at hv;subst hv;rfl) [(23,.slice (.int .i64))] (fun p hp=>by simp at hp;subst hp;rfl) (by rw [Tryz.params14];rfl) rfl Tryz.underlying4 ?_ laid ?_ ?_ rfl ?_ W base args ds gs before (BS hsh (me hL)) hval hW
 ·
  intro p hp;simp only [List.mem_cons,List.not_mem_nil,or_false] at hp;subst hp;exact⟨3,Tryz.underlying23,by kernel_rfl,Tryz.underlying3⟩
 ·
  intro T hT;simp only [List.map_cons,List.map_nil,List.mem_cons,List.not_mem_nil,or_false] at hT;subst hT;exact⟨by kernel_rfl,of_decide_eq_true (by kernel_rfl)⟩
 ·
  rintro ds hd;match ds,hd with
  |[d],_=>rfl
 ·
  rintro l ⟨a0,_,rfl,rfl⟩;exact pB 3000 a0 true (qS rfl rf a0)
theorem mY:Rows.TrunkNumberedSaid:=
 OpenClaim.holds_of_wide_leaving 14 Tryz.f14 rfl rfl rfl rfl rfl rfl rfl ⟨rfl,rfl,rfl,rfl,rfl⟩ rfl rfl rfl rfl rfl (by kernel_rfl) Tryz.func14 j6
  (of_decide_eq_true (by kernel_rfl)) (by unfold Func.isWrapper;rw [if_neg (by decide+kernel)];exact⟨rfl,rfl⟩)
  (fun os started H enc _=>lifted os started H enc)
theorem Dk:Tryz.prog.mainIs=some (Rows.trunkNumberedCard.stood.harness.1,Rows.trunkNumberedCard.stood.harness.2.toList):=by kernel_rfl
theorem yV:true=Tryz.prog.looks []:=by kernel_rfl
theorem yU:Tryz.prog.funcNamed Rows.trunkNumberedRow.func=some 14:=by kernel_rfl
theorem Di:Tryz.prog.wantsStandIn 23=false:=by kernel_rfl
theorem Dj:Rows.trunkNumberedRow.wfByText (OpenSpec.ofChange Rows.trunkNumberedSpec)=true:=by kernel_rfl
theorem Dl:true=Rows.trunkNumberedRow.goesBy Tryz.prog:=by kernel_rfl
theorem trunk_numbered_holds:Rows.TrunkNumberedCardSaid:=
 ⟨(Claim7.holdsOne_goes _ _ { Rows.trunkNumberedCard with goes:=false } true).2 (Claim7.tied_new_at .later [.handle] true (Claim7.new_of_sixth mY Rows.trunkNumberedCard.stood.harness true rfl ⟨rfl,rfl⟩ Dk rfl
  (fun f fn hf hfn=>by
   obtain rfl:f=14:=Option.some.inj (yU.symm.trans hf) |>.symm
   obtain rfl:fn=Tryz.f14:=(Option.some.inj (Tryz.func14.symm.trans hfn)).symm
   exact⟨yV,fun j t ht=>by
    rw [Tryz.params14] at ht
    have h3:t=23:=by
     rcases j with _ |j
     ·simpa using ht.symm
     ·simp at ht
    subst h3;exact Di⟩)) Dj),(fun _ hD=>(nomatch hD)),trunkNumbered_row_tie,(fun h=>(nomatch h)),Dl⟩
end Go.Proofs.YtcnpijmfgfnpiaaGreatDoor
