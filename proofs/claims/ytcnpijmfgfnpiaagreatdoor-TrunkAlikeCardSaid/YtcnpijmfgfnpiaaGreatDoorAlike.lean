import Derived.Test.YtcnpijmfgfnpiaaGreatDoorXYB11
import Derived.Test.YtcnpijmfgfnpiaaGreatDoorAlikeL
import Derived.Test.YtcnpijmfgfnpiaaGreatDoorRows
import Derived.Test.YtcnpijmfgfnpiaaGreatDoorAlikeT
import Derived.LaidLaws
import Derived.LaidHandle
import Derived.ChangeSame
import Derived.ChangeVars
import Derived.JoinedOf
import Derived.RowKit
import Derived.RowKitTokens
import Derived.Stop.Joined
import Derived.Test.YtcnpijmfgfnpiaaGreatDoorTie
import Derived.Test.YtcnpijmfgfnpiaaGreatDoorCards
import Derived.SevenTiedAt
set_option linter.unusedSimpArgs false
set_option linter.unusedVariables false
namespace Go.Proofs.YtcnpijmfgfnpiaaGreatDoor
open K Go Go.Proofs Go.ChangeShapes Go.WideShapes Go.ChangeAt Go.RowKit
theorem Eu:jw 50=some true:=by decide+kernel
theorem et:Tryz.prog.globalNamed "errors.errorType" =some 0:=by kernel_rfl
theorem rt:(Tryz.prog.cutTypes.find? (·.1 == "internal/reflectlite.rtype")).map (·.2)=some 221:=by kernel_rfl
theorem MG:Tryz.prog.types.size=310:=by kernel_rfl
theorem Kq:((List.range 310).filter fun t=>Tryz.prog.rowNamed t [101,114,114,111,114])=[121]:=by kernel_rfl
theorem t6{W:World}(h:laidMetH Tryz.prog Rows.trunkAlikeRow.laid W):W.cell? ⟨0,0,none⟩=some qO:=by
 have h':laidMet Tryz.prog [] W∧handlesMet Tryz.prog Rows.trunkAlikeRow.laid W:=h;obtain⟨name,u,ty,e1,e2,e3,e4,e5⟩:=h'.2 _ (List.mem_singleton.2 rfl);have en:name=[101,114,114,111,114]:=(Option.some.inj e1).symm;subst en;obtain rfl:=Option.some.inj (rt.symm.trans e2);have hm:ty∈(List.range 310).filter fun t=>Tryz.prog.rowNamed t [101,114,114,111,114]:=List.mem_filter.2 ⟨List.mem_range.2 (by rw [←MG];exact e3),e4⟩;rw [Kq] at hm;obtain rfl:=List.mem_singleton.1 hm;have hh:typeHandle Tryz.prog 121=hd 121:=by kernel_rfl
 rw [hh] at e5;simpa using World.var?_cell et e5 0
theorem J2{W:World}(hs:W.ShapedOpen Tryz.prog)(h:W.cell? ⟨0,0,none⟩=some qO):W.heap[0]? =some (.cells #[qO] 185 (0,0)):=by
 obtain⟨cs,h1,h2,_⟩:=hs.1 0 #[.nilIface] 185 (Nat.lt_of_lt_of_eq (by decide:0 < 2) (show 2=Tryz.prog.globals.size by kernel_rfl)) (by kernel_rfl);have h3:cs[0]? =some qO:=by simpa [World.cell?,h1] using h
 have h4:cs= #[qO]:=by
  apply Array.ext';match cs,h2,h3 with
  |⟨[a]⟩,_,h3=>simpa using h3
 rw [h1,h4]
theorem aT{a b:Bool}(h:a=true)(h':b=true):(a && b)=true:=by rw [h,h'];rfl
theorem j6:joinedFacts Tryz.prog 11 Tryz.f11 Rows.trunkAlikeSpec Rows.trunkAlikeRow=true:=by
 unfold joinedFacts;exact(aT (aT (aT (aT (aT (aT (aT (aT (aT (aT (aT (aT (aT (aT (aT (aT (aT (aT (aT (aT (aT (aT (aT (aT (aT (aT (aT (aT (aT (aT (aT PV PU) PT) PS) PR) PQ) PP) PO) PN) PM) Nz) Ny) Nw) Nv) Nu) Nr) Nq) Np) Nn) Nl) Nk) Nj) Ni) Nh) Nc) Nb) Na) M9) (by kernel_rfl)) M8) M7) M6)
theorem own:ownKnob Tryz.prog.godebug=none:=by kernel_rfl
theorem laid:laidOutB Tryz.prog=true:=by kernel_rfl
noncomputable def vu (os:Os):World:=
 let w0:=World.holding Tryz.prog os ⟨#[], #[],[]⟩
 { w0 with heap:=w0.heap.modify 0 fun
  | .cells _ t frozen=>.cells #[qO] t frozen
  |o=>o }
theorem uN(os:Os)(args:Array Value):laidMetH Tryz.prog Rows.trunkAlikeRow.laid ((vu os).forCall (fun _ _=>0) ⟨#[],args,[]⟩).memory:=
 laidMetH_of_parts (laidMet_nil _ _) (by kernel_rfl)
set_option maxRecDepth 100000 in
theorem lifted(os:Os)(started:os.Started)(H:Type)(enc:TypeId×Value→H):
 ReturnsInLeavingWide {} Tryz.checked os 11 .any (fun w args=>(Rows.trunkAlikeSpec.pre enc Tryz.prog Tryz.f11 [] false w args∧laidMetH Tryz.prog Rows.trunkAlikeRow.laid w)∧sizedMet enc Tryz.prog Tryz.f11 (OpenSpec.ofChange Rows.trunkAlikeSpec) false w args) (Rows.trunkAlikeSpec.post enc Tryz.prog Tryz.f11 false true false false):=by
 refine wB (C:=Tryz.checked) (X:=fun w=>laidMetH Tryz.prog Rows.trunkAlikeRow.laid w) (fun _ _ hh h=>h.of_heap hh) own started Tryz.func11
  (ChangeSpec.witness_at (enc:=enc) (C:=Tryz.checked) (os:=os) (X:=fun w _=>laidMetH Tryz.prog Rows.trunkAlikeRow.laid w) false (vu os) #[.slice none 0 0] 8 rfl (by kernel_rfl) (by kernel_rfl) (by kernel_rfl) (by kernel_rfl) (by kernel_rfl) (uN os _)) ?_
 intro W base args ds gs before hsh hval hW hL _
 refine Ht (by kernel_rfl) ?_
 refine yU (b0:=0) (c0:= #[qO]) (T0:=185) (p0:=ir) (s:=Rows.trunkAlikeSpec) (fun o=>Iff.rfl) (fun v hv=>by simp at hv;subst hv;rfl) [(23,.slice (.int .i64))] (fun p hp=>by simp at hp;subst hp;rfl) (by rw [Tryz.params11];rfl) rfl Tryz.underlying4 ?_ laid ?_ ?_ rfl ?_ W base args ds gs before (J2 hsh (t6 hL)) hval hW
 ·
  intro p hp;simp only [List.mem_cons,List.not_mem_nil,or_false] at hp;subst hp;exact⟨3,Tryz.underlying23,by kernel_rfl,Tryz.underlying3⟩
 ·
  intro T hT;simp only [List.map_cons,List.map_nil,List.mem_cons,List.not_mem_nil,or_false] at hT;subst hT;exact⟨by kernel_rfl,of_decide_eq_true (by kernel_rfl)⟩
 ·
  rintro ds hd;match ds,hd with
  |[d],_=>rfl
 ·
  rintro l ⟨a0,_,rfl,rfl⟩;exact qI 50 a0 true (sD (by decide) (by decide) Eu a0)
theorem uE:Rows.TrunkAlikeSaid:=
 OpenClaim.holds_of_wide_leaving 11 Tryz.f11 rfl rfl rfl rfl rfl rfl rfl ⟨rfl,rfl,rfl,rfl,rfl⟩ rfl rfl rfl rfl rfl (by kernel_rfl) Tryz.func11 j6
  (of_decide_eq_true (by kernel_rfl)) (by unfold Func.isWrapper;rw [if_neg (by decide+kernel)];exact⟨rfl,rfl⟩)
  (fun os started H enc _=>lifted os started H enc)
theorem Ll:Tryz.prog.mainIs=some (Rows.trunkAlikeCard.stood.harness.1,Rows.trunkAlikeCard.stood.harness.2.toList):=by kernel_rfl
theorem IM:true=Tryz.prog.looks []:=by kernel_rfl
theorem IL:Tryz.prog.funcNamed Rows.trunkAlikeRow.func=some 11:=by kernel_rfl
theorem Lh:Tryz.prog.wantsStandIn 23=false:=by kernel_rfl
theorem Lj:Rows.trunkAlikeRow.wfByText (OpenSpec.ofChange Rows.trunkAlikeSpec)=true:=by kernel_rfl
theorem Lm:true=Rows.trunkAlikeRow.goesBy Tryz.prog:=by kernel_rfl
theorem trunk_alike_holds:Rows.TrunkAlikeCardSaid:=
 ⟨(Claim7.holdsOne_goes _ _ { Rows.trunkAlikeCard with goes:=false } true).2 (Claim7.tied_new_at .later [.handle] true (Claim7.new_of_sixth uE Rows.trunkAlikeCard.stood.harness true rfl ⟨rfl,rfl⟩ Ll rfl
  (fun f fn hf hfn=>by
   obtain rfl:f=11:=Option.some.inj (IL.symm.trans hf) |>.symm
   obtain rfl:fn=Tryz.f11:=(Option.some.inj (Tryz.func11.symm.trans hfn)).symm
   exact⟨IM,fun j t ht=>by
    rw [Tryz.params11] at ht
    have h3:t=23:=by
     rcases j with _ |j
     ·simpa using ht.symm
     ·simp at ht
    subst h3;exact Lh⟩)) Lj),(fun _ hD=>(nomatch hD)),trunkAlike_row_tie,(fun h=>(nomatch h)),Lm⟩
end Go.Proofs.YtcnpijmfgfnpiaaGreatDoor
