import Derived.Test.YtcnpijmfgfnpiaaGreatDoorXRB12
import Derived.Test.YtcnpijmfgfnpiaaGreatDoorReadL
import Derived.Test.YtcnpijmfgfnpiaaGreatDoorRows
import Derived.Test.YtcnpijmfgfnpiaaGreatDoorReadT
import Derived.LaidLaws
import Derived.LaidHandle
import Derived.ChangeSame
import Derived.ChangeVars
import Derived.JoinedOf
import Derived.RowKit
import Derived.RowKitTokens
import Derived.Stop.Joined
import Derived.Test.YtcnpijmfgfnpiaaGreatDoorTie
import Derived.Test.YtcnpijmfgfnpiaaGreatDoorCards
import Derived.SevenTiedAt
set_option linter.unusedSimpArgs false
set_option linter.unusedVariables false
namespace Go.Proofs.YtcnpijmfgfnpiaaGreatDoor
open K Go Go.Proofs Go.ChangeShapes Go.WideShapes Go.ChangeAt Go.RowKit
theorem Ew:iN 50=some true:=by decide+kernel
theorem et:Tryz.prog.globalNamed "errors.errorType" =some 0:=by kernel_rfl
theorem rt:(Tryz.prog.cutTypes.find? (·.1 == "internal/reflectlite.rtype")).map (·.2)=some 221:=by kernel_rfl
theorem MH:Tryz.prog.types.size=310:=by kernel_rfl
theorem J5:((List.range 310).filter fun t=>Tryz.prog.rowNamed t [101,114,114,111,114])=[121]:=by kernel_rfl
theorem t7{W:World}(h:laidMetH Tryz.prog Rows.trunkReadRow.laid W):W.cell? ⟨0,0,none⟩=some qN:=by
 have h':laidMet Tryz.prog [] W∧handlesMet Tryz.prog Rows.trunkReadRow.laid W:=h;obtain⟨name,u,ty,e1,e2,e3,e4,e5⟩:=h'.2 _ (List.mem_singleton.2 rfl);have en:name=[101,114,114,111,114]:=(Option.some.inj e1).symm;subst en;obtain rfl:=Option.some.inj (rt.symm.trans e2);have hm:ty∈(List.range 310).filter fun t=>Tryz.prog.rowNamed t [101,114,114,111,114]:=List.mem_filter.2 ⟨List.mem_range.2 (by rw [←MH];exact e3),e4⟩;rw [J5] at hm;obtain rfl:=List.mem_singleton.1 hm;have hh:typeHandle Tryz.prog 121=hd 121:=by kernel_rfl
 rw [hh] at e5;simpa using World.var?_cell et e5 0
theorem JW{W:World}(hs:W.ShapedOpen Tryz.prog)(h:W.cell? ⟨0,0,none⟩=some qN):W.heap[0]? =some (.cells #[qN] 185 (0,0)):=by
 obtain⟨cs,h1,h2,_⟩:=hs.1 0 #[.nilIface] 185 (Nat.lt_of_lt_of_eq (by decide:0 < 2) (show 2=Tryz.prog.globals.size by kernel_rfl)) (by kernel_rfl);have h3:cs[0]? =some qN:=by simpa [World.cell?,h1] using h
 have h4:cs= #[qN]:=by
  apply Array.ext';match cs,h2,h3 with
  |⟨[a]⟩,_,h3=>simpa using h3
 rw [h1,h4]
theorem aT{a b:Bool}(h:a=true)(h':b=true):(a && b)=true:=by rw [h,h'];rfl
theorem j6:joinedFacts Tryz.prog 17 Tryz.f17 Rows.trunkReadSpec Rows.trunkReadRow=true:=by
 unfold joinedFacts;exact(aT (aT (aT (aT (aT (aT (aT (aT (aT (aT (aT (aT (aT (aT (aT (aT (aT (aT (aT (aT (aT (aT (aT (aT (aT (aT (aT (aT (aT (aT (aT PY PX) PW) PV) PU) PT) PS) PR) PQ) PP) ND) NC) NA) Nz) Ny) Nw) Nv) Nu) Nr) Nq) Np) Nn) Nl) Nk) Nj) Ni) Nh) Nc) (by kernel_rfl)) Nb) Na) M9)
theorem own:ownKnob Tryz.prog.godebug=none:=by kernel_rfl
theorem laid:laidOutB Tryz.prog=true:=by kernel_rfl
noncomputable def vt (os:Os):World:=
 let w0:=World.holding Tryz.prog os ⟨#[], #[],[]⟩
 { w0 with heap:=w0.heap.modify 0 fun
  | .cells _ t frozen=>.cells #[qN] t frozen
  |o=>o }
theorem uO(os:Os)(args:Array Value):laidMetH Tryz.prog Rows.trunkReadRow.laid ((vt os).forCall (fun _ _=>0) ⟨#[],args,[]⟩).memory:=
 laidMetH_of_parts (laidMet_nil _ _) (by kernel_rfl)
theorem Ld:Tryz.prog.cellsOf 3=1:=by kernel_rfl
theorem PI:MT Tryz.prog (.slice (.int .i64)) (.inl 23):=⟨3,Tryz.underlying23,Ld,Tryz.underlying3⟩
theorem PE:Tryz.prog.readableRec 23=true∧23 < Tryz.prog.types.size:=⟨by kernel_rfl,of_decide_eq_true (by kernel_rfl)⟩
theorem QM:Tryz.prog.readableRec 9=true∧9 < Tryz.prog.types.size:=⟨by kernel_rfl,of_decide_eq_true (by kernel_rfl)⟩
set_option maxRecDepth 100000 in
theorem lifted(os:Os)(started:os.Started)(H:Type)(enc:TypeId×Value→H):
 ReturnsInLeavingWide {} Tryz.checked os 17 .any (fun w args=>(Rows.trunkReadSpec.pre enc Tryz.prog Tryz.f17 [] false w args∧laidMetH Tryz.prog Rows.trunkReadRow.laid w)∧sizedMet enc Tryz.prog Tryz.f17 (OpenSpec.ofChange Rows.trunkReadSpec) false w args) (Rows.trunkReadSpec.post enc Tryz.prog Tryz.f17 false true false false):=by
 refine wz (C:=Tryz.checked) (X:=fun w=>laidMetH Tryz.prog Rows.trunkReadRow.laid w) (fun _ _ hh h=>h.of_heap hh) own started Tryz.func17
  (ChangeSpec.witness_at (enc:=enc) (C:=Tryz.checked) (os:=os) (X:=fun w _=>laidMetH Tryz.prog Rows.trunkReadRow.laid w) false (vt os) #[.slice none 0 0,.string ⟨#[]⟩] 8 rfl (by kernel_rfl) (by kernel_rfl) (by kernel_rfl) (by kernel_rfl) (by kernel_rfl) (uO os _)) ?_
 intro W base args ds gs before hsh hval hW hL _
 refine Hi (by kernel_rfl) ?_
 refine yQ (b0:=0) (c0:= #[qN]) (T0:=185) (p0:=fP) (s:=Rows.trunkReadSpec) (fun o=>Iff.rfl) (fun v hv=>by simp at hv;subst hv;rfl) [(23,(.slice (.int .i64))),(9,.str)] (fun p hp=>by simp only [List.mem_cons,List.not_mem_nil,or_false] at hp;rcases hp with rfl |rfl <;> rfl) (by rw [Tryz.params17];rfl) rfl Tryz.underlying4 ?_ laid ?_ ?_ rfl ?_ W base args ds gs before (JW hsh (t7 hL)) hval hW
 ·
  intro p hp;simp only [List.mem_cons,List.not_mem_nil,or_false] at hp;rcases hp with rfl |rfl
  ·exact PI
  ·exact Tryz.underlying9
 ·
  intro T hT;simp only [List.map_cons,List.map_nil,List.mem_cons,List.not_mem_nil,or_false] at hT;rcases hT with rfl |rfl
  ·exact PE
  ·exact QM
 ·
  rintro ds hd;obtain⟨d0,ds,rfl⟩:=List.exists_cons_of_length_eq_add_one (by simpa using hd:ds.length=1+1);obtain⟨d1,ds,rfl⟩:=List.exists_cons_of_length_eq_add_one (by simpa using hd:ds.length=0+1);have:ds=[]:=List.eq_nil_of_length_eq_zero (by simpa using hd);subst this;rfl
 ·
  rintro l ⟨a0,l0,rfl,a1,l1,rfl,rfl⟩;exact DC 1 rfl (rP 50 a0 (.string a1) true (te (by decide) (by decide) Ew a0 a1))
theorem uE:Rows.TrunkReadSaid:=
 OpenClaim.holds_of_wide_leaving 17 Tryz.f17 rfl rfl rfl rfl rfl rfl rfl ⟨rfl,rfl,rfl,rfl,rfl⟩ rfl rfl rfl rfl rfl (by kernel_rfl) Tryz.func17 j6
  (of_decide_eq_true (by kernel_rfl)) (by unfold Func.isWrapper;rw [if_neg (by decide+kernel)];exact⟨rfl,rfl⟩)
  (fun os started H enc _=>lifted os started H enc)
theorem Lj:Tryz.prog.mainIs=some (Rows.trunkReadCard.stood.harness.1,Rows.trunkReadCard.stood.harness.2.toList):=by kernel_rfl
theorem IJ:true=Tryz.prog.looks []:=by kernel_rfl
theorem II:Tryz.prog.funcNamed Rows.trunkReadRow.func=some 17:=by kernel_rfl
theorem Gu:Tryz.prog.wantsStandIn 23=false:=by kernel_rfl
theorem IH:Tryz.prog.wantsStandIn 9=false:=by kernel_rfl
theorem Le(t:TypeId)(h:t=23∨t=9):Tryz.prog.wantsStandIn t=false:=by
 rcases h with rfl |rfl
 ·exact Gu
 ·exact IH
theorem Lh:Rows.trunkReadRow.wfByText (OpenSpec.ofChange Rows.trunkReadSpec)=true:=by kernel_rfl
theorem Ll:true=Rows.trunkReadRow.goesBy Tryz.prog:=by kernel_rfl
theorem trunk_read_holds:Rows.TrunkReadCardSaid:=
 ⟨(Claim7.holdsOne_goes _ _ { Rows.trunkReadCard with goes:=false } true).2 (Claim7.tied_new_at .later [.handle] true (Claim7.new_of_sixth uE Rows.trunkReadCard.stood.harness true rfl ⟨rfl,rfl⟩ Lj rfl
  (fun f fn hf hfn=>by
   obtain rfl:f=17:=Option.some.inj (II.symm.trans hf) |>.symm
   obtain rfl:fn=Tryz.f17:=(Option.some.inj (Tryz.func17.symm.trans hfn)).symm
   exact⟨IJ,fun j t ht=>by
    rw [Tryz.params17] at ht
    have h3:=Array.mem_of_getElem? ht
    simp only [List.mem_toArray,List.mem_cons,List.not_mem_nil,or_false] at h3
    exact Le t h3⟩)) Lh),(fun _ hD=>(nomatch hD)),trunkRead_row_tie,(fun h=>(nomatch h)),Ll⟩
end Go.Proofs.YtcnpijmfgfnpiaaGreatDoor
