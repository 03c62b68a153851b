import Derived.Test.YtcnpijmfgfnpiaaGreatDoorXKCore44
import Derived.Test.YtcnpijmfgfnpiaaGreatDoorKnownL
import Derived.Test.YtcnpijmfgfnpiaaGreatDoorRows
import Derived.Test.YtcnpijmfgfnpiaaGreatDoorKnownT
import Derived.LaidLaws
import Derived.LaidHandle
import Derived.ChangeSame
import Derived.ChangeVars
import Derived.JoinedOf
import Derived.RowKit
import Derived.RowKitTokens
import Derived.Stop.Joined
import Derived.Test.YtcnpijmfgfnpiaaGreatDoorTie
import Derived.Test.YtcnpijmfgfnpiaaGreatDoorCards
import Derived.SevenTiedAt
set_option linter.unusedSimpArgs false
set_option linter.unusedVariables false
namespace Go.Proofs.YtcnpijmfgfnpiaaGreatDoor
open K Go Go.Proofs Go.ChangeShapes Go.WideShapes Go.ChangeAt Go.RowKit
theorem et:Tryz.prog.globalNamed "errors.errorType" =some 0:=by kernel_rfl
theorem rt:(Tryz.prog.cutTypes.find? (·.1 == "internal/reflectlite.rtype")).map (·.2)=some 221:=by kernel_rfl
theorem ID:Tryz.prog.types.size=310:=by kernel_rfl
theorem GY:((List.range 310).filter fun t=>Tryz.prog.rowNamed t [101,114,114,111,114])=[121]:=by kernel_rfl
theorem sB{W:World}(h:laidMetH Tryz.prog Rows.trunkKnownRow.laid W):W.cell? ⟨0,0,none⟩=some py:=by
 have h':laidMet Tryz.prog [] W∧handlesMet Tryz.prog Rows.trunkKnownRow.laid W:=h;obtain⟨name,u,ty,e1,e2,e3,e4,e5⟩:=h'.2 _ (List.mem_singleton.2 rfl);have en:name=[101,114,114,111,114]:=(Option.some.inj e1).symm;subst en;obtain rfl:=Option.some.inj (rt.symm.trans e2);have hm:ty∈(List.range 310).filter fun t=>Tryz.prog.rowNamed t [101,114,114,111,114]:=List.mem_filter.2 ⟨List.mem_range.2 (by rw [←ID];exact e3),e4⟩;rw [GY] at hm;obtain rfl:=List.mem_singleton.1 hm;have hh:typeHandle Tryz.prog 121=hd 121:=by kernel_rfl
 rw [hh] at e5;simpa using World.var?_cell et e5 0
theorem GO{W:World}(hs:W.ShapedOpen Tryz.prog)(h:W.cell? ⟨0,0,none⟩=some py):W.heap[0]? =some (.cells #[py] 185 (0,0)):=by
 obtain⟨cs,h1,h2,_⟩:=hs.1 0 #[.nilIface] 185 (Nat.lt_of_lt_of_eq (by decide:0 < 2) (show 2=Tryz.prog.globals.size by kernel_rfl)) (by kernel_rfl);have h3:cs[0]? =some py:=by simpa [World.cell?,h1] using h
 have h4:cs= #[py]:=by
  apply Array.ext';match cs,h2,h3 with
  |⟨[a]⟩,_,h3=>simpa using h3
 rw [h1,h4]
theorem aT{a b:Bool}(h:a=true)(h':b=true):(a && b)=true:=by rw [h,h'];rfl
theorem j6:joinedFacts Tryz.prog 22 Tryz.f22 Rows.trunkKnownSpec Rows.trunkKnownRow=true:=by
 unfold joinedFacts;exact(aT (aT (aT (aT (aT (aT (aT (aT (aT (aT (aT (aT (aT (aT (aT (aT (aT (aT (aT (aT (aT (aT (aT (aT (aT (aT (aT (aT (aT (aT (aT LE LD) LC) LA) Ly) Lx) Lu) Lt) Ls) Lr) Jj) Ji) Jh) Jg) Jf) Je) Jd) Jc) Jb) I9) I8) I7) I6) I5) I4) I3) I2) I1) (by kernel_rfl)) I0) IZ) IY)
theorem own:ownKnob Tryz.prog.godebug=none:=by kernel_rfl
theorem laid:laidOutB Tryz.prog=true:=by kernel_rfl
noncomputable def tO (os:Os):World:=
 let w0:=World.holding Tryz.prog os ⟨#[], #[],[]⟩
 { w0 with heap:=w0.heap.modify 0 fun
  | .cells _ t frozen=>.cells #[py] t frozen
  |o=>o }
theorem te(os:Os)(args:Array Value):laidMetH Tryz.prog Rows.trunkKnownRow.laid ((tO os).forCall (fun _ _=>0) ⟨#[],args,[]⟩).memory:=
 laidMetH_of_parts (laidMet_nil _ _) (by kernel_rfl)
set_option maxRecDepth 100000 in
theorem lifted(os:Os)(started:os.Started)(H:Type)(enc:TypeId×Value→H):
 ReturnsInLeavingWide {} Tryz.checked os 22 .any (fun w args=>(Rows.trunkKnownSpec.pre enc Tryz.prog Tryz.f22 [] false w args∧laidMetH Tryz.prog Rows.trunkKnownRow.laid w)∧sizedMet enc Tryz.prog Tryz.f22 (OpenSpec.ofChange Rows.trunkKnownSpec) false w args) (Rows.trunkKnownSpec.post enc Tryz.prog Tryz.f22 false true false false):=by
 refine uI (C:=Tryz.checked) (X:=fun w=>laidMetH Tryz.prog Rows.trunkKnownRow.laid w) (fun _ _ hh h=>h.of_heap hh) own started Tryz.func22
  (ChangeSpec.witness_at (enc:=enc) (C:=Tryz.checked) (os:=os) (X:=fun w _=>laidMetH Tryz.prog Rows.trunkKnownRow.laid w) false (tO os) #[] 8 rfl (by kernel_rfl) (by kernel_rfl) (by kernel_rfl) (by kernel_rfl) (by kernel_rfl) (te os _)) ?_
 intro W base args ds gs before hsh hval hW hL _
 refine Ea (by kernel_rfl) ?_
 refine wX (b0:=0) (c0:= #[py]) (T0:=185) (p0:=dP) (s:=Rows.trunkKnownSpec) (fun o=>Iff.rfl) (fun v hv=>by simp at hv;subst hv;rfl) [] (fun p hp=>by cases hp) (by rw [Tryz.params22];rfl) rfl Tryz.underlying4 ?_ laid ?_ ?_ rfl ?_ W base args ds gs before (GO hsh (sB hL)) hval hW
 ·
  intro p hp;cases hp
 ·
  intro T hT;cases hT
 ·
  rintro ds hd;have:ds=[]:=List.eq_nil_of_length_eq_zero (by simpa using hd);subst this;rfl
 ·
  rintro l rfl;exact pq 3000 true (Ad)
theorem sX:Rows.TrunkKnownSaid:=
 OpenClaim.holds_of_wide_leaving 22 Tryz.f22 rfl rfl rfl rfl rfl rfl rfl ⟨rfl,rfl,rfl,rfl,rfl⟩ rfl rfl rfl rfl rfl (by kernel_rfl) Tryz.func22 j6
  (of_decide_eq_true (by kernel_rfl)) (by unfold Func.isWrapper;rw [if_neg (by decide+kernel)];exact⟨rfl,rfl⟩)
  (fun os started H enc _=>lifted os started H enc)
theorem HK:Tryz.prog.mainIs=some (Rows.trunkKnownCard.stood.harness.1,Rows.trunkKnownCard.stood.harness.2.toList):=by kernel_rfl
theorem Fh:true=Tryz.prog.looks []:=by kernel_rfl
theorem Fg:Tryz.prog.funcNamed Rows.trunkKnownRow.func=some 22:=by kernel_rfl
theorem HJ:Rows.trunkKnownRow.wfByText (OpenSpec.ofChange Rows.trunkKnownSpec)=true:=by kernel_rfl
theorem HL:true=Rows.trunkKnownRow.goesBy Tryz.prog:=by kernel_rfl
theorem trunk_known_holds:Rows.TrunkKnownCardSaid:=
 ⟨(Claim7.holdsOne_goes _ _ { Rows.trunkKnownCard with goes:=false } true).2 (Claim7.tied_new_at .later [.handle] true (Claim7.new_of_sixth sX Rows.trunkKnownCard.stood.harness true rfl ⟨rfl,rfl⟩ HK rfl
  (fun f fn hf hfn=>by
   obtain rfl:f=22:=Option.some.inj (Fg.symm.trans hf) |>.symm
   obtain rfl:fn=Tryz.f22:=(Option.some.inj (Tryz.func22.symm.trans hfn)).symm
   exact⟨Fh,fun j t ht=>by
    rw [Tryz.params22] at ht
    have h3:=Array.mem_of_getElem? ht
    simp at h3⟩)) HJ),(fun _ hD=>(nomatch hD)),trunkKnown_row_tie,(fun h=>(nomatch h)),HL⟩
end Go.Proofs.YtcnpijmfgfnpiaaGreatDoor
