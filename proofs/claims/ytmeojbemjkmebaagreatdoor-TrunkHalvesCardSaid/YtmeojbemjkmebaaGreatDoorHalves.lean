import Derived.Test.YtmeojbemjkmebaaGreatDoorRAB12
import Derived.Test.YtmeojbemjkmebaaGreatDoorHalvesL
import Derived.Test.YtmeojbemjkmebaaGreatDoorRows
import Derived.Test.YtmeojbemjkmebaaGreatDoorHalvesT
import Derived.LaidLaws
import Derived.LaidHandle
import Derived.ChangeSame
import Derived.ChangeVars
import Derived.JoinedOf
import Derived.RowKit
import Derived.RowKitTokens
import Derived.Stop.Joined
import Derived.Test.YtmeojbemjkmebaaGreatDoorTie
import Derived.Test.YtmeojbemjkmebaaGreatDoorCards
import Derived.SevenTiedAt
set_option linter.unusedSimpArgs false
set_option linter.unusedVariables false
namespace Go.Proofs.YtmeojbemjkmebaaGreatDoor
open K Go Go.Proofs Go.ChangeShapes Go.WideShapes Go.ChangeAt Go.RowKit
theorem F4:jR 50=some true:=by decide+kernel
theorem et:Tryz.prog.globalNamed "errors.errorType" =some 0:=by kernel_rfl
theorem rt:(Tryz.prog.cutTypes.find? (·.1 == "internal/reflectlite.rtype")).map (·.2)=some 221:=by kernel_rfl
theorem Ob:Tryz.prog.types.size=291:=by kernel_rfl
theorem LO:((List.range 291).filter fun t=>Tryz.prog.rowNamed t [101,114,114,111,114])=[94]:=by kernel_rfl
theorem uQ{W:World}(h:laidMetH Tryz.prog Rows.trunkHalvesRow.laid W):W.cell? ⟨0,0,none⟩=some rI:=by
 have h':laidMet Tryz.prog [] W∧handlesMet Tryz.prog Rows.trunkHalvesRow.laid W:=h;obtain⟨name,u,ty,e1,e2,e3,e4,e5⟩:=h'.2 _ (List.mem_singleton.2 rfl);have en:name=[101,114,114,111,114]:=(Option.some.inj e1).symm;subst en;obtain rfl:=Option.some.inj (rt.symm.trans e2);have hm:ty∈(List.range 291).filter fun t=>Tryz.prog.rowNamed t [101,114,114,111,114]:=List.mem_filter.2 ⟨List.mem_range.2 (by rw [←Ob];exact e3),e4⟩;rw [LO] at hm;obtain rfl:=List.mem_singleton.1 hm;have hh:typeHandle Tryz.prog 94=hd 94:=by kernel_rfl
 rw [hh] at e5;simpa using World.var?_cell et e5 0
theorem LH{W:World}(hs:W.ShapedOpen Tryz.prog)(h:W.cell? ⟨0,0,none⟩=some rI):W.heap[0]? =some (.cells #[rI] 186 (0,0)):=by
 obtain⟨cs,h1,h2,_⟩:=hs.1 0 #[.nilIface] 186 (Nat.lt_of_lt_of_eq (by decide:0 < 2) (show 2=Tryz.prog.globals.size by kernel_rfl)) (by kernel_rfl);have h3:cs[0]? =some rI:=by simpa [World.cell?,h1] using h
 have h4:cs= #[rI]:=by
  apply Array.ext';match cs,h2,h3 with
  |⟨[a]⟩,_,h3=>simpa using h3
 rw [h1,h4]
theorem aT{a b:Bool}(h:a=true)(h':b=true):(a && b)=true:=by rw [h,h'];rfl
theorem j6:joinedFacts Tryz.prog 3 Tryz.f3 Rows.trunkHalvesSpec Rows.trunkHalvesRow=true:=by
 unfold joinedFacts;exact(aT (aT (aT (aT (aT (aT (aT (aT (aT (aT (aT (aT (aT (aT (aT (aT (aT (aT (aT (aT (aT (aT (aT (aT (aT (aT (aT (aT (aT (aT (aT Q5 Q4) Q3) Q2) Q1) Q0) QZ) QY) QX) QW) OT) OS) OR) OQ) OP) OO) ON) OM) OL) OK) OJ) OI) OH) OG) OF) OE) OD) OC) (by kernel_rfl)) OB) OA) Oz)
theorem own:ownKnob Tryz.prog.godebug=none:=by kernel_rfl
theorem laid:laidOutB Tryz.prog=true:=by kernel_rfl
noncomputable def wG (os:Os):World:=
 let w0:=World.holding Tryz.prog os ⟨#[], #[],[]⟩
 { w0 with heap:=w0.heap.modify 0 fun
  | .cells _ t frozen=>.cells #[rI] t frozen
  |o=>o }
theorem vM(os:Os)(args:Array Value):laidMetH Tryz.prog Rows.trunkHalvesRow.laid ((wG os).forCall (fun _ _=>0) ⟨#[],args,[]⟩).memory:=
 laidMetH_of_parts (laidMet_nil _ _) (by kernel_rfl)
theorem M7:Tryz.prog.cellsOf 3=1:=by kernel_rfl
theorem QP:MT Tryz.prog (.slice (.int .i64)) (.inl 22):=⟨3,Tryz.underlying22,M7,Tryz.underlying3⟩
theorem QM:Tryz.prog.readableRec 22=true∧22 < Tryz.prog.types.size:=⟨by kernel_rfl,of_decide_eq_true (by kernel_rfl)⟩
set_option maxRecDepth 100000 in
theorem lifted(os:Os)(started:os.Started)(H:Type)(enc:TypeId×Value→H):
 ReturnsInLeavingWide {} Tryz.checked os 3 .any (fun w args=>(Rows.trunkHalvesSpec.pre enc Tryz.prog Tryz.f3 [] false w args∧laidMetH Tryz.prog Rows.trunkHalvesRow.laid w)∧sizedMet enc Tryz.prog Tryz.f3 (OpenSpec.ofChange Rows.trunkHalvesSpec) false w args) (Rows.trunkHalvesSpec.post enc Tryz.prog Tryz.f3 false true false false):=by
 refine xO (C:=Tryz.checked) (X:=fun w=>laidMetH Tryz.prog Rows.trunkHalvesRow.laid w) (fun _ _ hh h=>h.of_heap hh) own started Tryz.func3
  (ChangeSpec.witness_at (enc:=enc) (C:=Tryz.checked) (os:=os) (X:=fun w _=>laidMetH Tryz.prog Rows.trunkHalvesRow.laid w) false (wG os) #[.slice none 0 0] 8 rfl (by kernel_rfl) (by kernel_rfl) (by kernel_rfl) (by kernel_rfl) (by kernel_rfl) (vM os _)) ?_
 intro W base args ds gs before hsh hval hW hL _
 refine IJ (by kernel_rfl) ?_
 refine Ad (b0:=0) (c0:= #[rI]) (T0:=186) (p0:=dP) (s:=Rows.trunkHalvesSpec) (fun o=>Iff.rfl) (fun v hv=>by simp at hv;subst hv;rfl) [(22,(.slice (.int .i64)))] (fun p hp=>by simp only [List.mem_cons,List.not_mem_nil,or_false] at hp;rcases hp with rfl <;> rfl) (by rw [Tryz.params3];rfl) rfl Tryz.underlying4 ?_ laid ?_ ?_ rfl ?_ W base args ds gs before (LH hsh (uQ hL)) hval hW
 ·
  intro p hp;simp only [List.mem_cons,List.not_mem_nil,or_false] at hp;rcases hp with rfl
  ·exact QP
 ·
  intro T hT;simp only [List.map_cons,List.map_nil,List.mem_cons,List.not_mem_nil,or_false] at hT;rcases hT with rfl
  ·exact QM
 ·
  rintro ds hd;obtain⟨d0,ds,rfl⟩:=List.exists_cons_of_length_eq_add_one (by simpa using hd:ds.length=0+1);have:ds=[]:=List.eq_nil_of_length_eq_zero (by simpa using hd);subst this;rfl
 ·
  rintro l ⟨a0,l0,rfl,rfl⟩;exact qC 50 a0 true (sc (by decide) (by decide) F4 a0)
theorem vC:Rows.TrunkHalvesSaid:=
 OpenClaim.holds_of_wide_leaving 3 Tryz.f3 rfl rfl rfl rfl rfl rfl rfl ⟨rfl,rfl,rfl,rfl,rfl⟩ rfl rfl rfl rfl rfl (by kernel_rfl) Tryz.func3 j6
  (of_decide_eq_true (by kernel_rfl)) (by unfold Func.isWrapper;rw [if_neg (by decide+kernel)];exact⟨rfl,rfl⟩)
  (fun os started H enc _=>lifted os started H enc)
theorem Na:Tryz.prog.mainIs=some (Rows.trunkHalvesCard.stood.harness.1,Rows.trunkHalvesCard.stood.harness.2.toList):=by kernel_rfl
theorem Kr:true=Tryz.prog.looks []:=by kernel_rfl
theorem Kq:Tryz.prog.funcNamed Rows.trunkHalvesRow.func=some 3:=by kernel_rfl
theorem HY:Tryz.prog.wantsStandIn 22=false:=by kernel_rfl
theorem M8(t:TypeId)(h:t=22):Tryz.prog.wantsStandIn t=false:=by
 rcases h with rfl
 ·exact HY
theorem M9:Rows.trunkHalvesRow.wfByText (OpenSpec.ofChange Rows.trunkHalvesSpec)=true:=by kernel_rfl
theorem Nb:true=Rows.trunkHalvesRow.goesBy Tryz.prog:=by kernel_rfl
theorem trunk_halves_holds:Rows.TrunkHalvesCardSaid:=
 ⟨(Claim7.holdsOne_goes _ _ { Rows.trunkHalvesCard with goes:=false } true).2 (Claim7.tied_new_at .later [.handle] true (Claim7.new_of_sixth vC Rows.trunkHalvesCard.stood.harness true rfl ⟨rfl,rfl⟩ Na rfl
  (fun f fn hf hfn=>by
   obtain rfl:f=3:=Option.some.inj (Kq.symm.trans hf) |>.symm
   obtain rfl:fn=Tryz.f3:=(Option.some.inj (Tryz.func3.symm.trans hfn)).symm
   exact⟨Kr,fun j t ht=>by
    rw [Tryz.params3] at ht
    have h3:=Array.mem_of_getElem? ht
    simp only [List.mem_toArray,List.mem_cons,List.not_mem_nil,or_false] at h3
    exact M8 t h3⟩)) M9),(fun _ hD=>(nomatch hD)),trunkHalves_row_tie,(fun h=>(nomatch h)),Nb⟩
end Go.Proofs.YtmeojbemjkmebaaGreatDoor
