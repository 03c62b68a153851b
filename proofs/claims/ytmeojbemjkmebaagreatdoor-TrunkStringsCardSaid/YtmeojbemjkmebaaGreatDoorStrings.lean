import Derived.Test.YtmeojbemjkmebaaGreatDoorRFB12
import Derived.Test.YtmeojbemjkmebaaGreatDoorStringsL
import Derived.Test.YtmeojbemjkmebaaGreatDoorRows
import Derived.Test.YtmeojbemjkmebaaGreatDoorStringsT
import Derived.LaidLaws
import Derived.LaidHandle
import Derived.ChangeSame
import Derived.ChangeVars
import Derived.JoinedOf
import Derived.RowKit
import Derived.RowKitTokens
import Derived.Stop.Joined
import Derived.Test.YtmeojbemjkmebaaGreatDoorTie
import Derived.Test.YtmeojbemjkmebaaGreatDoorCards
import Derived.SevenTiedAt
set_option linter.unusedSimpArgs false
set_option linter.unusedVariables false
namespace Go.Proofs.YtmeojbemjkmebaaGreatDoor
open K Go Go.Proofs Go.ChangeShapes Go.WideShapes Go.ChangeAt Go.RowKit
theorem Gx:ku 50=some true:=by decide+kernel
theorem et:Tryz.prog.globalNamed "errors.errorType" =some 0:=by kernel_rfl
theorem rt:(Tryz.prog.cutTypes.find? (·.1 == "internal/reflectlite.rtype")).map (·.2)=some 221:=by kernel_rfl
theorem OC:Tryz.prog.types.size=291:=by kernel_rfl
theorem L2:((List.range 291).filter fun t=>Tryz.prog.rowNamed t [101,114,114,111,114])=[94]:=by kernel_rfl
theorem vD{W:World}(h:laidMetH Tryz.prog Rows.trunkStringsRow.laid W):W.cell? ⟨0,0,none⟩=some sx:=by
 have h':laidMet Tryz.prog [] W∧handlesMet Tryz.prog Rows.trunkStringsRow.laid W:=h;obtain⟨name,u,ty,e1,e2,e3,e4,e5⟩:=h'.2 _ (List.mem_singleton.2 rfl);have en:name=[101,114,114,111,114]:=(Option.some.inj e1).symm;subst en;obtain rfl:=Option.some.inj (rt.symm.trans e2);have hm:ty∈(List.range 291).filter fun t=>Tryz.prog.rowNamed t [101,114,114,111,114]:=List.mem_filter.2 ⟨List.mem_range.2 (by rw [←OC];exact e3),e4⟩;rw [L2] at hm;obtain rfl:=List.mem_singleton.1 hm;have hh:typeHandle Tryz.prog 94=hd 94:=by kernel_rfl
 rw [hh] at e5;simpa using World.var?_cell et e5 0
theorem LS{W:World}(hs:W.ShapedOpen Tryz.prog)(h:W.cell? ⟨0,0,none⟩=some sx):W.heap[0]? =some (.cells #[sx] 186 (0,0)):=by
 obtain⟨cs,h1,h2,_⟩:=hs.1 0 #[.nilIface] 186 (Nat.lt_of_lt_of_eq (by decide:0 < 2) (show 2=Tryz.prog.globals.size by kernel_rfl)) (by kernel_rfl);have h3:cs[0]? =some sx:=by simpa [World.cell?,h1] using h
 have h4:cs= #[sx]:=by
  apply Array.ext';match cs,h2,h3 with
  |⟨[a]⟩,_,h3=>simpa using h3
 rw [h1,h4]
theorem aT{a b:Bool}(h:a=true)(h':b=true):(a && b)=true:=by rw [h,h'];rfl
theorem j6:joinedFacts Tryz.prog 4 Tryz.f4 Rows.trunkStringsSpec Rows.trunkStringsRow=true:=by
 unfold joinedFacts;exact(aT (aT (aT (aT (aT (aT (aT (aT (aT (aT (aT (aT (aT (aT (aT (aT (aT (aT (aT (aT (aT (aT (aT (aT (aT (aT (aT (aT (aT (aT (aT RJ RI) RH) RG) RF) RE) RD) RB) RA) Rz) Px) Po) Pn) Pm) Pl) Pj) Pi) Pg) Pe) O9) O8) O7) O6) O5) O4) O3) O2) O1) (by kernel_rfl)) O0) OZ) OY)
theorem own:ownKnob Tryz.prog.godebug=none:=by kernel_rfl
theorem laid:laidOutB Tryz.prog=true:=by kernel_rfl
noncomputable def wZ (os:Os):World:=
 let w0:=World.holding Tryz.prog os ⟨#[], #[],[]⟩
 { w0 with heap:=w0.heap.modify 0 fun
  | .cells _ t frozen=>.cells #[sx] t frozen
  |o=>o }
theorem wv(os:Os)(args:Array Value):laidMetH Tryz.prog Rows.trunkStringsRow.laid ((wZ os).forCall (fun _ _=>0) ⟨#[],args,[]⟩).memory:=
 laidMetH_of_parts (laidMet_nil _ _) (by kernel_rfl)
theorem Cm:Tryz.prog.cellsOf 3=1:=by kernel_rfl
theorem yw:Tryz.prog.cellsOf 22=1:=by kernel_rfl
theorem KB:Tryz.prog.cellsOf 25=1:=by kernel_rfl
theorem Kz:Tryz.prog.cellsOf 35=2:=by kernel_rfl
theorem JA:MT Tryz.prog (.slice (.int .i64)) (.inl 22):=⟨3,Tryz.underlying22,Cm,Tryz.underlying3⟩
theorem OS:MT Tryz.prog aG (.inl 35):=⟨_,Tryz.underlying35,by kernel_rfl,rfl,Cm,Tryz.underlying3,.inl ⟨_,rfl,rfl,yw,JA⟩⟩
theorem Rr:MT Tryz.prog (.slice aG) (.inl 25):=⟨35,Tryz.underlying25,Kz,OS⟩
theorem Rq:MT Tryz.prog aj (.inl 27):=⟨_,Tryz.underlying27,by kernel_rfl,rfl,Cm,Tryz.underlying3,.inr ⟨rfl,KB,Rr,.inl ⟨_,rfl,rfl,yw,JA⟩⟩⟩
theorem Ro:MT Tryz.prog (.slice (.slice (.int .i64))) (.inl 28):=⟨22,Tryz.underlying28,yw,JA⟩
theorem Rk:Tryz.prog.readableRec 27=true∧27 < Tryz.prog.types.size:=⟨by kernel_rfl,of_decide_eq_true (by kernel_rfl)⟩
theorem Rh:Tryz.prog.readableRec 35=true∧35 < Tryz.prog.types.size:=⟨by kernel_rfl,of_decide_eq_true (by kernel_rfl)⟩
theorem Rj:Tryz.prog.readableRec 28=true∧28 < Tryz.prog.types.size:=⟨by kernel_rfl,of_decide_eq_true (by kernel_rfl)⟩
theorem TG:Tryz.prog.readableRec 9=true∧9 < Tryz.prog.types.size:=⟨by kernel_rfl,of_decide_eq_true (by kernel_rfl)⟩
theorem Tn:Tryz.prog.readableRec 3=true∧3 < Tryz.prog.types.size:=⟨by kernel_rfl,of_decide_eq_true (by kernel_rfl)⟩
theorem TJ:Tryz.prog.readableRec 5=true∧5 < Tryz.prog.types.size:=⟨by kernel_rfl,of_decide_eq_true (by kernel_rfl)⟩
theorem Rl:Tryz.prog.readableRec 22=true∧22 < Tryz.prog.types.size:=⟨by kernel_rfl,of_decide_eq_true (by kernel_rfl)⟩
set_option maxRecDepth 100000 in
theorem lifted(os:Os)(started:os.Started)(H:Type)(enc:TypeId×Value→H):
 ReturnsInLeavingWide {} Tryz.checked os 4 .any (fun w args=>(Rows.trunkStringsSpec.pre enc Tryz.prog Tryz.f4 [] false w args∧laidMetH Tryz.prog Rows.trunkStringsRow.laid w)∧sizedMet enc Tryz.prog Tryz.f4 (OpenSpec.ofChange Rows.trunkStringsSpec) false w args) (Rows.trunkStringsSpec.post enc Tryz.prog Tryz.f4 false true false false):=by
 refine yf (C:=Tryz.checked) (X:=fun w=>laidMetH Tryz.prog Rows.trunkStringsRow.laid w) (fun _ _ hh h=>h.of_heap hh) own started Tryz.func4
  (ChangeSpec.witness_at (enc:=enc) (C:=Tryz.checked) (os:=os) (X:=fun w _=>laidMetH Tryz.prog Rows.trunkStringsRow.laid w) false (wZ os) #[.agg #[.int .i64 0,.slice none 0 0,.slice none 0 0],.agg #[.int .i64 0,.slice none 0 0],.slice none 0 0,.string ⟨#[]⟩,.int .i64 0,.int .i64 0,.int .u8 0,.slice none 0 0] 8 rfl (by kernel_rfl) (by kernel_rfl) (by kernel_rfl) (by kernel_rfl) (by kernel_rfl) (wv os _)) ?_
 intro W base args ds gs before hsh hval hW hL _
 refine IZ (by kernel_rfl) ?_
 refine AC (b0:=0) (c0:= #[sx]) (T0:=186) (p0:=dF) (s:=Rows.trunkStringsSpec) (fun o=>Iff.rfl) (fun v hv=>by simp at hv;subst hv;rfl) [(27,aj),(35,aG),(28,(.slice (.slice (.int .i64)))),(9,.str),(3,(.int .i64)),(3,(.int .i64)),(5,(.int .u8)),(22,(.slice (.int .i64)))] (fun p hp=>by simp only [List.mem_cons,List.not_mem_nil,or_false] at hp;rcases hp with rfl |rfl |rfl |rfl |rfl |rfl |rfl |rfl <;> rfl) (by rw [Tryz.params4];rfl) rfl Tryz.underlying4 ?_ laid ?_ ?_ rfl ?_ W base args ds gs before (LS hsh (vD hL)) hval hW
 ·
  intro p hp;simp only [List.mem_cons,List.not_mem_nil,or_false] at hp;rcases hp with rfl |rfl |rfl |rfl |rfl |rfl |rfl |rfl
  ·exact Rq
  ·exact OS
  ·exact Ro
  ·exact Tryz.underlying9
  ·exact Tryz.underlying3
  ·exact Tryz.underlying3
  ·exact Tryz.underlying5
  ·exact JA
 ·
  intro T hT;simp only [List.map_cons,List.map_nil,List.mem_cons,List.not_mem_nil,or_false] at hT;rcases hT with rfl |rfl |rfl |rfl |rfl |rfl |rfl |rfl
  ·exact Rk
  ·exact Rh
  ·exact Rj
  ·exact TG
  ·exact Tn
  ·exact Tn
  ·exact TJ
  ·exact Rl
 ·
  rintro ds hd;obtain⟨d0,ds,rfl⟩:=List.exists_cons_of_length_eq_add_one (by simpa using hd:ds.length=7+1);obtain⟨d1,ds,rfl⟩:=List.exists_cons_of_length_eq_add_one (by simpa using hd:ds.length=6+1);obtain⟨d2,ds,rfl⟩:=List.exists_cons_of_length_eq_add_one (by simpa using hd:ds.length=5+1);obtain⟨d3,ds,rfl⟩:=List.exists_cons_of_length_eq_add_one (by simpa using hd:ds.length=4+1);obtain⟨d4,ds,rfl⟩:=List.exists_cons_of_length_eq_add_one (by simpa using hd:ds.length=3+1);obtain⟨d5,ds,rfl⟩:=List.exists_cons_of_length_eq_add_one (by simpa using hd:ds.length=2+1);obtain⟨d6,ds,rfl⟩:=List.exists_cons_of_length_eq_add_one (by simpa using hd:ds.length=1+1);obtain⟨d7,ds,rfl⟩:=List.exists_cons_of_length_eq_add_one (by simpa using hd:ds.length=0+1);have:ds=[]:=List.eq_nil_of_length_eq_zero (by simpa using hd);subst this;rfl
 ·
  rintro l ⟨a0,l0,rfl,a1,l1,rfl,a2,l2,rfl,a3,l3,rfl,a4,l4,rfl,a5,l5,rfl,a6,l6,rfl,a7,l7,rfl,rfl⟩;exact tV 6 rfl (tV 5 rfl (tV 4 rfl (Fz 3 rfl (qq 50 a0 a1 a2 (.string a3) a4 a5 a6 a7 true (rA (by decide) (by decide) Gx a0 a1 a2 a3 a4 a5 a6 a7)))))
theorem wd:Rows.TrunkStringsSaid:=
 OpenClaim.holds_of_wide_leaving 4 Tryz.f4 rfl rfl rfl rfl rfl rfl rfl ⟨rfl,rfl,rfl,rfl,rfl⟩ rfl rfl rfl rfl rfl (by kernel_rfl) Tryz.func4 j6
  (of_decide_eq_true (by kernel_rfl)) (by unfold Func.isWrapper;rw [if_neg (by decide+kernel)];exact⟨rfl,rfl⟩)
  (fun os started H enc _=>lifted os started H enc)
theorem Nz:Tryz.prog.mainIs=some (Rows.trunkStringsCard.stood.harness.1,Rows.trunkStringsCard.stood.harness.2.toList):=by kernel_rfl
theorem KF:true=Tryz.prog.looks []:=by kernel_rfl
theorem KE:Tryz.prog.funcNamed Rows.trunkStringsRow.func=some 4:=by kernel_rfl
theorem Ih:Tryz.prog.wantsStandIn 27=false:=by kernel_rfl
theorem If:Tryz.prog.wantsStandIn 35=false:=by kernel_rfl
theorem Ig:Tryz.prog.wantsStandIn 28=false:=by kernel_rfl
theorem KC:Tryz.prog.wantsStandIn 9=false:=by kernel_rfl
theorem Dv:Tryz.prog.wantsStandIn 3=false:=by kernel_rfl
theorem KD:Tryz.prog.wantsStandIn 5=false:=by kernel_rfl
theorem Ii:Tryz.prog.wantsStandIn 22=false:=by kernel_rfl
theorem Nw(t:TypeId)(h:t=27∨t=35∨t=28∨t=9∨t=3∨t=3∨t=5∨t=22):Tryz.prog.wantsStandIn t=false:=by
 rcases h with rfl |rfl |rfl |rfl |rfl |rfl |rfl |rfl
 ·exact Ih
 ·exact If
 ·exact Ig
 ·exact KC
 ·exact Dv
 ·exact Dv
 ·exact KD
 ·exact Ii
theorem Ny:Rows.trunkStringsRow.wfByText (OpenSpec.ofChange Rows.trunkStringsSpec)=true:=by kernel_rfl
theorem NA:true=Rows.trunkStringsRow.goesBy Tryz.prog:=by kernel_rfl
theorem trunk_strings_holds:Rows.TrunkStringsCardSaid:=
 ⟨(Claim7.holdsOne_goes _ _ { Rows.trunkStringsCard with goes:=false } true).2 (Claim7.tied_new_at .later [.handle] true (Claim7.new_of_sixth wd Rows.trunkStringsCard.stood.harness true rfl ⟨rfl,rfl⟩ Nz rfl
  (fun f fn hf hfn=>by
   obtain rfl:f=4:=Option.some.inj (KE.symm.trans hf) |>.symm
   obtain rfl:fn=Tryz.f4:=(Option.some.inj (Tryz.func4.symm.trans hfn)).symm
   exact⟨KF,fun j t ht=>by
    rw [Tryz.params4] at ht
    have h3:=Array.mem_of_getElem? ht
    simp only [List.mem_toArray,List.mem_cons,List.not_mem_nil,or_false] at h3
    exact Nw t h3⟩)) Ny),(fun _ hD=>(nomatch hD)),trunkStrings_row_tie,(fun h=>(nomatch h)),NA⟩
end Go.Proofs.YtmeojbemjkmebaaGreatDoor
