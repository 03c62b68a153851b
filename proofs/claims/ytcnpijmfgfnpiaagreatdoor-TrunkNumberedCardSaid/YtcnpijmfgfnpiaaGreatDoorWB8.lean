import Derived.Test.YtcnpijmfgfnpiaaGreatDoorWTr6
set_option linter.unusedSimpArgs false
set_option linter.unusedVariables false
set_option maxRecDepth 20000
set_option maxHeartbeats 4000000
namespace Go.Proofs.YtcnpijmfgfnpiaaGreatDoor
open K Go Go.Proofs Go.Extern
theorem Ao{x:Option (Nat×Addr×Nat)}{z:Sem Value}{f:Nat→Addr→Nat→Nat→Sem Value}{T:Nat}{a:Addr}{fl:Nat}(h:x=some (T,a,fl))(hf:Ns Tryz.prog (f T a fl (fl % 32))):Ns Tryz.prog (match x with |none=>z |some (t,a,fl)=>f t a fl (fl % 32)):=by
 subst h;exact hf
theorem ID{a b:Nat}{S:FS}{w:World}(h:(D.obj a 123 (.eq (.pointer (some ⟨b,0,none⟩)))).holds S w):
 (ReflectliteValue.method (ReflectliteValue.valueError "reflectlite.Value.IsNil" 0) ReflectliteValue.isNil #[tu 123 a 150]).run Tryz.prog w= .ok (.bool false) w:=by
 obtain⟨cs,h1,rfl,_⟩:=h
 rw [RB]
 simp only [Sem.run_bind,zS,Result.andThen_ok]
 have hl:=fL MF (fun _=>rfl) h1 (off:=0) (by simp)
 simp [ReflectliteValue.isNil,hl,mk]
theorem Ag{a:Nat}:Ns Tryz.prog (ReflectliteValue.method (ReflectliteValue.valueError "reflectlite.Value.IsNil" 0) ReflectliteValue.isNil #[tu 123 a 150]):=by
 rw [RB];refine gj (q:=fun x=>x=some (123,⟨a,0,none⟩,150)) (oO (by kernel_rfl)) (show Pq Tryz.prog _ _ from Eq.mpr (show Pq Tryz.prog (fun x=>x=some (123,⟨a,0,none⟩,150)) (ReflectliteValue.parts (tu 123 a 150))=(some (123,(⟨a,0,none⟩:Addr),150)=some (123,⟨a,0,none⟩,150)) by kernel_rfl) rfl) fun x hx=>Ao hx ?_;unfold ReflectliteValue.isNil;simp only [List.contains,List.elem];refine ai l8 fun v=>?_;split <;> trivial
theorem An{a:Nat}:Ns Tryz.prog (ReflectliteValue.method (ReflectliteValue.valueError "reflectlite.Value.Elem" 0) ReflectliteValue.elem #[tu 123 a 150]):=by
 rw [RB];refine gj (q:=fun x=>x=some (123,⟨a,0,none⟩,150)) (oO (by kernel_rfl)) (show Pq Tryz.prog _ _ from Eq.mpr (show Pq Tryz.prog (fun x=>x=some (123,⟨a,0,none⟩,150)) (ReflectliteValue.parts (tu 123 a 150))=(some (123,(⟨a,0,none⟩:Addr),150)=some (123,⟨a,0,none⟩,150)) by kernel_rfl) rfl) fun x hx=>Ao hx ?_;unfold ReflectliteValue.elem;refine ai l8 fun v=>?_;refine gj (q:=fun x=>x=some 118) (oO (by kernel_rfl)) (show Pq Tryz.prog _ _ from Eq.mpr (show Pq Tryz.prog (fun x=>x=some 118) (Rtype.elem? 123)=(some 118=some 118) by kernel_rfl) rfl) fun x hx=>?_;subst hx;have ve:∀n,Ns Tryz.prog (ReflectliteValue.valueError "reflectlite.Value.Elem" n:Sem Value):=fun n=>ai (oO (by kernel_rfl)) fun t=>ai (ai aJ fun d=>by split <;> trivial) fun e=>ai kl fun _=>trivial;have mk':∀p,Ns Tryz.prog (ReflectliteValue.mk 118 p ReflectliteValue.flagAddr):=fun p=>oO (by kernel_rfl);cases v with
 |pointer q=>cases q with
  |none=>trivial
  |some q=>exact mk' q
 |_=>exact ve _
theorem I7{a b:Nat}{S:FS}{w:World}(h:(D.obj a 123 (.eq (.pointer (some ⟨b,0,none⟩)))).holds S w):
 (ReflectliteValue.method (ReflectliteValue.valueError "reflectlite.Value.Elem" 0) ReflectliteValue.elem #[tu 123 a 150]).run Tryz.prog w= .ok (tu 118 b 409) w:=by
 obtain⟨cs,h1,rfl,_⟩:=h
 rw [RB]
 simp only [Sem.run_bind,zS,Result.andThen_ok]
 have hl:=fL MF (fun _=>rfl) h1 (off:=0) (by simp)
 have e1:(Rtype.elem? 123).run Tryz.prog w= .ok (some 118) w:=by kernel_rfl
 have e2:(ReflectliteValue.mk 118 ⟨b,0,none⟩ ReflectliteValue.flagAddr).run Tryz.prog w= .ok (tu 118 b 409) w:=by kernel_rfl
 simp [ReflectliteValue.elem,hl,mk,e1,e2]
theorem S9(v x:Value):ReflectliteValue.set #[v,x]=(do
 let (some (dst,a,fl),some (src,b,_)):=(←ReflectliteValue.parts v,←ReflectliteValue.parts x)
  |unsupported (.noEntry "extern/(internal/reflectlite.Value).Set.zeroValue")
 if fl / ReflectliteValue.flagAddr % 2 == 0 then unsupported (.noEntry "extern/(internal/reflectlite.Value).Set.unaddressable")
 let val←loadVar src b
 if←Rtype.directlyAssignable dst src then storeVar dst a val
 else if←Rtype.implements dst src then
  if(←Rtype.kind src) == 20 then
   match val with
   | .nilIface=>unsupported (.noEntry "extern/reflectlite: a nil value of one interface type handed on as a value of another")
   |_=>storeVar dst a val
  else storeVar dst a (.iface src val)
 else panicString ("reflectlite.Set: value of type " ++(←Rtype.spelt src)++ " is not assignable to type " ++(←Rtype.spelt dst))
 pure (.tuple #[])):=rfl
theorem Fa(a:Addr)(w:World):(ReflectliteValue.parts (.agg #[hd 118,.pointer (some a),.int .u64 409])).run Tryz.prog w= .ok (some (118,a,409)) w:=by kernel_rfl
theorem Ha(a:Addr)(w:World):(ReflectliteValue.parts (.agg #[hd 118,.pointer (some a),.int .u64 153])).run Tryz.prog w= .ok (some (118,a,153)) w:=by kernel_rfl
theorem FW(w:World):(Rtype.directlyAssignable 118 118).run Tryz.prog w= .ok true w:=by kernel_rfl
theorem Fq{p b:Nat}:Ns Tryz.prog (ReflectliteValue.set #[tu 118 p 409,tu 118 b 153]):=by
 rw [S9];refine gj (q:=fun x=>x=some (118,⟨p,0,none⟩,409)) (oO (by kernel_rfl)) (show Pq Tryz.prog _ _ from Eq.mpr (show Pq Tryz.prog (fun x=>x=some (118,⟨p,0,none⟩,409)) (ReflectliteValue.parts (tu 118 p 409))=(some (118,(⟨p,0,none⟩:Addr),409)=some (118,⟨p,0,none⟩,409)) by kernel_rfl) rfl) fun x hx=>?_;subst hx;refine gj (q:=fun x=>x=some (118,⟨b,0,none⟩,153)) (oO (by kernel_rfl)) (show Pq Tryz.prog _ _ from Eq.mpr (show Pq Tryz.prog (fun x=>x=some (118,⟨b,0,none⟩,153)) (ReflectliteValue.parts (tu 118 b 153))=(some (118,(⟨b,0,none⟩:Addr),153)=some (118,⟨b,0,none⟩,153)) by kernel_rfl) rfl) fun x hx=>?_;subst hx;refine ai l8 fun v=>?_;refine gj (q:=fun x=>x=true) (oO (by kernel_rfl)) (show Pq Tryz.prog _ _ from Eq.mpr (show Pq Tryz.prog (fun x=>x=true) (Rtype.directlyAssignable 118 118)=(true=true) by kernel_rfl) rfl) fun x hx=>?_;subst hx;exact ai uf fun _=>trivial
theorem GX:dL Tryz.prog 118 1 true:=⟨fun w=>by kernel_rfl,fun w=>by kernel_rfl⟩
theorem Hk{M:Md Tryz.prog}{o:Oper}{x y:Operand}{c:Call}{ts:Array TypeId}{p b:Nat}{e0 n:Int}(ho:o.op= .call c)(hc:c={ callee:=.value (.func 162),args:=[x,y].toArray,argTypes:=ts }):
 bI M o [(x,.eq (tu 118 p 409)),(y,.eq (tu 118 b 153))] [.obj p 118 (.agg (.eq (.int .i64 e0))),.obj b 118 (.eq (.int .i64 n))] (fun _:Unit=>(.eq (.tuple #[]),[.obj p 118 (.agg (.eq (.int .i64 n))),.obj b 118 (.eq (.int .i64 n))])):=by
 have hex:∀{S:FS} {w:World} {a:Act},bp S w a [(x,.eq (tu 118 p 409)),(y,.eq (tu 118 b 153))]→execOp a.eval o=callFunc 162 #[tu 118 p 409,tu 118 b 153]:=fun {S w a} hN=>kQ (xs:=[x,y]) (vs:=[tu 118 p 409,tu 118 b 153]) ho hc (iV rfl hN)
 refine jf ⟨by simp only [nd, *],fun S w a next hd hN hO k=>?_⟩ (fun _ _ a hN _=>by rw [hex hN];exact MA.ns _ Fq) (fun d hd=>by simp at hd;rcases hd with rfl |rfl <;> trivial)
 obtain⟨cs1,h1,⟨rfl,_⟩⟩:=hO.holds (.obj p 118 (.agg (.eq (.int .i64 e0)))) (by simp)
 obtain⟨cs2,h2,⟨rfl,_⟩⟩:=hO.holds (.obj b 118 (.eq (.int .i64 n))) (by simp)
 have hne:p≠b:=fun e=>by
  have:=hO.apart;simp only [List.pairwise_cons] at this;exact this.1 _ (List.mem_singleton.2 rfl) p rfl (by rw [e];rfl)
 have op:=hO.own p ⟨_,List.mem_cons_self ..,rfl⟩
 have ob:=hO.own b ⟨_,List.mem_cons_of_mem _ (List.mem_singleton.2 rfl),rfl⟩
 have hl:=fL GX (fun h=>by cases h) h2 (off:=0) (by simp)
 have hst:=iS Tryz.prog p 118 0 [.int .i64 n] 0 w #[.int .i64 e0] h1 (fun v hv=>by simp at hv;subst hv;rfl) (by simp)
 have hr:(execOp a.eval o).run Tryz.prog w= .ok (.value (.tuple #[])) { w with heap:=w.heap.setIfInBounds p (.cells #[.int .i64 n] 118 (0,0)) }:=by
  rw [hex hN,MA.run,S9];simp only [Sem.run_bind,Fa,Ha,Result.andThen_ok];simp at hst;simp [ReflectliteValue.flagAddr,hl,mk,FW,storeVar,GX.size,Value.cells,hst]
 rw [hr]
 refine k () S _ _ (nv hd ⟨_,List.mem_cons_self ..,rfl⟩ _) rfl ⟨fun d hd=>?_,fun b' hb'=>?_,?_⟩ (fun b' ⟨d,hd,e⟩=>.inl ?_)
 ·
  simp at hd;rcases hd with rfl |rfl
  ·exact⟨[.int .i64 n],by simp [op.2],rfl,rfl⟩
  ·exact⟨[.int .i64 n],by simp [Array.getElem?_setIfInBounds_ne hne,h2],rfl,rfl⟩
 ·
  obtain⟨d,hd,e⟩:=hb';simp at hd;rcases hd with rfl |rfl
  ·cases e;exact⟨op.1,by simpa using op.2⟩
  ·cases e;exact⟨ob.1,by simpa using ob.2⟩
 ·
  refine List.pairwise_cons.2 ⟨fun d hd b' e e'=>?_,List.pairwise_singleton _ _⟩;simp at hd;subst hd;cases e;cases e';exact hne rfl
 ·
  simp at hd;rcases hd with rfl |rfl
  ·exact⟨_,List.mem_cons_self ..,e⟩
  ·exact⟨_,List.mem_cons_of_mem _ (List.mem_singleton.2 rfl),e⟩
end Go.Proofs.YtcnpijmfgfnpiaaGreatDoor
set_option linter.unusedVariables false
set_option maxRecDepth 20000
set_option maxHeartbeats 4000000
namespace Go.Proofs.YtcnpijmfgfnpiaaGreatDoor
open K Go Go.Proofs Go.Extern
theorem Pm:∀w,(zeroValue 182).run Tryz.prog w= .ok (.agg #[.pointer none,.pointer none,.int .u64 0]) w:=fun w=>by kernel_rfl
theorem Rf:∀S w,(A.cells S w (.agg (.pair (.eq (.pointer none)) (.pair (.eq (.pointer none)) (.eq (.int .u64 0))))) (Value.cells (.agg #[.pointer none,.pointer none,.int .u64 0])).toList):=fun _ _=>⟨[_],_,rfl,⟨rfl,rfl⟩,[_],_,rfl,⟨rfl,rfl⟩,rfl,rfl⟩
theorem zH:dL Tryz.prog 182 3 true:=⟨fun w=>by kernel_rfl,fun w=>by kernel_rfl⟩
def gG:Obj→Prop:=fun o=>o= .cells #[m6] 185 (0,0)
theorem Fj{M:Md Tryz.prog}{o:Oper}{x:Operand}(ho:o.op= .load 185 x):bI M o [(x,.eq (.pointer (some ⟨0,0,none⟩)))] [.inv 0 gG] (fun _:Unit=>(.eq m6,[.inv 0 gG])):=
 .val1 (hcm:=fun o h=>by cases h;rfl) fun S w a h hs=>by
  have e:a.eval x= .pointer (some ⟨0,0,none⟩):=h.1
  obtain⟨ob,h1,rfl⟩:=hs
  have hsz:∀w,(sizeOf 185).run Tryz.prog w= .ok 1 w:=fun w=>by kernel_rfl
  have hag:∀w,(isAgg 185).run Tryz.prog w= .ok false w:=fun w=>by kernel_rfl
  have hc:w.cell? ⟨0,0,none⟩=some m6:=by simp [World.cell?,h1]
  refine⟨m6,?_,rfl⟩
  simp [execOp,ho,Instr.loadAt,e,Instr.sureAddr,loadVar,hsz,hag,hc]
theorem QP:ah Tryz.prog 133:=ah.of Tryz.func133 (by kernel_rfl) (by kernel_rfl)
theorem Sv:ah Tryz.prog 93:=ah.of Tryz.func93 (by kernel_rfl) (by kernel_rfl)
theorem zl{n:Nat}:true=false→n=1:=fun h=>nomatch h
def PS:Nat→Unit→Option Unit
 |0,_=>none
 |_+1,_=>some ()
theorem OI{a p:Nat}{n e0:Int}:cu Tryz.prog 133 [.eq (.iface 118 (.agg #[.int .i64 n])),.any,O6 123 a 150,.eq (.iface 221 (.agg #[hd 118]))] [.obj a 123 (.eq (.pointer (some ⟨p,0,none⟩))),.obj p 118 (.agg (.eq (.int .i64 e0)))]
 (fun _:Unit=>(bq [.eq (.bool true)],[.obj a 123 (.eq (.pointer (some ⟨p,0,none⟩))),.obj p 118 (.agg (.eq (.int .i64 n)))])):=by
 refine cu.of 62 Tryz.func133 rfl Tryz.ntmps133 rfl fun S w0=>?_
 refine ag ?_
 refine aa ?_
 refine aw rfl rfl rfl (oN rfl trivial) ⟨rfl,trivial⟩ fun b6=>?_
 refine dP rfl ?_
 refine ao ?_
 refine ae ?_
 show JC _ _ _ _ _
 refine aj ?_
 have h:(PS 1 ()).bind some=some ():=rfl
 refine aI (Z:=Unit) (α:=Unit) (fun _ _=>[(0,.eq (.iface 118 (.agg #[.int .i64 n]))),(3,.eq (.iface 221 (.agg #[hd 118]))),(6,.eq (.pointer (some ⟨b6,0,none⟩)))]) (fun _ _=>[.obj b6 182 (O6 123 a 150),.obj a 123 (.eq (.pointer (some ⟨p,0,none⟩))),.obj p 118 (.agg (.eq (.int .i64 e0)))]) PS 1 () () (fun _=>rfl) h (SE.fin [0,1,2] ⟨rfl,rfl,rfl,trivial⟩ rfl) (fun _ _ _ _=>?_)
 refine aj ?_
 refine ag ?_
 refine ag ?_
 refine aa ?_
 refine ax rfl rfl ?_
 refine aB rfl (Hw PC [.tmp 16] [.iface 118 (.agg #[.int .i64 n])] rfl rfl rfl (ET _) (Fp _)) ⟨rfl,trivial⟩ ?_
 refine ax rfl rfl ?_
 refine aB rfl (zX Py [.tmp 18] [.iface 221 (.agg #[hd 118])] rfl rfl rfl (P3 118) LL KP) ⟨rfl,rfl,trivial⟩ ?_
 refine ao ?_
 refine ae ?_
 show JC _ _ _ _ _
 refine bu rfl (fun hb=>?_) (fun hb=>(by cases hb))
 refine ag ?_
 refine aa ?_
 refine bV rfl rfl rfl (ak rfl zH (zl) rfl) ⟨rfl,trivial⟩ ?_
 refine bD 1 rfl ?_
 refine bV rfl rfl rfl (cH (N:=[(.tmp 20,O6 123 a 150)]) (Hv Pz [.tmp 20] [tu 123 a 150] rfl rfl rfl (fun _ _ h=>I7 h) An trivial) fun _ _ _ hn=>⟨za hn.1,trivial⟩) ⟨rfl,trivial⟩ ?_
 refine ax rfl rfl ?_
 refine aw rfl rfl rfl (Hu (T:=118) (v:=fun b=>tu 118 b 153) MB [.tmp 22] [.iface 118 (.agg #[.int .i64 n])] rfl rfl rfl (BE n) rfl (wG n)) ⟨rfl,trivial⟩ fun b23=>?_
 refine bD 3 rfl ?_
 refine bC (Δ:=[_,_]) (F:=_) (fun _ _ _=>au rfl _) rfl rfl (Hk rfl rfl) ⟨rfl,rfl,trivial⟩ fun _=>?_
 refine ao ?_
 refine ae ?_
 show JC _ _ _ _ _
 refine ag ?_
 refine aa ?_
 refine dP rfl ?_
 refine ao ?_
 refine ae ?_
 show JC _ _ _ _ _
 refine aA ?_
 refine aZ ?_
 refine bJ ?_
 refine aZ ?_
 refine bJ ?_
 refine bL (SE.fin (Γ':=[(8,_)]) [2,0,1,3] ⟨rfl,trivial⟩ rfl) ?_
 exact aL () [.eq (.bool true)] 2 ⟨rfl,trivial⟩ rfl
theorem OH{v:Value}{p:Nat}{n:Int}:cu Tryz.prog 93 [.eq .nilIface,.eq v] [.obj p 118 (.agg (.eq (.int .i64 n))),.inv 0 gG] (fun _:Unit=>(bq [.eq (.bool false)],[.obj p 118 (.agg (.eq (.int .i64 n))),.inv 0 gG])):=by
 refine cu.of 42 Tryz.func93 rfl Tryz.ntmps93 rfl fun S w0=>?_;refine ag ?_;refine aa ?_;refine dP rfl ?_;refine ao ?_;refine ae ?_;show JC _ _ _ _ _;refine ag ?_;refine ag ?_;refine aa ?_;refine ax rfl rfl ?_;refine aB rfl (sn rfl Tryz.underlying121 rfl) ⟨rfl,rfl,trivial⟩ ?_;refine ao ?_;refine ae ?_;show JC _ _ _ _ _;refine bu rfl (fun hb=>?_) (fun hb=>(by cases hb));refine ag ?_;refine aa ?_;refine dP rfl ?_;refine ao ?_;refine ae ?_;show JC _ _ _ _ _;refine aA ?_;refine aZ ?_;exact aL () [.eq (.bool false)] 2 ⟨rfl,trivial⟩ rfl
theorem LM{p:Nat}{n e0:Int}:cu Tryz.prog 93 [.eq (.iface 118 (.agg #[.int .i64 n])),.eq (.iface 123 (.pointer (some ⟨p,0,none⟩)))] [.obj p 118 (.agg (.eq (.int .i64 e0))),.inv 0 gG]
 (fun _:Unit=>(bq [.eq (.bool true)],[.obj p 118 (.agg (.eq (.int .i64 n))),.inv 0 gG])):=by
 refine cu.of 42 Tryz.func93 rfl Tryz.ntmps93 rfl fun S w0=>?_
 refine ag ?_
 refine aa ?_
 refine dP rfl ?_
 refine ao ?_
 refine ae ?_
 show JC _ _ _ _ _
 refine ag ?_
 refine ag ?_
 refine aa ?_
 refine ax rfl rfl ?_
 refine aB rfl (sn rfl Tryz.underlying121 rfl) ⟨rfl,rfl,trivial⟩ ?_
 refine ao ?_
 refine ae ?_
 show JC _ _ _ _ _
 refine bu rfl (fun hb=>(by cases hb)) (fun hb=>?_)
 refine aV ?_
 refine ae ?_
 show JC _ _ _ _ _
 refine ag ?_
 refine ag ?_
 refine aa ?_
 refine ax rfl rfl ?_
 refine aB rfl (sn rfl Tryz.underlying20 rfl) ⟨rfl,rfl,trivial⟩ ?_
 refine ao ?_
 refine ae ?_
 show JC _ _ _ _ _
 refine bu rfl (fun hb=>(by cases hb)) (fun hb=>?_)
 refine aV ?_
 refine ae ?_
 show JC _ _ _ _ _
 refine ag ?_
 refine aa ?_
 refine ax rfl rfl ?_
 refine aw rfl rfl rfl (Hu (T:=123) (v:=fun b=>tu 123 b 150) MB [.tmp 13] [.iface 123 (.pointer (some ⟨p,0,none⟩))] rfl rfl rfl (BD _) rfl (wF _)) ⟨rfl,trivial⟩ fun a=>?_
 refine cD (sT 14 rfl fun _ _ _ h=>LQ rfl rfl rfl h) ?_
 refine aw rfl rfl rfl (aP rfl Pm Rf) trivial fun b5=>?_
 refine aS rfl rfl (aO rfl zH trivial rfl rfl) ⟨rfl,rfl,trivial⟩ ?_
 refine ao ?_
 refine ae ?_
 show JC _ _ _ _ _
 refine ag ?_
 refine aa ?_
 refine bV rfl rfl rfl (ak rfl zH (zl) rfl) ⟨rfl,trivial⟩ ?_
 refine aB rfl (cH (N:=[(.tmp 15,O6 123 a 150)]) (Hw PE [.tmp 15] [tu 123 a 150] rfl rfl rfl (J1 _) (CB _)) fun _ _ _ hn=>⟨za hn.1,trivial⟩) ⟨rfl,trivial⟩ ?_
 refine dx rfl rfl ?_
 refine ao ?_
 refine ae ?_
 show JC _ _ _ _ _
 refine ag ?_
 refine ag ?_
 refine aa ?_
 refine ax rfl rfl ?_
 refine aB rfl (zX Me [] [] rfl rfl rfl (MO 123) KW (D4 123 (.inl rfl))) ⟨rfl,trivial⟩ ?_
 refine aB rfl (jd rfl) ⟨rfl,rfl,trivial⟩ ?_
 refine ax rfl rfl ?_
 refine hQ rfl rfl rfl rfl rfl rfl (ak rfl zH (zl) rfl) ⟨rfl,trivial⟩ ?_
 refine bD 1 rfl ?_
 refine hQ rfl rfl rfl rfl rfl rfl (cH (N:=[(.tmp 21,O6 123 a 150)]) (Hv PD [.tmp 21] [tu 123 a 150] rfl rfl rfl (fun _ _ h=>ID h) Ag trivial) fun _ _ _ hn=>⟨za hn.1,trivial⟩) ⟨rfl,trivial⟩ ?_
 refine aB rfl (l5 rfl) ⟨rfl,rfl,trivial⟩ ?_
 refine ao ?_
 refine ae ?_
 show JC _ _ _ _ _
 refine bu rfl (fun hb=>(by cases hb)) (fun hb=>?_)
 refine aV ?_
 refine ae ?_
 show JC _ _ _ _ _
 refine ag ?_
 refine aa ?_
 refine ax rfl rfl ?_
 refine aB rfl (zX Px [] [] rfl rfl rfl (P2 123) LD KN) ⟨rfl,trivial⟩ ?_
 refine dx rfl rfl ?_
 refine ao ?_
 refine ae ?_
 show JC _ _ _ _ _
 refine ag ?_
 refine ag ?_
 refine aa ?_
 refine ax rfl rfl ?_
 refine aB rfl (zX Me [] [] rfl rfl rfl (MO 118) KX (D4 118 (.inr rfl))) ⟨rfl,trivial⟩ ?_
 refine aB rfl (jd rfl) ⟨rfl,rfl,trivial⟩ ?_
 refine ax rfl rfl ?_
 refine nb rfl rfl rfl rfl rfl rfl (bG rfl) ⟨rfl,trivial⟩ ?_
 refine bD 3 rfl ?_
 refine hQ rfl rfl rfl rfl rfl rfl (Fj rfl) ⟨rfl,trivial⟩ ?_
 refine nb rfl rfl rfl rfl rfl rfl (zX Po [.tmp 32] [m6] rfl rfl rfl (P1 118) KZ KL) ⟨rfl,rfl,trivial⟩ ?_
 refine nb rfl rfl rfl rfl rfl rfl (ig rfl) ⟨rfl,trivial⟩ ?_
 refine aB rfl (nC rfl) ⟨rfl,rfl,trivial⟩ ?_
 refine ao ?_
 refine ae ?_
 show JC _ _ _ _ _
 refine bu rfl (fun hb=>(by cases hb)) (fun hb=>?_)
 refine aV ?_
 refine ae ?_
 show JC _ _ _ _ _
 refine ag ?_
 refine aa ?_
 refine ax rfl rfl ?_
 refine ax rfl rfl ?_
 refine bD 2 rfl ?_
 refine bV rfl rfl rfl (ak rfl zH (zl) rfl) ⟨rfl,trivial⟩ ?_
 refine ax rfl rfl ?_
 refine bD 3 rfl ?_
 refine bD 3 rfl ?_
 refine bC (Δ:=[_,_]) (F:=_) (fun _ _ _=>au rfl _) rfl rfl (cH (N:=[(.tmp 37,.eq (.iface 118 (.agg #[.int .i64 n]))),(.tmp 38,.eq (.iface 123 (.pointer (some ⟨p,0,none⟩)))),(.tmp 39,O6 123 a 150),(.tmp 40,.eq (.iface 221 (.agg #[hd 118])))])
  (an [.tmp 37,.tmp 38,.tmp 39,.tmp 40] rfl rfl QP rfl (OI (a:=a) (p:=p) (n:=n) (e0:=e0))) fun _ _ _ hn=>⟨hn.1,trivial,hn.2.2.1,hn.2.2.2.1,trivial⟩) ⟨rfl,rfl,rfl,rfl,trivial⟩ fun _=>?_
 refine dx rfl rfl ?_
 refine ao ?_
 refine ae ?_
 show JC _ _ _ _ _
 refine aA ?_
 refine bL (SE.fin (Γ':=[(4,_)]) [1,3,0,2] ⟨rfl,trivial⟩ rfl) ?_
 exact aL () [.eq (.bool true)] 2 ⟨rfl,trivial⟩ rfl
def RG:Value→Option (Option Int)
 | .nilIface=>some none
 | .iface t (.agg cs)=>if t=118 then(match cs.toList with |[.int .i64 n]=>some (some n) |_=>none) else none
 |_=>none
theorem Ji{v:Value}{q:Option Int}(h:RG v=some q):(v= .nilIface∧q=none)∨∃n,v= .iface 118 (.agg #[.int .i64 n])∧q=some n:=by
 unfold RG at h;split at h
 ·cases h;exact .inl ⟨rfl,rfl⟩
 ·rename_i t cs;split at h
  ·rename_i e;split at h
   ·rename_i n hn;cases h;obtain⟨l⟩:=cs;cases hn;exact .inr ⟨n,by rw [e],rfl⟩
   ·cases h
  ·cases h
 ·cases h
theorem Q6{v:Value}{q:Option Int}{p:Nat}{e0:Int}(h:RG v=some q):cu Tryz.prog 93 [.eq v,.eq (.iface 123 (.pointer (some ⟨p,0,none⟩)))] [.obj p 118 (.agg (.eq (.int .i64 e0))),.inv 0 gG]
 (fun _:Unit=>(bq [.eq (.bool q.isSome)],[.obj p 118 (.agg (.eq (.int .i64 (q.getD e0)))),.inv 0 gG])):=by
 rcases Ji h with⟨rfl,rfl⟩ |⟨n,rfl,rfl⟩
 ·
  exact OH
 ·
  exact LM
end Go.Proofs.YtcnpijmfgfnpiaaGreatDoor
