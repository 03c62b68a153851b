import Derived.Test.YtddneonghpmidaaGreatDoorSBTr6
set_option linter.unusedSimpArgs false
set_option linter.unusedVariables false
set_option maxRecDepth 20000
set_option maxHeartbeats 4000000
namespace Go.Proofs.YtddneonghpmidaaGreatDoor
open K Go Go.Proofs Go.Extern
theorem AZ{x:Option (Nat×Addr×Nat)}{z:Sem Value}{f:Nat→Addr→Nat→Nat→Sem Value}{T:Nat}{a:Addr}{fl:Nat}(h:x=some (T,a,fl))(hf:Ns Tryz.prog (f T a fl (fl % 32))):Ns Tryz.prog (match x with |none=>z |some (t,a,fl)=>f t a fl (fl % 32)):=by
 subst h;exact hf
theorem IU{a b:Nat}{S:FS}{w:World}(h:(D.obj a 142 (.eq (.pointer (some ⟨b,0,none⟩)))).holds S w):
 (ReflectliteValue.method (ReflectliteValue.valueError "reflectlite.Value.IsNil" 0) ReflectliteValue.isNil #[tX 142 a 150]).run Tryz.prog w= .ok (.bool false) w:=by
 obtain⟨cs,h1,rfl,_⟩:=h
 rw [SR]
 simp only [Sem.run_bind,AB,Result.andThen_ok]
 have hl:=fS Nz (fun _=>rfl) h1 (off:=0) (by simp)
 simp [ReflectliteValue.isNil,hl,mk]
theorem AS{a:Nat}:Ns Tryz.prog (ReflectliteValue.method (ReflectliteValue.valueError "reflectlite.Value.IsNil" 0) ReflectliteValue.isNil #[tX 142 a 150]):=by
 rw [SR];refine gK (q:=fun x=>x=some (142,⟨a,0,none⟩,150)) (pj (by kernel_rfl)) (show Pq Tryz.prog _ _ from Eq.mpr (show Pq Tryz.prog (fun x=>x=some (142,⟨a,0,none⟩,150)) (ReflectliteValue.parts (tX 142 a 150))=(some (142,(⟨a,0,none⟩:Addr),150)=some (142,⟨a,0,none⟩,150)) by kernel_rfl) rfl) fun x hx=>AZ hx ?_;unfold ReflectliteValue.isNil;simp only [List.contains,List.elem];refine ai mC fun v=>?_;split <;> trivial
theorem AY{a:Nat}:Ns Tryz.prog (ReflectliteValue.method (ReflectliteValue.valueError "reflectlite.Value.Elem" 0) ReflectliteValue.elem #[tX 142 a 150]):=by
 rw [SR];refine gK (q:=fun x=>x=some (142,⟨a,0,none⟩,150)) (pj (by kernel_rfl)) (show Pq Tryz.prog _ _ from Eq.mpr (show Pq Tryz.prog (fun x=>x=some (142,⟨a,0,none⟩,150)) (ReflectliteValue.parts (tX 142 a 150))=(some (142,(⟨a,0,none⟩:Addr),150)=some (142,⟨a,0,none⟩,150)) by kernel_rfl) rfl) fun x hx=>AZ hx ?_;unfold ReflectliteValue.elem;refine ai mC fun v=>?_;refine gK (q:=fun x=>x=some 139) (pj (by kernel_rfl)) (show Pq Tryz.prog _ _ from Eq.mpr (show Pq Tryz.prog (fun x=>x=some 139) (Rtype.elem? 142)=(some 139=some 139) by kernel_rfl) rfl) fun x hx=>?_;subst hx;have ve:∀n,Ns Tryz.prog (ReflectliteValue.valueError "reflectlite.Value.Elem" n:Sem Value):=fun n=>ai (pj (by kernel_rfl)) fun t=>ai (ai aO fun d=>by split <;> trivial) fun e=>ai kG fun _=>trivial;have mk':∀p,Ns Tryz.prog (ReflectliteValue.mk 139 p ReflectliteValue.flagAddr):=fun p=>pj (by kernel_rfl);cases v with
 |pointer q=>cases q with
  |none=>trivial
  |some q=>exact mk' q
 |_=>exact ve _
theorem Jt{a b:Nat}{S:FS}{w:World}(h:(D.obj a 142 (.eq (.pointer (some ⟨b,0,none⟩)))).holds S w):
 (ReflectliteValue.method (ReflectliteValue.valueError "reflectlite.Value.Elem" 0) ReflectliteValue.elem #[tX 142 a 150]).run Tryz.prog w= .ok (tX 139 b 409) w:=by
 obtain⟨cs,h1,rfl,_⟩:=h
 rw [SR]
 simp only [Sem.run_bind,AB,Result.andThen_ok]
 have hl:=fS Nz (fun _=>rfl) h1 (off:=0) (by simp)
 have e1:(Rtype.elem? 142).run Tryz.prog w= .ok (some 139) w:=by kernel_rfl
 have e2:(ReflectliteValue.mk 139 ⟨b,0,none⟩ ReflectliteValue.flagAddr).run Tryz.prog w= .ok (tX 139 b 409) w:=by kernel_rfl
 simp [ReflectliteValue.elem,hl,mk,e1,e2]
theorem U8(v x:Value):ReflectliteValue.set #[v,x]=(do
 let (some (dst,a,fl),some (src,b,_)):=(←ReflectliteValue.parts v,←ReflectliteValue.parts x)
  |unsupported (.noEntry "extern/(internal/reflectlite.Value).Set.zeroValue")
 if fl / ReflectliteValue.flagAddr % 2 == 0 then unsupported (.noEntry "extern/(internal/reflectlite.Value).Set.unaddressable")
 let val←loadVar src b
 if←Rtype.directlyAssignable dst src then storeVar dst a val
 else if←Rtype.implements dst src then
  if(←Rtype.kind src) == 20 then
   match val with
   | .nilIface=>unsupported (.noEntry "extern/reflectlite: a nil value of one interface type handed on as a value of another")
   |_=>storeVar dst a val
  else storeVar dst a (.iface src val)
 else panicString ("reflectlite.Set: value of type " ++(←Rtype.spelt src)++ " is not assignable to type " ++(←Rtype.spelt dst))
 pure (.tuple #[])):=rfl
theorem FT(a:Addr)(w:World):(ReflectliteValue.parts (.agg #[hd 139,.pointer (some a),.int .u64 409])).run Tryz.prog w= .ok (some (139,a,409)) w:=by kernel_rfl
theorem HO(a:Addr)(w:World):(ReflectliteValue.parts (.agg #[hd 139,.pointer (some a),.int .u64 153])).run Tryz.prog w= .ok (some (139,a,153)) w:=by kernel_rfl
theorem GA(w:World):(Rtype.directlyAssignable 139 139).run Tryz.prog w= .ok true w:=by kernel_rfl
theorem F4{p b:Nat}:Ns Tryz.prog (ReflectliteValue.set #[tX 139 p 409,tX 139 b 153]):=by
 rw [U8];refine gK (q:=fun x=>x=some (139,⟨p,0,none⟩,409)) (pj (by kernel_rfl)) (show Pq Tryz.prog _ _ from Eq.mpr (show Pq Tryz.prog (fun x=>x=some (139,⟨p,0,none⟩,409)) (ReflectliteValue.parts (tX 139 p 409))=(some (139,(⟨p,0,none⟩:Addr),409)=some (139,⟨p,0,none⟩,409)) by kernel_rfl) rfl) fun x hx=>?_;subst hx;refine gK (q:=fun x=>x=some (139,⟨b,0,none⟩,153)) (pj (by kernel_rfl)) (show Pq Tryz.prog _ _ from Eq.mpr (show Pq Tryz.prog (fun x=>x=some (139,⟨b,0,none⟩,153)) (ReflectliteValue.parts (tX 139 b 153))=(some (139,(⟨b,0,none⟩:Addr),153)=some (139,⟨b,0,none⟩,153)) by kernel_rfl) rfl) fun x hx=>?_;subst hx;refine ai mC fun v=>?_;refine gK (q:=fun x=>x=true) (pj (by kernel_rfl)) (show Pq Tryz.prog _ _ from Eq.mpr (show Pq Tryz.prog (fun x=>x=true) (Rtype.directlyAssignable 139 139)=(true=true) by kernel_rfl) rfl) fun x hx=>?_;subst hx;exact ai uJ fun _=>trivial
theorem Hu:dM Tryz.prog 139 1 true:=⟨fun w=>by kernel_rfl,fun w=>by kernel_rfl⟩
theorem HZ{M:Md Tryz.prog}{o:Oper}{x y:Operand}{c:Call}{ts:Array TypeId}{p b:Nat}{e0 n:Int}(ho:o.op= .call c)(hc:c={ callee:=.value (.func 133),args:=[x,y].toArray,argTypes:=ts }):
 bG M o [(x,.eq (tX 139 p 409)),(y,.eq (tX 139 b 153))] [.obj p 139 (.agg (.eq (.int .i64 e0))),.obj b 139 (.eq (.int .i64 n))] (fun _:Unit=>(.eq (.tuple #[]),[.obj p 139 (.agg (.eq (.int .i64 n))),.obj b 139 (.eq (.int .i64 n))])):=by
 have hex:∀{S:FS} {w:World} {a:Act},bz S w a [(x,.eq (tX 139 p 409)),(y,.eq (tX 139 b 153))]→execOp a.eval o=callFunc 133 #[tX 139 p 409,tX 139 b 153]:=fun {S w a} hN=>lw (xs:=[x,y]) (vs:=[tX 139 p 409,tX 139 b 153]) ho hc (i9 rfl hN)
 refine jt ⟨by simp only [nd, *],fun S w a next hd hN hO k=>?_⟩ (fun _ _ a hN _=>by rw [hex hN];exact Nu.ns _ F4) (fun d hd=>by simp at hd;rcases hd with rfl |rfl <;> trivial)
 obtain⟨cs1,h1,⟨rfl,_⟩⟩:=hO.holds (.obj p 139 (.agg (.eq (.int .i64 e0)))) (by simp)
 obtain⟨cs2,h2,⟨rfl,_⟩⟩:=hO.holds (.obj b 139 (.eq (.int .i64 n))) (by simp)
 have hne:p≠b:=fun e=>by
  have:=hO.apart;simp only [List.pairwise_cons] at this;exact this.1 _ (List.mem_singleton.2 rfl) p rfl (by rw [e];rfl)
 have op:=hO.own p ⟨_,List.mem_cons_self ..,rfl⟩
 have ob:=hO.own b ⟨_,List.mem_cons_of_mem _ (List.mem_singleton.2 rfl),rfl⟩
 have hl:=fS Hu (fun h=>by cases h) h2 (off:=0) (by simp)
 have hst:=iP Tryz.prog p 139 0 [.int .i64 n] 0 w #[.int .i64 e0] h1 (fun v hv=>by simp at hv;subst hv;rfl) (by simp)
 have hr:(execOp a.eval o).run Tryz.prog w= .ok (.value (.tuple #[])) { w with heap:=w.heap.setIfInBounds p (.cells #[.int .i64 n] 139 (0,0)) }:=by
  rw [hex hN,Nu.run,U8];simp only [Sem.run_bind,FT,HO,Result.andThen_ok];simp at hst;simp [ReflectliteValue.flagAddr,hl,mk,GA,storeVar,Hu.size,Value.cells,hst]
 rw [hr]
 refine k () S _ _ (nM hd ⟨_,List.mem_cons_self ..,rfl⟩ _) rfl ⟨fun d hd=>?_,fun b' hb'=>?_,?_⟩ (fun b' ⟨d,hd,e⟩=>.inl ?_)
 ·
  simp at hd;rcases hd with rfl |rfl
  ·exact⟨[.int .i64 n],by simp [op.2],rfl,rfl⟩
  ·exact⟨[.int .i64 n],by simp [Array.getElem?_setIfInBounds_ne hne,h2],rfl,rfl⟩
 ·
  obtain⟨d,hd,e⟩:=hb';simp at hd;rcases hd with rfl |rfl
  ·cases e;exact⟨op.1,by simpa using op.2⟩
  ·cases e;exact⟨ob.1,by simpa using ob.2⟩
 ·
  refine List.pairwise_cons.2 ⟨fun d hd b' e e'=>?_,List.pairwise_singleton _ _⟩;simp at hd;subst hd;cases e;cases e';exact hne rfl
 ·
  simp at hd;rcases hd with rfl |rfl
  ·exact⟨_,List.mem_cons_self ..,e⟩
  ·exact⟨_,List.mem_cons_of_mem _ (List.mem_singleton.2 rfl),e⟩
end Go.Proofs.YtddneonghpmidaaGreatDoor
set_option linter.unusedVariables false
set_option maxRecDepth 20000
set_option maxHeartbeats 4000000
namespace Go.Proofs.YtddneonghpmidaaGreatDoor
open K Go Go.Proofs Go.Extern
theorem P9:∀w,(zeroValue 173).run Tryz.prog w= .ok (.agg #[.pointer none,.pointer none,.int .u64 0]) w:=fun w=>by kernel_rfl
theorem Sm:∀S w,(A.cells S w (.agg (.pair (.eq (.pointer none)) (.pair (.eq (.pointer none)) (.eq (.int .u64 0))))) (Value.cells (.agg #[.pointer none,.pointer none,.int .u64 0])).toList):=fun _ _=>⟨[_],_,rfl,⟨rfl,rfl⟩,[_],_,rfl,⟨rfl,rfl⟩,rfl,rfl⟩
theorem Ao:dM Tryz.prog 173 3 true:=⟨fun w=>by kernel_rfl,fun w=>by kernel_rfl⟩
def f8:Obj→Prop:=fun o=>o= .cells #[td] 176 (0,0)
theorem FY{M:Md Tryz.prog}{o:Oper}{x:Operand}(ho:o.op= .load 176 x):bG M o [(x,.eq (.pointer (some ⟨0,0,none⟩)))] [.inv 0 f8] (fun _:Unit=>(.eq td,[.inv 0 f8])):=
 .val1 (hcm:=fun o h=>by cases h;rfl) fun S w a h hs=>by
  have e:a.eval x= .pointer (some ⟨0,0,none⟩):=h.1
  obtain⟨ob,h1,rfl⟩:=hs
  have hsz:∀w,(sizeOf 176).run Tryz.prog w= .ok 1 w:=fun w=>by kernel_rfl
  have hag:∀w,(isAgg 176).run Tryz.prog w= .ok false w:=fun w=>by kernel_rfl
  have hc:w.cell? ⟨0,0,none⟩=some td:=by simp [World.cell?,h1]
  refine⟨td,?_,rfl⟩
  simp [execOp,ho,Instr.loadAt,e,Instr.sureAddr,loadVar,hsz,hag,hc]
theorem RZ:ae Tryz.prog 101:=ae.of Tryz.func101 (by kernel_rfl) (by kernel_rfl)
theorem Rx:ae Tryz.prog 74:=ae.of Tryz.func74 (by kernel_rfl) (by kernel_rfl)
theorem zQ{n:Nat}:true=false→n=1:=fun h=>nomatch h
def QA:Nat→Unit→Option Unit
 |0,_=>none
 |_+1,_=>some ()
theorem Pn{a p:Nat}{n e0:Int}:bZ Tryz.prog 101 [.eq (.iface 139 (.agg #[.int .i64 n])),.any,PZ 142 a 150,.eq (.iface 210 (.agg #[hd 139]))] [.obj a 142 (.eq (.pointer (some ⟨p,0,none⟩))),.obj p 139 (.agg (.eq (.int .i64 e0)))]
 (fun _:Unit=>(bp [.eq (.bool true)],[.obj a 142 (.eq (.pointer (some ⟨p,0,none⟩))),.obj p 139 (.agg (.eq (.int .i64 n)))])):=by
 refine bZ.of 62 Tryz.func101 rfl Tryz.ntmps101 rfl fun S w0=>?_
 refine ar ?_
 refine ab ?_
 refine aD rfl rfl rfl (pi rfl trivial) ⟨rfl,trivial⟩ fun b6=>?_
 refine dJ rfl ?_
 refine ax ?_
 refine ag ?_
 show JC _ _ _ _ _
 refine aj ?_
 have h:(QA 1 ()).bind some=some ():=rfl
 refine aH (Z:=Unit) (α:=Unit) (fun _ _=>[(0,.eq (.iface 139 (.agg #[.int .i64 n]))),(3,.eq (.iface 210 (.agg #[hd 139]))),(6,.eq (.pointer (some ⟨b6,0,none⟩)))]) (fun _ _=>[.obj b6 173 (PZ 142 a 150),.obj a 142 (.eq (.pointer (some ⟨p,0,none⟩))),.obj p 139 (.agg (.eq (.int .i64 e0)))]) QA 1 () () (fun _=>rfl) h (SE.fin [0,1,2] ⟨rfl,rfl,rfl,trivial⟩ rfl) (fun _ _ _ _=>?_)
 refine aj ?_
 refine ar ?_
 refine ar ?_
 refine ab ?_
 refine aC rfl rfl ?_
 refine aF rfl (Ib Qi [.tmp 16] [.iface 139 (.agg #[.int .i64 n])] rfl rfl rfl (Ft _) (F3 _)) ⟨rfl,trivial⟩ ?_
 refine aC rfl rfl ?_
 refine aF rfl (AI Qg [.tmp 18] [.iface 210 (.agg #[hd 139])] rfl rfl rfl (QJ 139) MO Lp) ⟨rfl,rfl,trivial⟩ ?_
 refine ax ?_
 refine ag ?_
 show JC _ _ _ _ _
 refine bK rfl (fun hb=>?_) (fun hb=>(by cases hb))
 refine ar ?_
 refine ab ?_
 refine bX rfl rfl rfl (ah rfl Ao (zQ) rfl) ⟨rfl,trivial⟩ ?_
 refine bI 1 rfl ?_
 refine bX rfl rfl rfl (cO (N:=[(.tmp 20,PZ 142 a 150)]) (Ia Qh [.tmp 20] [tX 142 a 150] rfl rfl rfl (fun _ _ h=>Jt h) AY trivial) fun _ _ _ hn=>⟨zF hn.1,trivial⟩) ⟨rfl,trivial⟩ ?_
 refine aC rfl rfl ?_
 refine aD rfl rfl rfl (H9 (T:=139) (v:=fun b=>tX 139 b 153) Nv [.tmp 22] [.iface 139 (.agg #[.int .i64 n])] rfl rfl rfl (CC n) rfl (xl n)) ⟨rfl,trivial⟩ fun b23=>?_
 refine bI 3 rfl ?_
 refine bO (Δ:=[_,_]) (F:=_) (fun _ _ _=>aA rfl _) rfl rfl (HZ rfl rfl) ⟨rfl,rfl,trivial⟩ fun _=>?_
 refine ax ?_
 refine ag ?_
 show JC _ _ _ _ _
 refine ar ?_
 refine ab ?_
 refine dJ rfl ?_
 refine ax ?_
 refine ag ?_
 show JC _ _ _ _ _
 refine bJ ?_
 refine eJ ?_
 refine mL ?_
 refine eJ ?_
 refine mL ?_
 refine bi (SE.fin (Γ':=[(8,_)]) [2,0,1,3] ⟨rfl,trivial⟩ rfl) ?_
 exact aL () [.eq (.bool true)] 2 ⟨rfl,trivial⟩ rfl
theorem Pm{v:Value}{p:Nat}{n:Int}:bZ Tryz.prog 74 [.eq .nilIface,.eq v] [.obj p 139 (.agg (.eq (.int .i64 n))),.inv 0 f8] (fun _:Unit=>(bp [.eq (.bool false)],[.obj p 139 (.agg (.eq (.int .i64 n))),.inv 0 f8])):=by
 refine bZ.of 42 Tryz.func74 rfl Tryz.ntmps74 rfl fun S w0=>?_;refine ar ?_;refine ab ?_;refine dJ rfl ?_;refine ax ?_;refine ag ?_;show JC _ _ _ _ _;refine ar ?_;refine ar ?_;refine ab ?_;refine aC rfl rfl ?_;refine aF rfl (sO rfl Tryz.underlying118 rfl) ⟨rfl,rfl,trivial⟩ ?_;refine ax ?_;refine ag ?_;show JC _ _ _ _ _;refine bK rfl (fun hb=>?_) (fun hb=>(by cases hb));refine ar ?_;refine ab ?_;refine dJ rfl ?_;refine ax ?_;refine ag ?_;show JC _ _ _ _ _;refine bJ ?_;refine eJ ?_;exact aL () [.eq (.bool false)] 2 ⟨rfl,trivial⟩ rfl
theorem MP{p:Nat}{n e0:Int}:bZ Tryz.prog 74 [.eq (.iface 139 (.agg #[.int .i64 n])),.eq (.iface 142 (.pointer (some ⟨p,0,none⟩)))] [.obj p 139 (.agg (.eq (.int .i64 e0))),.inv 0 f8]
 (fun _:Unit=>(bp [.eq (.bool true)],[.obj p 139 (.agg (.eq (.int .i64 n))),.inv 0 f8])):=by
 refine bZ.of 42 Tryz.func74 rfl Tryz.ntmps74 rfl fun S w0=>?_
 refine ar ?_
 refine ab ?_
 refine dJ rfl ?_
 refine ax ?_
 refine ag ?_
 show JC _ _ _ _ _
 refine ar ?_
 refine ar ?_
 refine ab ?_
 refine aC rfl rfl ?_
 refine aF rfl (sO rfl Tryz.underlying118 rfl) ⟨rfl,rfl,trivial⟩ ?_
 refine ax ?_
 refine ag ?_
 show JC _ _ _ _ _
 refine bK rfl (fun hb=>(by cases hb)) (fun hb=>?_)
 refine cT ?_
 refine ag ?_
 show JC _ _ _ _ _
 refine ar ?_
 refine ar ?_
 refine ab ?_
 refine aC rfl rfl ?_
 refine aF rfl (sO rfl Tryz.underlying20 rfl) ⟨rfl,rfl,trivial⟩ ?_
 refine ax ?_
 refine ag ?_
 show JC _ _ _ _ _
 refine bK rfl (fun hb=>(by cases hb)) (fun hb=>?_)
 refine cT ?_
 refine ag ?_
 show JC _ _ _ _ _
 refine ar ?_
 refine ab ?_
 refine aC rfl rfl ?_
 refine aD rfl rfl rfl (H9 (T:=142) (v:=fun b=>tX 142 b 150) Nv [.tmp 13] [.iface 142 (.pointer (some ⟨p,0,none⟩))] rfl rfl rfl (CB _) rfl (xk _)) ⟨rfl,trivial⟩ fun a=>?_
 refine co (tu 14 rfl fun _ _ _ h=>MV rfl rfl rfl h) ?_
 refine aD rfl rfl rfl (aY rfl P9 Sm) trivial fun b5=>?_
 refine a8 rfl rfl (aX rfl Ao trivial rfl rfl) ⟨rfl,rfl,trivial⟩ ?_
 refine ax ?_
 refine ag ?_
 show JC _ _ _ _ _
 refine ar ?_
 refine ab ?_
 refine bX rfl rfl rfl (ah rfl Ao (zQ) rfl) ⟨rfl,trivial⟩ ?_
 refine aF rfl (cO (N:=[(.tmp 15,PZ 142 a 150)]) (Ib Qk [.tmp 15] [tX 142 a 150] rfl rfl rfl (KO _) (Ds _)) fun _ _ _ hn=>⟨zF hn.1,trivial⟩) ⟨rfl,trivial⟩ ?_
 refine dk rfl rfl ?_
 refine ax ?_
 refine ag ?_
 show JC _ _ _ _ _
 refine ar ?_
 refine ar ?_
 refine ab ?_
 refine aC rfl rfl ?_
 refine aF rfl (AI Nr [] [] rfl rfl rfl (NK 142) Lx (EF 142 (.inl rfl))) ⟨rfl,trivial⟩ ?_
 refine aF rfl (iZ rfl) ⟨rfl,rfl,trivial⟩ ?_
 refine aC rfl rfl ?_
 refine gi rfl rfl rfl rfl rfl rfl (ah rfl Ao (zQ) rfl) ⟨rfl,trivial⟩ ?_
 refine bI 1 rfl ?_
 refine gi rfl rfl rfl rfl rfl rfl (cO (N:=[(.tmp 21,PZ 142 a 150)]) (Ia Qj [.tmp 21] [tX 142 a 150] rfl rfl rfl (fun _ _ h=>IU h) AS trivial) fun _ _ _ hn=>⟨zF hn.1,trivial⟩) ⟨rfl,trivial⟩ ?_
 refine aF rfl (ll rfl) ⟨rfl,rfl,trivial⟩ ?_
 refine ax ?_
 refine ag ?_
 show JC _ _ _ _ _
 refine bK rfl (fun hb=>(by cases hb)) (fun hb=>?_)
 refine cT ?_
 refine ag ?_
 show JC _ _ _ _ _
 refine ar ?_
 refine ab ?_
 refine aC rfl rfl ?_
 refine aF rfl (AI Qf [] [] rfl rfl rfl (QI 142) MC Lm) ⟨rfl,trivial⟩ ?_
 refine dk rfl rfl ?_
 refine ax ?_
 refine ag ?_
 show JC _ _ _ _ _
 refine ar ?_
 refine ar ?_
 refine ab ?_
 refine aC rfl rfl ?_
 refine aF rfl (AI Nr [] [] rfl rfl rfl (NK 139) Ly (EF 139 (.inr rfl))) ⟨rfl,trivial⟩ ?_
 refine aF rfl (iZ rfl) ⟨rfl,rfl,trivial⟩ ?_
 refine aC rfl rfl ?_
 refine nv rfl rfl rfl rfl rfl rfl (aN rfl) ⟨rfl,trivial⟩ ?_
 refine bI 3 rfl ?_
 refine gi rfl rfl rfl rfl rfl rfl (FY rfl) ⟨rfl,trivial⟩ ?_
 refine nv rfl rfl rfl rfl rfl rfl (AI Qe [.tmp 32] [td] rfl rfl rfl (QH 139) LC Ll) ⟨rfl,rfl,trivial⟩ ?_
 refine nv rfl rfl rfl rfl rfl rfl (eF rfl) ⟨rfl,trivial⟩ ?_
 refine aF rfl (lj rfl) ⟨rfl,rfl,trivial⟩ ?_
 refine ax ?_
 refine ag ?_
 show JC _ _ _ _ _
 refine bK rfl (fun hb=>(by cases hb)) (fun hb=>?_)
 refine cT ?_
 refine ag ?_
 show JC _ _ _ _ _
 refine ar ?_
 refine ab ?_
 refine aC rfl rfl ?_
 refine aC rfl rfl ?_
 refine bI 2 rfl ?_
 refine bX rfl rfl rfl (ah rfl Ao (zQ) rfl) ⟨rfl,trivial⟩ ?_
 refine aC rfl rfl ?_
 refine bI 3 rfl ?_
 refine bI 3 rfl ?_
 refine bO (Δ:=[_,_]) (F:=_) (fun _ _ _=>aA rfl _) rfl rfl (cO (N:=[(.tmp 37,.eq (.iface 139 (.agg #[.int .i64 n]))),(.tmp 38,.eq (.iface 142 (.pointer (some ⟨p,0,none⟩)))),(.tmp 39,PZ 142 a 150),(.tmp 40,.eq (.iface 210 (.agg #[hd 139])))])
  (ao [.tmp 37,.tmp 38,.tmp 39,.tmp 40] rfl rfl RZ rfl (Pn (a:=a) (p:=p) (n:=n) (e0:=e0))) fun _ _ _ hn=>⟨hn.1,trivial,hn.2.2.1,hn.2.2.2.1,trivial⟩) ⟨rfl,rfl,rfl,rfl,trivial⟩ fun _=>?_
 refine dk rfl rfl ?_
 refine ax ?_
 refine ag ?_
 show JC _ _ _ _ _
 refine bJ ?_
 refine bi (SE.fin (Γ':=[(4,_)]) [1,3,0,2] ⟨rfl,trivial⟩ rfl) ?_
 exact aL () [.eq (.bool true)] 2 ⟨rfl,trivial⟩ rfl
def SY:Value→Option (Option Int)
 | .nilIface=>some none
 | .iface t (.agg cs)=>if t=139 then(match cs.toList with |[.int .i64 n]=>some (some n) |_=>none) else none
 |_=>none
theorem JI{v:Value}{q:Option Int}(h:SY v=some q):(v= .nilIface∧q=none)∨∃n,v= .iface 139 (.agg #[.int .i64 n])∧q=some n:=by
 unfold SY at h;split at h
 ·cases h;exact .inl ⟨rfl,rfl⟩
 ·rename_i t cs;split at h
  ·rename_i e;split at h
   ·rename_i n hn;cases h;obtain⟨l⟩:=cs;cases hn;exact .inr ⟨n,by rw [e],rfl⟩
   ·cases h
  ·cases h
 ·cases h
theorem R9{v:Value}{q:Option Int}{p:Nat}{e0:Int}(h:SY v=some q):bZ Tryz.prog 74 [.eq v,.eq (.iface 142 (.pointer (some ⟨p,0,none⟩)))] [.obj p 139 (.agg (.eq (.int .i64 e0))),.inv 0 f8]
 (fun _:Unit=>(bp [.eq (.bool q.isSome)],[.obj p 139 (.agg (.eq (.int .i64 (q.getD e0)))),.inv 0 f8])):=by
 rcases JI h with⟨rfl,rfl⟩ |⟨n,rfl,rfl⟩
 ·
  exact Pm
 ·
  exact MP
