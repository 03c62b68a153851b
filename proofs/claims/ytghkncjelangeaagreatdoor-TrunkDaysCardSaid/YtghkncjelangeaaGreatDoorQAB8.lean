import Derived.Test.YtghkncjelangeaaGreatDoorQATr6
set_option linter.unusedSimpArgs false
set_option linter.unusedVariables false
set_option maxRecDepth 20000
set_option maxHeartbeats 4000000
namespace Go.Proofs.YtghkncjelangeaaGreatDoor
open K Go Go.Proofs Go.Extern
theorem zJ{x:Option (Nat×Addr×Nat)}{z:Sem Value}{f:Nat→Addr→Nat→Nat→Sem Value}{T:Nat}{a:Addr}{fl:Nat}(h:x=some (T,a,fl))(hf:Ns Tryz.prog (f T a fl (fl % 32))):Ns Tryz.prog (match x with |none=>z |some (t,a,fl)=>f t a fl (fl % 32)):=by
 subst h;exact hf
theorem Hw{a b:Nat}{S:FS}{w:World}(h:(D.obj a 102 (.eq (.pointer (some ⟨b,0,none⟩)))).holds S w):
 (ReflectliteValue.method (ReflectliteValue.valueError "reflectlite.Value.IsNil" 0) ReflectliteValue.isNil #[sO 102 a 150]).run Tryz.prog w= .ok (.bool false) w:=by
 obtain⟨cs,h1,rfl,_⟩:=h
 rw [QL]
 simp only [Sem.run_bind,zm,Result.andThen_ok]
 have hl:=fQ Ll (fun _=>rfl) h1 (off:=0) (by simp)
 simp [ReflectliteValue.isNil,hl,mk]
theorem zC{a:Nat}:Ns Tryz.prog (ReflectliteValue.method (ReflectliteValue.valueError "reflectlite.Value.IsNil" 0) ReflectliteValue.isNil #[sO 102 a 150]):=by
 rw [QL];refine gq (q:=fun x=>x=some (102,⟨a,0,none⟩,150)) (om (by kernel_rfl)) (show Pq Tryz.prog _ _ from Eq.mpr (show Pq Tryz.prog (fun x=>x=some (102,⟨a,0,none⟩,150)) (ReflectliteValue.parts (sO 102 a 150))=(some (102,(⟨a,0,none⟩:Addr),150)=some (102,⟨a,0,none⟩,150)) by kernel_rfl) rfl) fun x hx=>zJ hx ?_;unfold ReflectliteValue.isNil;simp only [List.contains,List.elem];refine ai l5 fun v=>?_;split <;> trivial
theorem zI{a:Nat}:Ns Tryz.prog (ReflectliteValue.method (ReflectliteValue.valueError "reflectlite.Value.Elem" 0) ReflectliteValue.elem #[sO 102 a 150]):=by
 rw [QL];refine gq (q:=fun x=>x=some (102,⟨a,0,none⟩,150)) (om (by kernel_rfl)) (show Pq Tryz.prog _ _ from Eq.mpr (show Pq Tryz.prog (fun x=>x=some (102,⟨a,0,none⟩,150)) (ReflectliteValue.parts (sO 102 a 150))=(some (102,(⟨a,0,none⟩:Addr),150)=some (102,⟨a,0,none⟩,150)) by kernel_rfl) rfl) fun x hx=>zJ hx ?_;unfold ReflectliteValue.elem;refine ai l5 fun v=>?_;refine gq (q:=fun x=>x=some 97) (om (by kernel_rfl)) (show Pq Tryz.prog _ _ from Eq.mpr (show Pq Tryz.prog (fun x=>x=some 97) (Rtype.elem? 102)=(some 97=some 97) by kernel_rfl) rfl) fun x hx=>?_;subst hx;have ve:∀n,Ns Tryz.prog (ReflectliteValue.valueError "reflectlite.Value.Elem" n:Sem Value):=fun n=>ai (om (by kernel_rfl)) fun t=>ai (ai aQ fun d=>by split <;> trivial) fun e=>ai ko fun _=>trivial;have mk':∀p,Ns Tryz.prog (ReflectliteValue.mk 97 p ReflectliteValue.flagAddr):=fun p=>om (by kernel_rfl);cases v with
 |pointer q=>cases q with
  |none=>trivial
  |some q=>exact mk' q
 |_=>exact ve _
theorem H4{a b:Nat}{S:FS}{w:World}(h:(D.obj a 102 (.eq (.pointer (some ⟨b,0,none⟩)))).holds S w):
 (ReflectliteValue.method (ReflectliteValue.valueError "reflectlite.Value.Elem" 0) ReflectliteValue.elem #[sO 102 a 150]).run Tryz.prog w= .ok (sO 97 b 409) w:=by
 obtain⟨cs,h1,rfl,_⟩:=h
 rw [QL]
 simp only [Sem.run_bind,zm,Result.andThen_ok]
 have hl:=fQ Ll (fun _=>rfl) h1 (off:=0) (by simp)
 have e1:(Rtype.elem? 102).run Tryz.prog w= .ok (some 97) w:=by kernel_rfl
 have e2:(ReflectliteValue.mk 97 ⟨b,0,none⟩ ReflectliteValue.flagAddr).run Tryz.prog w= .ok (sO 97 b 409) w:=by kernel_rfl
 simp [ReflectliteValue.elem,hl,mk,e1,e2]
theorem Ta(v x:Value):ReflectliteValue.set #[v,x]=(do
 let (some (dst,a,fl),some (src,b,_)):=(←ReflectliteValue.parts v,←ReflectliteValue.parts x)
  |unsupported (.noEntry "extern/(internal/reflectlite.Value).Set.zeroValue")
 if fl / ReflectliteValue.flagAddr % 2 == 0 then unsupported (.noEntry "extern/(internal/reflectlite.Value).Set.unaddressable")
 let val←loadVar src b
 if←Rtype.directlyAssignable dst src then storeVar dst a val
 else if←Rtype.implements dst src then
  if(←Rtype.kind src) == 20 then
   match val with
   | .nilIface=>unsupported (.noEntry "extern/reflectlite: a nil value of one interface type handed on as a value of another")
   |_=>storeVar dst a val
  else storeVar dst a (.iface src val)
 else panicString ("reflectlite.Set: value of type " ++(←Rtype.spelt src)++ " is not assignable to type " ++(←Rtype.spelt dst))
 pure (.tuple #[])):=rfl
theorem Eo(a:Addr)(w:World):(ReflectliteValue.parts (.agg #[hd 97,.pointer (some a),.int .u64 409])).run Tryz.prog w= .ok (some (97,a,409)) w:=by kernel_rfl
theorem Gt(a:Addr)(w:World):(ReflectliteValue.parts (.agg #[hd 97,.pointer (some a),.int .u64 153])).run Tryz.prog w= .ok (some (97,a,153)) w:=by kernel_rfl
theorem EW(w:World):(Rtype.directlyAssignable 97 97).run Tryz.prog w= .ok true w:=by kernel_rfl
theorem EB{p b:Nat}:Ns Tryz.prog (ReflectliteValue.set #[sO 97 p 409,sO 97 b 153]):=by
 rw [Ta];refine gq (q:=fun x=>x=some (97,⟨p,0,none⟩,409)) (om (by kernel_rfl)) (show Pq Tryz.prog _ _ from Eq.mpr (show Pq Tryz.prog (fun x=>x=some (97,⟨p,0,none⟩,409)) (ReflectliteValue.parts (sO 97 p 409))=(some (97,(⟨p,0,none⟩:Addr),409)=some (97,⟨p,0,none⟩,409)) by kernel_rfl) rfl) fun x hx=>?_;subst hx;refine gq (q:=fun x=>x=some (97,⟨b,0,none⟩,153)) (om (by kernel_rfl)) (show Pq Tryz.prog _ _ from Eq.mpr (show Pq Tryz.prog (fun x=>x=some (97,⟨b,0,none⟩,153)) (ReflectliteValue.parts (sO 97 b 153))=(some (97,(⟨b,0,none⟩:Addr),153)=some (97,⟨b,0,none⟩,153)) by kernel_rfl) rfl) fun x hx=>?_;subst hx;refine ai l5 fun v=>?_;refine gq (q:=fun x=>x=true) (om (by kernel_rfl)) (show Pq Tryz.prog _ _ from Eq.mpr (show Pq Tryz.prog (fun x=>x=true) (Rtype.directlyAssignable 97 97)=(true=true) by kernel_rfl) rfl) fun x hx=>?_;subst hx;exact ai tO fun _=>trivial
theorem Lh:dL Tryz.prog 97 1 true:=⟨fun w=>by kernel_rfl,fun w=>by kernel_rfl⟩
theorem GF{M:Md Tryz.prog}{o:Oper}{x y:Operand}{c:Call}{ts:Array TypeId}{p b:Nat}{e0 n:Int}(ho:o.op= .call c)(hc:c={ callee:=.value (.func 134),args:=[x,y].toArray,argTypes:=ts }):
 bM M o [(x,.eq (sO 97 p 409)),(y,.eq (sO 97 b 153))] [.obj p 97 (.agg (.eq (.int .i64 e0))),.obj b 97 (.eq (.int .i64 n))] (fun _:Unit=>(.eq (.tuple #[]),[.obj p 97 (.agg (.eq (.int .i64 n))),.obj b 97 (.eq (.int .i64 n))])):=by
 have hex:∀{S:FS} {w:World} {a:Act},bF S w a [(x,.eq (sO 97 p 409)),(y,.eq (sO 97 b 153))]→execOp a.eval o=callFunc 134 #[sO 97 p 409,sO 97 b 153]:=fun {S w a} hN=>kX (xs:=[x,y]) (vs:=[sO 97 p 409,sO 97 b 153]) ho hc (iH rfl hN)
 refine iU ⟨by simp only [nd, *],fun S w a next hd hN hO k=>?_⟩ (fun _ _ a hN _=>by rw [hex hN];exact La.ns _ EB) (fun d hd=>by simp at hd;rcases hd with rfl |rfl <;> trivial)
 obtain⟨cs1,h1,⟨rfl,_⟩⟩:=hO.holds (.obj p 97 (.agg (.eq (.int .i64 e0)))) (by simp)
 obtain⟨cs2,h2,⟨rfl,_⟩⟩:=hO.holds (.obj b 97 (.eq (.int .i64 n))) (by simp)
 have hne:p≠b:=fun e=>by
  have:=hO.apart;simp only [List.pairwise_cons] at this;exact this.1 _ (List.mem_singleton.2 rfl) p rfl (by rw [e];rfl)
 have op:=hO.own p ⟨_,List.mem_cons_self ..,rfl⟩
 have ob:=hO.own b ⟨_,List.mem_cons_of_mem _ (List.mem_singleton.2 rfl),rfl⟩
 have hl:=fQ Lh (fun h=>by cases h) h2 (off:=0) (by simp)
 have hst:=ix Tryz.prog p 97 0 [.int .i64 n] 0 w #[.int .i64 e0] h1 (fun v hv=>by simp at hv;subst hv;rfl) (by simp)
 have hr:(execOp a.eval o).run Tryz.prog w= .ok (.value (.tuple #[])) { w with heap:=w.heap.setIfInBounds p (.cells #[.int .i64 n] 97 (0,0)) }:=by
  rw [hex hN,La.run,Ta];simp only [Sem.run_bind,Eo,Gt,Result.andThen_ok];simp at hst;simp [ReflectliteValue.flagAddr,hl,mk,EW,storeVar,Lh.size,Value.cells,hst]
 rw [hr]
 refine k () S _ _ (m5 hd ⟨_,List.mem_cons_self ..,rfl⟩ _) rfl ⟨fun d hd=>?_,fun b' hb'=>?_,?_⟩ (fun b' ⟨d,hd,e⟩=>.inl ?_)
 ·
  simp at hd;rcases hd with rfl |rfl
  ·exact⟨[.int .i64 n],by simp [op.2],rfl,rfl⟩
  ·exact⟨[.int .i64 n],by simp [Array.getElem?_setIfInBounds_ne hne,h2],rfl,rfl⟩
 ·
  obtain⟨d,hd,e⟩:=hb';simp at hd;rcases hd with rfl |rfl
  ·cases e;exact⟨op.1,by simpa using op.2⟩
  ·cases e;exact⟨ob.1,by simpa using ob.2⟩
 ·
  refine List.pairwise_cons.2 ⟨fun d hd b' e e'=>?_,List.pairwise_singleton _ _⟩;simp at hd;subst hd;cases e;cases e';exact hne rfl
 ·
  simp at hd;rcases hd with rfl |rfl
  ·exact⟨_,List.mem_cons_self ..,e⟩
  ·exact⟨_,List.mem_cons_of_mem _ (List.mem_singleton.2 rfl),e⟩
end Go.Proofs.YtghkncjelangeaaGreatDoor
set_option linter.unusedVariables false
set_option maxRecDepth 20000
set_option maxHeartbeats 4000000
namespace Go.Proofs.YtghkncjelangeaaGreatDoor
open K Go Go.Proofs Go.Extern
theorem Oh:∀w,(zeroValue 166).run Tryz.prog w= .ok (.agg #[.pointer none,.pointer none,.int .u64 0]) w:=fun w=>by kernel_rfl
theorem Qx:∀S w,(A.cells S w (.agg (.pair (.eq (.pointer none)) (.pair (.eq (.pointer none)) (.eq (.int .u64 0))))) (Value.cells (.agg #[.pointer none,.pointer none,.int .u64 0])).toList):=fun _ _=>⟨[_],_,rfl,⟨rfl,rfl⟩,[_],_,rfl,⟨rfl,rfl⟩,rfl,rfl⟩
theorem yY:dL Tryz.prog 166 3 true:=⟨fun w=>by kernel_rfl,fun w=>by kernel_rfl⟩
def iZ:Obj→Prop:=fun o=>o= .cells #[rY] 169 (0,0)
theorem Ey{M:Md Tryz.prog}{o:Oper}{x:Operand}(ho:o.op= .load 169 x):bM M o [(x,.eq (.pointer (some ⟨0,0,none⟩)))] [.inv 0 iZ] (fun _:Unit=>(.eq rY,[.inv 0 iZ])):=
 .val1 (hcm:=fun o h=>by cases h;rfl) fun S w a h hs=>by
  have e:a.eval x= .pointer (some ⟨0,0,none⟩):=h.1
  obtain⟨ob,h1,rfl⟩:=hs
  have hsz:∀w,(sizeOf 169).run Tryz.prog w= .ok 1 w:=fun w=>by kernel_rfl
  have hag:∀w,(isAgg 169).run Tryz.prog w= .ok false w:=fun w=>by kernel_rfl
  have hc:w.cell? ⟨0,0,none⟩=some rY:=by simp [World.cell?,h1]
  refine⟨rY,?_,rfl⟩
  simp [execOp,ho,Instr.loadAt,e,Instr.sureAddr,loadVar,hsz,hag,hc]
theorem Qk:ah Tryz.prog 105:=ah.of Tryz.func105 (by kernel_rfl) (by kernel_rfl)
theorem PU:ah Tryz.prog 63:=ah.of Tryz.func63 (by kernel_rfl) (by kernel_rfl)
theorem yD{n:Nat}:true=false→n=1:=fun h=>nomatch h
def OH:Nat→Unit→Option Unit
 |0,_=>none
 |_+1,_=>some ()
theorem Nv{a p:Nat}{n e0:Int}:bX Tryz.prog 105 [.eq (.iface 97 (.agg #[.int .i64 n])),.any,N4 102 a 150,.eq (.iface 207 (.agg #[hd 97]))] [.obj a 102 (.eq (.pointer (some ⟨p,0,none⟩))),.obj p 97 (.agg (.eq (.int .i64 e0)))]
 (fun _:Unit=>(bu [.eq (.bool true)],[.obj a 102 (.eq (.pointer (some ⟨p,0,none⟩))),.obj p 97 (.agg (.eq (.int .i64 n)))])):=by
 refine bX.of 62 Tryz.func105 rfl Tryz.ntmps105 rfl fun S w0=>?_
 refine ag ?_
 refine ab ?_
 refine aF rfl rfl rfl (oh rfl trivial) ⟨rfl,trivial⟩ fun b6=>?_
 refine dG rfl ?_
 refine au ?_
 refine ae ?_
 show JC _ _ _ _ _
 refine ao ?_
 have h:(OH 1 ()).bind some=some ():=rfl
 refine aK (Z:=Unit) (α:=Unit) (fun _ _=>[(0,.eq (.iface 97 (.agg #[.int .i64 n]))),(3,.eq (.iface 207 (.agg #[hd 97]))),(6,.eq (.pointer (some ⟨b6,0,none⟩)))]) (fun _ _=>[.obj b6 166 (N4 102 a 150),.obj a 102 (.eq (.pointer (some ⟨p,0,none⟩))),.obj p 97 (.agg (.eq (.int .i64 e0)))]) OH 1 () () (fun _=>rfl) h (SE.fin [0,1,2] ⟨rfl,rfl,rfl,trivial⟩ rfl) (fun _ _ _ _=>?_)
 refine ao ?_
 refine ag ?_
 refine ag ?_
 refine ab ?_
 refine aA rfl rfl ?_
 refine aE rfl (GP Oo [.tmp 16] [.iface 97 (.agg #[.int .i64 n])] rfl rfl rfl (D5 _) (EA _)) ⟨rfl,trivial⟩ ?_
 refine aA rfl rfl ?_
 refine aE rfl (zq Om [.tmp 18] [.iface 207 (.agg #[hd 97])] rfl rfl rfl (OQ 97) KL JA) ⟨rfl,rfl,trivial⟩ ?_
 refine au ?_
 refine ae ?_
 show JC _ _ _ _ _
 refine bJ rfl (fun hb=>?_) (fun hb=>(by cases hb))
 refine ag ?_
 refine ab ?_
 refine bV rfl rfl rfl (aj rfl yY (yD) rfl) ⟨rfl,trivial⟩ ?_
 refine bH 1 rfl ?_
 refine bV rfl rfl rfl (eh (N:=[(.tmp 20,N4 102 a 150)]) (GO On [.tmp 20] [sO 102 a 150] rfl rfl rfl (fun _ _ h=>H4 h) zI trivial) fun _ _ _ hn=>⟨yr hn.1,trivial⟩) ⟨rfl,trivial⟩ ?_
 refine aA rfl rfl ?_
 refine aF rfl rfl rfl (GN (T:=97) (v:=fun b=>sO 97 b 153) Lc [.tmp 22] [.iface 97 (.agg #[.int .i64 n])] rfl rfl rfl (AW n) rfl (vZ n)) ⟨rfl,trivial⟩ fun b23=>?_
 refine bH 3 rfl ?_
 refine bR (Δ:=[_,_]) (F:=_) (fun _ _ _=>ax rfl _) rfl rfl (GF rfl rfl) ⟨rfl,rfl,trivial⟩ fun _=>?_
 refine au ?_
 refine ae ?_
 show JC _ _ _ _ _
 refine ag ?_
 refine ab ?_
 refine dG rfl ?_
 refine au ?_
 refine ae ?_
 show JC _ _ _ _ _
 refine ay ?_
 refine aV ?_
 refine bi ?_
 refine aV ?_
 refine bi ?_
 refine bv (SE.fin (Γ':=[(8,_)]) [2,0,1,3] ⟨rfl,trivial⟩ rfl) ?_
 exact aP () [.eq (.bool true)] 2 ⟨rfl,trivial⟩ rfl
theorem Nu{v:Value}{p:Nat}{n:Int}:bX Tryz.prog 63 [.eq .nilIface,.eq v] [.obj p 97 (.agg (.eq (.int .i64 n))),.inv 0 iZ] (fun _:Unit=>(bu [.eq (.bool false)],[.obj p 97 (.agg (.eq (.int .i64 n))),.inv 0 iZ])):=by
 refine bX.of 42 Tryz.func63 rfl Tryz.ntmps63 rfl fun S w0=>?_;refine ag ?_;refine ab ?_;refine dG rfl ?_;refine au ?_;refine ae ?_;show JC _ _ _ _ _;refine ag ?_;refine ag ?_;refine ab ?_;refine aA rfl rfl ?_;refine aE rfl (rH rfl Tryz.underlying100 rfl) ⟨rfl,rfl,trivial⟩ ?_;refine au ?_;refine ae ?_;show JC _ _ _ _ _;refine bJ rfl (fun hb=>?_) (fun hb=>(by cases hb));refine ag ?_;refine ab ?_;refine dG rfl ?_;refine au ?_;refine ae ?_;show JC _ _ _ _ _;refine ay ?_;refine aV ?_;exact aP () [.eq (.bool false)] 2 ⟨rfl,trivial⟩ rfl
theorem KN{p:Nat}{n e0:Int}:bX Tryz.prog 63 [.eq (.iface 97 (.agg #[.int .i64 n])),.eq (.iface 102 (.pointer (some ⟨p,0,none⟩)))] [.obj p 97 (.agg (.eq (.int .i64 e0))),.inv 0 iZ]
 (fun _:Unit=>(bu [.eq (.bool true)],[.obj p 97 (.agg (.eq (.int .i64 n))),.inv 0 iZ])):=by
 refine bX.of 42 Tryz.func63 rfl Tryz.ntmps63 rfl fun S w0=>?_
 refine ag ?_
 refine ab ?_
 refine dG rfl ?_
 refine au ?_
 refine ae ?_
 show JC _ _ _ _ _
 refine ag ?_
 refine ag ?_
 refine ab ?_
 refine aA rfl rfl ?_
 refine aE rfl (rH rfl Tryz.underlying100 rfl) ⟨rfl,rfl,trivial⟩ ?_
 refine au ?_
 refine ae ?_
 show JC _ _ _ _ _
 refine bJ rfl (fun hb=>(by cases hb)) (fun hb=>?_)
 refine aX ?_
 refine ae ?_
 show JC _ _ _ _ _
 refine ag ?_
 refine ag ?_
 refine ab ?_
 refine aA rfl rfl ?_
 refine aE rfl (rH rfl Tryz.underlying20 rfl) ⟨rfl,rfl,trivial⟩ ?_
 refine au ?_
 refine ae ?_
 show JC _ _ _ _ _
 refine bJ rfl (fun hb=>(by cases hb)) (fun hb=>?_)
 refine aX ?_
 refine ae ?_
 show JC _ _ _ _ _
 refine ag ?_
 refine ab ?_
 refine aA rfl rfl ?_
 refine aF rfl rfl rfl (GN (T:=102) (v:=fun b=>sO 102 b 150) Lc [.tmp 13] [.iface 102 (.pointer (some ⟨p,0,none⟩))] rfl rfl rfl (AV _) rfl (vY _)) ⟨rfl,trivial⟩ fun a=>?_
 refine cC (sn 14 rfl fun _ _ _ h=>KR rfl rfl rfl h) ?_
 refine aF rfl rfl rfl (be rfl Oh Qx) trivial fun b5=>?_
 refine bh rfl rfl (bb rfl yY trivial rfl rfl) ⟨rfl,rfl,trivial⟩ ?_
 refine au ?_
 refine ae ?_
 show JC _ _ _ _ _
 refine ag ?_
 refine ab ?_
 refine bV rfl rfl rfl (aj rfl yY (yD) rfl) ⟨rfl,trivial⟩ ?_
 refine aE rfl (eh (N:=[(.tmp 15,N4 102 a 150)]) (GP Ot [.tmp 15] [sO 102 a 150] rfl rfl rfl (I8 _) (By _)) fun _ _ _ hn=>⟨yr hn.1,trivial⟩) ⟨rfl,trivial⟩ ?_
 refine di rfl rfl ?_
 refine au ?_
 refine ae ?_
 show JC _ _ _ _ _
 refine ag ?_
 refine ag ?_
 refine ab ?_
 refine aA rfl rfl ?_
 refine aE rfl (zq K9 [] [] rfl rfl rfl (Lx 102) JJ (C4 102 (.inl rfl))) ⟨rfl,trivial⟩ ?_
 refine aE rfl (g9 rfl) ⟨rfl,rfl,trivial⟩ ?_
 refine aA rfl rfl ?_
 refine jy rfl rfl rfl rfl rfl rfl (aj rfl yY (yD) rfl) ⟨rfl,trivial⟩ ?_
 refine bH 1 rfl ?_
 refine jy rfl rfl rfl rfl rfl rfl (eh (N:=[(.tmp 21,N4 102 a 150)]) (GO Oq [.tmp 21] [sO 102 a 150] rfl rfl rfl (fun _ _ h=>Hw h) zC trivial) fun _ _ _ hn=>⟨yr hn.1,trivial⟩) ⟨rfl,trivial⟩ ?_
 refine aE rfl (kO rfl) ⟨rfl,rfl,trivial⟩ ?_
 refine au ?_
 refine ae ?_
 show JC _ _ _ _ _
 refine bJ rfl (fun hb=>(by cases hb)) (fun hb=>?_)
 refine aX ?_
 refine ae ?_
 show JC _ _ _ _ _
 refine ag ?_
 refine ab ?_
 refine aA rfl rfl ?_
 refine aE rfl (zq Ol [] [] rfl rfl rfl (OP 102) Kw Jy) ⟨rfl,trivial⟩ ?_
 refine di rfl rfl ?_
 refine au ?_
 refine ae ?_
 show JC _ _ _ _ _
 refine ag ?_
 refine ag ?_
 refine ab ?_
 refine aA rfl rfl ?_
 refine aE rfl (zq K9 [] [] rfl rfl rfl (Lx 97) JK (C4 97 (.inr rfl))) ⟨rfl,trivial⟩ ?_
 refine aE rfl (g9 rfl) ⟨rfl,rfl,trivial⟩ ?_
 refine aA rfl rfl ?_
 refine mT rfl rfl rfl rfl rfl rfl (aH rfl) ⟨rfl,trivial⟩ ?_
 refine bH 3 rfl ?_
 refine jy rfl rfl rfl rfl rfl rfl (Ey rfl) ⟨rfl,trivial⟩ ?_
 refine mT rfl rfl rfl rfl rfl rfl (zq Oj [.tmp 32] [rY] rfl rfl rfl (OO 97) JP Jx) ⟨rfl,rfl,trivial⟩ ?_
 refine mT rfl rfl rfl rfl rfl rfl (dT rfl) ⟨rfl,trivial⟩ ?_
 refine aE rfl (dN rfl) ⟨rfl,rfl,trivial⟩ ?_
 refine au ?_
 refine ae ?_
 show JC _ _ _ _ _
 refine bJ rfl (fun hb=>(by cases hb)) (fun hb=>?_)
 refine aX ?_
 refine ae ?_
 show JC _ _ _ _ _
 refine ag ?_
 refine ab ?_
 refine aA rfl rfl ?_
 refine aA rfl rfl ?_
 refine bH 2 rfl ?_
 refine bV rfl rfl rfl (aj rfl yY (yD) rfl) ⟨rfl,trivial⟩ ?_
 refine aA rfl rfl ?_
 refine bH 3 rfl ?_
 refine bH 3 rfl ?_
 refine bR (Δ:=[_,_]) (F:=_) (fun _ _ _=>ax rfl _) rfl rfl (eh (N:=[(.tmp 37,.eq (.iface 97 (.agg #[.int .i64 n]))),(.tmp 38,.eq (.iface 102 (.pointer (some ⟨p,0,none⟩)))),(.tmp 39,N4 102 a 150),(.tmp 40,.eq (.iface 207 (.agg #[hd 97])))])
  (ap [.tmp 37,.tmp 38,.tmp 39,.tmp 40] rfl rfl Qk rfl (Nv (a:=a) (p:=p) (n:=n) (e0:=e0))) fun _ _ _ hn=>⟨hn.1,trivial,hn.2.2.1,hn.2.2.2.1,trivial⟩) ⟨rfl,rfl,rfl,rfl,trivial⟩ fun _=>?_
 refine di rfl rfl ?_
 refine au ?_
 refine ae ?_
 show JC _ _ _ _ _
 refine ay ?_
 refine bv (SE.fin (Γ':=[(4,_)]) [1,3,0,2] ⟨rfl,trivial⟩ rfl) ?_
 exact aP () [.eq (.bool true)] 2 ⟨rfl,trivial⟩ rfl
def QP:Value→Option (Option Int)
 | .nilIface=>some none
 | .iface t (.agg cs)=>if t=97 then(match cs.toList with |[.int .i64 n]=>some (some n) |_=>none) else none
 |_=>none
theorem Ik{v:Value}{q:Option Int}(h:QP v=some q):(v= .nilIface∧q=none)∨∃n,v= .iface 97 (.agg #[.int .i64 n])∧q=some n:=by
 unfold QP at h;split at h
 ·cases h;exact .inl ⟨rfl,rfl⟩
 ·rename_i t cs;split at h
  ·rename_i e;split at h
   ·rename_i n hn;cases h;obtain⟨l⟩:=cs;cases hn;exact .inr ⟨n,by rw [e],rfl⟩
   ·cases h
  ·cases h
 ·cases h
theorem Qp{v:Value}{q:Option Int}{p:Nat}{e0:Int}(h:QP v=some q):bX Tryz.prog 63 [.eq v,.eq (.iface 102 (.pointer (some ⟨p,0,none⟩)))] [.obj p 97 (.agg (.eq (.int .i64 e0))),.inv 0 iZ]
 (fun _:Unit=>(bu [.eq (.bool q.isSome)],[.obj p 97 (.agg (.eq (.int .i64 (q.getD e0)))),.inv 0 iZ])):=by
 rcases Ik h with⟨rfl,rfl⟩ |⟨n,rfl,rfl⟩
 ·
  exact Nu
 ·
  exact KN
end Go.Proofs.YtghkncjelangeaaGreatDoor
