import Derived.Test.YtmeojbemjkmebaaGreatDoorRATr6
set_option linter.unusedSimpArgs false
set_option linter.unusedVariables false
set_option maxRecDepth 20000
set_option maxHeartbeats 4000000
namespace Go.Proofs.YtmeojbemjkmebaaGreatDoor
open K Go Go.Proofs Go.Extern
theorem zB{x:Option (Nat×Addr×Nat)}{z:Sem Value}{f:Nat→Addr→Nat→Nat→Sem Value}{T:Nat}{a:Addr}{fl:Nat}(h:x=some (T,a,fl))(hf:Ns Tryz.prog (f T a fl (fl % 32))):Ns Tryz.prog (match x with |none=>z |some (t,a,fl)=>f t a fl (fl % 32)):=by
 subst h;exact hf
theorem Hg{a b:Nat}{S:FS}{w:World}(h:(D.obj a 143 (.eq (.pointer (some ⟨b,0,none⟩)))).holds S w):
 (ReflectliteValue.method (ReflectliteValue.valueError "reflectlite.Value.IsNil" 0) ReflectliteValue.isNil #[su 143 a 150]).run Tryz.prog w= .ok (.bool false) w:=by
 obtain⟨cs,h1,rfl,_⟩:=h
 rw [Qn]
 simp only [Sem.run_bind,zf,Result.andThen_ok]
 have hl:=fy K1 (fun _=>rfl) h1 (off:=0) (by simp)
 simp [ReflectliteValue.isNil,hl,mk]
theorem zt{a:Nat}:Ns Tryz.prog (ReflectliteValue.method (ReflectliteValue.valueError "reflectlite.Value.IsNil" 0) ReflectliteValue.isNil #[su 143 a 150]):=by
 rw [Qn];refine f5 (q:=fun x=>x=some (143,⟨a,0,none⟩,150)) (nN (by kernel_rfl)) (show Pq Tryz.prog _ _ from Eq.mpr (show Pq Tryz.prog (fun x=>x=some (143,⟨a,0,none⟩,150)) (ReflectliteValue.parts (su 143 a 150))=(some (143,(⟨a,0,none⟩:Addr),150)=some (143,⟨a,0,none⟩,150)) by kernel_rfl) rfl) fun x hx=>zB hx ?_;unfold ReflectliteValue.isNil;simp only [List.contains,List.elem];refine ai lG fun v=>?_;split <;> trivial
theorem zA{a:Nat}:Ns Tryz.prog (ReflectliteValue.method (ReflectliteValue.valueError "reflectlite.Value.Elem" 0) ReflectliteValue.elem #[su 143 a 150]):=by
 rw [Qn];refine f5 (q:=fun x=>x=some (143,⟨a,0,none⟩,150)) (nN (by kernel_rfl)) (show Pq Tryz.prog _ _ from Eq.mpr (show Pq Tryz.prog (fun x=>x=some (143,⟨a,0,none⟩,150)) (ReflectliteValue.parts (su 143 a 150))=(some (143,(⟨a,0,none⟩:Addr),150)=some (143,⟨a,0,none⟩,150)) by kernel_rfl) rfl) fun x hx=>zB hx ?_;unfold ReflectliteValue.elem;refine ai lG fun v=>?_;refine f5 (q:=fun x=>x=some 140) (nN (by kernel_rfl)) (show Pq Tryz.prog _ _ from Eq.mpr (show Pq Tryz.prog (fun x=>x=some 140) (Rtype.elem? 143)=(some 140=some 140) by kernel_rfl) rfl) fun x hx=>?_;subst hx;have ve:∀n,Ns Tryz.prog (ReflectliteValue.valueError "reflectlite.Value.Elem" n:Sem Value):=fun n=>ai (nN (by kernel_rfl)) fun t=>ai (ai aK fun d=>by split <;> trivial) fun e=>ai jQ fun _=>trivial;have mk':∀p,Ns Tryz.prog (ReflectliteValue.mk 140 p ReflectliteValue.flagAddr):=fun p=>nN (by kernel_rfl);cases v with
 |pointer q=>cases q with
  |none=>trivial
  |some q=>exact mk' q
 |_=>exact ve _
theorem HM{a b:Nat}{S:FS}{w:World}(h:(D.obj a 143 (.eq (.pointer (some ⟨b,0,none⟩)))).holds S w):
 (ReflectliteValue.method (ReflectliteValue.valueError "reflectlite.Value.Elem" 0) ReflectliteValue.elem #[su 143 a 150]).run Tryz.prog w= .ok (su 140 b 409) w:=by
 obtain⟨cs,h1,rfl,_⟩:=h
 rw [Qn]
 simp only [Sem.run_bind,zf,Result.andThen_ok]
 have hl:=fy K1 (fun _=>rfl) h1 (off:=0) (by simp)
 have e1:(Rtype.elem? 143).run Tryz.prog w= .ok (some 140) w:=by kernel_rfl
 have e2:(ReflectliteValue.mk 140 ⟨b,0,none⟩ ReflectliteValue.flagAddr).run Tryz.prog w= .ok (su 140 b 409) w:=by kernel_rfl
 simp [ReflectliteValue.elem,hl,mk,e1,e2]
theorem Sj(v x:Value):ReflectliteValue.set #[v,x]=(do
 let (some (dst,a,fl),some (src,b,_)):=(←ReflectliteValue.parts v,←ReflectliteValue.parts x)
  |unsupported (.noEntry "extern/(internal/reflectlite.Value).Set.zeroValue")
 if fl / ReflectliteValue.flagAddr % 2 == 0 then unsupported (.noEntry "extern/(internal/reflectlite.Value).Set.unaddressable")
 let val←loadVar src b
 if←Rtype.directlyAssignable dst src then storeVar dst a val
 else if←Rtype.implements dst src then
  if(←Rtype.kind src) == 20 then
   match val with
   | .nilIface=>unsupported (.noEntry "extern/reflectlite: a nil value of one interface type handed on as a value of another")
   |_=>storeVar dst a val
  else storeVar dst a (.iface src val)
 else panicString ("reflectlite.Set: value of type " ++(←Rtype.spelt src)++ " is not assignable to type " ++(←Rtype.spelt dst))
 pure (.tuple #[])):=rfl
theorem D4(a:Addr)(w:World):(ReflectliteValue.parts (.agg #[hd 140,.pointer (some a),.int .u64 409])).run Tryz.prog w= .ok (some (140,a,409)) w:=by kernel_rfl
theorem F3(a:Addr)(w:World):(ReflectliteValue.parts (.agg #[hd 140,.pointer (some a),.int .u64 153])).run Tryz.prog w= .ok (some (140,a,153)) w:=by kernel_rfl
theorem EF(w:World):(Rtype.directlyAssignable 140 140).run Tryz.prog w= .ok true w:=by kernel_rfl
theorem Ee{p b:Nat}:Ns Tryz.prog (ReflectliteValue.set #[su 140 p 409,su 140 b 153]):=by
 rw [Sj];refine f5 (q:=fun x=>x=some (140,⟨p,0,none⟩,409)) (nN (by kernel_rfl)) (show Pq Tryz.prog _ _ from Eq.mpr (show Pq Tryz.prog (fun x=>x=some (140,⟨p,0,none⟩,409)) (ReflectliteValue.parts (su 140 p 409))=(some (140,(⟨p,0,none⟩:Addr),409)=some (140,⟨p,0,none⟩,409)) by kernel_rfl) rfl) fun x hx=>?_;subst hx;refine f5 (q:=fun x=>x=some (140,⟨b,0,none⟩,153)) (nN (by kernel_rfl)) (show Pq Tryz.prog _ _ from Eq.mpr (show Pq Tryz.prog (fun x=>x=some (140,⟨b,0,none⟩,153)) (ReflectliteValue.parts (su 140 b 153))=(some (140,(⟨b,0,none⟩:Addr),153)=some (140,⟨b,0,none⟩,153)) by kernel_rfl) rfl) fun x hx=>?_;subst hx;refine ai lG fun v=>?_;refine f5 (q:=fun x=>x=true) (nN (by kernel_rfl)) (show Pq Tryz.prog _ _ from Eq.mpr (show Pq Tryz.prog (fun x=>x=true) (Rtype.directlyAssignable 140 140)=(true=true) by kernel_rfl) rfl) fun x hx=>?_;subst hx;exact ai tj fun _=>trivial
theorem FG:dC Tryz.prog 140 1 true:=⟨fun w=>by kernel_rfl,fun w=>by kernel_rfl⟩
theorem Gg{M:Md Tryz.prog}{o:Oper}{x y:Operand}{c:Call}{ts:Array TypeId}{p b:Nat}{e0 n:Int}(ho:o.op= .call c)(hc:c={ callee:=.value (.func 145),args:=[x,y].toArray,argTypes:=ts }):
 bz M o [(x,.eq (su 140 p 409)),(y,.eq (su 140 b 153))] [.obj p 140 (.agg (.eq (.int .i64 e0))),.obj b 140 (.eq (.int .i64 n))] (fun _:Unit=>(.eq (.tuple #[]),[.obj p 140 (.agg (.eq (.int .i64 n))),.obj b 140 (.eq (.int .i64 n))])):=by
 have hex:∀{S:FS} {w:World} {a:Act},bu S w a [(x,.eq (su 140 p 409)),(y,.eq (su 140 b 153))]→execOp a.eval o=callFunc 145 #[su 140 p 409,su 140 b 153]:=fun {S w a} hN=>ky (xs:=[x,y]) (vs:=[su 140 p 409,su 140 b 153]) ho hc (iu rfl hN)
 refine iJ ⟨by simp only [nd, *],fun S w a next hd hN hO k=>?_⟩ (fun _ _ a hN _=>by rw [hex hN];exact KW.ns _ Ee) (fun d hd=>by simp at hd;rcases hd with rfl |rfl <;> trivial)
 obtain⟨cs1,h1,⟨rfl,_⟩⟩:=hO.holds (.obj p 140 (.agg (.eq (.int .i64 e0)))) (by simp)
 obtain⟨cs2,h2,⟨rfl,_⟩⟩:=hO.holds (.obj b 140 (.eq (.int .i64 n))) (by simp)
 have hne:p≠b:=fun e=>by
  have:=hO.apart;simp only [List.pairwise_cons] at this;exact this.1 _ (List.mem_singleton.2 rfl) p rfl (by rw [e];rfl)
 have op:=hO.own p ⟨_,List.mem_cons_self ..,rfl⟩
 have ob:=hO.own b ⟨_,List.mem_cons_of_mem _ (List.mem_singleton.2 rfl),rfl⟩
 have hl:=fy FG (fun h=>by cases h) h2 (off:=0) (by simp)
 have hst:=il Tryz.prog p 140 0 [.int .i64 n] 0 w #[.int .i64 e0] h1 (fun v hv=>by simp at hv;subst hv;rfl) (by simp)
 have hr:(execOp a.eval o).run Tryz.prog w= .ok (.value (.tuple #[])) { w with heap:=w.heap.setIfInBounds p (.cells #[.int .i64 n] 140 (0,0)) }:=by
  rw [hex hN,KW.run,Sj];simp only [Sem.run_bind,D4,F3,Result.andThen_ok];simp at hst;simp [ReflectliteValue.flagAddr,hl,mk,EF,storeVar,FG.size,Value.cells,hst]
 rw [hr]
 refine k () S _ _ (mK hd ⟨_,List.mem_cons_self ..,rfl⟩ _) rfl ⟨fun d hd=>?_,fun b' hb'=>?_,?_⟩ (fun b' ⟨d,hd,e⟩=>.inl ?_)
 ·
  simp at hd;rcases hd with rfl |rfl
  ·exact⟨[.int .i64 n],by simp [op.2],rfl,rfl⟩
  ·exact⟨[.int .i64 n],by simp [Array.getElem?_setIfInBounds_ne hne,h2],rfl,rfl⟩
 ·
  obtain⟨d,hd,e⟩:=hb';simp at hd;rcases hd with rfl |rfl
  ·cases e;exact⟨op.1,by simpa using op.2⟩
  ·cases e;exact⟨ob.1,by simpa using ob.2⟩
 ·
  refine List.pairwise_cons.2 ⟨fun d hd b' e e'=>?_,List.pairwise_singleton _ _⟩;simp at hd;subst hd;cases e;cases e';exact hne rfl
 ·
  simp at hd;rcases hd with rfl |rfl
  ·exact⟨_,List.mem_cons_self ..,e⟩
  ·exact⟨_,List.mem_cons_of_mem _ (List.mem_singleton.2 rfl),e⟩
end Go.Proofs.YtmeojbemjkmebaaGreatDoor
set_option linter.unusedVariables false
set_option maxRecDepth 20000
set_option maxHeartbeats 4000000
namespace Go.Proofs.YtmeojbemjkmebaaGreatDoor
open K Go Go.Proofs Go.Extern
theorem NT:∀w,(zeroValue 183).run Tryz.prog w= .ok (.agg #[.pointer none,.pointer none,.int .u64 0]) w:=fun w=>by kernel_rfl
theorem P4:∀S w,(A.cells S w (.agg (.pair (.eq (.pointer none)) (.pair (.eq (.pointer none)) (.eq (.int .u64 0))))) (Value.cells (.agg #[.pointer none,.pointer none,.int .u64 0])).toList):=fun _ _=>⟨[_],_,rfl,⟨rfl,rfl⟩,[_],_,rfl,⟨rfl,rfl⟩,rfl,rfl⟩
theorem yQ:dC Tryz.prog 183 3 true:=⟨fun w=>by kernel_rfl,fun w=>by kernel_rfl⟩
def dP:Obj→Prop:=fun o=>o= .cells #[rI] 186 (0,0)
theorem Ea{M:Md Tryz.prog}{o:Oper}{x:Operand}(ho:o.op= .load 186 x):bz M o [(x,.eq (.pointer (some ⟨0,0,none⟩)))] [.inv 0 dP] (fun _:Unit=>(.eq rI,[.inv 0 dP])):=
 .val1 (hcm:=fun o h=>by cases h;rfl) fun S w a h hs=>by
  have e:a.eval x= .pointer (some ⟨0,0,none⟩):=h.1
  obtain⟨ob,h1,rfl⟩:=hs
  have hsz:∀w,(sizeOf 186).run Tryz.prog w= .ok 1 w:=fun w=>by kernel_rfl
  have hag:∀w,(isAgg 186).run Tryz.prog w= .ok false w:=fun w=>by kernel_rfl
  have hc:w.cell? ⟨0,0,none⟩=some rI:=by simp [World.cell?,h1]
  refine⟨rI,?_,rfl⟩
  simp [execOp,ho,Instr.loadAt,e,Instr.sureAddr,loadVar,hsz,hag,hc]
theorem PT:ag Tryz.prog 112:=ag.of Tryz.func112 (by kernel_rfl) (by kernel_rfl)
theorem Pm:ag Tryz.prog 80:=ag.of Tryz.func80 (by kernel_rfl) (by kernel_rfl)
theorem yv{n:Nat}:true=false→n=1:=fun h=>nomatch h
def Ol:Nat→Unit→Option Unit
 |0,_=>none
 |_+1,_=>some ()
theorem Ni{a p:Nat}{n e0:Int}:cd Tryz.prog 112 [.eq (.iface 140 (.agg #[.int .i64 n])),.any,NL 143 a 150,.eq (.iface 221 (.agg #[hd 140]))] [.obj a 143 (.eq (.pointer (some ⟨p,0,none⟩))),.obj p 140 (.agg (.eq (.int .i64 e0)))]
 (fun _:Unit=>(bv [.eq (.bool true)],[.obj a 143 (.eq (.pointer (some ⟨p,0,none⟩))),.obj p 140 (.agg (.eq (.int .i64 n)))])):=by
 refine cd.of 62 Tryz.func112 rfl Tryz.ntmps112 rfl fun S w0=>?_
 refine ah ?_
 refine ab ?_
 refine aE rfl rfl rfl (nM rfl trivial) ⟨rfl,trivial⟩ fun b6=>?_
 refine dK rfl ?_
 refine ar ?_
 refine ae ?_
 show JC _ _ _ _ _
 refine an ?_
 have h:(Ol 1 ()).bind some=some ():=rfl
 refine aN (Z:=Unit) (α:=Unit) (fun _ _=>[(0,.eq (.iface 140 (.agg #[.int .i64 n]))),(3,.eq (.iface 221 (.agg #[hd 140]))),(6,.eq (.pointer (some ⟨b6,0,none⟩)))]) (fun _ _=>[.obj b6 183 (NL 143 a 150),.obj a 143 (.eq (.pointer (some ⟨p,0,none⟩))),.obj p 140 (.agg (.eq (.int .i64 e0)))]) Ol 1 () () (fun _=>rfl) h (SE.fin [0,1,2] ⟨rfl,rfl,rfl,trivial⟩ rfl) (fun _ _ _ _=>?_)
 refine an ?_
 refine ah ?_
 refine ah ?_
 refine ab ?_
 refine aA rfl rfl ?_
 refine aD rfl (Gw N5 [.tmp 16] [.iface 140 (.agg #[.int .i64 n])] rfl rfl rfl (Dy _) (Ed _)) ⟨rfl,trivial⟩ ?_
 refine aA rfl rfl ?_
 refine aD rfl (zj N3 [.tmp 18] [.iface 221 (.agg #[hd 140])] rfl rfl rfl (Oy 140) Kt Ji) ⟨rfl,rfl,trivial⟩ ?_
 refine ar ?_
 refine ae ?_
 show JC _ _ _ _ _
 refine bK rfl (fun hb=>?_) (fun hb=>(by cases hb))
 refine ah ?_
 refine ab ?_
 refine bQ rfl rfl rfl (ak rfl yQ (yv) rfl) ⟨rfl,trivial⟩ ?_
 refine bD 1 rfl ?_
 refine bQ rfl rfl rfl (cN (N:=[(.tmp 20,NL 143 a 150)]) (Gu N4 [.tmp 20] [su 143 a 150] rfl rfl rfl (fun _ _ h=>HM h) zA trivial) fun _ _ _ hn=>⟨yk hn.1,trivial⟩) ⟨rfl,trivial⟩ ?_
 refine aA rfl rfl ?_
 refine aE rfl rfl rfl (Gt (T:=140) (v:=fun b=>su 140 b 153) KX [.tmp 22] [.iface 140 (.agg #[.int .i64 n])] rfl rfl rfl (AD n) rfl (vG n)) ⟨rfl,trivial⟩ fun b23=>?_
 refine bD 3 rfl ?_
 refine bN (Δ:=[_,_]) (F:=_) (fun _ _ _=>ay rfl _) rfl rfl (Gg rfl rfl) ⟨rfl,rfl,trivial⟩ fun _=>?_
 refine ar ?_
 refine ae ?_
 show JC _ _ _ _ _
 refine ah ?_
 refine ab ?_
 refine dK rfl ?_
 refine ar ?_
 refine ae ?_
 show JC _ _ _ _ _
 refine aC ?_
 refine aV ?_
 refine bp ?_
 refine aV ?_
 refine bp ?_
 refine bF (SE.fin (Γ':=[(8,_)]) [2,0,1,3] ⟨rfl,trivial⟩ rfl) ?_
 exact aL () [.eq (.bool true)] 2 ⟨rfl,trivial⟩ rfl
theorem Nh{v:Value}{p:Nat}{n:Int}:cd Tryz.prog 80 [.eq .nilIface,.eq v] [.obj p 140 (.agg (.eq (.int .i64 n))),.inv 0 dP] (fun _:Unit=>(bv [.eq (.bool false)],[.obj p 140 (.agg (.eq (.int .i64 n))),.inv 0 dP])):=by
 refine cd.of 42 Tryz.func80 rfl Tryz.ntmps80 rfl fun S w0=>?_;refine ah ?_;refine ab ?_;refine dK rfl ?_;refine ar ?_;refine ae ?_;show JC _ _ _ _ _;refine ah ?_;refine ah ?_;refine ab ?_;refine aA rfl rfl ?_;refine aD rfl (rj rfl Tryz.underlying94 rfl) ⟨rfl,rfl,trivial⟩ ?_;refine ar ?_;refine ae ?_;show JC _ _ _ _ _;refine bK rfl (fun hb=>?_) (fun hb=>(by cases hb));refine ah ?_;refine ab ?_;refine dK rfl ?_;refine ar ?_;refine ae ?_;show JC _ _ _ _ _;refine aC ?_;refine aV ?_;exact aL () [.eq (.bool false)] 2 ⟨rfl,trivial⟩ rfl
theorem Ku{p:Nat}{n e0:Int}:cd Tryz.prog 80 [.eq (.iface 140 (.agg #[.int .i64 n])),.eq (.iface 143 (.pointer (some ⟨p,0,none⟩)))] [.obj p 140 (.agg (.eq (.int .i64 e0))),.inv 0 dP]
 (fun _:Unit=>(bv [.eq (.bool true)],[.obj p 140 (.agg (.eq (.int .i64 n))),.inv 0 dP])):=by
 refine cd.of 42 Tryz.func80 rfl Tryz.ntmps80 rfl fun S w0=>?_
 refine ah ?_
 refine ab ?_
 refine dK rfl ?_
 refine ar ?_
 refine ae ?_
 show JC _ _ _ _ _
 refine ah ?_
 refine ah ?_
 refine ab ?_
 refine aA rfl rfl ?_
 refine aD rfl (rj rfl Tryz.underlying94 rfl) ⟨rfl,rfl,trivial⟩ ?_
 refine ar ?_
 refine ae ?_
 show JC _ _ _ _ _
 refine bK rfl (fun hb=>(by cases hb)) (fun hb=>?_)
 refine ba ?_
 refine ae ?_
 show JC _ _ _ _ _
 refine ah ?_
 refine ah ?_
 refine ab ?_
 refine aA rfl rfl ?_
 refine aD rfl (rj rfl Tryz.underlying20 rfl) ⟨rfl,rfl,trivial⟩ ?_
 refine ar ?_
 refine ae ?_
 show JC _ _ _ _ _
 refine bK rfl (fun hb=>(by cases hb)) (fun hb=>?_)
 refine ba ?_
 refine ae ?_
 show JC _ _ _ _ _
 refine ah ?_
 refine ab ?_
 refine aA rfl rfl ?_
 refine aE rfl rfl rfl (Gt (T:=143) (v:=fun b=>su 143 b 150) KX [.tmp 13] [.iface 143 (.pointer (some ⟨p,0,none⟩))] rfl rfl rfl (AC _) rfl (vF _)) ⟨rfl,trivial⟩ fun a=>?_
 refine cO (rT 14 rfl fun _ _ _ h=>Ky rfl rfl rfl h) ?_
 refine aE rfl rfl rfl (aZ rfl NT P4) trivial fun b5=>?_
 refine aY rfl rfl (aR rfl yQ trivial rfl rfl) ⟨rfl,rfl,trivial⟩ ?_
 refine ar ?_
 refine ae ?_
 show JC _ _ _ _ _
 refine ah ?_
 refine ab ?_
 refine bQ rfl rfl rfl (ak rfl yQ (yv) rfl) ⟨rfl,trivial⟩ ?_
 refine aD rfl (cN (N:=[(.tmp 15,NL 143 a 150)]) (Gw N7 [.tmp 15] [su 143 a 150] rfl rfl rfl (IN _) (Ba _)) fun _ _ _ hn=>⟨yk hn.1,trivial⟩) ⟨rfl,trivial⟩ ?_
 refine dr rfl rfl ?_
 refine ar ?_
 refine ae ?_
 show JC _ _ _ _ _
 refine ah ?_
 refine ah ?_
 refine ab ?_
 refine aA rfl rfl ?_
 refine aD rfl (zj KV [] [] rfl rfl rfl (Lc 143) Jq (CL 143 (.inl rfl))) ⟨rfl,trivial⟩ ?_
 refine aD rfl (jJ rfl) ⟨rfl,rfl,trivial⟩ ?_
 refine aA rfl rfl ?_
 refine mz rfl rfl rfl rfl rfl rfl (ak rfl yQ (yv) rfl) ⟨rfl,trivial⟩ ?_
 refine bD 1 rfl ?_
 refine mz rfl rfl rfl rfl rfl rfl (cN (N:=[(.tmp 21,NL 143 a 150)]) (Gu N6 [.tmp 21] [su 143 a 150] rfl rfl rfl (fun _ _ h=>Hg h) zt trivial) fun _ _ _ hn=>⟨yk hn.1,trivial⟩) ⟨rfl,trivial⟩ ?_
 refine aD rfl (uG rfl) ⟨rfl,rfl,trivial⟩ ?_
 refine ar ?_
 refine ae ?_
 show JC _ _ _ _ _
 refine bK rfl (fun hb=>(by cases hb)) (fun hb=>?_)
 refine ba ?_
 refine ae ?_
 show JC _ _ _ _ _
 refine ah ?_
 refine ab ?_
 refine aA rfl rfl ?_
 refine aD rfl (zj NZ [] [] rfl rfl rfl (Ox 143) J4 Jg) ⟨rfl,trivial⟩ ?_
 refine dr rfl rfl ?_
 refine ar ?_
 refine ae ?_
 show JC _ _ _ _ _
 refine ah ?_
 refine ah ?_
 refine ab ?_
 refine aA rfl rfl ?_
 refine aD rfl (zj KV [] [] rfl rfl rfl (Lc 140) Jr (CL 140 (.inr rfl))) ⟨rfl,trivial⟩ ?_
 refine aD rfl (jJ rfl) ⟨rfl,rfl,trivial⟩ ?_
 refine aA rfl rfl ?_
 refine mA rfl rfl rfl rfl rfl rfl (aO rfl) ⟨rfl,trivial⟩ ?_
 refine bD 3 rfl ?_
 refine mz rfl rfl rfl rfl rfl rfl (Ea rfl) ⟨rfl,trivial⟩ ?_
 refine mA rfl rfl rfl rfl rfl rfl (zj NY [.tmp 32] [rI] rfl rfl rfl (Ov 140) Ju Jf) ⟨rfl,rfl,trivial⟩ ?_
 refine mA rfl rfl rfl rfl rfl rfl (eY rfl) ⟨rfl,trivial⟩ ?_
 refine aD rfl (uF rfl) ⟨rfl,rfl,trivial⟩ ?_
 refine ar ?_
 refine ae ?_
 show JC _ _ _ _ _
 refine bK rfl (fun hb=>(by cases hb)) (fun hb=>?_)
 refine ba ?_
 refine ae ?_
 show JC _ _ _ _ _
 refine ah ?_
 refine ab ?_
 refine aA rfl rfl ?_
 refine aA rfl rfl ?_
 refine bD 2 rfl ?_
 refine bQ rfl rfl rfl (ak rfl yQ (yv) rfl) ⟨rfl,trivial⟩ ?_
 refine aA rfl rfl ?_
 refine bD 3 rfl ?_
 refine bD 3 rfl ?_
 refine bN (Δ:=[_,_]) (F:=_) (fun _ _ _=>ay rfl _) rfl rfl (cN (N:=[(.tmp 37,.eq (.iface 140 (.agg #[.int .i64 n]))),(.tmp 38,.eq (.iface 143 (.pointer (some ⟨p,0,none⟩)))),(.tmp 39,NL 143 a 150),(.tmp 40,.eq (.iface 221 (.agg #[hd 140])))])
  (ao [.tmp 37,.tmp 38,.tmp 39,.tmp 40] rfl rfl PT rfl (Ni (a:=a) (p:=p) (n:=n) (e0:=e0))) fun _ _ _ hn=>⟨hn.1,trivial,hn.2.2.1,hn.2.2.2.1,trivial⟩) ⟨rfl,rfl,rfl,rfl,trivial⟩ fun _=>?_
 refine dr rfl rfl ?_
 refine ar ?_
 refine ae ?_
 show JC _ _ _ _ _
 refine aC ?_
 refine bF (SE.fin (Γ':=[(4,_)]) [1,3,0,2] ⟨rfl,trivial⟩ rfl) ?_
 exact aL () [.eq (.bool true)] 2 ⟨rfl,trivial⟩ rfl
def Qu:Value→Option (Option Int)
 | .nilIface=>some none
 | .iface t (.agg cs)=>if t=140 then(match cs.toList with |[.int .i64 n]=>some (some n) |_=>none) else none
 |_=>none
theorem H3{v:Value}{q:Option Int}(h:Qu v=some q):(v= .nilIface∧q=none)∨∃n,v= .iface 140 (.agg #[.int .i64 n])∧q=some n:=by
 unfold Qu at h;split at h
 ·cases h;exact .inl ⟨rfl,rfl⟩
 ·rename_i t cs;split at h
  ·rename_i e;split at h
   ·rename_i n hn;cases h;obtain⟨l⟩:=cs;cases hn;exact .inr ⟨n,by rw [e],rfl⟩
   ·cases h
  ·cases h
 ·cases h
theorem P1{v:Value}{q:Option Int}{p:Nat}{e0:Int}(h:Qu v=some q):cd Tryz.prog 80 [.eq v,.eq (.iface 143 (.pointer (some ⟨p,0,none⟩)))] [.obj p 140 (.agg (.eq (.int .i64 e0))),.inv 0 dP]
 (fun _:Unit=>(bv [.eq (.bool q.isSome)],[.obj p 140 (.agg (.eq (.int .i64 (q.getD e0)))),.inv 0 dP])):=by
 rcases H3 h with⟨rfl,rfl⟩ |⟨n,rfl,rfl⟩
 ·
  exact Nh
 ·
  exact Ku
end Go.Proofs.YtmeojbemjkmebaaGreatDoor
