import Derived.Test.YtcnpijmfgfnpiaaGreatDoorXRTr6
set_option linter.unusedSimpArgs false
set_option linter.unusedVariables false
set_option maxRecDepth 20000
set_option maxHeartbeats 4000000
namespace Go.Proofs.YtcnpijmfgfnpiaaGreatDoor
open K Go Go.Proofs Go.Extern
theorem yn{x:Option (Nat×Addr×Nat)}{z:Sem Value}{f:Nat→Addr→Nat→Nat→Sem Value}{T:Nat}{a:Addr}{fl:Nat}(h:x=some (T,a,fl))(hf:Ns Tryz.prog (f T a fl (fl % 32))):Ns Tryz.prog (match x with |none=>z |some (t,a,fl)=>f t a fl (fl % 32)):=by
 subst h;exact hf
theorem FG{a b:Nat}{S:FS}{w:World}(h:(D.obj a 123 (.eq (.pointer (some ⟨b,0,none⟩)))).holds S w):
 (ReflectliteValue.method (ReflectliteValue.valueError "reflectlite.Value.IsNil" 0) ReflectliteValue.isNil #[rz 123 a 150]).run Tryz.prog w= .ok (.bool false) w:=by
 obtain⟨cs,h1,rfl,_⟩:=h
 rw [O4]
 simp only [Sem.run_bind,xQ,Result.andThen_ok]
 have hl:=eX Jg (fun _=>rfl) h1 (off:=0) (by simp)
 simp [ReflectliteValue.isNil,hl,mk]
theorem yg{a:Nat}:Ns Tryz.prog (ReflectliteValue.method (ReflectliteValue.valueError "reflectlite.Value.IsNil" 0) ReflectliteValue.isNil #[rz 123 a 150]):=by
 rw [O4];refine fF (q:=fun x=>x=some (123,⟨a,0,none⟩,150)) (nk (by kernel_rfl)) (show Pq Tryz.prog _ _ from Eq.mpr (show Pq Tryz.prog (fun x=>x=some (123,⟨a,0,none⟩,150)) (ReflectliteValue.parts (rz 123 a 150))=(some (123,(⟨a,0,none⟩:Addr),150)=some (123,⟨a,0,none⟩,150)) by kernel_rfl) rfl) fun x hx=>yn hx ?_;unfold ReflectliteValue.isNil;simp only [List.contains,List.elem];refine ai kZ fun v=>?_;split <;> trivial
theorem ym{a:Nat}:Ns Tryz.prog (ReflectliteValue.method (ReflectliteValue.valueError "reflectlite.Value.Elem" 0) ReflectliteValue.elem #[rz 123 a 150]):=by
 rw [O4];refine fF (q:=fun x=>x=some (123,⟨a,0,none⟩,150)) (nk (by kernel_rfl)) (show Pq Tryz.prog _ _ from Eq.mpr (show Pq Tryz.prog (fun x=>x=some (123,⟨a,0,none⟩,150)) (ReflectliteValue.parts (rz 123 a 150))=(some (123,(⟨a,0,none⟩:Addr),150)=some (123,⟨a,0,none⟩,150)) by kernel_rfl) rfl) fun x hx=>yn hx ?_;unfold ReflectliteValue.elem;refine ai kZ fun v=>?_;refine fF (q:=fun x=>x=some 118) (nk (by kernel_rfl)) (show Pq Tryz.prog _ _ from Eq.mpr (show Pq Tryz.prog (fun x=>x=some 118) (Rtype.elem? 123)=(some 118=some 118) by kernel_rfl) rfl) fun x hx=>?_;subst hx;have ve:∀n,Ns Tryz.prog (ReflectliteValue.valueError "reflectlite.Value.Elem" n:Sem Value):=fun n=>ai (nk (by kernel_rfl)) fun t=>ai (ai aE fun d=>by split <;> trivial) fun e=>ai jw fun _=>trivial;have mk':∀p,Ns Tryz.prog (ReflectliteValue.mk 118 p ReflectliteValue.flagAddr):=fun p=>nk (by kernel_rfl);cases v with
 |pointer q=>cases q with
  |none=>trivial
  |some q=>exact mk' q
 |_=>exact ve _
theorem Gi{a b:Nat}{S:FS}{w:World}(h:(D.obj a 123 (.eq (.pointer (some ⟨b,0,none⟩)))).holds S w):
 (ReflectliteValue.method (ReflectliteValue.valueError "reflectlite.Value.Elem" 0) ReflectliteValue.elem #[rz 123 a 150]).run Tryz.prog w= .ok (rz 118 b 409) w:=by
 obtain⟨cs,h1,rfl,_⟩:=h
 rw [O4]
 simp only [Sem.run_bind,xQ,Result.andThen_ok]
 have hl:=eX Jg (fun _=>rfl) h1 (off:=0) (by simp)
 have e1:(Rtype.elem? 123).run Tryz.prog w= .ok (some 118) w:=by kernel_rfl
 have e2:(ReflectliteValue.mk 118 ⟨b,0,none⟩ ReflectliteValue.flagAddr).run Tryz.prog w= .ok (rz 118 b 409) w:=by kernel_rfl
 simp [ReflectliteValue.elem,hl,mk,e1,e2]
theorem QB(v x:Value):ReflectliteValue.set #[v,x]=(do
 let (some (dst,a,fl),some (src,b,_)):=(←ReflectliteValue.parts v,←ReflectliteValue.parts x)
  |unsupported (.noEntry "extern/(internal/reflectlite.Value).Set.zeroValue")
 if fl / ReflectliteValue.flagAddr % 2 == 0 then unsupported (.noEntry "extern/(internal/reflectlite.Value).Set.unaddressable")
 let val←loadVar src b
 if←Rtype.directlyAssignable dst src then storeVar dst a val
 else if←Rtype.implements dst src then
  if(←Rtype.kind src) == 20 then
   match val with
   | .nilIface=>unsupported (.noEntry "extern/reflectlite: a nil value of one interface type handed on as a value of another")
   |_=>storeVar dst a val
  else storeVar dst a (.iface src val)
 else panicString ("reflectlite.Set: value of type " ++(←Rtype.spelt src)++ " is not assignable to type " ++(←Rtype.spelt dst))
 pure (.tuple #[])):=rfl
theorem Cd(a:Addr)(w:World):(ReflectliteValue.parts (.agg #[hd 118,.pointer (some a),.int .u64 409])).run Tryz.prog w= .ok (some (118,a,409)) w:=by kernel_rfl
theorem Eu(a:Addr)(w:World):(ReflectliteValue.parts (.agg #[hd 118,.pointer (some a),.int .u64 153])).run Tryz.prog w= .ok (some (118,a,153)) w:=by kernel_rfl
theorem Da(w:World):(Rtype.directlyAssignable 118 118).run Tryz.prog w= .ok true w:=by kernel_rfl
theorem CG{p b:Nat}:Ns Tryz.prog (ReflectliteValue.set #[rz 118 p 409,rz 118 b 153]):=by
 rw [QB];refine fF (q:=fun x=>x=some (118,⟨p,0,none⟩,409)) (nk (by kernel_rfl)) (show Pq Tryz.prog _ _ from Eq.mpr (show Pq Tryz.prog (fun x=>x=some (118,⟨p,0,none⟩,409)) (ReflectliteValue.parts (rz 118 p 409))=(some (118,(⟨p,0,none⟩:Addr),409)=some (118,⟨p,0,none⟩,409)) by kernel_rfl) rfl) fun x hx=>?_;subst hx;refine fF (q:=fun x=>x=some (118,⟨b,0,none⟩,153)) (nk (by kernel_rfl)) (show Pq Tryz.prog _ _ from Eq.mpr (show Pq Tryz.prog (fun x=>x=some (118,⟨b,0,none⟩,153)) (ReflectliteValue.parts (rz 118 b 153))=(some (118,(⟨b,0,none⟩:Addr),153)=some (118,⟨b,0,none⟩,153)) by kernel_rfl) rfl) fun x hx=>?_;subst hx;refine ai kZ fun v=>?_;refine fF (q:=fun x=>x=true) (nk (by kernel_rfl)) (show Pq Tryz.prog _ _ from Eq.mpr (show Pq Tryz.prog (fun x=>x=true) (Rtype.directlyAssignable 118 118)=(true=true) by kernel_rfl) rfl) fun x hx=>?_;subst hx;exact ai sB fun _=>trivial
theorem Ed:dj Tryz.prog 118 1 true:=⟨fun w=>by kernel_rfl,fun w=>by kernel_rfl⟩
theorem EE{M:Md Tryz.prog}{o:Oper}{x y:Operand}{c:Call}{ts:Array TypeId}{p b:Nat}{e0 n:Int}(ho:o.op= .call c)(hc:c={ callee:=.value (.func 162),args:=[x,y].toArray,argTypes:=ts }):
 bD M o [(x,.eq (rz 118 p 409)),(y,.eq (rz 118 b 153))] [.obj p 118 (.agg (.eq (.int .i64 e0))),.obj b 118 (.eq (.int .i64 n))] (fun _:Unit=>(.eq (.tuple #[]),[.obj p 118 (.agg (.eq (.int .i64 n))),.obj b 118 (.eq (.int .i64 n))])):=by
 have hex:∀{S:FS} {w:World} {a:Act},bg S w a [(x,.eq (rz 118 p 409)),(y,.eq (rz 118 b 153))]→execOp a.eval o=callFunc 162 #[rz 118 p 409,rz 118 b 153]:=fun {S w a} hN=>jX (xs:=[x,y]) (vs:=[rz 118 p 409,rz 118 b 153]) ho hc (hH rfl hN)
 refine gg ⟨by simp only [nd, *],fun S w a next hd hN hO k=>?_⟩ (fun _ _ a hN _=>by rw [hex hN];exact Jb.ns _ CG) (fun d hd=>by simp at hd;rcases hd with rfl |rfl <;> trivial)
 obtain⟨cs1,h1,⟨rfl,_⟩⟩:=hO.holds (.obj p 118 (.agg (.eq (.int .i64 e0)))) (by simp)
 obtain⟨cs2,h2,⟨rfl,_⟩⟩:=hO.holds (.obj b 118 (.eq (.int .i64 n))) (by simp)
 have hne:p≠b:=fun e=>by
  have:=hO.apart;simp only [List.pairwise_cons] at this;exact this.1 _ (List.mem_singleton.2 rfl) p rfl (by rw [e];rfl)
 have op:=hO.own p ⟨_,List.mem_cons_self ..,rfl⟩
 have ob:=hO.own b ⟨_,List.mem_cons_of_mem _ (List.mem_singleton.2 rfl),rfl⟩
 have hl:=eX Ed (fun h=>by cases h) h2 (off:=0) (by simp)
 have hst:=gZ Tryz.prog p 118 0 [.int .i64 n] 0 w #[.int .i64 e0] h1 (fun v hv=>by simp at hv;subst hv;rfl) (by simp)
 have hr:(execOp a.eval o).run Tryz.prog w= .ok (.value (.tuple #[])) { w with heap:=w.heap.setIfInBounds p (.cells #[.int .i64 n] 118 (0,0)) }:=by
  rw [hex hN,Jb.run,QB];simp only [Sem.run_bind,Cd,Eu,Result.andThen_ok];simp at hst;simp [ReflectliteValue.flagAddr,hl,mk,Da,storeVar,Ed.size,Value.cells,hst]
 rw [hr]
 refine k () S _ _ (mg hd ⟨_,List.mem_cons_self ..,rfl⟩ _) rfl ⟨fun d hd=>?_,fun b' hb'=>?_,?_⟩ (fun b' ⟨d,hd,e⟩=>.inl ?_)
 ·
  simp at hd;rcases hd with rfl |rfl
  ·exact⟨[.int .i64 n],by simp [op.2],rfl,rfl⟩
  ·exact⟨[.int .i64 n],by simp [Array.getElem?_setIfInBounds_ne hne,h2],rfl,rfl⟩
 ·
  obtain⟨d,hd,e⟩:=hb';simp at hd;rcases hd with rfl |rfl
  ·cases e;exact⟨op.1,by simpa using op.2⟩
  ·cases e;exact⟨ob.1,by simpa using ob.2⟩
 ·
  refine List.pairwise_cons.2 ⟨fun d hd b' e e'=>?_,List.pairwise_singleton _ _⟩;simp at hd;subst hd;cases e;cases e';exact hne rfl
 ·
  simp at hd;rcases hd with rfl |rfl
  ·exact⟨_,List.mem_cons_self ..,e⟩
  ·exact⟨_,List.mem_cons_of_mem _ (List.mem_singleton.2 rfl),e⟩
end Go.Proofs.YtcnpijmfgfnpiaaGreatDoor
set_option linter.unusedVariables false
set_option maxRecDepth 20000
set_option maxHeartbeats 4000000
namespace Go.Proofs.YtcnpijmfgfnpiaaGreatDoor
open K Go Go.Proofs Go.Extern
theorem L2:∀w,(zeroValue 182).run Tryz.prog w= .ok (.agg #[.pointer none,.pointer none,.int .u64 0]) w:=fun w=>by kernel_rfl
theorem OM:∀S w,(A.cells S w (.agg (.pair (.eq (.pointer none)) (.pair (.eq (.pointer none)) (.eq (.int .u64 0))))) (Value.cells (.agg #[.pointer none,.pointer none,.int .u64 0])).toList):=fun _ _=>⟨[_],_,rfl,⟨rfl,rfl⟩,[_],_,rfl,⟨rfl,rfl⟩,rfl,rfl⟩
theorem xG:dj Tryz.prog 182 3 true:=⟨fun w=>by kernel_rfl,fun w=>by kernel_rfl⟩
def fP:Obj→Prop:=fun o=>o= .cells #[qN] 185 (0,0)
theorem CB{M:Md Tryz.prog}{o:Oper}{x:Operand}(ho:o.op= .load 185 x):bD M o [(x,.eq (.pointer (some ⟨0,0,none⟩)))] [.inv 0 fP] (fun _:Unit=>(.eq qN,[.inv 0 fP])):=
 .val1 (hcm:=fun o h=>by cases h;rfl) fun S w a h hs=>by
  have e:a.eval x= .pointer (some ⟨0,0,none⟩):=h.1
  obtain⟨ob,h1,rfl⟩:=hs
  have hsz:∀w,(sizeOf 185).run Tryz.prog w= .ok 1 w:=fun w=>by kernel_rfl
  have hag:∀w,(isAgg 185).run Tryz.prog w= .ok false w:=fun w=>by kernel_rfl
  have hc:w.cell? ⟨0,0,none⟩=some qN:=by simp [World.cell?,h1]
  refine⟨qN,?_,rfl⟩
  simp [execOp,ho,Instr.loadAt,e,Instr.sureAddr,loadVar,hsz,hag,hc]
theorem On:ag Tryz.prog 133:=ag.of Tryz.func133 (by kernel_rfl) (by kernel_rfl)
theorem NZ:ag Tryz.prog 93:=ag.of Tryz.func93 (by kernel_rfl) (by kernel_rfl)
theorem xf{n:Nat}:true=false→n=1:=fun h=>nomatch h
def MS:Nat→Unit→Option Unit
 |0,_=>none
 |_+1,_=>some ()
theorem Lp{a p:Nat}{n e0:Int}:bW Tryz.prog 133 [.eq (.iface 118 (.agg #[.int .i64 n])),.any,LQ 123 a 150,.eq (.iface 221 (.agg #[hd 118]))] [.obj a 123 (.eq (.pointer (some ⟨p,0,none⟩))),.obj p 118 (.agg (.eq (.int .i64 e0)))]
 (fun _:Unit=>(bp [.eq (.bool true)],[.obj a 123 (.eq (.pointer (some ⟨p,0,none⟩))),.obj p 118 (.agg (.eq (.int .i64 n)))])):=by
 refine bW.of 62 Tryz.func133 rfl Tryz.ntmps133 rfl fun S w0=>?_
 refine ah ?_
 refine ab ?_
 refine aH rfl rfl rfl (nj rfl trivial) ⟨rfl,trivial⟩ fun b6=>?_
 refine dn rfl ?_
 refine ar ?_
 refine ae ?_
 show JC _ _ _ _ _
 refine aj ?_
 have h:(MS 1 ()).bind some=some ():=rfl
 refine aL (Z:=Unit) (α:=Unit) (fun _ _=>[(0,.eq (.iface 118 (.agg #[.int .i64 n]))),(3,.eq (.iface 221 (.agg #[hd 118]))),(6,.eq (.pointer (some ⟨b6,0,none⟩)))]) (fun _ _=>[.obj b6 182 (LQ 123 a 150),.obj a 123 (.eq (.pointer (some ⟨p,0,none⟩))),.obj p 118 (.agg (.eq (.int .i64 e0)))]) MS 1 () () (fun _=>rfl) h (SE.fin [0,1,2] ⟨rfl,rfl,rfl,trivial⟩ rfl) (fun _ _ _ _=>?_)
 refine aj ?_
 refine ah ?_
 refine ah ?_
 refine ab ?_
 refine ax rfl rfl ?_
 refine aB rfl (EP MB [.tmp 16] [.iface 118 (.agg #[.int .i64 n])] rfl rfl rfl (BM _) (CE _)) ⟨rfl,trivial⟩ ?_
 refine ax rfl rfl ?_
 refine aB rfl (xX Me [.tmp 18] [.iface 221 (.agg #[hd 118])] rfl rfl rfl (M8 118) IL HU) ⟨rfl,rfl,trivial⟩ ?_
 refine ar ?_
 refine ae ?_
 show JC _ _ _ _ _
 refine bm rfl (fun hb=>?_) (fun hb=>(by cases hb))
 refine ah ?_
 refine ab ?_
 refine bN rfl rfl rfl (an rfl xG (xf) rfl) ⟨rfl,trivial⟩ ?_
 refine bv 1 rfl ?_
 refine bN rfl rfl rfl (dz (N:=[(.tmp 20,LQ 123 a 150)]) (EO MA [.tmp 20] [rz 123 a 150] rfl rfl rfl (fun _ _ h=>Gi h) ym trivial) fun _ _ _ hn=>⟨wT hn.1,trivial⟩) ⟨rfl,trivial⟩ ?_
 refine ax rfl rfl ?_
 refine aH rfl rfl rfl (EN (T:=118) (v:=fun b=>rz 118 b 153) Jc [.tmp 22] [.iface 118 (.agg #[.int .i64 n])] rfl rfl rfl (zq n) rfl (uJ n)) ⟨rfl,trivial⟩ fun b23=>?_
 refine bv 3 rfl ?_
 refine bH (Δ:=[_,_]) (F:=_) (fun _ _ _=>av rfl _) rfl rfl (EE rfl rfl) ⟨rfl,rfl,trivial⟩ fun _=>?_
 refine ar ?_
 refine ae ?_
 show JC _ _ _ _ _
 refine ah ?_
 refine ab ?_
 refine dn rfl ?_
 refine ar ?_
 refine ae ?_
 show JC _ _ _ _ _
 refine aA ?_
 refine aM ?_
 refine aZ ?_
 refine aM ?_
 refine aZ ?_
 refine bz (SE.fin (Γ':=[(8,_)]) [2,0,1,3] ⟨rfl,trivial⟩ rfl) ?_
 exact aF () [.eq (.bool true)] 2 ⟨rfl,trivial⟩ rfl
theorem Ln{v:Value}{p:Nat}{n:Int}:bW Tryz.prog 93 [.eq .nilIface,.eq v] [.obj p 118 (.agg (.eq (.int .i64 n))),.inv 0 fP] (fun _:Unit=>(bp [.eq (.bool false)],[.obj p 118 (.agg (.eq (.int .i64 n))),.inv 0 fP])):=by
 refine bW.of 42 Tryz.func93 rfl Tryz.ntmps93 rfl fun S w0=>?_;refine ah ?_;refine ab ?_;refine dn rfl ?_;refine ar ?_;refine ae ?_;show JC _ _ _ _ _;refine ah ?_;refine ah ?_;refine ab ?_;refine ax rfl rfl ?_;refine aB rfl (qz rfl Tryz.underlying121 rfl) ⟨rfl,rfl,trivial⟩ ?_;refine ar ?_;refine ae ?_;show JC _ _ _ _ _;refine bm rfl (fun hb=>?_) (fun hb=>(by cases hb));refine ah ?_;refine ab ?_;refine dn rfl ?_;refine ar ?_;refine ae ?_;show JC _ _ _ _ _;refine aA ?_;refine aM ?_;exact aF () [.eq (.bool false)] 2 ⟨rfl,trivial⟩ rfl
theorem IM{p:Nat}{n e0:Int}:bW Tryz.prog 93 [.eq (.iface 118 (.agg #[.int .i64 n])),.eq (.iface 123 (.pointer (some ⟨p,0,none⟩)))] [.obj p 118 (.agg (.eq (.int .i64 e0))),.inv 0 fP]
 (fun _:Unit=>(bp [.eq (.bool true)],[.obj p 118 (.agg (.eq (.int .i64 n))),.inv 0 fP])):=by
 refine bW.of 42 Tryz.func93 rfl Tryz.ntmps93 rfl fun S w0=>?_
 refine ah ?_
 refine ab ?_
 refine dn rfl ?_
 refine ar ?_
 refine ae ?_
 show JC _ _ _ _ _
 refine ah ?_
 refine ah ?_
 refine ab ?_
 refine ax rfl rfl ?_
 refine aB rfl (qz rfl Tryz.underlying121 rfl) ⟨rfl,rfl,trivial⟩ ?_
 refine ar ?_
 refine ae ?_
 show JC _ _ _ _ _
 refine bm rfl (fun hb=>(by cases hb)) (fun hb=>?_)
 refine aS ?_
 refine ae ?_
 show JC _ _ _ _ _
 refine ah ?_
 refine ah ?_
 refine ab ?_
 refine ax rfl rfl ?_
 refine aB rfl (qz rfl Tryz.underlying20 rfl) ⟨rfl,rfl,trivial⟩ ?_
 refine ar ?_
 refine ae ?_
 show JC _ _ _ _ _
 refine bm rfl (fun hb=>(by cases hb)) (fun hb=>?_)
 refine aS ?_
 refine ae ?_
 show JC _ _ _ _ _
 refine ah ?_
 refine ab ?_
 refine ax rfl rfl ?_
 refine aH rfl rfl rfl (EN (T:=123) (v:=fun b=>rz 123 b 150) Jc [.tmp 13] [.iface 123 (.pointer (some ⟨p,0,none⟩))] rfl rfl rfl (zp _) rfl (uI _)) ⟨rfl,trivial⟩ fun a=>?_
 refine cd (qX 14 rfl fun _ _ _ h=>IQ rfl rfl rfl h) ?_
 refine aH rfl rfl rfl (bJ rfl L2 OM) trivial fun b5=>?_
 refine be rfl rfl (a8 rfl xG trivial rfl rfl) ⟨rfl,rfl,trivial⟩ ?_
 refine ar ?_
 refine ae ?_
 show JC _ _ _ _ _
 refine ah ?_
 refine ab ?_
 refine bN rfl rfl rfl (an rfl xG (xf) rfl) ⟨rfl,trivial⟩ ?_
 refine aB rfl (dz (N:=[(.tmp 15,LQ 123 a 150)]) (EP MD [.tmp 15] [rz 123 a 150] rfl rfl rfl (Hm _) (zW _)) fun _ _ _ hn=>⟨wT hn.1,trivial⟩) ⟨rfl,trivial⟩ ?_
 refine cU rfl rfl ?_
 refine ar ?_
 refine ae ?_
 show JC _ _ _ _ _
 refine ah ?_
 refine ah ?_
 refine ab ?_
 refine ax rfl rfl ?_
 refine aB rfl (xX I9 [] [] rfl rfl rfl (Jq 123) H5 (AZ 123 (.inl rfl))) ⟨rfl,trivial⟩ ?_
 refine aB rfl (ip rfl) ⟨rfl,rfl,trivial⟩ ?_
 refine ax rfl rfl ?_
 refine lX rfl rfl rfl rfl rfl rfl (an rfl xG (xf) rfl) ⟨rfl,trivial⟩ ?_
 refine bv 1 rfl ?_
 refine lX rfl rfl rfl rfl rfl rfl (dz (N:=[(.tmp 21,LQ 123 a 150)]) (EO MC [.tmp 21] [rz 123 a 150] rfl rfl rfl (fun _ _ h=>FG h) yg trivial) fun _ _ _ hn=>⟨wT hn.1,trivial⟩) ⟨rfl,trivial⟩ ?_
 refine aB rfl (tU rfl) ⟨rfl,rfl,trivial⟩ ?_
 refine ar ?_
 refine ae ?_
 show JC _ _ _ _ _
 refine bm rfl (fun hb=>(by cases hb)) (fun hb=>?_)
 refine aS ?_
 refine ae ?_
 show JC _ _ _ _ _
 refine ah ?_
 refine ab ?_
 refine ax rfl rfl ?_
 refine aB rfl (xX Mc [] [] rfl rfl rfl (M7 123) IB HS) ⟨rfl,trivial⟩ ?_
 refine cU rfl rfl ?_
 refine ar ?_
 refine ae ?_
 show JC _ _ _ _ _
 refine ah ?_
 refine ah ?_
 refine ab ?_
 refine ax rfl rfl ?_
 refine aB rfl (xX I9 [] [] rfl rfl rfl (Jq 118) H6 (AZ 118 (.inr rfl))) ⟨rfl,trivial⟩ ?_
 refine aB rfl (ip rfl) ⟨rfl,rfl,trivial⟩ ?_
 refine ax rfl rfl ?_
 refine lY rfl rfl rfl rfl rfl rfl (aU rfl) ⟨rfl,trivial⟩ ?_
 refine bv 3 rfl ?_
 refine lX rfl rfl rfl rfl rfl rfl (CB rfl) ⟨rfl,trivial⟩ ?_
 refine lY rfl rfl rfl rfl rfl rfl (xX L9 [.tmp 32] [qN] rfl rfl rfl (M6 118) H9 HQ) ⟨rfl,rfl,trivial⟩ ?_
 refine lY rfl rfl rfl rfl rfl rfl (eK rfl) ⟨rfl,trivial⟩ ?_
 refine aB rfl (tR rfl) ⟨rfl,rfl,trivial⟩ ?_
 refine ar ?_
 refine ae ?_
 show JC _ _ _ _ _
 refine bm rfl (fun hb=>(by cases hb)) (fun hb=>?_)
 refine aS ?_
 refine ae ?_
 show JC _ _ _ _ _
 refine ah ?_
 refine ab ?_
 refine ax rfl rfl ?_
 refine ax rfl rfl ?_
 refine bv 2 rfl ?_
 refine bN rfl rfl rfl (an rfl xG (xf) rfl) ⟨rfl,trivial⟩ ?_
 refine ax rfl rfl ?_
 refine bv 3 rfl ?_
 refine bv 3 rfl ?_
 refine bH (Δ:=[_,_]) (F:=_) (fun _ _ _=>av rfl _) rfl rfl (dz (N:=[(.tmp 37,.eq (.iface 118 (.agg #[.int .i64 n]))),(.tmp 38,.eq (.iface 123 (.pointer (some ⟨p,0,none⟩)))),(.tmp 39,LQ 123 a 150),(.tmp 40,.eq (.iface 221 (.agg #[hd 118])))])
  (ap [.tmp 37,.tmp 38,.tmp 39,.tmp 40] rfl rfl On rfl (Lp (a:=a) (p:=p) (n:=n) (e0:=e0))) fun _ _ _ hn=>⟨hn.1,trivial,hn.2.2.1,hn.2.2.2.1,trivial⟩) ⟨rfl,rfl,rfl,rfl,trivial⟩ fun _=>?_
 refine cU rfl rfl ?_
 refine ar ?_
 refine ae ?_
 show JC _ _ _ _ _
 refine aA ?_
 refine bz (SE.fin (Γ':=[(4,_)]) [1,3,0,2] ⟨rfl,trivial⟩ rfl) ?_
 exact aF () [.eq (.bool true)] 2 ⟨rfl,trivial⟩ rfl
def O8:Value→Option (Option Int)
 | .nilIface=>some none
 | .iface t (.agg cs)=>if t=118 then(match cs.toList with |[.int .i64 n]=>some (some n) |_=>none) else none
 |_=>none
theorem Gy{v:Value}{q:Option Int}(h:O8 v=some q):(v= .nilIface∧q=none)∨∃n,v= .iface 118 (.agg #[.int .i64 n])∧q=some n:=by
 unfold O8 at h;split at h
 ·cases h;exact .inl ⟨rfl,rfl⟩
 ·rename_i t cs;split at h
  ·rename_i e;split at h
   ·rename_i n hn;cases h;obtain⟨l⟩:=cs;cases hn;exact .inr ⟨n,by rw [e],rfl⟩
   ·cases h
  ·cases h
 ·cases h
theorem OG{v:Value}{q:Option Int}{p:Nat}{e0:Int}(h:O8 v=some q):bW Tryz.prog 93 [.eq v,.eq (.iface 123 (.pointer (some ⟨p,0,none⟩)))] [.obj p 118 (.agg (.eq (.int .i64 e0))),.inv 0 fP]
 (fun _:Unit=>(bp [.eq (.bool q.isSome)],[.obj p 118 (.agg (.eq (.int .i64 (q.getD e0)))),.inv 0 fP])):=by
 rcases Gy h with⟨rfl,rfl⟩ |⟨n,rfl,rfl⟩
 ·
  exact Ln
 ·
  exact IM
end Go.Proofs.YtcnpijmfgfnpiaaGreatDoor
