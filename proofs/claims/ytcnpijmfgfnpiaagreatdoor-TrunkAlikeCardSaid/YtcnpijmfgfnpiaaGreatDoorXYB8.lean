import Derived.Test.YtcnpijmfgfnpiaaGreatDoorXYTr6
set_option linter.unusedSimpArgs false
set_option linter.unusedVariables false
set_option maxRecDepth 20000
set_option maxHeartbeats 4000000
namespace Go.Proofs.YtcnpijmfgfnpiaaGreatDoor
open K Go Go.Proofs Go.Extern
theorem yv{x:Option (Nat×Addr×Nat)}{z:Sem Value}{f:Nat→Addr→Nat→Nat→Sem Value}{T:Nat}{a:Addr}{fl:Nat}(h:x=some (T,a,fl))(hf:Ns Tryz.prog (f T a fl (fl % 32))):Ns Tryz.prog (match x with |none=>z |some (t,a,fl)=>f t a fl (fl % 32)):=by
 subst h;exact hf
theorem FD{a b:Nat}{S:FS}{w:World}(h:(D.obj a 123 (.eq (.pointer (some ⟨b,0,none⟩)))).holds S w):
 (ReflectliteValue.method (ReflectliteValue.valueError "reflectlite.Value.IsNil" 0) ReflectliteValue.isNil #[rC 123 a 150]).run Tryz.prog w= .ok (.bool false) w:=by
 obtain⟨cs,h1,rfl,_⟩:=h
 rw [O3]
 simp only [Sem.run_bind,xZ,Result.andThen_ok]
 have hl:=fm Jl (fun _=>rfl) h1 (off:=0) (by simp)
 simp [ReflectliteValue.isNil,hl,mk]
theorem yn{a:Nat}:Ns Tryz.prog (ReflectliteValue.method (ReflectliteValue.valueError "reflectlite.Value.IsNil" 0) ReflectliteValue.isNil #[rC 123 a 150]):=by
 rw [O3];refine fS (q:=fun x=>x=some (123,⟨a,0,none⟩,150)) (ni (by kernel_rfl)) (show Pq Tryz.prog _ _ from Eq.mpr (show Pq Tryz.prog (fun x=>x=some (123,⟨a,0,none⟩,150)) (ReflectliteValue.parts (rC 123 a 150))=(some (123,(⟨a,0,none⟩:Addr),150)=some (123,⟨a,0,none⟩,150)) by kernel_rfl) rfl) fun x hx=>yv hx ?_;unfold ReflectliteValue.isNil;simp only [List.contains,List.elem];refine ai kZ fun v=>?_;split <;> trivial
theorem yu{a:Nat}:Ns Tryz.prog (ReflectliteValue.method (ReflectliteValue.valueError "reflectlite.Value.Elem" 0) ReflectliteValue.elem #[rC 123 a 150]):=by
 rw [O3];refine fS (q:=fun x=>x=some (123,⟨a,0,none⟩,150)) (ni (by kernel_rfl)) (show Pq Tryz.prog _ _ from Eq.mpr (show Pq Tryz.prog (fun x=>x=some (123,⟨a,0,none⟩,150)) (ReflectliteValue.parts (rC 123 a 150))=(some (123,(⟨a,0,none⟩:Addr),150)=some (123,⟨a,0,none⟩,150)) by kernel_rfl) rfl) fun x hx=>yv hx ?_;unfold ReflectliteValue.elem;refine ai kZ fun v=>?_;refine fS (q:=fun x=>x=some 118) (ni (by kernel_rfl)) (show Pq Tryz.prog _ _ from Eq.mpr (show Pq Tryz.prog (fun x=>x=some 118) (Rtype.elem? 123)=(some 118=some 118) by kernel_rfl) rfl) fun x hx=>?_;subst hx;have ve:∀n,Ns Tryz.prog (ReflectliteValue.valueError "reflectlite.Value.Elem" n:Sem Value):=fun n=>ai (ni (by kernel_rfl)) fun t=>ai (ai aE fun d=>by split <;> trivial) fun e=>ai jv fun _=>trivial;have mk':∀p,Ns Tryz.prog (ReflectliteValue.mk 118 p ReflectliteValue.flagAddr):=fun p=>ni (by kernel_rfl);cases v with
 |pointer q=>cases q with
  |none=>trivial
  |some q=>exact mk' q
 |_=>exact ve _
theorem Gn{a b:Nat}{S:FS}{w:World}(h:(D.obj a 123 (.eq (.pointer (some ⟨b,0,none⟩)))).holds S w):
 (ReflectliteValue.method (ReflectliteValue.valueError "reflectlite.Value.Elem" 0) ReflectliteValue.elem #[rC 123 a 150]).run Tryz.prog w= .ok (rC 118 b 409) w:=by
 obtain⟨cs,h1,rfl,_⟩:=h
 rw [O3]
 simp only [Sem.run_bind,xZ,Result.andThen_ok]
 have hl:=fm Jl (fun _=>rfl) h1 (off:=0) (by simp)
 have e1:(Rtype.elem? 123).run Tryz.prog w= .ok (some 118) w:=by kernel_rfl
 have e2:(ReflectliteValue.mk 118 ⟨b,0,none⟩ ReflectliteValue.flagAddr).run Tryz.prog w= .ok (rC 118 b 409) w:=by kernel_rfl
 simp [ReflectliteValue.elem,hl,mk,e1,e2]
theorem Qy(v x:Value):ReflectliteValue.set #[v,x]=(do
 let (some (dst,a,fl),some (src,b,_)):=(←ReflectliteValue.parts v,←ReflectliteValue.parts x)
  |unsupported (.noEntry "extern/(internal/reflectlite.Value).Set.zeroValue")
 if fl / ReflectliteValue.flagAddr % 2 == 0 then unsupported (.noEntry "extern/(internal/reflectlite.Value).Set.unaddressable")
 let val←loadVar src b
 if←Rtype.directlyAssignable dst src then storeVar dst a val
 else if←Rtype.implements dst src then
  if(←Rtype.kind src) == 20 then
   match val with
   | .nilIface=>unsupported (.noEntry "extern/reflectlite: a nil value of one interface type handed on as a value of another")
   |_=>storeVar dst a val
  else storeVar dst a (.iface src val)
 else panicString ("reflectlite.Set: value of type " ++(←Rtype.spelt src)++ " is not assignable to type " ++(←Rtype.spelt dst))
 pure (.tuple #[])):=rfl
theorem Cj(a:Addr)(w:World):(ReflectliteValue.parts (.agg #[hd 118,.pointer (some a),.int .u64 409])).run Tryz.prog w= .ok (some (118,a,409)) w:=by kernel_rfl
theorem Et(a:Addr)(w:World):(ReflectliteValue.parts (.agg #[hd 118,.pointer (some a),.int .u64 153])).run Tryz.prog w= .ok (some (118,a,153)) w:=by kernel_rfl
theorem C9(w:World):(Rtype.directlyAssignable 118 118).run Tryz.prog w= .ok true w:=by kernel_rfl
theorem CL{p b:Nat}:Ns Tryz.prog (ReflectliteValue.set #[rC 118 p 409,rC 118 b 153]):=by
 rw [Qy];refine fS (q:=fun x=>x=some (118,⟨p,0,none⟩,409)) (ni (by kernel_rfl)) (show Pq Tryz.prog _ _ from Eq.mpr (show Pq Tryz.prog (fun x=>x=some (118,⟨p,0,none⟩,409)) (ReflectliteValue.parts (rC 118 p 409))=(some (118,(⟨p,0,none⟩:Addr),409)=some (118,⟨p,0,none⟩,409)) by kernel_rfl) rfl) fun x hx=>?_;subst hx;refine fS (q:=fun x=>x=some (118,⟨b,0,none⟩,153)) (ni (by kernel_rfl)) (show Pq Tryz.prog _ _ from Eq.mpr (show Pq Tryz.prog (fun x=>x=some (118,⟨b,0,none⟩,153)) (ReflectliteValue.parts (rC 118 b 153))=(some (118,(⟨b,0,none⟩:Addr),153)=some (118,⟨b,0,none⟩,153)) by kernel_rfl) rfl) fun x hx=>?_;subst hx;refine ai kZ fun v=>?_;refine fS (q:=fun x=>x=true) (ni (by kernel_rfl)) (show Pq Tryz.prog _ _ from Eq.mpr (show Pq Tryz.prog (fun x=>x=true) (Rtype.directlyAssignable 118 118)=(true=true) by kernel_rfl) rfl) fun x hx=>?_;subst hx;exact ai so fun _=>trivial
theorem Eb:dx Tryz.prog 118 1 true:=⟨fun w=>by kernel_rfl,fun w=>by kernel_rfl⟩
theorem ED{M:Md Tryz.prog}{o:Oper}{x y:Operand}{c:Call}{ts:Array TypeId}{p b:Nat}{e0 n:Int}(ho:o.op= .call c)(hc:c={ callee:=.value (.func 162),args:=[x,y].toArray,argTypes:=ts }):
 bF M o [(x,.eq (rC 118 p 409)),(y,.eq (rC 118 b 153))] [.obj p 118 (.agg (.eq (.int .i64 e0))),.obj b 118 (.eq (.int .i64 n))] (fun _:Unit=>(.eq (.tuple #[]),[.obj p 118 (.agg (.eq (.int .i64 n))),.obj b 118 (.eq (.int .i64 n))])):=by
 have hex:∀{S:FS} {w:World} {a:Act},bp S w a [(x,.eq (rC 118 p 409)),(y,.eq (rC 118 b 153))]→execOp a.eval o=callFunc 162 #[rC 118 p 409,rC 118 b 153]:=fun {S w a} hN=>jR (xs:=[x,y]) (vs:=[rC 118 p 409,rC 118 b 153]) ho hc (ib rfl hN)
 refine im ⟨by simp only [nd, *],fun S w a next hd hN hO k=>?_⟩ (fun _ _ a hN _=>by rw [hex hN];exact Jg.ns _ CL) (fun d hd=>by simp at hd;rcases hd with rfl |rfl <;> trivial)
 obtain⟨cs1,h1,⟨rfl,_⟩⟩:=hO.holds (.obj p 118 (.agg (.eq (.int .i64 e0)))) (by simp)
 obtain⟨cs2,h2,⟨rfl,_⟩⟩:=hO.holds (.obj b 118 (.eq (.int .i64 n))) (by simp)
 have hne:p≠b:=fun e=>by
  have:=hO.apart;simp only [List.pairwise_cons] at this;exact this.1 _ (List.mem_singleton.2 rfl) p rfl (by rw [e];rfl)
 have op:=hO.own p ⟨_,List.mem_cons_self ..,rfl⟩
 have ob:=hO.own b ⟨_,List.mem_cons_of_mem _ (List.mem_singleton.2 rfl),rfl⟩
 have hl:=fm Eb (fun h=>by cases h) h2 (off:=0) (by simp)
 have hst:=g9 Tryz.prog p 118 0 [.int .i64 n] 0 w #[.int .i64 e0] h1 (fun v hv=>by simp at hv;subst hv;rfl) (by simp)
 have hr:(execOp a.eval o).run Tryz.prog w= .ok (.value (.tuple #[])) { w with heap:=w.heap.setIfInBounds p (.cells #[.int .i64 n] 118 (0,0)) }:=by
  rw [hex hN,Jg.run,Qy];simp only [Sem.run_bind,Cj,Et,Result.andThen_ok];simp at hst;simp [ReflectliteValue.flagAddr,hl,mk,C9,storeVar,Eb.size,Value.cells,hst]
 rw [hr]
 refine k () S _ _ (mg hd ⟨_,List.mem_cons_self ..,rfl⟩ _) rfl ⟨fun d hd=>?_,fun b' hb'=>?_,?_⟩ (fun b' ⟨d,hd,e⟩=>.inl ?_)
 ·
  simp at hd;rcases hd with rfl |rfl
  ·exact⟨[.int .i64 n],by simp [op.2],rfl,rfl⟩
  ·exact⟨[.int .i64 n],by simp [Array.getElem?_setIfInBounds_ne hne,h2],rfl,rfl⟩
 ·
  obtain⟨d,hd,e⟩:=hb';simp at hd;rcases hd with rfl |rfl
  ·cases e;exact⟨op.1,by simpa using op.2⟩
  ·cases e;exact⟨ob.1,by simpa using ob.2⟩
 ·
  refine List.pairwise_cons.2 ⟨fun d hd b' e e'=>?_,List.pairwise_singleton _ _⟩;simp at hd;subst hd;cases e;cases e';exact hne rfl
 ·
  simp at hd;rcases hd with rfl |rfl
  ·exact⟨_,List.mem_cons_self ..,e⟩
  ·exact⟨_,List.mem_cons_of_mem _ (List.mem_singleton.2 rfl),e⟩
end Go.Proofs.YtcnpijmfgfnpiaaGreatDoor
set_option linter.unusedVariables false
set_option maxRecDepth 20000
set_option maxHeartbeats 4000000
namespace Go.Proofs.YtcnpijmfgfnpiaaGreatDoor
open K Go Go.Proofs Go.Extern
theorem L1:∀w,(zeroValue 182).run Tryz.prog w= .ok (.agg #[.pointer none,.pointer none,.int .u64 0]) w:=fun w=>by kernel_rfl
theorem OL:∀S w,(A.cells S w (.agg (.pair (.eq (.pointer none)) (.pair (.eq (.pointer none)) (.eq (.int .u64 0))))) (Value.cells (.agg #[.pointer none,.pointer none,.int .u64 0])).toList):=fun _ _=>⟨[_],_,rfl,⟨rfl,rfl⟩,[_],_,rfl,⟨rfl,rfl⟩,rfl,rfl⟩
theorem xN:dx Tryz.prog 182 3 true:=⟨fun w=>by kernel_rfl,fun w=>by kernel_rfl⟩
def ir:Obj→Prop:=fun o=>o= .cells #[qO] 185 (0,0)
theorem CG{M:Md Tryz.prog}{o:Oper}{x:Operand}(ho:o.op= .load 185 x):bF M o [(x,.eq (.pointer (some ⟨0,0,none⟩)))] [.inv 0 ir] (fun _:Unit=>(.eq qO,[.inv 0 ir])):=
 .val1 (hcm:=fun o h=>by cases h;rfl) fun S w a h hs=>by
  have e:a.eval x= .pointer (some ⟨0,0,none⟩):=h.1
  obtain⟨ob,h1,rfl⟩:=hs
  have hsz:∀w,(sizeOf 185).run Tryz.prog w= .ok 1 w:=fun w=>by kernel_rfl
  have hag:∀w,(isAgg 185).run Tryz.prog w= .ok false w:=fun w=>by kernel_rfl
  have hc:w.cell? ⟨0,0,none⟩=some qO:=by simp [World.cell?,h1]
  refine⟨qO,?_,rfl⟩
  simp [execOp,ho,Instr.loadAt,e,Instr.sureAddr,loadVar,hsz,hag,hc]
theorem On:ag Tryz.prog 133:=ag.of Tryz.func133 (by kernel_rfl) (by kernel_rfl)
theorem NX:ag Tryz.prog 93:=ag.of Tryz.func93 (by kernel_rfl) (by kernel_rfl)
theorem xl{n:Nat}:true=false→n=1:=fun h=>nomatch h
def MP:Nat→Unit→Option Unit
 |0,_=>none
 |_+1,_=>some ()
theorem Lq{a p:Nat}{n e0:Int}:bX Tryz.prog 133 [.eq (.iface 118 (.agg #[.int .i64 n])),.any,LR 123 a 150,.eq (.iface 221 (.agg #[hd 118]))] [.obj a 123 (.eq (.pointer (some ⟨p,0,none⟩))),.obj p 118 (.agg (.eq (.int .i64 e0)))]
 (fun _:Unit=>(bq [.eq (.bool true)],[.obj a 123 (.eq (.pointer (some ⟨p,0,none⟩))),.obj p 118 (.agg (.eq (.int .i64 n)))])):=by
 refine bX.of 62 Tryz.func133 rfl Tryz.ntmps133 rfl fun S w0=>?_
 refine ah ?_
 refine ab ?_
 refine aF rfl rfl rfl (mo rfl trivial) ⟨rfl,trivial⟩ fun b6=>?_
 refine dA rfl ?_
 refine ap ?_
 refine ae ?_
 show JC _ _ _ _ _
 refine aj ?_
 have h:(MP 1 ()).bind some=some ():=rfl
 refine aJ (Z:=Unit) (α:=Unit) (fun _ _=>[(0,.eq (.iface 118 (.agg #[.int .i64 n]))),(3,.eq (.iface 221 (.agg #[hd 118]))),(6,.eq (.pointer (some ⟨b6,0,none⟩)))]) (fun _ _=>[.obj b6 182 (LR 123 a 150),.obj a 123 (.eq (.pointer (some ⟨p,0,none⟩))),.obj p 118 (.agg (.eq (.int .i64 e0)))]) MP 1 () () (fun _=>rfl) h (SE.fin [0,1,2] ⟨rfl,rfl,rfl,trivial⟩ rfl) (fun _ _ _ _=>?_)
 refine aj ?_
 refine ah ?_
 refine ah ?_
 refine ab ?_
 refine ax rfl rfl ?_
 refine aB rfl (EO MA [.tmp 16] [.iface 118 (.agg #[.int .i64 n])] rfl rfl rfl (BQ _) (CJ _)) ⟨rfl,trivial⟩ ?_
 refine ax rfl rfl ?_
 refine aB rfl (yd Mc [.tmp 18] [.iface 221 (.agg #[hd 118])] rfl rfl rfl (M5 118) IO H3) ⟨rfl,rfl,trivial⟩ ?_
 refine ap ?_
 refine ae ?_
 show JC _ _ _ _ _
 refine bD rfl (fun hb=>?_) (fun hb=>(by cases hb))
 refine ah ?_
 refine ab ?_
 refine bO rfl rfl rfl (ak rfl xN (xl) rfl) ⟨rfl,trivial⟩ ?_
 refine bv 1 rfl ?_
 refine bO rfl rfl rfl (cI (N:=[(.tmp 20,LR 123 a 150)]) (EN Me [.tmp 20] [rC 123 a 150] rfl rfl rfl (fun _ _ h=>Gn h) yu trivial) fun _ _ _ hn=>⟨wX hn.1,trivial⟩) ⟨rfl,trivial⟩ ?_
 refine ax rfl rfl ?_
 refine aF rfl rfl rfl (EM (T:=118) (v:=fun b=>rC 118 b 153) Jh [.tmp 22] [.iface 118 (.agg #[.int .i64 n])] rfl rfl rfl (zq n) rfl (uI n)) ⟨rfl,trivial⟩ fun b23=>?_
 refine bv 3 rfl ?_
 refine bC (Δ:=[_,_]) (F:=_) (fun _ _ _=>av rfl _) rfl rfl (ED rfl rfl) ⟨rfl,rfl,trivial⟩ fun _=>?_
 refine ap ?_
 refine ae ?_
 show JC _ _ _ _ _
 refine ah ?_
 refine ab ?_
 refine dA rfl ?_
 refine ap ?_
 refine ae ?_
 show JC _ _ _ _ _
 refine aA ?_
 refine aP ?_
 refine bf ?_
 refine aP ?_
 refine bf ?_
 refine bI (SE.fin (Γ':=[(8,_)]) [2,0,1,3] ⟨rfl,trivial⟩ rfl) ?_
 exact aG () [.eq (.bool true)] 2 ⟨rfl,trivial⟩ rfl
theorem Lp{v:Value}{p:Nat}{n:Int}:bX Tryz.prog 93 [.eq .nilIface,.eq v] [.obj p 118 (.agg (.eq (.int .i64 n))),.inv 0 ir] (fun _:Unit=>(bq [.eq (.bool false)],[.obj p 118 (.agg (.eq (.int .i64 n))),.inv 0 ir])):=by
 refine bX.of 42 Tryz.func93 rfl Tryz.ntmps93 rfl fun S w0=>?_;refine ah ?_;refine ab ?_;refine dA rfl ?_;refine ap ?_;refine ae ?_;show JC _ _ _ _ _;refine ah ?_;refine ah ?_;refine ab ?_;refine ax rfl rfl ?_;refine aB rfl (qB rfl Tryz.underlying121 rfl) ⟨rfl,rfl,trivial⟩ ?_;refine ap ?_;refine ae ?_;show JC _ _ _ _ _;refine bD rfl (fun hb=>?_) (fun hb=>(by cases hb));refine ah ?_;refine ab ?_;refine dA rfl ?_;refine ap ?_;refine ae ?_;show JC _ _ _ _ _;refine aA ?_;refine aP ?_;exact aG () [.eq (.bool false)] 2 ⟨rfl,trivial⟩ rfl
theorem IP{p:Nat}{n e0:Int}:bX Tryz.prog 93 [.eq (.iface 118 (.agg #[.int .i64 n])),.eq (.iface 123 (.pointer (some ⟨p,0,none⟩)))] [.obj p 118 (.agg (.eq (.int .i64 e0))),.inv 0 ir]
 (fun _:Unit=>(bq [.eq (.bool true)],[.obj p 118 (.agg (.eq (.int .i64 n))),.inv 0 ir])):=by
 refine bX.of 42 Tryz.func93 rfl Tryz.ntmps93 rfl fun S w0=>?_
 refine ah ?_
 refine ab ?_
 refine dA rfl ?_
 refine ap ?_
 refine ae ?_
 show JC _ _ _ _ _
 refine ah ?_
 refine ah ?_
 refine ab ?_
 refine ax rfl rfl ?_
 refine aB rfl (qB rfl Tryz.underlying121 rfl) ⟨rfl,rfl,trivial⟩ ?_
 refine ap ?_
 refine ae ?_
 show JC _ _ _ _ _
 refine bD rfl (fun hb=>(by cases hb)) (fun hb=>?_)
 refine aU ?_
 refine ae ?_
 show JC _ _ _ _ _
 refine ah ?_
 refine ah ?_
 refine ab ?_
 refine ax rfl rfl ?_
 refine aB rfl (qB rfl Tryz.underlying20 rfl) ⟨rfl,rfl,trivial⟩ ?_
 refine ap ?_
 refine ae ?_
 show JC _ _ _ _ _
 refine bD rfl (fun hb=>(by cases hb)) (fun hb=>?_)
 refine aU ?_
 refine ae ?_
 show JC _ _ _ _ _
 refine ah ?_
 refine ab ?_
 refine ax rfl rfl ?_
 refine aF rfl rfl rfl (EM (T:=123) (v:=fun b=>rC 123 b 150) Jh [.tmp 13] [.iface 123 (.pointer (some ⟨p,0,none⟩))] rfl rfl rfl (zp _) rfl (uH _)) ⟨rfl,trivial⟩ fun a=>?_
 refine cS (qY 14 rfl fun _ _ _ h=>IT rfl rfl rfl h) ?_
 refine aF rfl rfl rfl (bL rfl L1 OL) trivial fun b5=>?_
 refine bg rfl rfl (ba rfl xN trivial rfl rfl) ⟨rfl,rfl,trivial⟩ ?_
 refine ap ?_
 refine ae ?_
 show JC _ _ _ _ _
 refine ah ?_
 refine ab ?_
 refine bO rfl rfl rfl (ak rfl xN (xl) rfl) ⟨rfl,trivial⟩ ?_
 refine aB rfl (cI (N:=[(.tmp 15,LR 123 a 150)]) (EO MC [.tmp 15] [rC 123 a 150] rfl rfl rfl (Hy _) (zU _)) fun _ _ _ hn=>⟨wX hn.1,trivial⟩) ⟨rfl,trivial⟩ ?_
 refine dc rfl rfl ?_
 refine ap ?_
 refine ae ?_
 show JC _ _ _ _ _
 refine ah ?_
 refine ah ?_
 refine ab ?_
 refine ax rfl rfl ?_
 refine aB rfl (yd Jf [] [] rfl rfl rfl (Jv 123) H8 (A5 123 (.inl rfl))) ⟨rfl,trivial⟩ ?_
 refine aB rfl (jf rfl) ⟨rfl,rfl,trivial⟩ ?_
 refine ax rfl rfl ?_
 refine lW rfl rfl rfl rfl rfl rfl (ak rfl xN (xl) rfl) ⟨rfl,trivial⟩ ?_
 refine bv 1 rfl ?_
 refine lW rfl rfl rfl rfl rfl rfl (cI (N:=[(.tmp 21,LR 123 a 150)]) (EN MB [.tmp 21] [rC 123 a 150] rfl rfl rfl (fun _ _ h=>FD h) yn trivial) fun _ _ _ hn=>⟨wX hn.1,trivial⟩) ⟨rfl,trivial⟩ ?_
 refine aB rfl (tQ rfl) ⟨rfl,rfl,trivial⟩ ?_
 refine ap ?_
 refine ae ?_
 show JC _ _ _ _ _
 refine bD rfl (fun hb=>(by cases hb)) (fun hb=>?_)
 refine aU ?_
 refine ae ?_
 show JC _ _ _ _ _
 refine ah ?_
 refine ab ?_
 refine ax rfl rfl ?_
 refine aB rfl (yd L9 [] [] rfl rfl rfl (M4 123) IF HZ) ⟨rfl,trivial⟩ ?_
 refine dc rfl rfl ?_
 refine ap ?_
 refine ae ?_
 show JC _ _ _ _ _
 refine ah ?_
 refine ah ?_
 refine ab ?_
 refine ax rfl rfl ?_
 refine aB rfl (yd Jf [] [] rfl rfl rfl (Jv 118) H9 (A5 118 (.inr rfl))) ⟨rfl,trivial⟩ ?_
 refine aB rfl (jf rfl) ⟨rfl,rfl,trivial⟩ ?_
 refine ax rfl rfl ?_
 refine lX rfl rfl rfl rfl rfl rfl (aR rfl) ⟨rfl,trivial⟩ ?_
 refine bv 3 rfl ?_
 refine lW rfl rfl rfl rfl rfl rfl (CG rfl) ⟨rfl,trivial⟩ ?_
 refine lX rfl rfl rfl rfl rfl rfl (yd L8 [.tmp 32] [qO] rfl rfl rfl (MZ 118) Ic HY) ⟨rfl,rfl,trivial⟩ ?_
 refine lX rfl rfl rfl rfl rfl rfl (eR rfl) ⟨rfl,trivial⟩ ?_
 refine aB rfl (tP rfl) ⟨rfl,rfl,trivial⟩ ?_
 refine ap ?_
 refine ae ?_
 show JC _ _ _ _ _
 refine bD rfl (fun hb=>(by cases hb)) (fun hb=>?_)
 refine aU ?_
 refine ae ?_
 show JC _ _ _ _ _
 refine ah ?_
 refine ab ?_
 refine ax rfl rfl ?_
 refine ax rfl rfl ?_
 refine bv 2 rfl ?_
 refine bO rfl rfl rfl (ak rfl xN (xl) rfl) ⟨rfl,trivial⟩ ?_
 refine ax rfl rfl ?_
 refine bv 3 rfl ?_
 refine bv 3 rfl ?_
 refine bC (Δ:=[_,_]) (F:=_) (fun _ _ _=>av rfl _) rfl rfl (cI (N:=[(.tmp 37,.eq (.iface 118 (.agg #[.int .i64 n]))),(.tmp 38,.eq (.iface 123 (.pointer (some ⟨p,0,none⟩)))),(.tmp 39,LR 123 a 150),(.tmp 40,.eq (.iface 221 (.agg #[hd 118])))])
  (ao [.tmp 37,.tmp 38,.tmp 39,.tmp 40] rfl rfl On rfl (Lq (a:=a) (p:=p) (n:=n) (e0:=e0))) fun _ _ _ hn=>⟨hn.1,trivial,hn.2.2.1,hn.2.2.2.1,trivial⟩) ⟨rfl,rfl,rfl,rfl,trivial⟩ fun _=>?_
 refine dc rfl rfl ?_
 refine ap ?_
 refine ae ?_
 show JC _ _ _ _ _
 refine aA ?_
 refine bI (SE.fin (Γ':=[(4,_)]) [1,3,0,2] ⟨rfl,trivial⟩ rfl) ?_
 exact aG () [.eq (.bool true)] 2 ⟨rfl,trivial⟩ rfl
def O7:Value→Option (Option Int)
 | .nilIface=>some none
 | .iface t (.agg cs)=>if t=118 then(match cs.toList with |[.int .i64 n]=>some (some n) |_=>none) else none
 |_=>none
theorem GF{v:Value}{q:Option Int}(h:O7 v=some q):(v= .nilIface∧q=none)∨∃n,v= .iface 118 (.agg #[.int .i64 n])∧q=some n:=by
 unfold O7 at h;split at h
 ·cases h;exact .inl ⟨rfl,rfl⟩
 ·rename_i t cs;split at h
  ·rename_i e;split at h
   ·rename_i n hn;cases h;obtain⟨l⟩:=cs;cases hn;exact .inr ⟨n,by rw [e],rfl⟩
   ·cases h
  ·cases h
 ·cases h
theorem OF{v:Value}{q:Option Int}{p:Nat}{e0:Int}(h:O7 v=some q):bX Tryz.prog 93 [.eq v,.eq (.iface 123 (.pointer (some ⟨p,0,none⟩)))] [.obj p 118 (.agg (.eq (.int .i64 e0))),.inv 0 ir]
 (fun _:Unit=>(bq [.eq (.bool q.isSome)],[.obj p 118 (.agg (.eq (.int .i64 (q.getD e0)))),.inv 0 ir])):=by
 rcases GF h with⟨rfl,rfl⟩ |⟨n,rfl,rfl⟩
 ·
  exact Lp
 ·
  exact IP
end Go.Proofs.YtcnpijmfgfnpiaaGreatDoor
