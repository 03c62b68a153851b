import Derived.Test.YtcnpijmfgfnpiaaGreatDoorXKTr6
set_option linter.unusedSimpArgs false
set_option linter.unusedVariables false
set_option maxRecDepth 20000
set_option maxHeartbeats 4000000
namespace Go.Proofs.YtcnpijmfgfnpiaaGreatDoor
open K Go Go.Proofs Go.Extern
theorem wv{x:Option (Nat×Addr×Nat)}{z:Sem Value}{f:Nat→Addr→Nat→Nat→Sem Value}{T:Nat}{a:Addr}{fl:Nat}(h:x=some (T,a,fl))(hf:Ns Tryz.prog (f T a fl (fl % 32))):Ns Tryz.prog (match x with |none=>z |some (t,a,fl)=>f t a fl (fl % 32)):=by
 subst h;exact hf
theorem CE{a b:Nat}{S:FS}{w:World}(h:(D.obj a 123 (.eq (.pointer (some ⟨b,0,none⟩)))).holds S w):
 (ReflectliteValue.method (ReflectliteValue.valueError "reflectlite.Value.IsNil" 0) ReflectliteValue.isNil #[qc 123 a 150]).run Tryz.prog w= .ok (.bool false) w:=by
 obtain⟨cs,h1,rfl,_⟩:=h
 rw [KY]
 simp only [Sem.run_bind,vT,Result.andThen_ok]
 have hl:=eB F4 (fun _=>rfl) h1 (off:=0) (by simp)
 simp [ReflectliteValue.isNil,hl,mk]
theorem wi{a:Nat}:Ns Tryz.prog (ReflectliteValue.method (ReflectliteValue.valueError "reflectlite.Value.IsNil" 0) ReflectliteValue.isNil #[qc 123 a 150]):=by
 rw [KY];refine eT (q:=fun x=>x=some (123,⟨a,0,none⟩,150)) (mt (by kernel_rfl)) (show Pq Tryz.prog _ _ from Eq.mpr (show Pq Tryz.prog (fun x=>x=some (123,⟨a,0,none⟩,150)) (ReflectliteValue.parts (qc 123 a 150))=(some (123,(⟨a,0,none⟩:Addr),150)=some (123,⟨a,0,none⟩,150)) by kernel_rfl) rfl) fun x hx=>wv hx ?_;unfold ReflectliteValue.isNil;simp only [List.contains,List.elem];refine ai kj fun v=>?_;split <;> trivial
theorem wu{a:Nat}:Ns Tryz.prog (ReflectliteValue.method (ReflectliteValue.valueError "reflectlite.Value.Elem" 0) ReflectliteValue.elem #[qc 123 a 150]):=by
 rw [KY];refine eT (q:=fun x=>x=some (123,⟨a,0,none⟩,150)) (mt (by kernel_rfl)) (show Pq Tryz.prog _ _ from Eq.mpr (show Pq Tryz.prog (fun x=>x=some (123,⟨a,0,none⟩,150)) (ReflectliteValue.parts (qc 123 a 150))=(some (123,(⟨a,0,none⟩:Addr),150)=some (123,⟨a,0,none⟩,150)) by kernel_rfl) rfl) fun x hx=>wv hx ?_;unfold ReflectliteValue.elem;refine ai kj fun v=>?_;refine eT (q:=fun x=>x=some 118) (mt (by kernel_rfl)) (show Pq Tryz.prog _ _ from Eq.mpr (show Pq Tryz.prog (fun x=>x=some 118) (Rtype.elem? 123)=(some 118=some 118) by kernel_rfl) rfl) fun x hx=>?_;subst hx;have ve:∀n,Ns Tryz.prog (ReflectliteValue.valueError "reflectlite.Value.Elem" n:Sem Value):=fun n=>ai (mt (by kernel_rfl)) fun t=>ai (ai aF fun d=>by split <;> trivial) fun e=>ai iF fun _=>trivial;have mk':∀p,Ns Tryz.prog (ReflectliteValue.mk 118 p ReflectliteValue.flagAddr):=fun p=>mt (by kernel_rfl);cases v with
 |pointer q=>cases q with
  |none=>trivial
  |some q=>exact mk' q
 |_=>exact ve _
theorem Di{a b:Nat}{S:FS}{w:World}(h:(D.obj a 123 (.eq (.pointer (some ⟨b,0,none⟩)))).holds S w):
 (ReflectliteValue.method (ReflectliteValue.valueError "reflectlite.Value.Elem" 0) ReflectliteValue.elem #[qc 123 a 150]).run Tryz.prog w= .ok (qc 118 b 409) w:=by
 obtain⟨cs,h1,rfl,_⟩:=h
 rw [KY]
 simp only [Sem.run_bind,vT,Result.andThen_ok]
 have hl:=eB F4 (fun _=>rfl) h1 (off:=0) (by simp)
 have e1:(Rtype.elem? 123).run Tryz.prog w= .ok (some 118) w:=by kernel_rfl
 have e2:(ReflectliteValue.mk 118 ⟨b,0,none⟩ ReflectliteValue.flagAddr).run Tryz.prog w= .ok (qc 118 b 409) w:=by kernel_rfl
 simp [ReflectliteValue.elem,hl,mk,e1,e2]
theorem Mc(v x:Value):ReflectliteValue.set #[v,x]=(do
 let (some (dst,a,fl),some (src,b,_)):=(←ReflectliteValue.parts v,←ReflectliteValue.parts x)
  |unsupported (.noEntry "extern/(internal/reflectlite.Value).Set.zeroValue")
 if fl / ReflectliteValue.flagAddr % 2 == 0 then unsupported (.noEntry "extern/(internal/reflectlite.Value).Set.unaddressable")
 let val←loadVar src b
 if←Rtype.directlyAssignable dst src then storeVar dst a val
 else if←Rtype.implements dst src then
  if(←Rtype.kind src) == 20 then
   match val with
   | .nilIface=>unsupported (.noEntry "extern/reflectlite: a nil value of one interface type handed on as a value of another")
   |_=>storeVar dst a val
  else storeVar dst a (.iface src val)
 else panicString ("reflectlite.Set: value of type " ++(←Rtype.spelt src)++ " is not assignable to type " ++(←Rtype.spelt dst))
 pure (.tuple #[])):=rfl
theorem zO(a:Addr)(w:World):(ReflectliteValue.parts (.agg #[hd 118,.pointer (some a),.int .u64 409])).run Tryz.prog w= .ok (some (118,a,409)) w:=by kernel_rfl
theorem Bl(a:Addr)(w:World):(ReflectliteValue.parts (.agg #[hd 118,.pointer (some a),.int .u64 153])).run Tryz.prog w= .ok (some (118,a,153)) w:=by kernel_rfl
theorem Ap(w:World):(Rtype.directlyAssignable 118 118).run Tryz.prog w= .ok true w:=by kernel_rfl
theorem zX{p b:Nat}:Ns Tryz.prog (ReflectliteValue.set #[qc 118 p 409,qc 118 b 153]):=by
 rw [Mc];refine eT (q:=fun x=>x=some (118,⟨p,0,none⟩,409)) (mt (by kernel_rfl)) (show Pq Tryz.prog _ _ from Eq.mpr (show Pq Tryz.prog (fun x=>x=some (118,⟨p,0,none⟩,409)) (ReflectliteValue.parts (qc 118 p 409))=(some (118,(⟨p,0,none⟩:Addr),409)=some (118,⟨p,0,none⟩,409)) by kernel_rfl) rfl) fun x hx=>?_;subst hx;refine eT (q:=fun x=>x=some (118,⟨b,0,none⟩,153)) (mt (by kernel_rfl)) (show Pq Tryz.prog _ _ from Eq.mpr (show Pq Tryz.prog (fun x=>x=some (118,⟨b,0,none⟩,153)) (ReflectliteValue.parts (qc 118 b 153))=(some (118,(⟨b,0,none⟩:Addr),153)=some (118,⟨b,0,none⟩,153)) by kernel_rfl) rfl) fun x hx=>?_;subst hx;refine ai kj fun v=>?_;refine eT (q:=fun x=>x=true) (mt (by kernel_rfl)) (show Pq Tryz.prog _ _ from Eq.mpr (show Pq Tryz.prog (fun x=>x=true) (Rtype.directlyAssignable 118 118)=(true=true) by kernel_rfl) rfl) fun x hx=>?_;subst hx;exact ai qO fun _=>trivial
theorem A9:dc Tryz.prog 118 1 true:=⟨fun w=>by kernel_rfl,fun w=>by kernel_rfl⟩
theorem Bt{M:Md Tryz.prog}{o:Oper}{x y:Operand}{c:Call}{ts:Array TypeId}{p b:Nat}{e0 n:Int}(ho:o.op= .call c)(hc:c={ callee:=.value (.func 162),args:=[x,y].toArray,argTypes:=ts }):
 bg M o [(x,.eq (qc 118 p 409)),(y,.eq (qc 118 b 153))] [.obj p 118 (.agg (.eq (.int .i64 e0))),.obj b 118 (.eq (.int .i64 n))] (fun _:Unit=>(.eq (.tuple #[]),[.obj p 118 (.agg (.eq (.int .i64 n))),.obj b 118 (.eq (.int .i64 n))])):=by
 have hex:∀{S:FS} {w:World} {a:Act},bj S w a [(x,.eq (qc 118 p 409)),(y,.eq (qc 118 b 153))]→execOp a.eval o=callFunc 162 #[qc 118 p 409,qc 118 b 153]:=fun {S w a} hN=>i9 (xs:=[x,y]) (vs:=[qc 118 p 409,qc 118 b 153]) ho hc (f5 rfl hN)
 refine fC ⟨by simp only [nd, *],fun S w a next hd hN hO k=>?_⟩ (fun _ _ a hN _=>by rw [hex hN];exact FW.ns _ zX) (fun d hd=>by simp at hd;rcases hd with rfl |rfl <;> trivial)
 obtain⟨cs1,h1,⟨rfl,_⟩⟩:=hO.holds (.obj p 118 (.agg (.eq (.int .i64 e0)))) (by simp)
 obtain⟨cs2,h2,⟨rfl,_⟩⟩:=hO.holds (.obj b 118 (.eq (.int .i64 n))) (by simp)
 have hne:p≠b:=fun e=>by
  have:=hO.apart;simp only [List.pairwise_cons] at this;exact this.1 _ (List.mem_singleton.2 rfl) p rfl (by rw [e];rfl)
 have op:=hO.own p ⟨_,List.mem_cons_self ..,rfl⟩
 have ob:=hO.own b ⟨_,List.mem_cons_of_mem _ (List.mem_singleton.2 rfl),rfl⟩
 have hl:=eB A9 (fun h=>by cases h) h2 (off:=0) (by simp)
 have hst:=fZ Tryz.prog p 118 0 [.int .i64 n] 0 w #[.int .i64 e0] h1 (fun v hv=>by simp at hv;subst hv;rfl) (by simp)
 have hr:(execOp a.eval o).run Tryz.prog w= .ok (.value (.tuple #[])) { w with heap:=w.heap.setIfInBounds p (.cells #[.int .i64 n] 118 (0,0)) }:=by
  rw [hex hN,FW.run,Mc];simp only [Sem.run_bind,zO,Bl,Result.andThen_ok];simp at hst;simp [ReflectliteValue.flagAddr,hl,mk,Ap,storeVar,A9.size,Value.cells,hst]
 rw [hr]
 refine k () S _ _ (lz hd ⟨_,List.mem_cons_self ..,rfl⟩ _) rfl ⟨fun d hd=>?_,fun b' hb'=>?_,?_⟩ (fun b' ⟨d,hd,e⟩=>.inl ?_)
 ·
  simp at hd;rcases hd with rfl |rfl
  ·exact⟨[.int .i64 n],by simp [op.2],rfl,rfl⟩
  ·exact⟨[.int .i64 n],by simp [Array.getElem?_setIfInBounds_ne hne,h2],rfl,rfl⟩
 ·
  obtain⟨d,hd,e⟩:=hb';simp at hd;rcases hd with rfl |rfl
  ·cases e;exact⟨op.1,by simpa using op.2⟩
  ·cases e;exact⟨ob.1,by simpa using ob.2⟩
 ·
  refine List.pairwise_cons.2 ⟨fun d hd b' e e'=>?_,List.pairwise_singleton _ _⟩;simp at hd;subst hd;cases e;cases e';exact hne rfl
 ·
  simp at hd;rcases hd with rfl |rfl
  ·exact⟨_,List.mem_cons_self ..,e⟩
  ·exact⟨_,List.mem_cons_of_mem _ (List.mem_singleton.2 rfl),e⟩
end Go.Proofs.YtcnpijmfgfnpiaaGreatDoor
set_option linter.unusedVariables false
set_option maxRecDepth 20000
set_option maxHeartbeats 4000000
namespace Go.Proofs.YtcnpijmfgfnpiaaGreatDoor
open K Go Go.Proofs Go.Extern
theorem Iq:∀w,(zeroValue 182).run Tryz.prog w= .ok (.agg #[.pointer none,.pointer none,.int .u64 0]) w:=fun w=>by kernel_rfl
theorem KE:∀S w,(A.cells S w (.agg (.pair (.eq (.pointer none)) (.pair (.eq (.pointer none)) (.eq (.int .u64 0))))) (Value.cells (.agg #[.pointer none,.pointer none,.int .u64 0])).toList):=fun _ _=>⟨[_],_,rfl,⟨rfl,rfl⟩,[_],_,rfl,⟨rfl,rfl⟩,rfl,rfl⟩
theorem vL:dc Tryz.prog 182 3 true:=⟨fun w=>by kernel_rfl,fun w=>by kernel_rfl⟩
def dP:Obj→Prop:=fun o=>o= .cells #[py] 185 (0,0)
theorem zU{M:Md Tryz.prog}{o:Oper}{x:Operand}(ho:o.op= .load 185 x):bg M o [(x,.eq (.pointer (some ⟨0,0,none⟩)))] [.inv 0 dP] (fun _:Unit=>(.eq py,[.inv 0 dP])):=
 .val1 (hcm:=fun o h=>by cases h;rfl) fun S w a h hs=>by
  have e:a.eval x= .pointer (some ⟨0,0,none⟩):=h.1
  obtain⟨ob,h1,rfl⟩:=hs
  have hsz:∀w,(sizeOf 185).run Tryz.prog w= .ok 1 w:=fun w=>by kernel_rfl
  have hag:∀w,(isAgg 185).run Tryz.prog w= .ok false w:=fun w=>by kernel_rfl
  have hc:w.cell? ⟨0,0,none⟩=some py:=by simp [World.cell?,h1]
  refine⟨py,?_,rfl⟩
  simp [execOp,ho,Instr.loadAt,e,Instr.sureAddr,loadVar,hsz,hag,hc]
theorem J7:ah Tryz.prog 133:=ah.of Tryz.func133 (by kernel_rfl) (by kernel_rfl)
theorem JG:ah Tryz.prog 93:=ah.of Tryz.func93 (by kernel_rfl) (by kernel_rfl)
theorem vq{n:Nat}:true=false→n=1:=fun h=>nomatch h
def IO:Nat→Unit→Option Unit
 |0,_=>none
 |_+1,_=>some ()
theorem HO{a p:Nat}{n e0:Int}:cy Tryz.prog 133 [.eq (.iface 118 (.agg #[.int .i64 n])),.any,Ih 123 a 150,.eq (.iface 221 (.agg #[hd 118]))] [.obj a 123 (.eq (.pointer (some ⟨p,0,none⟩))),.obj p 118 (.agg (.eq (.int .i64 e0)))]
 (fun _:Unit=>(bG [.eq (.bool true)],[.obj a 123 (.eq (.pointer (some ⟨p,0,none⟩))),.obj p 118 (.agg (.eq (.int .i64 n)))])):=by
 refine cy.of 62 Tryz.func133 rfl Tryz.ntmps133 rfl fun S w0=>?_
 refine ag ?_
 refine ab ?_
 refine ay rfl rfl rfl (mL rfl trivial) ⟨rfl,trivial⟩ fun b6=>?_
 refine dn rfl ?_
 refine an ?_
 refine ae ?_
 show JC _ _ _ _ _
 refine ao ?_
 have h:(IO 1 ()).bind some=some ():=rfl
 refine aR (Z:=Unit) (α:=Unit) (fun _ _=>[(0,.eq (.iface 118 (.agg #[.int .i64 n]))),(3,.eq (.iface 221 (.agg #[hd 118]))),(6,.eq (.pointer (some ⟨b6,0,none⟩)))]) (fun _ _=>[.obj b6 182 (Ih 123 a 150),.obj a 123 (.eq (.pointer (some ⟨p,0,none⟩))),.obj p 118 (.agg (.eq (.int .i64 e0)))]) IO 1 () () (fun _=>rfl) h (SE.fin [0,1,2] ⟨rfl,rfl,rfl,trivial⟩ rfl) (fun _ _ _ _=>?_)
 refine ao ?_
 refine ag ?_
 refine ag ?_
 refine ab ?_
 refine av rfl rfl ?_
 refine ax rfl (BG Ix [.tmp 16] [.iface 118 (.agg #[.int .i64 n])] rfl rfl rfl (zF _) (zW _)) ⟨rfl,trivial⟩ ?_
 refine av rfl rfl ?_
 refine ax rfl (vY Iu [.tmp 18] [.iface 221 (.agg #[hd 118])] rfl rfl rfl (IX 118) Fo EF) ⟨rfl,rfl,trivial⟩ ?_
 refine an ?_
 refine ae ?_
 show JC _ _ _ _ _
 refine bu rfl (fun hb=>?_) (fun hb=>(by cases hb))
 refine ag ?_
 refine ab ?_
 refine bL rfl rfl rfl (ap rfl vL (vq) rfl) ⟨rfl,trivial⟩ ?_
 refine bz 1 rfl ?_
 refine bL rfl rfl rfl (aK (N:=[(.tmp 20,Ih 123 a 150)]) (BF Iw [.tmp 20] [qc 123 a 150] rfl rfl rfl (fun _ _ h=>Di h) wu trivial) fun _ _ _ hn=>⟨va hn.1,trivial⟩) ⟨rfl,trivial⟩ ?_
 refine av rfl rfl ?_
 refine ay rfl rfl rfl (BE (T:=118) (v:=fun b=>qc 118 b 153) FX [.tmp 22] [.iface 118 (.agg #[.int .i64 n])] rfl rfl rfl (xz n) rfl (s5 n)) ⟨rfl,trivial⟩ fun b23=>?_
 refine bz 3 rfl ?_
 refine bI (Δ:=[_,_]) (F:=_) (fun _ _ _=>ar rfl _) rfl rfl (Bt rfl rfl) ⟨rfl,rfl,trivial⟩ fun _=>?_
 refine an ?_
 refine ae ?_
 show JC _ _ _ _ _
 refine ag ?_
 refine ab ?_
 refine dn rfl ?_
 refine an ?_
 refine ae ?_
 show JC _ _ _ _ _
 refine aA ?_
 refine aW ?_
 refine bF ?_
 refine aW ?_
 refine bF ?_
 refine bf (SE.fin (Γ':=[(8,_)]) [2,0,1,3] ⟨rfl,trivial⟩ rfl) ?_
 exact aC () [.eq (.bool true)] 2 ⟨rfl,trivial⟩ rfl
theorem HN{v:Value}{p:Nat}{n:Int}:cy Tryz.prog 93 [.eq .nilIface,.eq v] [.obj p 118 (.agg (.eq (.int .i64 n))),.inv 0 dP] (fun _:Unit=>(bG [.eq (.bool false)],[.obj p 118 (.agg (.eq (.int .i64 n))),.inv 0 dP])):=by
 refine cy.of 42 Tryz.func93 rfl Tryz.ntmps93 rfl fun S w0=>?_;refine ag ?_;refine ab ?_;refine dn rfl ?_;refine an ?_;refine ae ?_;show JC _ _ _ _ _;refine ag ?_;refine ag ?_;refine ab ?_;refine av rfl rfl ?_;refine ax rfl (pg rfl Tryz.underlying121 rfl) ⟨rfl,rfl,trivial⟩ ?_;refine an ?_;refine ae ?_;show JC _ _ _ _ _;refine bu rfl (fun hb=>?_) (fun hb=>(by cases hb));refine ag ?_;refine ab ?_;refine dn rfl ?_;refine an ?_;refine ae ?_;show JC _ _ _ _ _;refine aA ?_;refine aW ?_;exact aC () [.eq (.bool false)] 2 ⟨rfl,trivial⟩ rfl
theorem Fp{p:Nat}{n e0:Int}:cy Tryz.prog 93 [.eq (.iface 118 (.agg #[.int .i64 n])),.eq (.iface 123 (.pointer (some ⟨p,0,none⟩)))] [.obj p 118 (.agg (.eq (.int .i64 e0))),.inv 0 dP]
 (fun _:Unit=>(bG [.eq (.bool true)],[.obj p 118 (.agg (.eq (.int .i64 n))),.inv 0 dP])):=by
 refine cy.of 42 Tryz.func93 rfl Tryz.ntmps93 rfl fun S w0=>?_
 refine ag ?_
 refine ab ?_
 refine dn rfl ?_
 refine an ?_
 refine ae ?_
 show JC _ _ _ _ _
 refine ag ?_
 refine ag ?_
 refine ab ?_
 refine av rfl rfl ?_
 refine ax rfl (pg rfl Tryz.underlying121 rfl) ⟨rfl,rfl,trivial⟩ ?_
 refine an ?_
 refine ae ?_
 show JC _ _ _ _ _
 refine bu rfl (fun hb=>(by cases hb)) (fun hb=>?_)
 refine aU ?_
 refine ae ?_
 show JC _ _ _ _ _
 refine ag ?_
 refine ag ?_
 refine ab ?_
 refine av rfl rfl ?_
 refine ax rfl (pg rfl Tryz.underlying20 rfl) ⟨rfl,rfl,trivial⟩ ?_
 refine an ?_
 refine ae ?_
 show JC _ _ _ _ _
 refine bu rfl (fun hb=>(by cases hb)) (fun hb=>?_)
 refine aU ?_
 refine ae ?_
 show JC _ _ _ _ _
 refine ag ?_
 refine ab ?_
 refine av rfl rfl ?_
 refine ay rfl rfl rfl (BE (T:=123) (v:=fun b=>qc 123 b 150) FX [.tmp 13] [.iface 123 (.pointer (some ⟨p,0,none⟩))] rfl rfl rfl (xy _) rfl (s4 _)) ⟨rfl,trivial⟩ fun a=>?_
 refine bX (pH 14 rfl fun _ _ _ h=>Fv rfl rfl rfl h) ?_
 refine ay rfl rfl rfl (ba rfl Iq KE) trivial fun b5=>?_
 refine aX rfl rfl (aO rfl vL trivial rfl rfl) ⟨rfl,rfl,trivial⟩ ?_
 refine an ?_
 refine ae ?_
 show JC _ _ _ _ _
 refine ag ?_
 refine ab ?_
 refine bL rfl rfl rfl (ap rfl vL (vq) rfl) ⟨rfl,trivial⟩ ?_
 refine ax rfl (aK (N:=[(.tmp 15,Ih 123 a 150)]) (BG Iz [.tmp 15] [qc 123 a 150] rfl rfl rfl (Ee _) (xY _)) fun _ _ _ hn=>⟨va hn.1,trivial⟩) ⟨rfl,trivial⟩ ?_
 refine cS rfl rfl ?_
 refine an ?_
 refine ae ?_
 show JC _ _ _ _ _
 refine ag ?_
 refine ag ?_
 refine ab ?_
 refine av rfl rfl ?_
 refine ax rfl (vY FV [] [] rfl rfl rfl (Gg 123) EL (yS 123 (.inl rfl))) ⟨rfl,trivial⟩ ?_
 refine ax rfl (cm rfl) ⟨rfl,rfl,trivial⟩ ?_
 refine av rfl rfl ?_
 refine f7 rfl rfl rfl rfl rfl rfl (ap rfl vL (vq) rfl) ⟨rfl,trivial⟩ ?_
 refine bz 1 rfl ?_
 refine f7 rfl rfl rfl rfl rfl rfl (aK (N:=[(.tmp 21,Ih 123 a 150)]) (BF Iy [.tmp 21] [qc 123 a 150] rfl rfl rfl (fun _ _ h=>CE h) wi trivial) fun _ _ _ hn=>⟨va hn.1,trivial⟩) ⟨rfl,trivial⟩ ?_
 refine ax rfl (lE rfl) ⟨rfl,rfl,trivial⟩ ?_
 refine an ?_
 refine ae ?_
 show JC _ _ _ _ _
 refine bu rfl (fun hb=>(by cases hb)) (fun hb=>?_)
 refine aU ?_
 refine ae ?_
 show JC _ _ _ _ _
 refine ag ?_
 refine ab ?_
 refine av rfl rfl ?_
 refine ax rfl (vY It [] [] rfl rfl rfl (IW 123) E9 ED) ⟨rfl,trivial⟩ ?_
 refine cS rfl rfl ?_
 refine an ?_
 refine ae ?_
 show JC _ _ _ _ _
 refine ag ?_
 refine ag ?_
 refine ab ?_
 refine av rfl rfl ?_
 refine ax rfl (vY FV [] [] rfl rfl rfl (Gg 118) EM (yS 118 (.inr rfl))) ⟨rfl,trivial⟩ ?_
 refine ax rfl (cm rfl) ⟨rfl,rfl,trivial⟩ ?_
 refine av rfl rfl ?_
 refine iJ rfl rfl rfl rfl rfl rfl (bZ rfl) ⟨rfl,trivial⟩ ?_
 refine bz 3 rfl ?_
 refine f7 rfl rfl rfl rfl rfl rfl (zU rfl) ⟨rfl,trivial⟩ ?_
 refine iJ rfl rfl rfl rfl rfl rfl (vY Is [.tmp 32] [py] rfl rfl rfl (IV 118) EO EC) ⟨rfl,rfl,trivial⟩ ?_
 refine iJ rfl rfl rfl rfl rfl rfl (dA rfl) ⟨rfl,trivial⟩ ?_
 refine ax rfl (mJ rfl) ⟨rfl,rfl,trivial⟩ ?_
 refine an ?_
 refine ae ?_
 show JC _ _ _ _ _
 refine bu rfl (fun hb=>(by cases hb)) (fun hb=>?_)
 refine aU ?_
 refine ae ?_
 show JC _ _ _ _ _
 refine ag ?_
 refine ab ?_
 refine av rfl rfl ?_
 refine av rfl rfl ?_
 refine bz 2 rfl ?_
 refine bL rfl rfl rfl (ap rfl vL (vq) rfl) ⟨rfl,trivial⟩ ?_
 refine av rfl rfl ?_
 refine bz 3 rfl ?_
 refine bz 3 rfl ?_
 refine bI (Δ:=[_,_]) (F:=_) (fun _ _ _=>ar rfl _) rfl rfl (aK (N:=[(.tmp 37,.eq (.iface 118 (.agg #[.int .i64 n]))),(.tmp 38,.eq (.iface 123 (.pointer (some ⟨p,0,none⟩)))),(.tmp 39,Ih 123 a 150),(.tmp 40,.eq (.iface 221 (.agg #[hd 118])))])
  (aj [.tmp 37,.tmp 38,.tmp 39,.tmp 40] rfl rfl J7 rfl (HO (a:=a) (p:=p) (n:=n) (e0:=e0))) fun _ _ _ hn=>⟨hn.1,trivial,hn.2.2.1,hn.2.2.2.1,trivial⟩) ⟨rfl,rfl,rfl,rfl,trivial⟩ fun _=>?_
 refine cS rfl rfl ?_
 refine an ?_
 refine ae ?_
 show JC _ _ _ _ _
 refine aA ?_
 refine bf (SE.fin (Γ':=[(4,_)]) [1,3,0,2] ⟨rfl,trivial⟩ rfl) ?_
 exact aC () [.eq (.bool true)] 2 ⟨rfl,trivial⟩ rfl
def K2:Value→Option (Option Int)
 | .nilIface=>some none
 | .iface t (.agg cs)=>if t=118 then(match cs.toList with |[.int .i64 n]=>some (some n) |_=>none) else none
 |_=>none
theorem Ds{v:Value}{q:Option Int}(h:K2 v=some q):(v= .nilIface∧q=none)∨∃n,v= .iface 118 (.agg #[.int .i64 n])∧q=some n:=by
 unfold K2 at h;split at h
 ·cases h;exact .inl ⟨rfl,rfl⟩
 ·rename_i t cs;split at h
  ·rename_i e;split at h
   ·rename_i n hn;cases h;obtain⟨l⟩:=cs;cases hn;exact .inr ⟨n,by rw [e],rfl⟩
   ·cases h
  ·cases h
 ·cases h
theorem Ky{v:Value}{q:Option Int}{p:Nat}{e0:Int}(h:K2 v=some q):cy Tryz.prog 93 [.eq v,.eq (.iface 123 (.pointer (some ⟨p,0,none⟩)))] [.obj p 118 (.agg (.eq (.int .i64 e0))),.inv 0 dP]
 (fun _:Unit=>(bG [.eq (.bool q.isSome)],[.obj p 118 (.agg (.eq (.int .i64 (q.getD e0)))),.inv 0 dP])):=by
 rcases Ds h with⟨rfl,rfl⟩ |⟨n,rfl,rfl⟩
 ·
  exact HN
 ·
  exact Fp
end Go.Proofs.YtcnpijmfgfnpiaaGreatDoor
