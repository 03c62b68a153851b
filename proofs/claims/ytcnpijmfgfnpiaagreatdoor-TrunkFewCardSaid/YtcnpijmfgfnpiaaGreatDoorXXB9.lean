import Derived.Test.YtcnpijmfgfnpiaaGreatDoorXXTr6
set_option linter.unusedSimpArgs false
set_option linter.unusedVariables false
set_option maxRecDepth 20000
set_option maxHeartbeats 4000000
namespace Go.Proofs.YtcnpijmfgfnpiaaGreatDoor
open K Go Go.Proofs Go.Extern
theorem zr{x:Option (Nat×Addr×Nat)}{z:Sem Value}{f:Nat→Addr→Nat→Nat→Sem Value}{T:Nat}{a:Addr}{fl:Nat}(h:x=some (T,a,fl))(hf:Ns Tryz.prog (f T a fl (fl % 32))):Ns Tryz.prog (match x with |none=>z |some (t,a,fl)=>f t a fl (fl % 32)):=by
 subst h;exact hf
theorem G3{a b:Nat}{S:FS}{w:World}(h:(D.obj a 123 (.eq (.pointer (some ⟨b,0,none⟩)))).holds S w):
 (ReflectliteValue.method (ReflectliteValue.valueError "reflectlite.Value.IsNil" 0) ReflectliteValue.isNil #[sB 123 a 150]).run Tryz.prog w= .ok (.bool false) w:=by
 obtain⟨cs,h1,rfl,_⟩:=h
 rw [Qw]
 simp only [Sem.run_bind,yW,Result.andThen_ok]
 have hl:=fu KL (fun _=>rfl) h1 (off:=0) (by simp)
 simp [ReflectliteValue.isNil,hl,mk]
theorem zk{a:Nat}:Ns Tryz.prog (ReflectliteValue.method (ReflectliteValue.valueError "reflectlite.Value.IsNil" 0) ReflectliteValue.isNil #[sB 123 a 150]):=by
 rw [Qw];refine fZ (q:=fun x=>x=some (123,⟨a,0,none⟩,150)) (nS (by kernel_rfl)) (show Pq Tryz.prog _ _ from Eq.mpr (show Pq Tryz.prog (fun x=>x=some (123,⟨a,0,none⟩,150)) (ReflectliteValue.parts (sB 123 a 150))=(some (123,(⟨a,0,none⟩:Addr),150)=some (123,⟨a,0,none⟩,150)) by kernel_rfl) rfl) fun x hx=>zr hx ?_;unfold ReflectliteValue.isNil;simp only [List.contains,List.elem];refine ai lG fun v=>?_;split <;> trivial
theorem zq{a:Nat}:Ns Tryz.prog (ReflectliteValue.method (ReflectliteValue.valueError "reflectlite.Value.Elem" 0) ReflectliteValue.elem #[sB 123 a 150]):=by
 rw [Qw];refine fZ (q:=fun x=>x=some (123,⟨a,0,none⟩,150)) (nS (by kernel_rfl)) (show Pq Tryz.prog _ _ from Eq.mpr (show Pq Tryz.prog (fun x=>x=some (123,⟨a,0,none⟩,150)) (ReflectliteValue.parts (sB 123 a 150))=(some (123,(⟨a,0,none⟩:Addr),150)=some (123,⟨a,0,none⟩,150)) by kernel_rfl) rfl) fun x hx=>zr hx ?_;unfold ReflectliteValue.elem;refine ai lG fun v=>?_;refine fZ (q:=fun x=>x=some 118) (nS (by kernel_rfl)) (show Pq Tryz.prog _ _ from Eq.mpr (show Pq Tryz.prog (fun x=>x=some 118) (Rtype.elem? 123)=(some 118=some 118) by kernel_rfl) rfl) fun x hx=>?_;subst hx;have ve:∀n,Ns Tryz.prog (ReflectliteValue.valueError "reflectlite.Value.Elem" n:Sem Value):=fun n=>ai (nS (by kernel_rfl)) fun t=>ai (ai aF fun d=>by split <;> trivial) fun e=>ai jP fun _=>trivial;have mk':∀p,Ns Tryz.prog (ReflectliteValue.mk 118 p ReflectliteValue.flagAddr):=fun p=>nS (by kernel_rfl);cases v with
 |pointer q=>cases q with
  |none=>trivial
  |some q=>exact mk' q
 |_=>exact ve _
theorem HD{a b:Nat}{S:FS}{w:World}(h:(D.obj a 123 (.eq (.pointer (some ⟨b,0,none⟩)))).holds S w):
 (ReflectliteValue.method (ReflectliteValue.valueError "reflectlite.Value.Elem" 0) ReflectliteValue.elem #[sB 123 a 150]).run Tryz.prog w= .ok (sB 118 b 409) w:=by
 obtain⟨cs,h1,rfl,_⟩:=h
 rw [Qw]
 simp only [Sem.run_bind,yW,Result.andThen_ok]
 have hl:=fu KL (fun _=>rfl) h1 (off:=0) (by simp)
 have e1:(Rtype.elem? 123).run Tryz.prog w= .ok (some 118) w:=by kernel_rfl
 have e2:(ReflectliteValue.mk 118 ⟨b,0,none⟩ ReflectliteValue.flagAddr).run Tryz.prog w= .ok (sB 118 b 409) w:=by kernel_rfl
 simp [ReflectliteValue.elem,hl,mk,e1,e2]
theorem RN(v x:Value):ReflectliteValue.set #[v,x]=(do
 let (some (dst,a,fl),some (src,b,_)):=(←ReflectliteValue.parts v,←ReflectliteValue.parts x)
  |unsupported (.noEntry "extern/(internal/reflectlite.Value).Set.zeroValue")
 if fl / ReflectliteValue.flagAddr % 2 == 0 then unsupported (.noEntry "extern/(internal/reflectlite.Value).Set.unaddressable")
 let val←loadVar src b
 if←Rtype.directlyAssignable dst src then storeVar dst a val
 else if←Rtype.implements dst src then
  if(←Rtype.kind src) == 20 then
   match val with
   | .nilIface=>unsupported (.noEntry "extern/reflectlite: a nil value of one interface type handed on as a value of another")
   |_=>storeVar dst a val
  else storeVar dst a (.iface src val)
 else panicString ("reflectlite.Set: value of type " ++(←Rtype.spelt src)++ " is not assignable to type " ++(←Rtype.spelt dst))
 pure (.tuple #[])):=rfl
theorem Ea(a:Addr)(w:World):(ReflectliteValue.parts (.agg #[hd 118,.pointer (some a),.int .u64 409])).run Tryz.prog w= .ok (some (118,a,409)) w:=by kernel_rfl
theorem FR(a:Addr)(w:World):(ReflectliteValue.parts (.agg #[hd 118,.pointer (some a),.int .u64 153])).run Tryz.prog w= .ok (some (118,a,153)) w:=by kernel_rfl
theorem EH(w:World):(Rtype.directlyAssignable 118 118).run Tryz.prog w= .ok true w:=by kernel_rfl
theorem Ei{p b:Nat}:Ns Tryz.prog (ReflectliteValue.set #[sB 118 p 409,sB 118 b 153]):=by
 rw [RN];refine fZ (q:=fun x=>x=some (118,⟨p,0,none⟩,409)) (nS (by kernel_rfl)) (show Pq Tryz.prog _ _ from Eq.mpr (show Pq Tryz.prog (fun x=>x=some (118,⟨p,0,none⟩,409)) (ReflectliteValue.parts (sB 118 p 409))=(some (118,(⟨p,0,none⟩:Addr),409)=some (118,⟨p,0,none⟩,409)) by kernel_rfl) rfl) fun x hx=>?_;subst hx;refine fZ (q:=fun x=>x=some (118,⟨b,0,none⟩,153)) (nS (by kernel_rfl)) (show Pq Tryz.prog _ _ from Eq.mpr (show Pq Tryz.prog (fun x=>x=some (118,⟨b,0,none⟩,153)) (ReflectliteValue.parts (sB 118 b 153))=(some (118,(⟨b,0,none⟩:Addr),153)=some (118,⟨b,0,none⟩,153)) by kernel_rfl) rfl) fun x hx=>?_;subst hx;refine ai lG fun v=>?_;refine fZ (q:=fun x=>x=true) (nS (by kernel_rfl)) (show Pq Tryz.prog _ _ from Eq.mpr (show Pq Tryz.prog (fun x=>x=true) (Rtype.directlyAssignable 118 118)=(true=true) by kernel_rfl) rfl) fun x hx=>?_;subst hx;exact ai tu fun _=>trivial
theorem FA:dC Tryz.prog 118 1 true:=⟨fun w=>by kernel_rfl,fun w=>by kernel_rfl⟩
theorem FZ{M:Md Tryz.prog}{o:Oper}{x y:Operand}{c:Call}{ts:Array TypeId}{p b:Nat}{e0 n:Int}(ho:o.op= .call c)(hc:c={ callee:=.value (.func 162),args:=[x,y].toArray,argTypes:=ts }):
 bG M o [(x,.eq (sB 118 p 409)),(y,.eq (sB 118 b 153))] [.obj p 118 (.agg (.eq (.int .i64 e0))),.obj b 118 (.eq (.int .i64 n))] (fun _:Unit=>(.eq (.tuple #[]),[.obj p 118 (.agg (.eq (.int .i64 n))),.obj b 118 (.eq (.int .i64 n))])):=by
 have hex:∀{S:FS} {w:World} {a:Act},bh S w a [(x,.eq (sB 118 p 409)),(y,.eq (sB 118 b 153))]→execOp a.eval o=callFunc 162 #[sB 118 p 409,sB 118 b 153]:=fun {S w a} hN=>kw (xs:=[x,y]) (vs:=[sB 118 p 409,sB 118 b 153]) ho hc (iq rfl hN)
 refine iH ⟨by simp only [nd, *],fun S w a next hd hN hO k=>?_⟩ (fun _ _ a hN _=>by rw [hex hN];exact KF.ns _ Ei) (fun d hd=>by simp at hd;rcases hd with rfl |rfl <;> trivial)
 obtain⟨cs1,h1,⟨rfl,_⟩⟩:=hO.holds (.obj p 118 (.agg (.eq (.int .i64 e0)))) (by simp)
 obtain⟨cs2,h2,⟨rfl,_⟩⟩:=hO.holds (.obj b 118 (.eq (.int .i64 n))) (by simp)
 have hne:p≠b:=fun e=>by
  have:=hO.apart;simp only [List.pairwise_cons] at this;exact this.1 _ (List.mem_singleton.2 rfl) p rfl (by rw [e];rfl)
 have op:=hO.own p ⟨_,List.mem_cons_self ..,rfl⟩
 have ob:=hO.own b ⟨_,List.mem_cons_of_mem _ (List.mem_singleton.2 rfl),rfl⟩
 have hl:=fu FA (fun h=>by cases h) h2 (off:=0) (by simp)
 have hst:=io Tryz.prog p 118 0 [.int .i64 n] 0 w #[.int .i64 e0] h1 (fun v hv=>by simp at hv;subst hv;rfl) (by simp)
 have hr:(execOp a.eval o).run Tryz.prog w= .ok (.value (.tuple #[])) { w with heap:=w.heap.setIfInBounds p (.cells #[.int .i64 n] 118 (0,0)) }:=by
  rw [hex hN,KF.run,RN];simp only [Sem.run_bind,Ea,FR,Result.andThen_ok];simp at hst;simp [ReflectliteValue.flagAddr,hl,mk,EH,storeVar,FA.size,Value.cells,hst]
 rw [hr]
 refine k () S _ _ (mP hd ⟨_,List.mem_cons_self ..,rfl⟩ _) rfl ⟨fun d hd=>?_,fun b' hb'=>?_,?_⟩ (fun b' ⟨d,hd,e⟩=>.inl ?_)
 ·
  simp at hd;rcases hd with rfl |rfl
  ·exact⟨[.int .i64 n],by simp [op.2],rfl,rfl⟩
  ·exact⟨[.int .i64 n],by simp [Array.getElem?_setIfInBounds_ne hne,h2],rfl,rfl⟩
 ·
  obtain⟨d,hd,e⟩:=hb';simp at hd;rcases hd with rfl |rfl
  ·cases e;exact⟨op.1,by simpa using op.2⟩
  ·cases e;exact⟨ob.1,by simpa using ob.2⟩
 ·
  refine List.pairwise_cons.2 ⟨fun d hd b' e e'=>?_,List.pairwise_singleton _ _⟩;simp at hd;subst hd;cases e;cases e';exact hne rfl
 ·
  simp at hd;rcases hd with rfl |rfl
  ·exact⟨_,List.mem_cons_self ..,e⟩
  ·exact⟨_,List.mem_cons_of_mem _ (List.mem_singleton.2 rfl),e⟩
end Go.Proofs.YtcnpijmfgfnpiaaGreatDoor
set_option linter.unusedVariables false
set_option maxRecDepth 20000
set_option maxHeartbeats 4000000
namespace Go.Proofs.YtcnpijmfgfnpiaaGreatDoor
open K Go Go.Proofs Go.Extern
theorem NQ:∀w,(zeroValue 182).run Tryz.prog w= .ok (.agg #[.pointer none,.pointer none,.int .u64 0]) w:=fun w=>by kernel_rfl
theorem Qc:∀S w,(A.cells S w (.agg (.pair (.eq (.pointer none)) (.pair (.eq (.pointer none)) (.eq (.int .u64 0))))) (Value.cells (.agg #[.pointer none,.pointer none,.int .u64 0])).toList):=fun _ _=>⟨[_],_,rfl,⟨rfl,rfl⟩,[_],_,rfl,⟨rfl,rfl⟩,rfl,rfl⟩
theorem yO:dC Tryz.prog 182 3 true:=⟨fun w=>by kernel_rfl,fun w=>by kernel_rfl⟩
def ig:Obj→Prop:=fun o=>o= .cells #[rG] 185 (0,0)
theorem Ef{M:Md Tryz.prog}{o:Oper}{x:Operand}(ho:o.op= .load 185 x):bG M o [(x,.eq (.pointer (some ⟨0,0,none⟩)))] [.inv 0 ig] (fun _:Unit=>(.eq rG,[.inv 0 ig])):=
 .val1 (hcm:=fun o h=>by cases h;rfl) fun S w a h hs=>by
  have e:a.eval x= .pointer (some ⟨0,0,none⟩):=h.1
  obtain⟨ob,h1,rfl⟩:=hs
  have hsz:∀w,(sizeOf 185).run Tryz.prog w= .ok 1 w:=fun w=>by kernel_rfl
  have hag:∀w,(isAgg 185).run Tryz.prog w= .ok false w:=fun w=>by kernel_rfl
  have hc:w.cell? ⟨0,0,none⟩=some rG:=by simp [World.cell?,h1]
  refine⟨rG,?_,rfl⟩
  simp [execOp,ho,Instr.loadAt,e,Instr.sureAddr,loadVar,hsz,hag,hc]
theorem PP:ag Tryz.prog 133:=ag.of Tryz.func133 (by kernel_rfl) (by kernel_rfl)
theorem Pg:ag Tryz.prog 93:=ag.of Tryz.func93 (by kernel_rfl) (by kernel_rfl)
theorem yu{n:Nat}:true=false→n=1:=fun h=>nomatch h
def Of:Nat→Unit→Option Unit
 |0,_=>none
 |_+1,_=>some ()
theorem M7{a p:Nat}{n e0:Int}:cd Tryz.prog 133 [.eq (.iface 118 (.agg #[.int .i64 n])),.any,NF 123 a 150,.eq (.iface 221 (.agg #[hd 118]))] [.obj a 123 (.eq (.pointer (some ⟨p,0,none⟩))),.obj p 118 (.agg (.eq (.int .i64 e0)))]
 (fun _:Unit=>(bu [.eq (.bool true)],[.obj a 123 (.eq (.pointer (some ⟨p,0,none⟩))),.obj p 118 (.agg (.eq (.int .i64 n)))])):=by
 refine cd.of 62 Tryz.func133 rfl Tryz.ntmps133 rfl fun S w0=>?_
 refine ah ?_
 refine aa ?_
 refine ay rfl rfl rfl (nR rfl trivial) ⟨rfl,trivial⟩ fun b6=>?_
 refine dG rfl ?_
 refine ao ?_
 refine ae ?_
 show JC _ _ _ _ _
 refine aj ?_
 have h:(Of 1 ()).bind some=some ():=rfl
 refine aK (Z:=Unit) (α:=Unit) (fun _ _=>[(0,.eq (.iface 118 (.agg #[.int .i64 n]))),(3,.eq (.iface 221 (.agg #[hd 118]))),(6,.eq (.pointer (some ⟨b6,0,none⟩)))]) (fun _ _=>[.obj b6 182 (NF 123 a 150),.obj a 123 (.eq (.pointer (some ⟨p,0,none⟩))),.obj p 118 (.agg (.eq (.int .i64 e0)))]) Of 1 () () (fun _=>rfl) h (SE.fin [0,1,2] ⟨rfl,rfl,rfl,trivial⟩ rfl) (fun _ _ _ _=>?_)
 refine aj ?_
 refine ah ?_
 refine ah ?_
 refine aa ?_
 refine av rfl rfl ?_
 refine aA rfl (Gh NW [.tmp 16] [.iface 118 (.agg #[.int .i64 n])] rfl rfl rfl (DL _) (Eh _)) ⟨rfl,trivial⟩ ?_
 refine av rfl rfl ?_
 refine aA rfl (zb NU [.tmp 18] [.iface 221 (.agg #[hd 118])] rfl rfl rfl (Ou 118) JY I3) ⟨rfl,rfl,trivial⟩ ?_
 refine ao ?_
 refine ae ?_
 show JC _ _ _ _ _
 refine bi rfl (fun hb=>?_) (fun hb=>(by cases hb))
 refine ah ?_
 refine aa ?_
 refine bU rfl rfl rfl (ak rfl yO (yu) rfl) ⟨rfl,trivial⟩ ?_
 refine bq 1 rfl ?_
 refine bU rfl rfl rfl (cU (N:=[(.tmp 20,NF 123 a 150)]) (Gg NV [.tmp 20] [sB 123 a 150] rfl rfl rfl (fun _ _ h=>HD h) zq trivial) fun _ _ _ hn=>⟨yj hn.1,trivial⟩) ⟨rfl,trivial⟩ ?_
 refine av rfl rfl ?_
 refine ay rfl rfl rfl (Gf (T:=118) (v:=fun b=>sB 118 b 153) KG [.tmp 22] [.iface 118 (.agg #[.int .i64 n])] rfl rfl rfl (AL n) rfl (vL n)) ⟨rfl,trivial⟩ fun b23=>?_
 refine bq 3 rfl ?_
 refine bB (Δ:=[_,_]) (F:=_) (fun _ _ _=>ar rfl _) rfl rfl (FZ rfl rfl) ⟨rfl,rfl,trivial⟩ fun _=>?_
 refine ao ?_
 refine ae ?_
 show JC _ _ _ _ _
 refine ah ?_
 refine aa ?_
 refine dG rfl ?_
 refine ao ?_
 refine ae ?_
 show JC _ _ _ _ _
 refine aC ?_
 refine aX ?_
 refine bC ?_
 refine aX ?_
 refine bC ?_
 refine bM (SE.fin (Γ':=[(8,_)]) [2,0,1,3] ⟨rfl,trivial⟩ rfl) ?_
 exact aI () [.eq (.bool true)] 2 ⟨rfl,trivial⟩ rfl
theorem M6{v:Value}{p:Nat}{n:Int}:cd Tryz.prog 93 [.eq .nilIface,.eq v] [.obj p 118 (.agg (.eq (.int .i64 n))),.inv 0 ig] (fun _:Unit=>(bu [.eq (.bool false)],[.obj p 118 (.agg (.eq (.int .i64 n))),.inv 0 ig])):=by
 refine cd.of 42 Tryz.func93 rfl Tryz.ntmps93 rfl fun S w0=>?_;refine ah ?_;refine aa ?_;refine dG rfl ?_;refine ao ?_;refine ae ?_;show JC _ _ _ _ _;refine ah ?_;refine ah ?_;refine aa ?_;refine av rfl rfl ?_;refine aA rfl (ri rfl Tryz.underlying121 rfl) ⟨rfl,rfl,trivial⟩ ?_;refine ao ?_;refine ae ?_;show JC _ _ _ _ _;refine bi rfl (fun hb=>?_) (fun hb=>(by cases hb));refine ah ?_;refine aa ?_;refine dG rfl ?_;refine ao ?_;refine ae ?_;show JC _ _ _ _ _;refine aC ?_;refine aX ?_;exact aI () [.eq (.bool false)] 2 ⟨rfl,trivial⟩ rfl
theorem JZ{p:Nat}{n e0:Int}:cd Tryz.prog 93 [.eq (.iface 118 (.agg #[.int .i64 n])),.eq (.iface 123 (.pointer (some ⟨p,0,none⟩)))] [.obj p 118 (.agg (.eq (.int .i64 e0))),.inv 0 ig]
 (fun _:Unit=>(bu [.eq (.bool true)],[.obj p 118 (.agg (.eq (.int .i64 n))),.inv 0 ig])):=by
 refine cd.of 42 Tryz.func93 rfl Tryz.ntmps93 rfl fun S w0=>?_
 refine ah ?_
 refine aa ?_
 refine dG rfl ?_
 refine ao ?_
 refine ae ?_
 show JC _ _ _ _ _
 refine ah ?_
 refine ah ?_
 refine aa ?_
 refine av rfl rfl ?_
 refine aA rfl (ri rfl Tryz.underlying121 rfl) ⟨rfl,rfl,trivial⟩ ?_
 refine ao ?_
 refine ae ?_
 show JC _ _ _ _ _
 refine bi rfl (fun hb=>(by cases hb)) (fun hb=>?_)
 refine aU ?_
 refine ae ?_
 show JC _ _ _ _ _
 refine ah ?_
 refine ah ?_
 refine aa ?_
 refine av rfl rfl ?_
 refine aA rfl (ri rfl Tryz.underlying20 rfl) ⟨rfl,rfl,trivial⟩ ?_
 refine ao ?_
 refine ae ?_
 show JC _ _ _ _ _
 refine bi rfl (fun hb=>(by cases hb)) (fun hb=>?_)
 refine aU ?_
 refine ae ?_
 show JC _ _ _ _ _
 refine ah ?_
 refine aa ?_
 refine av rfl rfl ?_
 refine ay rfl rfl rfl (Gf (T:=123) (v:=fun b=>sB 123 b 150) KG [.tmp 13] [.iface 123 (.pointer (some ⟨p,0,none⟩))] rfl rfl rfl (AK _) rfl (vK _)) ⟨rfl,trivial⟩ fun a=>?_
 refine cI (rS 14 rfl fun _ _ _ h=>J4 rfl rfl rfl h) ?_
 refine ay rfl rfl rfl (aP rfl NQ Qc) trivial fun b5=>?_
 refine aZ rfl rfl (aR rfl yO trivial rfl rfl) ⟨rfl,rfl,trivial⟩ ?_
 refine ao ?_
 refine ae ?_
 show JC _ _ _ _ _
 refine ah ?_
 refine aa ?_
 refine bU rfl rfl rfl (ak rfl yO (yu) rfl) ⟨rfl,trivial⟩ ?_
 refine aA rfl (cU (N:=[(.tmp 15,NF 123 a 150)]) (Gh NY [.tmp 15] [sB 123 a 150] rfl rfl rfl (Iz _) (Bf _)) fun _ _ _ hn=>⟨yj hn.1,trivial⟩) ⟨rfl,trivial⟩ ?_
 refine dj rfl rfl ?_
 refine ao ?_
 refine ae ?_
 show JC _ _ _ _ _
 refine ah ?_
 refine ah ?_
 refine aa ?_
 refine av rfl rfl ?_
 refine aA rfl (zb KE [] [] rfl rfl rfl (KX 123) I9 (CN 123 (.inl rfl))) ⟨rfl,trivial⟩ ?_
 refine aA rfl (iN rfl) ⟨rfl,rfl,trivial⟩ ?_
 refine av rfl rfl ?_
 refine ix rfl rfl rfl rfl rfl rfl (ak rfl yO (yu) rfl) ⟨rfl,trivial⟩ ?_
 refine bq 1 rfl ?_
 refine ix rfl rfl rfl rfl rfl rfl (cU (N:=[(.tmp 21,NF 123 a 150)]) (Gg NX [.tmp 21] [sB 123 a 150] rfl rfl rfl (fun _ _ h=>G3 h) zk trivial) fun _ _ _ hn=>⟨yj hn.1,trivial⟩) ⟨rfl,trivial⟩ ?_
 refine aA rfl (mU rfl) ⟨rfl,rfl,trivial⟩ ?_
 refine ao ?_
 refine ae ?_
 show JC _ _ _ _ _
 refine bi rfl (fun hb=>(by cases hb)) (fun hb=>?_)
 refine aU ?_
 refine ae ?_
 show JC _ _ _ _ _
 refine ah ?_
 refine aa ?_
 refine av rfl rfl ?_
 refine aA rfl (zb NT [] [] rfl rfl rfl (Ot 123) JK I1) ⟨rfl,trivial⟩ ?_
 refine dj rfl rfl ?_
 refine ao ?_
 refine ae ?_
 show JC _ _ _ _ _
 refine ah ?_
 refine ah ?_
 refine aa ?_
 refine av rfl rfl ?_
 refine aA rfl (zb KE [] [] rfl rfl rfl (KX 118) Jb (CN 118 (.inr rfl))) ⟨rfl,trivial⟩ ?_
 refine aA rfl (iN rfl) ⟨rfl,rfl,trivial⟩ ?_
 refine av rfl rfl ?_
 refine mC rfl rfl rfl rfl rfl rfl (bz rfl) ⟨rfl,trivial⟩ ?_
 refine bq 3 rfl ?_
 refine ix rfl rfl rfl rfl rfl rfl (Ef rfl) ⟨rfl,trivial⟩ ?_
 refine mC rfl rfl rfl rfl rfl rfl (zb NS [.tmp 32] [rG] rfl rfl rfl (Oq 118) Jd I0) ⟨rfl,rfl,trivial⟩ ?_
 refine mC rfl rfl rfl rfl rfl rfl (gQ rfl) ⟨rfl,trivial⟩ ?_
 refine aA rfl (oz rfl) ⟨rfl,rfl,trivial⟩ ?_
 refine ao ?_
 refine ae ?_
 show JC _ _ _ _ _
 refine bi rfl (fun hb=>(by cases hb)) (fun hb=>?_)
 refine aU ?_
 refine ae ?_
 show JC _ _ _ _ _
 refine ah ?_
 refine aa ?_
 refine av rfl rfl ?_
 refine av rfl rfl ?_
 refine bq 2 rfl ?_
 refine bU rfl rfl rfl (ak rfl yO (yu) rfl) ⟨rfl,trivial⟩ ?_
 refine av rfl rfl ?_
 refine bq 3 rfl ?_
 refine bq 3 rfl ?_
 refine bB (Δ:=[_,_]) (F:=_) (fun _ _ _=>ar rfl _) rfl rfl (cU (N:=[(.tmp 37,.eq (.iface 118 (.agg #[.int .i64 n]))),(.tmp 38,.eq (.iface 123 (.pointer (some ⟨p,0,none⟩)))),(.tmp 39,NF 123 a 150),(.tmp 40,.eq (.iface 221 (.agg #[hd 118])))])
  (an [.tmp 37,.tmp 38,.tmp 39,.tmp 40] rfl rfl PP rfl (M7 (a:=a) (p:=p) (n:=n) (e0:=e0))) fun _ _ _ hn=>⟨hn.1,trivial,hn.2.2.1,hn.2.2.2.1,trivial⟩) ⟨rfl,rfl,rfl,rfl,trivial⟩ fun _=>?_
 refine dj rfl rfl ?_
 refine ao ?_
 refine ae ?_
 show JC _ _ _ _ _
 refine aC ?_
 refine bM (SE.fin (Γ':=[(4,_)]) [1,3,0,2] ⟨rfl,trivial⟩ rfl) ?_
 exact aI () [.eq (.bool true)] 2 ⟨rfl,trivial⟩ rfl
def QB:Value→Option (Option Int)
 | .nilIface=>some none
 | .iface t (.agg cs)=>if t=118 then(match cs.toList with |[.int .i64 n]=>some (some n) |_=>none) else none
 |_=>none
theorem HN{v:Value}{q:Option Int}(h:QB v=some q):(v= .nilIface∧q=none)∨∃n,v= .iface 118 (.agg #[.int .i64 n])∧q=some n:=by
 unfold QB at h;split at h
 ·cases h;exact .inl ⟨rfl,rfl⟩
 ·rename_i t cs;split at h
  ·rename_i e;split at h
   ·rename_i n hn;cases h;obtain⟨l⟩:=cs;cases hn;exact .inr ⟨n,by rw [e],rfl⟩
   ·cases h
  ·cases h
 ·cases h
theorem P5{v:Value}{q:Option Int}{p:Nat}{e0:Int}(h:QB v=some q):cd Tryz.prog 93 [.eq v,.eq (.iface 123 (.pointer (some ⟨p,0,none⟩)))] [.obj p 118 (.agg (.eq (.int .i64 e0))),.inv 0 ig]
 (fun _:Unit=>(bu [.eq (.bool q.isSome)],[.obj p 118 (.agg (.eq (.int .i64 (q.getD e0)))),.inv 0 ig])):=by
 rcases HN h with⟨rfl,rfl⟩ |⟨n,rfl,rfl⟩
 ·
  exact M6
 ·
  exact JZ
end Go.Proofs.YtcnpijmfgfnpiaaGreatDoor
