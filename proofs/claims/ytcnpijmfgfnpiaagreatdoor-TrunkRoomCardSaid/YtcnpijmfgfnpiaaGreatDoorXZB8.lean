import Derived.Test.YtcnpijmfgfnpiaaGreatDoorXZTr6
set_option linter.unusedSimpArgs false
set_option linter.unusedVariables false
set_option maxRecDepth 20000
set_option maxHeartbeats 4000000
namespace Go.Proofs.YtcnpijmfgfnpiaaGreatDoor
open K Go Go.Proofs Go.Extern
theorem zb{x:Option (Nat×Addr×Nat)}{z:Sem Value}{f:Nat→Addr→Nat→Nat→Sem Value}{T:Nat}{a:Addr}{fl:Nat}(h:x=some (T,a,fl))(hf:Ns Tryz.prog (f T a fl (fl % 32))):Ns Tryz.prog (match x with |none=>z |some (t,a,fl)=>f t a fl (fl % 32)):=by
 subst h;exact hf
theorem GL{a b:Nat}{S:FS}{w:World}(h:(D.obj a 123 (.eq (.pointer (some ⟨b,0,none⟩)))).holds S w):
 (ReflectliteValue.method (ReflectliteValue.valueError "reflectlite.Value.IsNil" 0) ReflectliteValue.isNil #[rU 123 a 150]).run Tryz.prog w= .ok (.bool false) w:=by
 obtain⟨cs,h1,rfl,_⟩:=h
 rw [Qb]
 simp only [Sem.run_bind,yF,Result.andThen_ok]
 have hl:=ff Kt (fun _=>rfl) h1 (off:=0) (by simp)
 simp [ReflectliteValue.isNil,hl,mk]
theorem yV{a:Nat}:Ns Tryz.prog (ReflectliteValue.method (ReflectliteValue.valueError "reflectlite.Value.IsNil" 0) ReflectliteValue.isNil #[rU 123 a 150]):=by
 rw [Qb];refine fM (q:=fun x=>x=some (123,⟨a,0,none⟩,150)) (nr (by kernel_rfl)) (show Pq Tryz.prog _ _ from Eq.mpr (show Pq Tryz.prog (fun x=>x=some (123,⟨a,0,none⟩,150)) (ReflectliteValue.parts (rU 123 a 150))=(some (123,(⟨a,0,none⟩:Addr),150)=some (123,⟨a,0,none⟩,150)) by kernel_rfl) rfl) fun x hx=>zb hx ?_;unfold ReflectliteValue.isNil;simp only [List.contains,List.elem];refine ai kY fun v=>?_;split <;> trivial
theorem za{a:Nat}:Ns Tryz.prog (ReflectliteValue.method (ReflectliteValue.valueError "reflectlite.Value.Elem" 0) ReflectliteValue.elem #[rU 123 a 150]):=by
 rw [Qb];refine fM (q:=fun x=>x=some (123,⟨a,0,none⟩,150)) (nr (by kernel_rfl)) (show Pq Tryz.prog _ _ from Eq.mpr (show Pq Tryz.prog (fun x=>x=some (123,⟨a,0,none⟩,150)) (ReflectliteValue.parts (rU 123 a 150))=(some (123,(⟨a,0,none⟩:Addr),150)=some (123,⟨a,0,none⟩,150)) by kernel_rfl) rfl) fun x hx=>zb hx ?_;unfold ReflectliteValue.elem;refine ai kY fun v=>?_;refine fM (q:=fun x=>x=some 118) (nr (by kernel_rfl)) (show Pq Tryz.prog _ _ from Eq.mpr (show Pq Tryz.prog (fun x=>x=some 118) (Rtype.elem? 123)=(some 118=some 118) by kernel_rfl) rfl) fun x hx=>?_;subst hx;have ve:∀n,Ns Tryz.prog (ReflectliteValue.valueError "reflectlite.Value.Elem" n:Sem Value):=fun n=>ai (nr (by kernel_rfl)) fun t=>ai (ai aG fun d=>by split <;> trivial) fun e=>ai jx fun _=>trivial;have mk':∀p,Ns Tryz.prog (ReflectliteValue.mk 118 p ReflectliteValue.flagAddr):=fun p=>nr (by kernel_rfl);cases v with
 |pointer q=>cases q with
  |none=>trivial
  |some q=>exact mk' q
 |_=>exact ve _
theorem Hh{a b:Nat}{S:FS}{w:World}(h:(D.obj a 123 (.eq (.pointer (some ⟨b,0,none⟩)))).holds S w):
 (ReflectliteValue.method (ReflectliteValue.valueError "reflectlite.Value.Elem" 0) ReflectliteValue.elem #[rU 123 a 150]).run Tryz.prog w= .ok (rU 118 b 409) w:=by
 obtain⟨cs,h1,rfl,_⟩:=h
 rw [Qb]
 simp only [Sem.run_bind,yF,Result.andThen_ok]
 have hl:=ff Kt (fun _=>rfl) h1 (off:=0) (by simp)
 have e1:(Rtype.elem? 123).run Tryz.prog w= .ok (some 118) w:=by kernel_rfl
 have e2:(ReflectliteValue.mk 118 ⟨b,0,none⟩ ReflectliteValue.flagAddr).run Tryz.prog w= .ok (rU 118 b 409) w:=by kernel_rfl
 simp [ReflectliteValue.elem,hl,mk,e1,e2]
theorem Rm(v x:Value):ReflectliteValue.set #[v,x]=(do
 let (some (dst,a,fl),some (src,b,_)):=(←ReflectliteValue.parts v,←ReflectliteValue.parts x)
  |unsupported (.noEntry "extern/(internal/reflectlite.Value).Set.zeroValue")
 if fl / ReflectliteValue.flagAddr % 2 == 0 then unsupported (.noEntry "extern/(internal/reflectlite.Value).Set.unaddressable")
 let val←loadVar src b
 if←Rtype.directlyAssignable dst src then storeVar dst a val
 else if←Rtype.implements dst src then
  if(←Rtype.kind src) == 20 then
   match val with
   | .nilIface=>unsupported (.noEntry "extern/reflectlite: a nil value of one interface type handed on as a value of another")
   |_=>storeVar dst a val
  else storeVar dst a (.iface src val)
 else panicString ("reflectlite.Set: value of type " ++(←Rtype.spelt src)++ " is not assignable to type " ++(←Rtype.spelt dst))
 pure (.tuple #[])):=rfl
theorem Dv(a:Addr)(w:World):(ReflectliteValue.parts (.agg #[hd 118,.pointer (some a),.int .u64 409])).run Tryz.prog w= .ok (some (118,a,409)) w:=by kernel_rfl
theorem Fp(a:Addr)(w:World):(ReflectliteValue.parts (.agg #[hd 118,.pointer (some a),.int .u64 153])).run Tryz.prog w= .ok (some (118,a,153)) w:=by kernel_rfl
theorem Ec(w:World):(Rtype.directlyAssignable 118 118).run Tryz.prog w= .ok true w:=by kernel_rfl
theorem DI{p b:Nat}:Ns Tryz.prog (ReflectliteValue.set #[rU 118 p 409,rU 118 b 153]):=by
 rw [Rm];refine fM (q:=fun x=>x=some (118,⟨p,0,none⟩,409)) (nr (by kernel_rfl)) (show Pq Tryz.prog _ _ from Eq.mpr (show Pq Tryz.prog (fun x=>x=some (118,⟨p,0,none⟩,409)) (ReflectliteValue.parts (rU 118 p 409))=(some (118,(⟨p,0,none⟩:Addr),409)=some (118,⟨p,0,none⟩,409)) by kernel_rfl) rfl) fun x hx=>?_;subst hx;refine fM (q:=fun x=>x=some (118,⟨b,0,none⟩,153)) (nr (by kernel_rfl)) (show Pq Tryz.prog _ _ from Eq.mpr (show Pq Tryz.prog (fun x=>x=some (118,⟨b,0,none⟩,153)) (ReflectliteValue.parts (rU 118 b 153))=(some (118,(⟨b,0,none⟩:Addr),153)=some (118,⟨b,0,none⟩,153)) by kernel_rfl) rfl) fun x hx=>?_;subst hx;refine ai kY fun v=>?_;refine fM (q:=fun x=>x=true) (nr (by kernel_rfl)) (show Pq Tryz.prog _ _ from Eq.mpr (show Pq Tryz.prog (fun x=>x=true) (Rtype.directlyAssignable 118 118)=(true=true) by kernel_rfl) rfl) fun x hx=>?_;subst hx;exact ai sV fun _=>trivial
theorem E4:dp Tryz.prog 118 1 true:=⟨fun w=>by kernel_rfl,fun w=>by kernel_rfl⟩
theorem FB{M:Md Tryz.prog}{o:Oper}{x y:Operand}{c:Call}{ts:Array TypeId}{p b:Nat}{e0 n:Int}(ho:o.op= .call c)(hc:c={ callee:=.value (.func 162),args:=[x,y].toArray,argTypes:=ts }):
 bi M o [(x,.eq (rU 118 p 409)),(y,.eq (rU 118 b 153))] [.obj p 118 (.agg (.eq (.int .i64 e0))),.obj b 118 (.eq (.int .i64 n))] (fun _:Unit=>(.eq (.tuple #[]),[.obj p 118 (.agg (.eq (.int .i64 n))),.obj b 118 (.eq (.int .i64 n))])):=by
 have hex:∀{S:FS} {w:World} {a:Act},bb S w a [(x,.eq (rU 118 p 409)),(y,.eq (rU 118 b 153))]→execOp a.eval o=callFunc 162 #[rU 118 p 409,rU 118 b 153]:=fun {S w a} hN=>jU (xs:=[x,y]) (vs:=[rU 118 p 409,rU 118 b 153]) ho hc (ia rfl hN)
 refine ig ⟨by simp only [nd, *],fun S w a next hd hN hO k=>?_⟩ (fun _ _ a hN _=>by rw [hex hN];exact J9.ns _ DI) (fun d hd=>by simp at hd;rcases hd with rfl |rfl <;> trivial)
 obtain⟨cs1,h1,⟨rfl,_⟩⟩:=hO.holds (.obj p 118 (.agg (.eq (.int .i64 e0)))) (by simp)
 obtain⟨cs2,h2,⟨rfl,_⟩⟩:=hO.holds (.obj b 118 (.eq (.int .i64 n))) (by simp)
 have hne:p≠b:=fun e=>by
  have:=hO.apart;simp only [List.pairwise_cons] at this;exact this.1 _ (List.mem_singleton.2 rfl) p rfl (by rw [e];rfl)
 have op:=hO.own p ⟨_,List.mem_cons_self ..,rfl⟩
 have ob:=hO.own b ⟨_,List.mem_cons_of_mem _ (List.mem_singleton.2 rfl),rfl⟩
 have hl:=ff E4 (fun h=>by cases h) h2 (off:=0) (by simp)
 have hst:=g9 Tryz.prog p 118 0 [.int .i64 n] 0 w #[.int .i64 e0] h1 (fun v hv=>by simp at hv;subst hv;rfl) (by simp)
 have hr:(execOp a.eval o).run Tryz.prog w= .ok (.value (.tuple #[])) { w with heap:=w.heap.setIfInBounds p (.cells #[.int .i64 n] 118 (0,0)) }:=by
  rw [hex hN,J9.run,Rm];simp only [Sem.run_bind,Dv,Fp,Result.andThen_ok];simp at hst;simp [ReflectliteValue.flagAddr,hl,mk,Ec,storeVar,E4.size,Value.cells,hst]
 rw [hr]
 refine k () S _ _ (mj hd ⟨_,List.mem_cons_self ..,rfl⟩ _) rfl ⟨fun d hd=>?_,fun b' hb'=>?_,?_⟩ (fun b' ⟨d,hd,e⟩=>.inl ?_)
 ·
  simp at hd;rcases hd with rfl |rfl
  ·exact⟨[.int .i64 n],by simp [op.2],rfl,rfl⟩
  ·exact⟨[.int .i64 n],by simp [Array.getElem?_setIfInBounds_ne hne,h2],rfl,rfl⟩
 ·
  obtain⟨d,hd,e⟩:=hb';simp at hd;rcases hd with rfl |rfl
  ·cases e;exact⟨op.1,by simpa using op.2⟩
  ·cases e;exact⟨ob.1,by simpa using ob.2⟩
 ·
  refine List.pairwise_cons.2 ⟨fun d hd b' e e'=>?_,List.pairwise_singleton _ _⟩;simp at hd;subst hd;cases e;cases e';exact hne rfl
 ·
  simp at hd;rcases hd with rfl |rfl
  ·exact⟨_,List.mem_cons_self ..,e⟩
  ·exact⟨_,List.mem_cons_of_mem _ (List.mem_singleton.2 rfl),e⟩
end Go.Proofs.YtcnpijmfgfnpiaaGreatDoor
set_option linter.unusedVariables false
set_option maxRecDepth 20000
set_option maxHeartbeats 4000000
namespace Go.Proofs.YtcnpijmfgfnpiaaGreatDoor
open K Go Go.Proofs Go.Extern
theorem Nr:∀w,(zeroValue 182).run Tryz.prog w= .ok (.agg #[.pointer none,.pointer none,.int .u64 0]) w:=fun w=>by kernel_rfl
theorem PU:∀S w,(A.cells S w (.agg (.pair (.eq (.pointer none)) (.pair (.eq (.pointer none)) (.eq (.int .u64 0))))) (Value.cells (.agg #[.pointer none,.pointer none,.int .u64 0])).toList):=fun _ _=>⟨[_],_,rfl,⟨rfl,rfl⟩,[_],_,rfl,⟨rfl,rfl⟩,rfl,rfl⟩
theorem yu:dp Tryz.prog 182 3 true:=⟨fun w=>by kernel_rfl,fun w=>by kernel_rfl⟩
def gx:Obj→Prop:=fun o=>o= .cells #[rf] 185 (0,0)
theorem DD{M:Md Tryz.prog}{o:Oper}{x:Operand}(ho:o.op= .load 185 x):bi M o [(x,.eq (.pointer (some ⟨0,0,none⟩)))] [.inv 0 gx] (fun _:Unit=>(.eq rf,[.inv 0 gx])):=
 .val1 (hcm:=fun o h=>by cases h;rfl) fun S w a h hs=>by
  have e:a.eval x= .pointer (some ⟨0,0,none⟩):=h.1
  obtain⟨ob,h1,rfl⟩:=hs
  have hsz:∀w,(sizeOf 185).run Tryz.prog w= .ok 1 w:=fun w=>by kernel_rfl
  have hag:∀w,(isAgg 185).run Tryz.prog w= .ok false w:=fun w=>by kernel_rfl
  have hc:w.cell? ⟨0,0,none⟩=some rf:=by simp [World.cell?,h1]
  refine⟨rf,?_,rfl⟩
  simp [execOp,ho,Instr.loadAt,e,Instr.sureAddr,loadVar,hsz,hag,hc]
theorem Pn:ag Tryz.prog 133:=ag.of Tryz.func133 (by kernel_rfl) (by kernel_rfl)
theorem OT:ag Tryz.prog 93:=ag.of Tryz.func93 (by kernel_rfl) (by kernel_rfl)
theorem yb{n:Nat}:true=false→n=1:=fun h=>nomatch h
def NT:Nat→Unit→Option Unit
 |0,_=>none
 |_+1,_=>some ()
theorem MI{a p:Nat}{n e0:Int}:co Tryz.prog 133 [.eq (.iface 118 (.agg #[.int .i64 n])),.any,Nb 123 a 150,.eq (.iface 221 (.agg #[hd 118]))] [.obj a 123 (.eq (.pointer (some ⟨p,0,none⟩))),.obj p 118 (.agg (.eq (.int .i64 e0)))]
 (fun _:Unit=>(bz [.eq (.bool true)],[.obj a 123 (.eq (.pointer (some ⟨p,0,none⟩))),.obj p 118 (.agg (.eq (.int .i64 n)))])):=by
 refine co.of 62 Tryz.func133 rfl Tryz.ntmps133 rfl fun S w0=>?_
 refine ah ?_
 refine aa ?_
 refine aB rfl rfl rfl (nq rfl trivial) ⟨rfl,trivial⟩ fun b6=>?_
 refine dx rfl ?_
 refine ak ?_
 refine ae ?_
 show JC _ _ _ _ _
 refine ao ?_
 have h:(NT 1 ()).bind some=some ():=rfl
 refine aR (Z:=Unit) (α:=Unit) (fun _ _=>[(0,.eq (.iface 118 (.agg #[.int .i64 n]))),(3,.eq (.iface 221 (.agg #[hd 118]))),(6,.eq (.pointer (some ⟨b6,0,none⟩)))]) (fun _ _=>[.obj b6 182 (Nb 123 a 150),.obj a 123 (.eq (.pointer (some ⟨p,0,none⟩))),.obj p 118 (.agg (.eq (.int .i64 e0)))]) NT 1 () () (fun _=>rfl) h (SE.fin [0,1,2] ⟨rfl,rfl,rfl,trivial⟩ rfl) (fun _ _ _ _=>?_)
 refine ao ?_
 refine ah ?_
 refine ah ?_
 refine aa ?_
 refine ax rfl rfl ?_
 refine ay rfl (FO NC [.tmp 16] [.iface 118 (.agg #[.int .i64 n])] rfl rfl rfl (C7 _) (DG _)) ⟨rfl,trivial⟩ ?_
 refine ax rfl rfl ?_
 refine ay rfl (yM Nz [.tmp 18] [.iface 221 (.agg #[hd 118])] rfl rfl rfl (N7 118) JG IK) ⟨rfl,rfl,trivial⟩ ?_
 refine ak ?_
 refine ae ?_
 show JC _ _ _ _ _
 refine bm rfl (fun hb=>?_) (fun hb=>(by cases hb))
 refine ah ?_
 refine aa ?_
 refine bI rfl rfl rfl (aj rfl yu (yb) rfl) ⟨rfl,trivial⟩ ?_
 refine bg 1 rfl ?_
 refine bI rfl rfl rfl (cP (N:=[(.tmp 20,Nb 123 a 150)]) (FN NA [.tmp 20] [rU 123 a 150] rfl rfl rfl (fun _ _ h=>Hh h) za trivial) fun _ _ _ hn=>⟨xO hn.1,trivial⟩) ⟨rfl,trivial⟩ ?_
 refine ax rfl rfl ?_
 refine aB rfl rfl rfl (FM (T:=118) (v:=fun b=>rU 118 b 153) Ko [.tmp 22] [.iface 118 (.agg #[.int .i64 n])] rfl rfl rfl (Ad n) rfl (vi n)) ⟨rfl,trivial⟩ fun b23=>?_
 refine bg 3 rfl ?_
 refine bG (Δ:=[_,_]) (F:=_) (fun _ _ _=>au rfl _) rfl rfl (FB rfl rfl) ⟨rfl,rfl,trivial⟩ fun _=>?_
 refine ak ?_
 refine ae ?_
 show JC _ _ _ _ _
 refine ah ?_
 refine aa ?_
 refine dx rfl ?_
 refine ak ?_
 refine ae ?_
 show JC _ _ _ _ _
 refine aC ?_
 refine ba ?_
 refine bQ ?_
 refine ba ?_
 refine bQ ?_
 refine bN (SE.fin (Γ':=[(8,_)]) [2,0,1,3] ⟨rfl,trivial⟩ rfl) ?_
 exact aK () [.eq (.bool true)] 2 ⟨rfl,trivial⟩ rfl
theorem MH{v:Value}{p:Nat}{n:Int}:co Tryz.prog 93 [.eq .nilIface,.eq v] [.obj p 118 (.agg (.eq (.int .i64 n))),.inv 0 gx] (fun _:Unit=>(bz [.eq (.bool false)],[.obj p 118 (.agg (.eq (.int .i64 n))),.inv 0 gx])):=by
 refine co.of 42 Tryz.func93 rfl Tryz.ntmps93 rfl fun S w0=>?_;refine ah ?_;refine aa ?_;refine dx rfl ?_;refine ak ?_;refine ae ?_;show JC _ _ _ _ _;refine ah ?_;refine ah ?_;refine aa ?_;refine ax rfl rfl ?_;refine ay rfl (qS rfl Tryz.underlying121 rfl) ⟨rfl,rfl,trivial⟩ ?_;refine ak ?_;refine ae ?_;show JC _ _ _ _ _;refine bm rfl (fun hb=>?_) (fun hb=>(by cases hb));refine ah ?_;refine aa ?_;refine dx rfl ?_;refine ak ?_;refine ae ?_;show JC _ _ _ _ _;refine aC ?_;refine ba ?_;exact aK () [.eq (.bool false)] 2 ⟨rfl,trivial⟩ rfl
theorem JH{p:Nat}{n e0:Int}:co Tryz.prog 93 [.eq (.iface 118 (.agg #[.int .i64 n])),.eq (.iface 123 (.pointer (some ⟨p,0,none⟩)))] [.obj p 118 (.agg (.eq (.int .i64 e0))),.inv 0 gx]
 (fun _:Unit=>(bz [.eq (.bool true)],[.obj p 118 (.agg (.eq (.int .i64 n))),.inv 0 gx])):=by
 refine co.of 42 Tryz.func93 rfl Tryz.ntmps93 rfl fun S w0=>?_
 refine ah ?_
 refine aa ?_
 refine dx rfl ?_
 refine ak ?_
 refine ae ?_
 show JC _ _ _ _ _
 refine ah ?_
 refine ah ?_
 refine aa ?_
 refine ax rfl rfl ?_
 refine ay rfl (qS rfl Tryz.underlying121 rfl) ⟨rfl,rfl,trivial⟩ ?_
 refine ak ?_
 refine ae ?_
 show JC _ _ _ _ _
 refine bm rfl (fun hb=>(by cases hb)) (fun hb=>?_)
 refine aV ?_
 refine ae ?_
 show JC _ _ _ _ _
 refine ah ?_
 refine ah ?_
 refine aa ?_
 refine ax rfl rfl ?_
 refine ay rfl (qS rfl Tryz.underlying20 rfl) ⟨rfl,rfl,trivial⟩ ?_
 refine ak ?_
 refine ae ?_
 show JC _ _ _ _ _
 refine bm rfl (fun hb=>(by cases hb)) (fun hb=>?_)
 refine aV ?_
 refine ae ?_
 show JC _ _ _ _ _
 refine ah ?_
 refine aa ?_
 refine ax rfl rfl ?_
 refine aB rfl rfl rfl (FM (T:=123) (v:=fun b=>rU 123 b 150) Ko [.tmp 13] [.iface 123 (.pointer (some ⟨p,0,none⟩))] rfl rfl rfl (Ac _) rfl (vg _)) ⟨rfl,trivial⟩ fun a=>?_
 refine bX (rC 14 rfl fun _ _ _ h=>JL rfl rfl rfl h) ?_
 refine aB rfl rfl rfl (aS rfl Nr PU) trivial fun b5=>?_
 refine aX rfl rfl (aP rfl yu trivial rfl rfl) ⟨rfl,rfl,trivial⟩ ?_
 refine ak ?_
 refine ae ?_
 show JC _ _ _ _ _
 refine ah ?_
 refine aa ?_
 refine bI rfl rfl rfl (aj rfl yu (yb) rfl) ⟨rfl,trivial⟩ ?_
 refine ay rfl (cP (N:=[(.tmp 15,Nb 123 a 150)]) (FO NE [.tmp 15] [rU 123 a 150] rfl rfl rfl (Ic _) (AM _)) fun _ _ _ hn=>⟨xO hn.1,trivial⟩) ⟨rfl,trivial⟩ ?_
 refine c9 rfl rfl ?_
 refine ak ?_
 refine ae ?_
 show JC _ _ _ _ _
 refine ah ?_
 refine ah ?_
 refine aa ?_
 refine ax rfl rfl ?_
 refine ay rfl (yM J8 [] [] rfl rfl rfl (KD 123) IT (BM 123 (.inl rfl))) ⟨rfl,trivial⟩ ?_
 refine ay rfl (kf rfl) ⟨rfl,rfl,trivial⟩ ?_
 refine ax rfl rfl ?_
 refine oG rfl rfl rfl rfl rfl rfl (aj rfl yu (yb) rfl) ⟨rfl,trivial⟩ ?_
 refine bg 1 rfl ?_
 refine oG rfl rfl rfl rfl rfl rfl (cP (N:=[(.tmp 21,Nb 123 a 150)]) (FN ND [.tmp 21] [rU 123 a 150] rfl rfl rfl (fun _ _ h=>GL h) yV trivial) fun _ _ _ hn=>⟨xO hn.1,trivial⟩) ⟨rfl,trivial⟩ ?_
 refine ay rfl (nP rfl) ⟨rfl,rfl,trivial⟩ ?_
 refine ak ?_
 refine ae ?_
 show JC _ _ _ _ _
 refine bm rfl (fun hb=>(by cases hb)) (fun hb=>?_)
 refine aV ?_
 refine ae ?_
 show JC _ _ _ _ _
 refine ah ?_
 refine aa ?_
 refine ax rfl rfl ?_
 refine ay rfl (yM Ny [] [] rfl rfl rfl (N6 123) Jt II) ⟨rfl,trivial⟩ ?_
 refine c9 rfl rfl ?_
 refine ak ?_
 refine ae ?_
 show JC _ _ _ _ _
 refine ah ?_
 refine ah ?_
 refine aa ?_
 refine ax rfl rfl ?_
 refine ay rfl (yM J8 [] [] rfl rfl rfl (KD 118) IU (BM 118 (.inr rfl))) ⟨rfl,trivial⟩ ?_
 refine ay rfl (kf rfl) ⟨rfl,rfl,trivial⟩ ?_
 refine ax rfl rfl ?_
 refine lY rfl rfl rfl rfl rfl rfl (bU rfl) ⟨rfl,trivial⟩ ?_
 refine bg 3 rfl ?_
 refine oG rfl rfl rfl rfl rfl rfl (DD rfl) ⟨rfl,trivial⟩ ?_
 refine lY rfl rfl rfl rfl rfl rfl (yM Nw [.tmp 32] [rf] rfl rfl rfl (N5 118) IX IH) ⟨rfl,rfl,trivial⟩ ?_
 refine lY rfl rfl rfl rfl rfl rfl (fJ rfl) ⟨rfl,trivial⟩ ?_
 refine ay rfl (mo rfl) ⟨rfl,rfl,trivial⟩ ?_
 refine ak ?_
 refine ae ?_
 show JC _ _ _ _ _
 refine bm rfl (fun hb=>(by cases hb)) (fun hb=>?_)
 refine aV ?_
 refine ae ?_
 show JC _ _ _ _ _
 refine ah ?_
 refine aa ?_
 refine ax rfl rfl ?_
 refine ax rfl rfl ?_
 refine bg 2 rfl ?_
 refine bI rfl rfl rfl (aj rfl yu (yb) rfl) ⟨rfl,trivial⟩ ?_
 refine ax rfl rfl ?_
 refine bg 3 rfl ?_
 refine bg 3 rfl ?_
 refine bG (Δ:=[_,_]) (F:=_) (fun _ _ _=>au rfl _) rfl rfl (cP (N:=[(.tmp 37,.eq (.iface 118 (.agg #[.int .i64 n]))),(.tmp 38,.eq (.iface 123 (.pointer (some ⟨p,0,none⟩)))),(.tmp 39,Nb 123 a 150),(.tmp 40,.eq (.iface 221 (.agg #[hd 118])))])
  (an [.tmp 37,.tmp 38,.tmp 39,.tmp 40] rfl rfl Pn rfl (MI (a:=a) (p:=p) (n:=n) (e0:=e0))) fun _ _ _ hn=>⟨hn.1,trivial,hn.2.2.1,hn.2.2.2.1,trivial⟩) ⟨rfl,rfl,rfl,rfl,trivial⟩ fun _=>?_
 refine c9 rfl rfl ?_
 refine ak ?_
 refine ae ?_
 show JC _ _ _ _ _
 refine aC ?_
 refine bN (SE.fin (Γ':=[(4,_)]) [1,3,0,2] ⟨rfl,trivial⟩ rfl) ?_
 exact aK () [.eq (.bool true)] 2 ⟨rfl,trivial⟩ rfl
def Qg:Value→Option (Option Int)
 | .nilIface=>some none
 | .iface t (.agg cs)=>if t=118 then(match cs.toList with |[.int .i64 n]=>some (some n) |_=>none) else none
 |_=>none
theorem Ht{v:Value}{q:Option Int}(h:Qg v=some q):(v= .nilIface∧q=none)∨∃n,v= .iface 118 (.agg #[.int .i64 n])∧q=some n:=by
 unfold Qg at h;split at h
 ·cases h;exact .inl ⟨rfl,rfl⟩
 ·rename_i t cs;split at h
  ·rename_i e;split at h
   ·rename_i n hn;cases h;obtain⟨l⟩:=cs;cases hn;exact .inr ⟨n,by rw [e],rfl⟩
   ·cases h
  ·cases h
 ·cases h
theorem PO{v:Value}{q:Option Int}{p:Nat}{e0:Int}(h:Qg v=some q):co Tryz.prog 93 [.eq v,.eq (.iface 123 (.pointer (some ⟨p,0,none⟩)))] [.obj p 118 (.agg (.eq (.int .i64 e0))),.inv 0 gx]
 (fun _:Unit=>(bz [.eq (.bool q.isSome)],[.obj p 118 (.agg (.eq (.int .i64 (q.getD e0)))),.inv 0 gx])):=by
 rcases Ht h with⟨rfl,rfl⟩ |⟨n,rfl,rfl⟩
 ·
  exact MH
 ·
  exact JH
end Go.Proofs.YtcnpijmfgfnpiaaGreatDoor
