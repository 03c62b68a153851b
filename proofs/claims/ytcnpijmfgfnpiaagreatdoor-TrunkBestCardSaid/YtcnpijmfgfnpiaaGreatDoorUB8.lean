import Derived.Test.YtcnpijmfgfnpiaaGreatDoorUTr6
set_option linter.unusedSimpArgs false
set_option linter.unusedVariables false
set_option maxRecDepth 20000
set_option maxHeartbeats 4000000
namespace Go.Proofs.YtcnpijmfgfnpiaaGreatDoor
open K Go Go.Proofs Go.Extern
theorem yH{x:Option (Nat×Addr×Nat)}{z:Sem Value}{f:Nat→Addr→Nat→Nat→Sem Value}{T:Nat}{a:Addr}{fl:Nat}(h:x=some (T,a,fl))(hf:Ns Tryz.prog (f T a fl (fl % 32))):Ns Tryz.prog (match x with |none=>z |some (t,a,fl)=>f t a fl (fl % 32)):=by
 subst h;exact hf
theorem Gq{a b:Nat}{S:FS}{w:World}(h:(D.obj a 123 (.eq (.pointer (some ⟨b,0,none⟩)))).holds S w):
 (ReflectliteValue.method (ReflectliteValue.valueError "reflectlite.Value.IsNil" 0) ReflectliteValue.isNil #[rV 123 a 150]).run Tryz.prog w= .ok (.bool false) w:=by
 obtain⟨cs,h1,rfl,_⟩:=h
 rw [P0]
 simp only [Sem.run_bind,yk,Result.andThen_ok]
 have hl:=ff J7 (fun _=>rfl) h1 (off:=0) (by simp)
 simp [ReflectliteValue.isNil,hl,mk]
theorem yA{a:Nat}:Ns Tryz.prog (ReflectliteValue.method (ReflectliteValue.valueError "reflectlite.Value.IsNil" 0) ReflectliteValue.isNil #[rV 123 a 150]):=by
 rw [P0];refine fK (q:=fun x=>x=some (123,⟨a,0,none⟩,150)) (nr (by kernel_rfl)) (show Pq Tryz.prog _ _ from Eq.mpr (show Pq Tryz.prog (fun x=>x=some (123,⟨a,0,none⟩,150)) (ReflectliteValue.parts (rV 123 a 150))=(some (123,(⟨a,0,none⟩:Addr),150)=some (123,⟨a,0,none⟩,150)) by kernel_rfl) rfl) fun x hx=>yH hx ?_;unfold ReflectliteValue.isNil;simp only [List.contains,List.elem];refine ai kZ fun v=>?_;split <;> trivial
theorem yG{a:Nat}:Ns Tryz.prog (ReflectliteValue.method (ReflectliteValue.valueError "reflectlite.Value.Elem" 0) ReflectliteValue.elem #[rV 123 a 150]):=by
 rw [P0];refine fK (q:=fun x=>x=some (123,⟨a,0,none⟩,150)) (nr (by kernel_rfl)) (show Pq Tryz.prog _ _ from Eq.mpr (show Pq Tryz.prog (fun x=>x=some (123,⟨a,0,none⟩,150)) (ReflectliteValue.parts (rV 123 a 150))=(some (123,(⟨a,0,none⟩:Addr),150)=some (123,⟨a,0,none⟩,150)) by kernel_rfl) rfl) fun x hx=>yH hx ?_;unfold ReflectliteValue.elem;refine ai kZ fun v=>?_;refine fK (q:=fun x=>x=some 118) (nr (by kernel_rfl)) (show Pq Tryz.prog _ _ from Eq.mpr (show Pq Tryz.prog (fun x=>x=some 118) (Rtype.elem? 123)=(some 118=some 118) by kernel_rfl) rfl) fun x hx=>?_;subst hx;have ve:∀n,Ns Tryz.prog (ReflectliteValue.valueError "reflectlite.Value.Elem" n:Sem Value):=fun n=>ai (nr (by kernel_rfl)) fun t=>ai (ai aE fun d=>by split <;> trivial) fun e=>ai jp fun _=>trivial;have mk':∀p,Ns Tryz.prog (ReflectliteValue.mk 118 p ReflectliteValue.flagAddr):=fun p=>nr (by kernel_rfl);cases v with
 |pointer q=>cases q with
  |none=>trivial
  |some q=>exact mk' q
 |_=>exact ve _
theorem G1{a b:Nat}{S:FS}{w:World}(h:(D.obj a 123 (.eq (.pointer (some ⟨b,0,none⟩)))).holds S w):
 (ReflectliteValue.method (ReflectliteValue.valueError "reflectlite.Value.Elem" 0) ReflectliteValue.elem #[rV 123 a 150]).run Tryz.prog w= .ok (rV 118 b 409) w:=by
 obtain⟨cs,h1,rfl,_⟩:=h
 rw [P0]
 simp only [Sem.run_bind,yk,Result.andThen_ok]
 have hl:=ff J7 (fun _=>rfl) h1 (off:=0) (by simp)
 have e1:(Rtype.elem? 123).run Tryz.prog w= .ok (some 118) w:=by kernel_rfl
 have e2:(ReflectliteValue.mk 118 ⟨b,0,none⟩ ReflectliteValue.flagAddr).run Tryz.prog w= .ok (rV 118 b 409) w:=by kernel_rfl
 simp [ReflectliteValue.elem,hl,mk,e1,e2]
theorem Q9(v x:Value):ReflectliteValue.set #[v,x]=(do
 let (some (dst,a,fl),some (src,b,_)):=(←ReflectliteValue.parts v,←ReflectliteValue.parts x)
  |unsupported (.noEntry "extern/(internal/reflectlite.Value).Set.zeroValue")
 if fl / ReflectliteValue.flagAddr % 2 == 0 then unsupported (.noEntry "extern/(internal/reflectlite.Value).Set.unaddressable")
 let val←loadVar src b
 if←Rtype.directlyAssignable dst src then storeVar dst a val
 else if←Rtype.implements dst src then
  if(←Rtype.kind src) == 20 then
   match val with
   | .nilIface=>unsupported (.noEntry "extern/reflectlite: a nil value of one interface type handed on as a value of another")
   |_=>storeVar dst a val
  else storeVar dst a (.iface src val)
 else panicString ("reflectlite.Set: value of type " ++(←Rtype.spelt src)++ " is not assignable to type " ++(←Rtype.spelt dst))
 pure (.tuple #[])):=rfl
theorem Df(a:Addr)(w:World):(ReflectliteValue.parts (.agg #[hd 118,.pointer (some a),.int .u64 409])).run Tryz.prog w= .ok (some (118,a,409)) w:=by kernel_rfl
theorem E3(a:Addr)(w:World):(ReflectliteValue.parts (.agg #[hd 118,.pointer (some a),.int .u64 153])).run Tryz.prog w= .ok (some (118,a,153)) w:=by kernel_rfl
theorem DY(w:World):(Rtype.directlyAssignable 118 118).run Tryz.prog w= .ok true w:=by kernel_rfl
theorem Ds{p b:Nat}:Ns Tryz.prog (ReflectliteValue.set #[rV 118 p 409,rV 118 b 153]):=by
 rw [Q9];refine fK (q:=fun x=>x=some (118,⟨p,0,none⟩,409)) (nr (by kernel_rfl)) (show Pq Tryz.prog _ _ from Eq.mpr (show Pq Tryz.prog (fun x=>x=some (118,⟨p,0,none⟩,409)) (ReflectliteValue.parts (rV 118 p 409))=(some (118,(⟨p,0,none⟩:Addr),409)=some (118,⟨p,0,none⟩,409)) by kernel_rfl) rfl) fun x hx=>?_;subst hx;refine fK (q:=fun x=>x=some (118,⟨b,0,none⟩,153)) (nr (by kernel_rfl)) (show Pq Tryz.prog _ _ from Eq.mpr (show Pq Tryz.prog (fun x=>x=some (118,⟨b,0,none⟩,153)) (ReflectliteValue.parts (rV 118 b 153))=(some (118,(⟨b,0,none⟩:Addr),153)=some (118,⟨b,0,none⟩,153)) by kernel_rfl) rfl) fun x hx=>?_;subst hx;refine ai kZ fun v=>?_;refine fK (q:=fun x=>x=true) (nr (by kernel_rfl)) (show Pq Tryz.prog _ _ from Eq.mpr (show Pq Tryz.prog (fun x=>x=true) (Rtype.directlyAssignable 118 118)=(true=true) by kernel_rfl) rfl) fun x hx=>?_;subst hx;exact ai sR fun _=>trivial
theorem EO:dx Tryz.prog 118 1 true:=⟨fun w=>by kernel_rfl,fun w=>by kernel_rfl⟩
theorem Fa{M:Md Tryz.prog}{o:Oper}{x y:Operand}{c:Call}{ts:Array TypeId}{p b:Nat}{e0 n:Int}(ho:o.op= .call c)(hc:c={ callee:=.value (.func 162),args:=[x,y].toArray,argTypes:=ts }):
 bI M o [(x,.eq (rV 118 p 409)),(y,.eq (rV 118 b 153))] [.obj p 118 (.agg (.eq (.int .i64 e0))),.obj b 118 (.eq (.int .i64 n))] (fun _:Unit=>(.eq (.tuple #[]),[.obj p 118 (.agg (.eq (.int .i64 n))),.obj b 118 (.eq (.int .i64 n))])):=by
 have hex:∀{S:FS} {w:World} {a:Act},bb S w a [(x,.eq (rV 118 p 409)),(y,.eq (rV 118 b 153))]→execOp a.eval o=callFunc 162 #[rV 118 p 409,rV 118 b 153]:=fun {S w a} hN=>jV (xs:=[x,y]) (vs:=[rV 118 p 409,rV 118 b 153]) ho hc (g9 rfl hN)
 refine ig ⟨by simp only [nd, *],fun S w a next hd hN hO k=>?_⟩ (fun _ _ a hN _=>by rw [hex hN];exact J2.ns _ Ds) (fun d hd=>by simp at hd;rcases hd with rfl |rfl <;> trivial)
 obtain⟨cs1,h1,⟨rfl,_⟩⟩:=hO.holds (.obj p 118 (.agg (.eq (.int .i64 e0)))) (by simp)
 obtain⟨cs2,h2,⟨rfl,_⟩⟩:=hO.holds (.obj b 118 (.eq (.int .i64 n))) (by simp)
 have hne:p≠b:=fun e=>by
  have:=hO.apart;simp only [List.pairwise_cons] at this;exact this.1 _ (List.mem_singleton.2 rfl) p rfl (by rw [e];rfl)
 have op:=hO.own p ⟨_,List.mem_cons_self ..,rfl⟩
 have ob:=hO.own b ⟨_,List.mem_cons_of_mem _ (List.mem_singleton.2 rfl),rfl⟩
 have hl:=ff EO (fun h=>by cases h) h2 (off:=0) (by simp)
 have hst:=gY Tryz.prog p 118 0 [.int .i64 n] 0 w #[.int .i64 e0] h1 (fun v hv=>by simp at hv;subst hv;rfl) (by simp)
 have hr:(execOp a.eval o).run Tryz.prog w= .ok (.value (.tuple #[])) { w with heap:=w.heap.setIfInBounds p (.cells #[.int .i64 n] 118 (0,0)) }:=by
  rw [hex hN,J2.run,Q9];simp only [Sem.run_bind,Df,E3,Result.andThen_ok];simp at hst;simp [ReflectliteValue.flagAddr,hl,mk,DY,storeVar,EO.size,Value.cells,hst]
 rw [hr]
 refine k () S _ _ (mr hd ⟨_,List.mem_cons_self ..,rfl⟩ _) rfl ⟨fun d hd=>?_,fun b' hb'=>?_,?_⟩ (fun b' ⟨d,hd,e⟩=>.inl ?_)
 ·
  simp at hd;rcases hd with rfl |rfl
  ·exact⟨[.int .i64 n],by simp [op.2],rfl,rfl⟩
  ·exact⟨[.int .i64 n],by simp [Array.getElem?_setIfInBounds_ne hne,h2],rfl,rfl⟩
 ·
  obtain⟨d,hd,e⟩:=hb';simp at hd;rcases hd with rfl |rfl
  ·cases e;exact⟨op.1,by simpa using op.2⟩
  ·cases e;exact⟨ob.1,by simpa using ob.2⟩
 ·
  refine List.pairwise_cons.2 ⟨fun d hd b' e e'=>?_,List.pairwise_singleton _ _⟩;simp at hd;subst hd;cases e;cases e';exact hne rfl
 ·
  simp at hd;rcases hd with rfl |rfl
  ·exact⟨_,List.mem_cons_self ..,e⟩
  ·exact⟨_,List.mem_cons_of_mem _ (List.mem_singleton.2 rfl),e⟩
end Go.Proofs.YtcnpijmfgfnpiaaGreatDoor
set_option linter.unusedVariables false
set_option maxRecDepth 20000
set_option maxHeartbeats 4000000
namespace Go.Proofs.YtcnpijmfgfnpiaaGreatDoor
open K Go Go.Proofs Go.Extern
theorem Nk:∀w,(zeroValue 182).run Tryz.prog w= .ok (.agg #[.pointer none,.pointer none,.int .u64 0]) w:=fun w=>by kernel_rfl
theorem PL:∀S w,(A.cells S w (.agg (.pair (.eq (.pointer none)) (.pair (.eq (.pointer none)) (.eq (.int .u64 0))))) (Value.cells (.agg #[.pointer none,.pointer none,.int .u64 0])).toList):=fun _ _=>⟨[_],_,rfl,⟨rfl,rfl⟩,[_],_,rfl,⟨rfl,rfl⟩,rfl,rfl⟩
theorem yc:dx Tryz.prog 182 3 true:=⟨fun w=>by kernel_rfl,fun w=>by kernel_rfl⟩
def eF:Obj→Prop:=fun o=>o= .cells #[rc] 185 (0,0)
theorem Dm{M:Md Tryz.prog}{o:Oper}{x:Operand}(ho:o.op= .load 185 x):bI M o [(x,.eq (.pointer (some ⟨0,0,none⟩)))] [.inv 0 eF] (fun _:Unit=>(.eq rc,[.inv 0 eF])):=
 .val1 (hcm:=fun o h=>by cases h;rfl) fun S w a h hs=>by
  have e:a.eval x= .pointer (some ⟨0,0,none⟩):=h.1
  obtain⟨ob,h1,rfl⟩:=hs
  have hsz:∀w,(sizeOf 185).run Tryz.prog w= .ok 1 w:=fun w=>by kernel_rfl
  have hag:∀w,(isAgg 185).run Tryz.prog w= .ok false w:=fun w=>by kernel_rfl
  have hc:w.cell? ⟨0,0,none⟩=some rc:=by simp [World.cell?,h1]
  refine⟨rc,?_,rfl⟩
  simp [execOp,ho,Instr.loadAt,e,Instr.sureAddr,loadVar,hsz,hag,hc]
theorem O8:ag Tryz.prog 133:=ag.of Tryz.func133 (by kernel_rfl) (by kernel_rfl)
theorem QG:ag Tryz.prog 93:=ag.of Tryz.func93 (by kernel_rfl) (by kernel_rfl)
theorem xH{n:Nat}:true=false→n=1:=fun h=>nomatch h
def NN:Nat→Unit→Option Unit
 |0,_=>none
 |_+1,_=>some ()
theorem MD{a p:Nat}{n e0:Int}:cd Tryz.prog 133 [.eq (.iface 118 (.agg #[.int .i64 n])),.any,M6 123 a 150,.eq (.iface 221 (.agg #[hd 118]))] [.obj a 123 (.eq (.pointer (some ⟨p,0,none⟩))),.obj p 118 (.agg (.eq (.int .i64 e0)))]
 (fun _:Unit=>(bv [.eq (.bool true)],[.obj a 123 (.eq (.pointer (some ⟨p,0,none⟩))),.obj p 118 (.agg (.eq (.int .i64 n)))])):=by
 refine cd.of 62 Tryz.func133 rfl Tryz.ntmps133 rfl fun S w0=>?_
 refine ah ?_
 refine aa ?_
 refine aD rfl rfl rfl (nq rfl trivial) ⟨rfl,trivial⟩ fun b6=>?_
 refine dA rfl ?_
 refine ak ?_
 refine ae ?_
 show JC _ _ _ _ _
 refine aj ?_
 have h:(NN 1 ()).bind some=some ():=rfl
 refine aH (Z:=Unit) (α:=Unit) (fun _ _=>[(0,.eq (.iface 118 (.agg #[.int .i64 n]))),(3,.eq (.iface 221 (.agg #[hd 118]))),(6,.eq (.pointer (some ⟨b6,0,none⟩)))]) (fun _ _=>[.obj b6 182 (M6 123 a 150),.obj a 123 (.eq (.pointer (some ⟨p,0,none⟩))),.obj p 118 (.agg (.eq (.int .i64 e0)))]) NN 1 () () (fun _=>rfl) h (SE.fin [0,1,2] ⟨rfl,rfl,rfl,trivial⟩ rfl) (fun _ _ _ _=>?_)
 refine aj ?_
 refine ah ?_
 refine ah ?_
 refine aa ?_
 refine aw rfl rfl ?_
 refine aA rfl (Ft Nu [.tmp 16] [.iface 118 (.agg #[.int .i64 n])] rfl rfl rfl (CX _) (Dq _)) ⟨rfl,trivial⟩ ?_
 refine aw rfl rfl ?_
 refine aA rfl (yq Nq [.tmp 18] [.iface 221 (.agg #[hd 118])] rfl rfl rfl (NZ 118) Jt IG) ⟨rfl,rfl,trivial⟩ ?_
 refine ak ?_
 refine ae ?_
 show JC _ _ _ _ _
 refine bB rfl (fun hb=>?_) (fun hb=>(by cases hb))
 refine ah ?_
 refine aa ?_
 refine bT rfl rfl rfl (an rfl yc (xH) rfl) ⟨rfl,trivial⟩ ?_
 refine bq 1 rfl ?_
 refine bT rfl rfl rfl (dt (N:=[(.tmp 20,M6 123 a 150)]) (Fq Nr [.tmp 20] [rV 123 a 150] rfl rfl rfl (fun _ _ h=>G1 h) yG trivial) fun _ _ _ hn=>⟨xu hn.1,trivial⟩) ⟨rfl,trivial⟩ ?_
 refine aw rfl rfl ?_
 refine aD rfl rfl rfl (Fp (T:=118) (v:=fun b=>rV 118 b 153) J3 [.tmp 22] [.iface 118 (.agg #[.int .i64 n])] rfl rfl rfl (zR n) rfl (uW n)) ⟨rfl,trivial⟩ fun b23=>?_
 refine bq 3 rfl ?_
 refine bH (Δ:=[_,_]) (F:=_) (fun _ _ _=>au rfl _) rfl rfl (Fa rfl rfl) ⟨rfl,rfl,trivial⟩ fun _=>?_
 refine ak ?_
 refine ae ?_
 show JC _ _ _ _ _
 refine ah ?_
 refine aa ?_
 refine dA rfl ?_
 refine ak ?_
 refine ae ?_
 show JC _ _ _ _ _
 refine aB ?_
 refine aX ?_
 refine bM ?_
 refine aX ?_
 refine bM ?_
 refine bS (SE.fin (Γ':=[(8,_)]) [2,0,1,3] ⟨rfl,trivial⟩ rfl) ?_
 exact aJ () [.eq (.bool true)] 2 ⟨rfl,trivial⟩ rfl
theorem MC{v:Value}{p:Nat}{n:Int}:cd Tryz.prog 93 [.eq .nilIface,.eq v] [.obj p 118 (.agg (.eq (.int .i64 n))),.inv 0 eF] (fun _:Unit=>(bv [.eq (.bool false)],[.obj p 118 (.agg (.eq (.int .i64 n))),.inv 0 eF])):=by
 refine cd.of 42 Tryz.func93 rfl Tryz.ntmps93 rfl fun S w0=>?_;refine ah ?_;refine aa ?_;refine dA rfl ?_;refine ak ?_;refine ae ?_;show JC _ _ _ _ _;refine ah ?_;refine ah ?_;refine aa ?_;refine aw rfl rfl ?_;refine aA rfl (qQ rfl Tryz.underlying121 rfl) ⟨rfl,rfl,trivial⟩ ?_;refine ak ?_;refine ae ?_;show JC _ _ _ _ _;refine bB rfl (fun hb=>?_) (fun hb=>(by cases hb));refine ah ?_;refine aa ?_;refine dA rfl ?_;refine ak ?_;refine ae ?_;show JC _ _ _ _ _;refine aB ?_;refine aX ?_;exact aJ () [.eq (.bool false)] 2 ⟨rfl,trivial⟩ rfl
theorem Ju{p:Nat}{n e0:Int}:cd Tryz.prog 93 [.eq (.iface 118 (.agg #[.int .i64 n])),.eq (.iface 123 (.pointer (some ⟨p,0,none⟩)))] [.obj p 118 (.agg (.eq (.int .i64 e0))),.inv 0 eF]
 (fun _:Unit=>(bv [.eq (.bool true)],[.obj p 118 (.agg (.eq (.int .i64 n))),.inv 0 eF])):=by
 refine cd.of 42 Tryz.func93 rfl Tryz.ntmps93 rfl fun S w0=>?_
 refine ah ?_
 refine aa ?_
 refine dA rfl ?_
 refine ak ?_
 refine ae ?_
 show JC _ _ _ _ _
 refine ah ?_
 refine ah ?_
 refine aa ?_
 refine aw rfl rfl ?_
 refine aA rfl (qQ rfl Tryz.underlying121 rfl) ⟨rfl,rfl,trivial⟩ ?_
 refine ak ?_
 refine ae ?_
 show JC _ _ _ _ _
 refine bB rfl (fun hb=>(by cases hb)) (fun hb=>?_)
 refine aO ?_
 refine ae ?_
 show JC _ _ _ _ _
 refine ah ?_
 refine ah ?_
 refine aa ?_
 refine aw rfl rfl ?_
 refine aA rfl (qQ rfl Tryz.underlying20 rfl) ⟨rfl,rfl,trivial⟩ ?_
 refine ak ?_
 refine ae ?_
 show JC _ _ _ _ _
 refine bB rfl (fun hb=>(by cases hb)) (fun hb=>?_)
 refine aO ?_
 refine ae ?_
 show JC _ _ _ _ _
 refine ah ?_
 refine aa ?_
 refine aw rfl rfl ?_
 refine aD rfl rfl rfl (Fp (T:=123) (v:=fun b=>rV 123 b 150) J3 [.tmp 13] [.iface 123 (.pointer (some ⟨p,0,none⟩))] rfl rfl rfl (zQ _) rfl (uV _)) ⟨rfl,trivial⟩ fun a=>?_
 refine co (rA 14 rfl fun _ _ _ h=>Jz rfl rfl rfl h) ?_
 refine aD rfl rfl rfl (bF rfl Nk PL) trivial fun b5=>?_
 refine a8 rfl rfl (aW rfl yc trivial rfl rfl) ⟨rfl,rfl,trivial⟩ ?_
 refine ak ?_
 refine ae ?_
 show JC _ _ _ _ _
 refine ah ?_
 refine aa ?_
 refine bT rfl rfl rfl (an rfl yc (xH) rfl) ⟨rfl,trivial⟩ ?_
 refine aA rfl (dt (N:=[(.tmp 15,M6 123 a 150)]) (Ft Nw [.tmp 15] [rV 123 a 150] rfl rfl rfl (Ic _) (Av _)) fun _ _ _ hn=>⟨xu hn.1,trivial⟩) ⟨rfl,trivial⟩ ?_
 refine dc rfl rfl ?_
 refine ak ?_
 refine ae ?_
 show JC _ _ _ _ _
 refine ah ?_
 refine ah ?_
 refine aa ?_
 refine aw rfl rfl ?_
 refine aA rfl (yq J1 [] [] rfl rfl rfl (Kv 123) IN (By 123 (.inl rfl))) ⟨rfl,trivial⟩ ?_
 refine aA rfl (iH rfl) ⟨rfl,rfl,trivial⟩ ?_
 refine aw rfl rfl ?_
 refine lm rfl rfl rfl rfl rfl rfl (an rfl yc (xH) rfl) ⟨rfl,trivial⟩ ?_
 refine bq 1 rfl ?_
 refine lm rfl rfl rfl rfl rfl rfl (dt (N:=[(.tmp 21,M6 123 a 150)]) (Fq Nv [.tmp 21] [rV 123 a 150] rfl rfl rfl (fun _ _ h=>Gq h) yA trivial) fun _ _ _ hn=>⟨xu hn.1,trivial⟩) ⟨rfl,trivial⟩ ?_
 refine aA rfl (qP rfl) ⟨rfl,rfl,trivial⟩ ?_
 refine ak ?_
 refine ae ?_
 show JC _ _ _ _ _
 refine bB rfl (fun hb=>(by cases hb)) (fun hb=>?_)
 refine aO ?_
 refine ae ?_
 show JC _ _ _ _ _
 refine ah ?_
 refine aa ?_
 refine aw rfl rfl ?_
 refine aA rfl (yq Np [] [] rfl rfl rfl (NY 123) Ji IE) ⟨rfl,trivial⟩ ?_
 refine dc rfl rfl ?_
 refine ak ?_
 refine ae ?_
 show JC _ _ _ _ _
 refine ah ?_
 refine ah ?_
 refine aa ?_
 refine aw rfl rfl ?_
 refine aA rfl (yq J1 [] [] rfl rfl rfl (Kv 118) IO (By 118 (.inr rfl))) ⟨rfl,trivial⟩ ?_
 refine aA rfl (iH rfl) ⟨rfl,rfl,trivial⟩ ?_
 refine aw rfl rfl ?_
 refine l9 rfl rfl rfl rfl rfl rfl (aZ rfl) ⟨rfl,trivial⟩ ?_
 refine bq 3 rfl ?_
 refine lm rfl rfl rfl rfl rfl rfl (Dm rfl) ⟨rfl,trivial⟩ ?_
 refine l9 rfl rfl rfl rfl rfl rfl (yq Nn [.tmp 32] [rc] rfl rfl rfl (NX 118) IQ ID) ⟨rfl,rfl,trivial⟩ ?_
 refine l9 rfl rfl rfl rfl rfl rfl (fW rfl) ⟨rfl,trivial⟩ ?_
 refine aA rfl (qO rfl) ⟨rfl,rfl,trivial⟩ ?_
 refine ak ?_
 refine ae ?_
 show JC _ _ _ _ _
 refine bB rfl (fun hb=>(by cases hb)) (fun hb=>?_)
 refine aO ?_
 refine ae ?_
 show JC _ _ _ _ _
 refine ah ?_
 refine aa ?_
 refine aw rfl rfl ?_
 refine aw rfl rfl ?_
 refine bq 2 rfl ?_
 refine bT rfl rfl rfl (an rfl yc (xH) rfl) ⟨rfl,trivial⟩ ?_
 refine aw rfl rfl ?_
 refine bq 3 rfl ?_
 refine bq 3 rfl ?_
 refine bH (Δ:=[_,_]) (F:=_) (fun _ _ _=>au rfl _) rfl rfl (dt (N:=[(.tmp 37,.eq (.iface 118 (.agg #[.int .i64 n]))),(.tmp 38,.eq (.iface 123 (.pointer (some ⟨p,0,none⟩)))),(.tmp 39,M6 123 a 150),(.tmp 40,.eq (.iface 221 (.agg #[hd 118])))])
  (ar [.tmp 37,.tmp 38,.tmp 39,.tmp 40] rfl rfl O8 rfl (MD (a:=a) (p:=p) (n:=n) (e0:=e0))) fun _ _ _ hn=>⟨hn.1,trivial,hn.2.2.1,hn.2.2.2.1,trivial⟩) ⟨rfl,rfl,rfl,rfl,trivial⟩ fun _=>?_
 refine dc rfl rfl ?_
 refine ak ?_
 refine ae ?_
 show JC _ _ _ _ _
 refine aB ?_
 refine bS (SE.fin (Γ':=[(4,_)]) [1,3,0,2] ⟨rfl,trivial⟩ rfl) ?_
 exact aJ () [.eq (.bool true)] 2 ⟨rfl,trivial⟩ rfl
def P4:Value→Option (Option Int)
 | .nilIface=>some none
 | .iface t (.agg cs)=>if t=118 then(match cs.toList with |[.int .i64 n]=>some (some n) |_=>none) else none
 |_=>none
theorem Hi{v:Value}{q:Option Int}(h:P4 v=some q):(v= .nilIface∧q=none)∨∃n,v= .iface 118 (.agg #[.int .i64 n])∧q=some n:=by
 unfold P4 at h;split at h
 ·cases h;exact .inl ⟨rfl,rfl⟩
 ·rename_i t cs;split at h
  ·rename_i e;split at h
   ·rename_i n hn;cases h;obtain⟨l⟩:=cs;cases hn;exact .inr ⟨n,by rw [e],rfl⟩
   ·cases h
  ·cases h
 ·cases h
theorem PD{v:Value}{q:Option Int}{p:Nat}{e0:Int}(h:P4 v=some q):cd Tryz.prog 93 [.eq v,.eq (.iface 123 (.pointer (some ⟨p,0,none⟩)))] [.obj p 118 (.agg (.eq (.int .i64 e0))),.inv 0 eF]
 (fun _:Unit=>(bv [.eq (.bool q.isSome)],[.obj p 118 (.agg (.eq (.int .i64 (q.getD e0)))),.inv 0 eF])):=by
 rcases Hi h with⟨rfl,rfl⟩ |⟨n,rfl,rfl⟩
 ·
  exact MC
 ·
  exact Ju
end Go.Proofs.YtcnpijmfgfnpiaaGreatDoor
