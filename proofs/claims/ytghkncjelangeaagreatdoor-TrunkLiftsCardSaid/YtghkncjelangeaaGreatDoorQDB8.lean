import Derived.Test.YtghkncjelangeaaGreatDoorQDTr6
set_option linter.unusedSimpArgs false
set_option linter.unusedVariables false
set_option maxRecDepth 20000
set_option maxHeartbeats 4000000
namespace Go.Proofs.YtghkncjelangeaaGreatDoor
open K Go Go.Proofs Go.Extern
theorem Ab{x:Option (Nat×Addr×Nat)}{z:Sem Value}{f:Nat→Addr→Nat→Nat→Sem Value}{T:Nat}{a:Addr}{fl:Nat}(h:x=some (T,a,fl))(hf:Ns Tryz.prog (f T a fl (fl % 32))):Ns Tryz.prog (match x with |none=>z |some (t,a,fl)=>f t a fl (fl % 32)):=by
 subst h;exact hf
theorem HZ{a b:Nat}{S:FS}{w:World}(h:(D.obj a 102 (.eq (.pointer (some ⟨b,0,none⟩)))).holds S w):
 (ReflectliteValue.method (ReflectliteValue.valueError "reflectlite.Value.IsNil" 0) ReflectliteValue.isNil #[sY 102 a 150]).run Tryz.prog w= .ok (.bool false) w:=by
 obtain⟨cs,h1,rfl,_⟩:=h
 rw [Rf]
 simp only [Sem.run_bind,zH,Result.andThen_ok]
 have hl:=fO LQ (fun _=>rfl) h1 (off:=0) (by simp)
 simp [ReflectliteValue.isNil,hl,mk]
theorem zU{a:Nat}:Ns Tryz.prog (ReflectliteValue.method (ReflectliteValue.valueError "reflectlite.Value.IsNil" 0) ReflectliteValue.isNil #[sY 102 a 150]):=by
 rw [Rf];refine gw (q:=fun x=>x=some (102,⟨a,0,none⟩,150)) (oz (by kernel_rfl)) (show Pq Tryz.prog _ _ from Eq.mpr (show Pq Tryz.prog (fun x=>x=some (102,⟨a,0,none⟩,150)) (ReflectliteValue.parts (sY 102 a 150))=(some (102,(⟨a,0,none⟩:Addr),150)=some (102,⟨a,0,none⟩,150)) by kernel_rfl) rfl) fun x hx=>Ab hx ?_;unfold ReflectliteValue.isNil;simp only [List.contains,List.elem];refine ai mb fun v=>?_;split <;> trivial
theorem Aa{a:Nat}:Ns Tryz.prog (ReflectliteValue.method (ReflectliteValue.valueError "reflectlite.Value.Elem" 0) ReflectliteValue.elem #[sY 102 a 150]):=by
 rw [Rf];refine gw (q:=fun x=>x=some (102,⟨a,0,none⟩,150)) (oz (by kernel_rfl)) (show Pq Tryz.prog _ _ from Eq.mpr (show Pq Tryz.prog (fun x=>x=some (102,⟨a,0,none⟩,150)) (ReflectliteValue.parts (sY 102 a 150))=(some (102,(⟨a,0,none⟩:Addr),150)=some (102,⟨a,0,none⟩,150)) by kernel_rfl) rfl) fun x hx=>Ab hx ?_;unfold ReflectliteValue.elem;refine ai mb fun v=>?_;refine gw (q:=fun x=>x=some 97) (oz (by kernel_rfl)) (show Pq Tryz.prog _ _ from Eq.mpr (show Pq Tryz.prog (fun x=>x=some 97) (Rtype.elem? 102)=(some 97=some 97) by kernel_rfl) rfl) fun x hx=>?_;subst hx;have ve:∀n,Ns Tryz.prog (ReflectliteValue.valueError "reflectlite.Value.Elem" n:Sem Value):=fun n=>ai (oz (by kernel_rfl)) fun t=>ai (ai aR fun d=>by split <;> trivial) fun e=>ai ku fun _=>trivial;have mk':∀p,Ns Tryz.prog (ReflectliteValue.mk 97 p ReflectliteValue.flagAddr):=fun p=>oz (by kernel_rfl);cases v with
 |pointer q=>cases q with
  |none=>trivial
  |some q=>exact mk' q
 |_=>exact ve _
theorem IC{a b:Nat}{S:FS}{w:World}(h:(D.obj a 102 (.eq (.pointer (some ⟨b,0,none⟩)))).holds S w):
 (ReflectliteValue.method (ReflectliteValue.valueError "reflectlite.Value.Elem" 0) ReflectliteValue.elem #[sY 102 a 150]).run Tryz.prog w= .ok (sY 97 b 409) w:=by
 obtain⟨cs,h1,rfl,_⟩:=h
 rw [Rf]
 simp only [Sem.run_bind,zH,Result.andThen_ok]
 have hl:=fO LQ (fun _=>rfl) h1 (off:=0) (by simp)
 have e1:(Rtype.elem? 102).run Tryz.prog w= .ok (some 97) w:=by kernel_rfl
 have e2:(ReflectliteValue.mk 97 ⟨b,0,none⟩ ReflectliteValue.flagAddr).run Tryz.prog w= .ok (sY 97 b 409) w:=by kernel_rfl
 simp [ReflectliteValue.elem,hl,mk,e1,e2]
theorem TU(v x:Value):ReflectliteValue.set #[v,x]=(do
 let (some (dst,a,fl),some (src,b,_)):=(←ReflectliteValue.parts v,←ReflectliteValue.parts x)
  |unsupported (.noEntry "extern/(internal/reflectlite.Value).Set.zeroValue")
 if fl / ReflectliteValue.flagAddr % 2 == 0 then unsupported (.noEntry "extern/(internal/reflectlite.Value).Set.unaddressable")
 let val←loadVar src b
 if←Rtype.directlyAssignable dst src then storeVar dst a val
 else if←Rtype.implements dst src then
  if(←Rtype.kind src) == 20 then
   match val with
   | .nilIface=>unsupported (.noEntry "extern/reflectlite: a nil value of one interface type handed on as a value of another")
   |_=>storeVar dst a val
  else storeVar dst a (.iface src val)
 else panicString ("reflectlite.Set: value of type " ++(←Rtype.spelt src)++ " is not assignable to type " ++(←Rtype.spelt dst))
 pure (.tuple #[])):=rfl
theorem ES(a:Addr)(w:World):(ReflectliteValue.parts (.agg #[hd 97,.pointer (some a),.int .u64 409])).run Tryz.prog w= .ok (some (97,a,409)) w:=by kernel_rfl
theorem GX(a:Addr)(w:World):(ReflectliteValue.parts (.agg #[hd 97,.pointer (some a),.int .u64 153])).run Tryz.prog w= .ok (some (97,a,153)) w:=by kernel_rfl
theorem Fv(w:World):(Rtype.directlyAssignable 97 97).run Tryz.prog w= .ok true w:=by kernel_rfl
theorem E1{p b:Nat}:Ns Tryz.prog (ReflectliteValue.set #[sY 97 p 409,sY 97 b 153]):=by
 rw [TU];refine gw (q:=fun x=>x=some (97,⟨p,0,none⟩,409)) (oz (by kernel_rfl)) (show Pq Tryz.prog _ _ from Eq.mpr (show Pq Tryz.prog (fun x=>x=some (97,⟨p,0,none⟩,409)) (ReflectliteValue.parts (sY 97 p 409))=(some (97,(⟨p,0,none⟩:Addr),409)=some (97,⟨p,0,none⟩,409)) by kernel_rfl) rfl) fun x hx=>?_;subst hx;refine gw (q:=fun x=>x=some (97,⟨b,0,none⟩,153)) (oz (by kernel_rfl)) (show Pq Tryz.prog _ _ from Eq.mpr (show Pq Tryz.prog (fun x=>x=some (97,⟨b,0,none⟩,153)) (ReflectliteValue.parts (sY 97 b 153))=(some (97,(⟨b,0,none⟩:Addr),153)=some (97,⟨b,0,none⟩,153)) by kernel_rfl) rfl) fun x hx=>?_;subst hx;refine ai mb fun v=>?_;refine gw (q:=fun x=>x=true) (oz (by kernel_rfl)) (show Pq Tryz.prog _ _ from Eq.mpr (show Pq Tryz.prog (fun x=>x=true) (Rtype.directlyAssignable 97 97)=(true=true) by kernel_rfl) rfl) fun x hx=>?_;subst hx;exact ai t3 fun _=>trivial
theorem LO:dP Tryz.prog 97 1 true:=⟨fun w=>by kernel_rfl,fun w=>by kernel_rfl⟩
theorem G7{M:Md Tryz.prog}{o:Oper}{x y:Operand}{c:Call}{ts:Array TypeId}{p b:Nat}{e0 n:Int}(ho:o.op= .call c)(hc:c={ callee:=.value (.func 134),args:=[x,y].toArray,argTypes:=ts }):
 bN M o [(x,.eq (sY 97 p 409)),(y,.eq (sY 97 b 153))] [.obj p 97 (.agg (.eq (.int .i64 e0))),.obj b 97 (.eq (.int .i64 n))] (fun _:Unit=>(.eq (.tuple #[]),[.obj p 97 (.agg (.eq (.int .i64 n))),.obj b 97 (.eq (.int .i64 n))])):=by
 have hex:∀{S:FS} {w:World} {a:Act},bF S w a [(x,.eq (sY 97 p 409)),(y,.eq (sY 97 b 153))]→execOp a.eval o=callFunc 134 #[sY 97 p 409,sY 97 b 153]:=fun {S w a} hN=>kY (xs:=[x,y]) (vs:=[sY 97 p 409,sY 97 b 153]) ho hc (iK rfl hN)
 refine i7 ⟨by simp only [nd, *],fun S w a next hd hN hO k=>?_⟩ (fun _ _ a hN _=>by rw [hex hN];exact LK.ns _ E1) (fun d hd=>by simp at hd;rcases hd with rfl |rfl <;> trivial)
 obtain⟨cs1,h1,⟨rfl,_⟩⟩:=hO.holds (.obj p 97 (.agg (.eq (.int .i64 e0)))) (by simp)
 obtain⟨cs2,h2,⟨rfl,_⟩⟩:=hO.holds (.obj b 97 (.eq (.int .i64 n))) (by simp)
 have hne:p≠b:=fun e=>by
  have:=hO.apart;simp only [List.pairwise_cons] at this;exact this.1 _ (List.mem_singleton.2 rfl) p rfl (by rw [e];rfl)
 have op:=hO.own p ⟨_,List.mem_cons_self ..,rfl⟩
 have ob:=hO.own b ⟨_,List.mem_cons_of_mem _ (List.mem_singleton.2 rfl),rfl⟩
 have hl:=fO LO (fun h=>by cases h) h2 (off:=0) (by simp)
 have hst:=iC Tryz.prog p 97 0 [.int .i64 n] 0 w #[.int .i64 e0] h1 (fun v hv=>by simp at hv;subst hv;rfl) (by simp)
 have hr:(execOp a.eval o).run Tryz.prog w= .ok (.value (.tuple #[])) { w with heap:=w.heap.setIfInBounds p (.cells #[.int .i64 n] 97 (0,0)) }:=by
  rw [hex hN,LK.run,TU];simp only [Sem.run_bind,ES,GX,Result.andThen_ok];simp at hst;simp [ReflectliteValue.flagAddr,hl,mk,Fv,storeVar,LO.size,Value.cells,hst]
 rw [hr]
 refine k () S _ _ (nc hd ⟨_,List.mem_cons_self ..,rfl⟩ _) rfl ⟨fun d hd=>?_,fun b' hb'=>?_,?_⟩ (fun b' ⟨d,hd,e⟩=>.inl ?_)
 ·
  simp at hd;rcases hd with rfl |rfl
  ·exact⟨[.int .i64 n],by simp [op.2],rfl,rfl⟩
  ·exact⟨[.int .i64 n],by simp [Array.getElem?_setIfInBounds_ne hne,h2],rfl,rfl⟩
 ·
  obtain⟨d,hd,e⟩:=hb';simp at hd;rcases hd with rfl |rfl
  ·cases e;exact⟨op.1,by simpa using op.2⟩
  ·cases e;exact⟨ob.1,by simpa using ob.2⟩
 ·
  refine List.pairwise_cons.2 ⟨fun d hd b' e e'=>?_,List.pairwise_singleton _ _⟩;simp at hd;subst hd;cases e;cases e';exact hne rfl
 ·
  simp at hd;rcases hd with rfl |rfl
  ·exact⟨_,List.mem_cons_self ..,e⟩
  ·exact⟨_,List.mem_cons_of_mem _ (List.mem_singleton.2 rfl),e⟩
end Go.Proofs.YtghkncjelangeaaGreatDoor
set_option linter.unusedVariables false
set_option maxRecDepth 20000
set_option maxHeartbeats 4000000
namespace Go.Proofs.YtghkncjelangeaaGreatDoor
open K Go Go.Proofs Go.Extern
theorem OL:∀w,(zeroValue 166).run Tryz.prog w= .ok (.agg #[.pointer none,.pointer none,.int .u64 0]) w:=fun w=>by kernel_rfl
theorem QX:∀S w,(A.cells S w (.agg (.pair (.eq (.pointer none)) (.pair (.eq (.pointer none)) (.eq (.int .u64 0))))) (Value.cells (.agg #[.pointer none,.pointer none,.int .u64 0])).toList):=fun _ _=>⟨[_],_,rfl,⟨rfl,rfl⟩,[_],_,rfl,⟨rfl,rfl⟩,rfl,rfl⟩
theorem zt:dP Tryz.prog 166 3 true:=⟨fun w=>by kernel_rfl,fun w=>by kernel_rfl⟩
def dZ:Obj→Prop:=fun o=>o= .cells #[sj] 169 (0,0)
theorem EY{M:Md Tryz.prog}{o:Oper}{x:Operand}(ho:o.op= .load 169 x):bN M o [(x,.eq (.pointer (some ⟨0,0,none⟩)))] [.inv 0 dZ] (fun _:Unit=>(.eq sj,[.inv 0 dZ])):=
 .val1 (hcm:=fun o h=>by cases h;rfl) fun S w a h hs=>by
  have e:a.eval x= .pointer (some ⟨0,0,none⟩):=h.1
  obtain⟨ob,h1,rfl⟩:=hs
  have hsz:∀w,(sizeOf 169).run Tryz.prog w= .ok 1 w:=fun w=>by kernel_rfl
  have hag:∀w,(isAgg 169).run Tryz.prog w= .ok false w:=fun w=>by kernel_rfl
  have hc:w.cell? ⟨0,0,none⟩=some sj:=by simp [World.cell?,h1]
  refine⟨sj,?_,rfl⟩
  simp [execOp,ho,Instr.loadAt,e,Instr.sureAddr,loadVar,hsz,hag,hc]
theorem QL:ah Tryz.prog 105:=ah.of Tryz.func105 (by kernel_rfl) (by kernel_rfl)
theorem Qj:ah Tryz.prog 63:=ah.of Tryz.func63 (by kernel_rfl) (by kernel_rfl)
theorem yW{n:Nat}:true=false→n=1:=fun h=>nomatch h
def O6:Nat→Unit→Option Unit
 |0,_=>none
 |_+1,_=>some ()
theorem N6{a p:Nat}{n e0:Int}:bZ Tryz.prog 105 [.eq (.iface 97 (.agg #[.int .i64 n])),.any,OA 102 a 150,.eq (.iface 207 (.agg #[hd 97]))] [.obj a 102 (.eq (.pointer (some ⟨p,0,none⟩))),.obj p 97 (.agg (.eq (.int .i64 e0)))]
 (fun _:Unit=>(bu [.eq (.bool true)],[.obj a 102 (.eq (.pointer (some ⟨p,0,none⟩))),.obj p 97 (.agg (.eq (.int .i64 n)))])):=by
 refine bZ.of 62 Tryz.func105 rfl Tryz.ntmps105 rfl fun S w0=>?_
 refine ae ?_
 refine ab ?_
 refine aD rfl rfl rfl (oy rfl trivial) ⟨rfl,trivial⟩ fun b6=>?_
 refine dE rfl ?_
 refine au ?_
 refine ag ?_
 show JC _ _ _ _ _
 refine ao ?_
 have h:(O6 1 ()).bind some=some ():=rfl
 refine aK (Z:=Unit) (α:=Unit) (fun _ _=>[(0,.eq (.iface 97 (.agg #[.int .i64 n]))),(3,.eq (.iface 207 (.agg #[hd 97]))),(6,.eq (.pointer (some ⟨b6,0,none⟩)))]) (fun _ _=>[.obj b6 166 (OA 102 a 150),.obj a 102 (.eq (.pointer (some ⟨p,0,none⟩))),.obj p 97 (.agg (.eq (.int .i64 e0)))]) O6 1 () () (fun _=>rfl) h (SE.fin [0,1,2] ⟨rfl,rfl,rfl,trivial⟩ rfl) (fun _ _ _ _=>?_)
 refine ao ?_
 refine ae ?_
 refine ae ?_
 refine ab ?_
 refine aC rfl rfl ?_
 refine aG rfl (Hj OR [.tmp 16] [.iface 97 (.agg #[.int .i64 n])] rfl rfl rfl (EA _) (E0 _)) ⟨rfl,trivial⟩ ?_
 refine aC rfl rfl ?_
 refine aG rfl (zL OP [.tmp 18] [.iface 207 (.agg #[hd 97])] rfl rfl rfl (Pm 97) Le J9) ⟨rfl,rfl,trivial⟩ ?_
 refine au ?_
 refine ag ?_
 show JC _ _ _ _ _
 refine bK rfl (fun hb=>?_) (fun hb=>(by cases hb))
 refine ae ?_
 refine ab ?_
 refine bX rfl rfl rfl (aj rfl zt (yW) rfl) ⟨rfl,trivial⟩ ?_
 refine bJ 1 rfl ?_
 refine bX rfl rfl rfl (dS (N:=[(.tmp 20,OA 102 a 150)]) (Hi OQ [.tmp 20] [sY 102 a 150] rfl rfl rfl (fun _ _ h=>IC h) Aa trivial) fun _ _ _ hn=>⟨yM hn.1,trivial⟩) ⟨rfl,trivial⟩ ?_
 refine aC rfl rfl ?_
 refine aD rfl rfl rfl (Hh (T:=97) (v:=fun b=>sY 97 b 153) LL [.tmp 22] [.iface 97 (.agg #[.int .i64 n])] rfl rfl rfl (Bm n) rfl (wj n)) ⟨rfl,trivial⟩ fun b23=>?_
 refine bJ 3 rfl ?_
 refine bT (Δ:=[_,_]) (F:=_) (fun _ _ _=>ay rfl _) rfl rfl (G7 rfl rfl) ⟨rfl,rfl,trivial⟩ fun _=>?_
 refine au ?_
 refine ag ?_
 show JC _ _ _ _ _
 refine ae ?_
 refine ab ?_
 refine dE rfl ?_
 refine au ?_
 refine ag ?_
 show JC _ _ _ _ _
 refine aA ?_
 refine aV ?_
 refine bi ?_
 refine aV ?_
 refine bi ?_
 refine bv (SE.fin (Γ':=[(8,_)]) [2,0,1,3] ⟨rfl,trivial⟩ rfl) ?_
 exact aQ () [.eq (.bool true)] 2 ⟨rfl,trivial⟩ rfl
theorem N5{v:Value}{p:Nat}{n:Int}:bZ Tryz.prog 63 [.eq .nilIface,.eq v] [.obj p 97 (.agg (.eq (.int .i64 n))),.inv 0 dZ] (fun _:Unit=>(bu [.eq (.bool false)],[.obj p 97 (.agg (.eq (.int .i64 n))),.inv 0 dZ])):=by
 refine bZ.of 42 Tryz.func63 rfl Tryz.ntmps63 rfl fun S w0=>?_;refine ae ?_;refine ab ?_;refine dE rfl ?_;refine au ?_;refine ag ?_;show JC _ _ _ _ _;refine ae ?_;refine ae ?_;refine ab ?_;refine aC rfl rfl ?_;refine aG rfl (rQ rfl Tryz.underlying100 rfl) ⟨rfl,rfl,trivial⟩ ?_;refine au ?_;refine ag ?_;show JC _ _ _ _ _;refine bK rfl (fun hb=>?_) (fun hb=>(by cases hb));refine ae ?_;refine ab ?_;refine dE rfl ?_;refine au ?_;refine ag ?_;show JC _ _ _ _ _;refine aA ?_;refine aV ?_;exact aQ () [.eq (.bool false)] 2 ⟨rfl,trivial⟩ rfl
theorem Lh{p:Nat}{n e0:Int}:bZ Tryz.prog 63 [.eq (.iface 97 (.agg #[.int .i64 n])),.eq (.iface 102 (.pointer (some ⟨p,0,none⟩)))] [.obj p 97 (.agg (.eq (.int .i64 e0))),.inv 0 dZ]
 (fun _:Unit=>(bu [.eq (.bool true)],[.obj p 97 (.agg (.eq (.int .i64 n))),.inv 0 dZ])):=by
 refine bZ.of 42 Tryz.func63 rfl Tryz.ntmps63 rfl fun S w0=>?_
 refine ae ?_
 refine ab ?_
 refine dE rfl ?_
 refine au ?_
 refine ag ?_
 show JC _ _ _ _ _
 refine ae ?_
 refine ae ?_
 refine ab ?_
 refine aC rfl rfl ?_
 refine aG rfl (rQ rfl Tryz.underlying100 rfl) ⟨rfl,rfl,trivial⟩ ?_
 refine au ?_
 refine ag ?_
 show JC _ _ _ _ _
 refine bK rfl (fun hb=>(by cases hb)) (fun hb=>?_)
 refine aY ?_
 refine ag ?_
 show JC _ _ _ _ _
 refine ae ?_
 refine ae ?_
 refine ab ?_
 refine aC rfl rfl ?_
 refine aG rfl (rQ rfl Tryz.underlying20 rfl) ⟨rfl,rfl,trivial⟩ ?_
 refine au ?_
 refine ag ?_
 show JC _ _ _ _ _
 refine bK rfl (fun hb=>(by cases hb)) (fun hb=>?_)
 refine aY ?_
 refine ag ?_
 show JC _ _ _ _ _
 refine ae ?_
 refine ab ?_
 refine aC rfl rfl ?_
 refine aD rfl rfl rfl (Hh (T:=102) (v:=fun b=>sY 102 b 150) LL [.tmp 13] [.iface 102 (.pointer (some ⟨p,0,none⟩))] rfl rfl rfl (Bl _) rfl (wi _)) ⟨rfl,trivial⟩ fun a=>?_
 refine cC (sE 14 rfl fun _ _ _ h=>Ln rfl rfl rfl h) ?_
 refine aD rfl rfl rfl (a9 rfl OL QX) trivial fun b5=>?_
 refine bf rfl rfl (a8 rfl zt trivial rfl rfl) ⟨rfl,rfl,trivial⟩ ?_
 refine au ?_
 refine ag ?_
 show JC _ _ _ _ _
 refine ae ?_
 refine ab ?_
 refine bX rfl rfl rfl (aj rfl zt (yW) rfl) ⟨rfl,trivial⟩ ?_
 refine aG rfl (dS (N:=[(.tmp 15,OA 102 a 150)]) (Hj OT [.tmp 15] [sY 102 a 150] rfl rfl rfl (JG _) (BZ _)) fun _ _ _ hn=>⟨yM hn.1,trivial⟩) ⟨rfl,trivial⟩ ?_
 refine dj rfl rfl ?_
 refine au ?_
 refine ag ?_
 show JC _ _ _ _ _
 refine ae ?_
 refine ae ?_
 refine ab ?_
 refine aC rfl rfl ?_
 refine aG rfl (zL LJ [] [] rfl rfl rfl (L0 102) Ku (Dz 102 (.inl rfl))) ⟨rfl,trivial⟩ ?_
 refine aG rfl (gP rfl) ⟨rfl,rfl,trivial⟩ ?_
 refine aC rfl rfl ?_
 refine jA rfl rfl rfl rfl rfl rfl (aj rfl zt (yW) rfl) ⟨rfl,trivial⟩ ?_
 refine bJ 1 rfl ?_
 refine jA rfl rfl rfl rfl rfl rfl (dS (N:=[(.tmp 21,OA 102 a 150)]) (Hi OS [.tmp 21] [sY 102 a 150] rfl rfl rfl (fun _ _ h=>HZ h) zU trivial) fun _ _ _ hn=>⟨yM hn.1,trivial⟩) ⟨rfl,trivial⟩ ?_
 refine aG rfl (l7 rfl) ⟨rfl,rfl,trivial⟩ ?_
 refine au ?_
 refine ag ?_
 show JC _ _ _ _ _
 refine bK rfl (fun hb=>(by cases hb)) (fun hb=>?_)
 refine aY ?_
 refine ag ?_
 show JC _ _ _ _ _
 refine ae ?_
 refine ab ?_
 refine aC rfl rfl ?_
 refine aG rfl (zL OO [] [] rfl rfl rfl (Pl 102) K1 J7) ⟨rfl,trivial⟩ ?_
 refine dj rfl rfl ?_
 refine au ?_
 refine ag ?_
 show JC _ _ _ _ _
 refine ae ?_
 refine ae ?_
 refine ab ?_
 refine aC rfl rfl ?_
 refine aG rfl (zL LJ [] [] rfl rfl rfl (L0 97) Kv (Dz 97 (.inr rfl))) ⟨rfl,trivial⟩ ?_
 refine aG rfl (gP rfl) ⟨rfl,rfl,trivial⟩ ?_
 refine aC rfl rfl ?_
 refine mZ rfl rfl rfl rfl rfl rfl (aL rfl) ⟨rfl,trivial⟩ ?_
 refine bJ 3 rfl ?_
 refine jA rfl rfl rfl rfl rfl rfl (EY rfl) ⟨rfl,trivial⟩ ?_
 refine mZ rfl rfl rfl rfl rfl rfl (zL ON [.tmp 32] [sj] rfl rfl rfl (Pj 97) Ky J6) ⟨rfl,rfl,trivial⟩ ?_
 refine mZ rfl rfl rfl rfl rfl rfl (eC rfl) ⟨rfl,trivial⟩ ?_
 refine aG rfl (gq rfl) ⟨rfl,rfl,trivial⟩ ?_
 refine au ?_
 refine ag ?_
 show JC _ _ _ _ _
 refine bK rfl (fun hb=>(by cases hb)) (fun hb=>?_)
 refine aY ?_
 refine ag ?_
 show JC _ _ _ _ _
 refine ae ?_
 refine ab ?_
 refine aC rfl rfl ?_
 refine aC rfl rfl ?_
 refine bJ 2 rfl ?_
 refine bX rfl rfl rfl (aj rfl zt (yW) rfl) ⟨rfl,trivial⟩ ?_
 refine aC rfl rfl ?_
 refine bJ 3 rfl ?_
 refine bJ 3 rfl ?_
 refine bT (Δ:=[_,_]) (F:=_) (fun _ _ _=>ay rfl _) rfl rfl (dS (N:=[(.tmp 37,.eq (.iface 97 (.agg #[.int .i64 n]))),(.tmp 38,.eq (.iface 102 (.pointer (some ⟨p,0,none⟩)))),(.tmp 39,OA 102 a 150),(.tmp 40,.eq (.iface 207 (.agg #[hd 97])))])
  (ar [.tmp 37,.tmp 38,.tmp 39,.tmp 40] rfl rfl QL rfl (N6 (a:=a) (p:=p) (n:=n) (e0:=e0))) fun _ _ _ hn=>⟨hn.1,trivial,hn.2.2.1,hn.2.2.2.1,trivial⟩) ⟨rfl,rfl,rfl,rfl,trivial⟩ fun _=>?_
 refine dj rfl rfl ?_
 refine au ?_
 refine ag ?_
 show JC _ _ _ _ _
 refine aA ?_
 refine bv (SE.fin (Γ':=[(4,_)]) [1,3,0,2] ⟨rfl,trivial⟩ rfl) ?_
 exact aQ () [.eq (.bool true)] 2 ⟨rfl,trivial⟩ rfl
def Rl:Value→Option (Option Int)
 | .nilIface=>some none
 | .iface t (.agg cs)=>if t=97 then(match cs.toList with |[.int .i64 n]=>some (some n) |_=>none) else none
 |_=>none
theorem IR{v:Value}{q:Option Int}(h:Rl v=some q):(v= .nilIface∧q=none)∨∃n,v= .iface 97 (.agg #[.int .i64 n])∧q=some n:=by
 unfold Rl at h;split at h
 ·cases h;exact .inl ⟨rfl,rfl⟩
 ·rename_i t cs;split at h
  ·rename_i e;split at h
   ·rename_i n hn;cases h;obtain⟨l⟩:=cs;cases hn;exact .inr ⟨n,by rw [e],rfl⟩
   ·cases h
  ·cases h
 ·cases h
theorem QQ{v:Value}{q:Option Int}{p:Nat}{e0:Int}(h:Rl v=some q):bZ Tryz.prog 63 [.eq v,.eq (.iface 102 (.pointer (some ⟨p,0,none⟩)))] [.obj p 97 (.agg (.eq (.int .i64 e0))),.inv 0 dZ]
 (fun _:Unit=>(bu [.eq (.bool q.isSome)],[.obj p 97 (.agg (.eq (.int .i64 (q.getD e0)))),.inv 0 dZ])):=by
 rcases IR h with⟨rfl,rfl⟩ |⟨n,rfl,rfl⟩
 ·
  exact N5
 ·
  exact Lh
end Go.Proofs.YtghkncjelangeaaGreatDoor
