import Derived.Test.YtmeojbemjkmebaaGreatDoorRFTr6
set_option linter.unusedSimpArgs false
set_option linter.unusedVariables false
set_option maxRecDepth 20000
set_option maxHeartbeats 4000000
namespace Go.Proofs.YtmeojbemjkmebaaGreatDoor
open K Go Go.Proofs Go.Extern
theorem zU{x:Option (Nat×Addr×Nat)}{z:Sem Value}{f:Nat→Addr→Nat→Nat→Sem Value}{T:Nat}{a:Addr}{fl:Nat}(h:x=some (T,a,fl))(hf:Ns Tryz.prog (f T a fl (fl % 32))):Ns Tryz.prog (match x with |none=>z |some (t,a,fl)=>f t a fl (fl % 32)):=by
 subst h;exact hf
theorem HA{a b:Nat}{S:FS}{w:World}(h:(D.obj a 143 (.eq (.pointer (some ⟨b,0,none⟩)))).holds S w):
 (ReflectliteValue.method (ReflectliteValue.valueError "reflectlite.Value.IsNil" 0) ReflectliteValue.isNil #[ta 143 a 150]).run Tryz.prog w= .ok (.bool false) w:=by
 obtain⟨cs,h1,rfl,_⟩:=h
 rw [QN]
 simp only [Sem.run_bind,zy,Result.andThen_ok]
 have hl:=fG Le (fun _=>rfl) h1 (off:=0) (by simp)
 simp [ReflectliteValue.isNil,hl,mk]
theorem zM{a:Nat}:Ns Tryz.prog (ReflectliteValue.method (ReflectliteValue.valueError "reflectlite.Value.IsNil" 0) ReflectliteValue.isNil #[ta 143 a 150]):=by
 rw [QN];refine gj (q:=fun x=>x=some (143,⟨a,0,none⟩,150)) (oD (by kernel_rfl)) (show Pq Tryz.prog _ _ from Eq.mpr (show Pq Tryz.prog (fun x=>x=some (143,⟨a,0,none⟩,150)) (ReflectliteValue.parts (ta 143 a 150))=(some (143,(⟨a,0,none⟩:Addr),150)=some (143,⟨a,0,none⟩,150)) by kernel_rfl) rfl) fun x hx=>zU hx ?_;unfold ReflectliteValue.isNil;simp only [List.contains,List.elem];refine ai l8 fun v=>?_;split <;> trivial
theorem zT{a:Nat}:Ns Tryz.prog (ReflectliteValue.method (ReflectliteValue.valueError "reflectlite.Value.Elem" 0) ReflectliteValue.elem #[ta 143 a 150]):=by
 rw [QN];refine gj (q:=fun x=>x=some (143,⟨a,0,none⟩,150)) (oD (by kernel_rfl)) (show Pq Tryz.prog _ _ from Eq.mpr (show Pq Tryz.prog (fun x=>x=some (143,⟨a,0,none⟩,150)) (ReflectliteValue.parts (ta 143 a 150))=(some (143,(⟨a,0,none⟩:Addr),150)=some (143,⟨a,0,none⟩,150)) by kernel_rfl) rfl) fun x hx=>zU hx ?_;unfold ReflectliteValue.elem;refine ai l8 fun v=>?_;refine gj (q:=fun x=>x=some 140) (oD (by kernel_rfl)) (show Pq Tryz.prog _ _ from Eq.mpr (show Pq Tryz.prog (fun x=>x=some 140) (Rtype.elem? 143)=(some 140=some 140) by kernel_rfl) rfl) fun x hx=>?_;subst hx;have ve:∀n,Ns Tryz.prog (ReflectliteValue.valueError "reflectlite.Value.Elem" n:Sem Value):=fun n=>ai (oD (by kernel_rfl)) fun t=>ai (ai aQ fun d=>by split <;> trivial) fun e=>ai ko fun _=>trivial;have mk':∀p,Ns Tryz.prog (ReflectliteValue.mk 140 p ReflectliteValue.flagAddr):=fun p=>oD (by kernel_rfl);cases v with
 |pointer q=>cases q with
  |none=>trivial
  |some q=>exact mk' q
 |_=>exact ve _
theorem H6{a b:Nat}{S:FS}{w:World}(h:(D.obj a 143 (.eq (.pointer (some ⟨b,0,none⟩)))).holds S w):
 (ReflectliteValue.method (ReflectliteValue.valueError "reflectlite.Value.Elem" 0) ReflectliteValue.elem #[ta 143 a 150]).run Tryz.prog w= .ok (ta 140 b 409) w:=by
 obtain⟨cs,h1,rfl,_⟩:=h
 rw [QN]
 simp only [Sem.run_bind,zy,Result.andThen_ok]
 have hl:=fG Le (fun _=>rfl) h1 (off:=0) (by simp)
 have e1:(Rtype.elem? 143).run Tryz.prog w= .ok (some 140) w:=by kernel_rfl
 have e2:(ReflectliteValue.mk 140 ⟨b,0,none⟩ ReflectliteValue.flagAddr).run Tryz.prog w= .ok (ta 140 b 409) w:=by kernel_rfl
 simp [ReflectliteValue.elem,hl,mk,e1,e2]
theorem Tm(v x:Value):ReflectliteValue.set #[v,x]=(do
 let (some (dst,a,fl),some (src,b,_)):=(←ReflectliteValue.parts v,←ReflectliteValue.parts x)
  |unsupported (.noEntry "extern/(internal/reflectlite.Value).Set.zeroValue")
 if fl / ReflectliteValue.flagAddr % 2 == 0 then unsupported (.noEntry "extern/(internal/reflectlite.Value).Set.unaddressable")
 let val←loadVar src b
 if←Rtype.directlyAssignable dst src then storeVar dst a val
 else if←Rtype.implements dst src then
  if(←Rtype.kind src) == 20 then
   match val with
   | .nilIface=>unsupported (.noEntry "extern/reflectlite: a nil value of one interface type handed on as a value of another")
   |_=>storeVar dst a val
  else storeVar dst a (.iface src val)
 else panicString ("reflectlite.Set: value of type " ++(←Rtype.spelt src)++ " is not assignable to type " ++(←Rtype.spelt dst))
 pure (.tuple #[])):=rfl
theorem Eu(a:Addr)(w:World):(ReflectliteValue.parts (.agg #[hd 140,.pointer (some a),.int .u64 409])).run Tryz.prog w= .ok (some (140,a,409)) w:=by kernel_rfl
theorem Gw(a:Addr)(w:World):(ReflectliteValue.parts (.agg #[hd 140,.pointer (some a),.int .u64 153])).run Tryz.prog w= .ok (some (140,a,153)) w:=by kernel_rfl
theorem E2(w:World):(Rtype.directlyAssignable 140 140).run Tryz.prog w= .ok true w:=by kernel_rfl
theorem EH{p b:Nat}:Ns Tryz.prog (ReflectliteValue.set #[ta 140 p 409,ta 140 b 153]):=by
 rw [Tm];refine gj (q:=fun x=>x=some (140,⟨p,0,none⟩,409)) (oD (by kernel_rfl)) (show Pq Tryz.prog _ _ from Eq.mpr (show Pq Tryz.prog (fun x=>x=some (140,⟨p,0,none⟩,409)) (ReflectliteValue.parts (ta 140 p 409))=(some (140,(⟨p,0,none⟩:Addr),409)=some (140,⟨p,0,none⟩,409)) by kernel_rfl) rfl) fun x hx=>?_;subst hx;refine gj (q:=fun x=>x=some (140,⟨b,0,none⟩,153)) (oD (by kernel_rfl)) (show Pq Tryz.prog _ _ from Eq.mpr (show Pq Tryz.prog (fun x=>x=some (140,⟨b,0,none⟩,153)) (ReflectliteValue.parts (ta 140 b 153))=(some (140,(⟨b,0,none⟩:Addr),153)=some (140,⟨b,0,none⟩,153)) by kernel_rfl) rfl) fun x hx=>?_;subst hx;refine ai l8 fun v=>?_;refine gj (q:=fun x=>x=true) (oD (by kernel_rfl)) (show Pq Tryz.prog _ _ from Eq.mpr (show Pq Tryz.prog (fun x=>x=true) (Rtype.directlyAssignable 140 140)=(true=true) by kernel_rfl) rfl) fun x hx=>?_;subst hx;exact ai t5 fun _=>trivial
theorem F6:dG Tryz.prog 140 1 true:=⟨fun w=>by kernel_rfl,fun w=>by kernel_rfl⟩
theorem GI{M:Md Tryz.prog}{o:Oper}{x y:Operand}{c:Call}{ts:Array TypeId}{p b:Nat}{e0 n:Int}(ho:o.op= .call c)(hc:c={ callee:=.value (.func 145),args:=[x,y].toArray,argTypes:=ts }):
 bD M o [(x,.eq (ta 140 p 409)),(y,.eq (ta 140 b 153))] [.obj p 140 (.agg (.eq (.int .i64 e0))),.obj b 140 (.eq (.int .i64 n))] (fun _:Unit=>(.eq (.tuple #[]),[.obj p 140 (.agg (.eq (.int .i64 n))),.obj b 140 (.eq (.int .i64 n))])):=by
 have hex:∀{S:FS} {w:World} {a:Act},bB S w a [(x,.eq (ta 140 p 409)),(y,.eq (ta 140 b 153))]→execOp a.eval o=callFunc 145 #[ta 140 p 409,ta 140 b 153]:=fun {S w a} hN=>kW (xs:=[x,y]) (vs:=[ta 140 p 409,ta 140 b 153]) ho hc (iG rfl hN)
 refine g8 ⟨by simp only [nd, *],fun S w a next hd hN hO k=>?_⟩ (fun _ _ a hN _=>by rw [hex hN];exact K8.ns _ EH) (fun d hd=>by simp at hd;rcases hd with rfl |rfl <;> trivial)
 obtain⟨cs1,h1,⟨rfl,_⟩⟩:=hO.holds (.obj p 140 (.agg (.eq (.int .i64 e0)))) (by simp)
 obtain⟨cs2,h2,⟨rfl,_⟩⟩:=hO.holds (.obj b 140 (.eq (.int .i64 n))) (by simp)
 have hne:p≠b:=fun e=>by
  have:=hO.apart;simp only [List.pairwise_cons] at this;exact this.1 _ (List.mem_singleton.2 rfl) p rfl (by rw [e];rfl)
 have op:=hO.own p ⟨_,List.mem_cons_self ..,rfl⟩
 have ob:=hO.own b ⟨_,List.mem_cons_of_mem _ (List.mem_singleton.2 rfl),rfl⟩
 have hl:=fG F6 (fun h=>by cases h) h2 (off:=0) (by simp)
 have hst:=iz Tryz.prog p 140 0 [.int .i64 n] 0 w #[.int .i64 e0] h1 (fun v hv=>by simp at hv;subst hv;rfl) (by simp)
 have hr:(execOp a.eval o).run Tryz.prog w= .ok (.value (.tuple #[])) { w with heap:=w.heap.setIfInBounds p (.cells #[.int .i64 n] 140 (0,0)) }:=by
  rw [hex hN,K8.run,Tm];simp only [Sem.run_bind,Eu,Gw,Result.andThen_ok];simp at hst;simp [ReflectliteValue.flagAddr,hl,mk,E2,storeVar,F6.size,Value.cells,hst]
 rw [hr]
 refine k () S _ _ (ng hd ⟨_,List.mem_cons_self ..,rfl⟩ _) rfl ⟨fun d hd=>?_,fun b' hb'=>?_,?_⟩ (fun b' ⟨d,hd,e⟩=>.inl ?_)
 ·
  simp at hd;rcases hd with rfl |rfl
  ·exact⟨[.int .i64 n],by simp [op.2],rfl,rfl⟩
  ·exact⟨[.int .i64 n],by simp [Array.getElem?_setIfInBounds_ne hne,h2],rfl,rfl⟩
 ·
  obtain⟨d,hd,e⟩:=hb';simp at hd;rcases hd with rfl |rfl
  ·cases e;exact⟨op.1,by simpa using op.2⟩
  ·cases e;exact⟨ob.1,by simpa using ob.2⟩
 ·
  refine List.pairwise_cons.2 ⟨fun d hd b' e e'=>?_,List.pairwise_singleton _ _⟩;simp at hd;subst hd;cases e;cases e';exact hne rfl
 ·
  simp at hd;rcases hd with rfl |rfl
  ·exact⟨_,List.mem_cons_self ..,e⟩
  ·exact⟨_,List.mem_cons_of_mem _ (List.mem_singleton.2 rfl),e⟩
end Go.Proofs.YtmeojbemjkmebaaGreatDoor
set_option linter.unusedVariables false
set_option maxRecDepth 20000
set_option maxHeartbeats 4000000
namespace Go.Proofs.YtmeojbemjkmebaaGreatDoor
open K Go Go.Proofs Go.Extern
theorem Oi:∀w,(zeroValue 183).run Tryz.prog w= .ok (.agg #[.pointer none,.pointer none,.int .u64 0]) w:=fun w=>by kernel_rfl
theorem Qs:∀S w,(A.cells S w (.agg (.pair (.eq (.pointer none)) (.pair (.eq (.pointer none)) (.eq (.int .u64 0))))) (Value.cells (.agg #[.pointer none,.pointer none,.int .u64 0])).toList):=fun _ _=>⟨[_],_,rfl,⟨rfl,rfl⟩,[_],_,rfl,⟨rfl,rfl⟩,rfl,rfl⟩
theorem zi:dG Tryz.prog 183 3 true:=⟨fun w=>by kernel_rfl,fun w=>by kernel_rfl⟩
def dF:Obj→Prop:=fun o=>o= .cells #[sx] 186 (0,0)
theorem ED{M:Md Tryz.prog}{o:Oper}{x:Operand}(ho:o.op= .load 186 x):bD M o [(x,.eq (.pointer (some ⟨0,0,none⟩)))] [.inv 0 dF] (fun _:Unit=>(.eq sx,[.inv 0 dF])):=
 .val1 (hcm:=fun o h=>by cases h;rfl) fun S w a h hs=>by
  have e:a.eval x= .pointer (some ⟨0,0,none⟩):=h.1
  obtain⟨ob,h1,rfl⟩:=hs
  have hsz:∀w,(sizeOf 186).run Tryz.prog w= .ok 1 w:=fun w=>by kernel_rfl
  have hag:∀w,(isAgg 186).run Tryz.prog w= .ok false w:=fun w=>by kernel_rfl
  have hc:w.cell? ⟨0,0,none⟩=some sx:=by simp [World.cell?,h1]
  refine⟨sx,?_,rfl⟩
  simp [execOp,ho,Instr.loadAt,e,Instr.sureAddr,loadVar,hsz,hag,hc]
theorem Qh:ah Tryz.prog 112:=ah.of Tryz.func112 (by kernel_rfl) (by kernel_rfl)
theorem PV:ah Tryz.prog 80:=ah.of Tryz.func80 (by kernel_rfl) (by kernel_rfl)
theorem yN{n:Nat}:true=false→n=1:=fun h=>nomatch h
def OL:Nat→Unit→Option Unit
 |0,_=>none
 |_+1,_=>some ()
theorem NE{a p:Nat}{n e0:Int}:cm Tryz.prog 112 [.eq (.iface 140 (.agg #[.int .i64 n])),.any,N8 143 a 150,.eq (.iface 221 (.agg #[hd 140]))] [.obj a 143 (.eq (.pointer (some ⟨p,0,none⟩))),.obj p 140 (.agg (.eq (.int .i64 e0)))]
 (fun _:Unit=>(bz [.eq (.bool true)],[.obj a 143 (.eq (.pointer (some ⟨p,0,none⟩))),.obj p 140 (.agg (.eq (.int .i64 n)))])):=by
 refine cm.of 62 Tryz.func112 rfl Tryz.ntmps112 rfl fun S w0=>?_
 refine ae ?_
 refine ab ?_
 refine aD rfl rfl rfl (oC rfl trivial) ⟨rfl,trivial⟩ fun b6=>?_
 refine dD rfl ?_
 refine au ?_
 refine ag ?_
 show JC _ _ _ _ _
 refine an ?_
 have h:(OL 1 ()).bind some=some ():=rfl
 refine aJ (Z:=Unit) (α:=Unit) (fun _ _=>[(0,.eq (.iface 140 (.agg #[.int .i64 n]))),(3,.eq (.iface 221 (.agg #[hd 140]))),(6,.eq (.pointer (some ⟨b6,0,none⟩)))]) (fun _ _=>[.obj b6 183 (N8 143 a 150),.obj a 143 (.eq (.pointer (some ⟨p,0,none⟩))),.obj p 140 (.agg (.eq (.int .i64 e0)))]) OL 1 () () (fun _=>rfl) h (SE.fin [0,1,2] ⟨rfl,rfl,rfl,trivial⟩ rfl) (fun _ _ _ _=>?_)
 refine an ?_
 refine ae ?_
 refine ae ?_
 refine ab ?_
 refine aC rfl rfl ?_
 refine aF rfl (GU Ov [.tmp 16] [.iface 140 (.agg #[.int .i64 n])] rfl rfl rfl (Ea _) (EG _)) ⟨rfl,trivial⟩ ?_
 refine aC rfl rfl ?_
 refine aF rfl (zD Ot [.tmp 18] [.iface 221 (.agg #[hd 140])] rfl rfl rfl (OX 140) KH Jx) ⟨rfl,rfl,trivial⟩ ?_
 refine au ?_
 refine ag ?_
 show JC _ _ _ _ _
 refine bC rfl (fun hb=>?_) (fun hb=>(by cases hb))
 refine ae ?_
 refine ab ?_
 refine bV rfl rfl rfl (ap rfl zi (yN) rfl) ⟨rfl,trivial⟩ ?_
 refine bH 1 rfl ?_
 refine bV rfl rfl rfl (dX (N:=[(.tmp 20,N8 143 a 150)]) (GT Ou [.tmp 20] [ta 143 a 150] rfl rfl rfl (fun _ _ h=>H6 h) zT trivial) fun _ _ _ hn=>⟨yC hn.1,trivial⟩) ⟨rfl,trivial⟩ ?_
 refine aC rfl rfl ?_
 refine aD rfl rfl rfl (GR (T:=140) (v:=fun b=>ta 140 b 153) K9 [.tmp 22] [.iface 140 (.agg #[.int .i64 n])] rfl rfl rfl (A3 n) rfl (wl n)) ⟨rfl,trivial⟩ fun b23=>?_
 refine bH 3 rfl ?_
 refine bG (Δ:=[_,_]) (F:=_) (fun _ _ _=>ay rfl _) rfl rfl (GI rfl rfl) ⟨rfl,rfl,trivial⟩ fun _=>?_
 refine au ?_
 refine ag ?_
 show JC _ _ _ _ _
 refine ae ?_
 refine ab ?_
 refine dD rfl ?_
 refine au ?_
 refine ag ?_
 show JC _ _ _ _ _
 refine aB ?_
 refine aO ?_
 refine aZ ?_
 refine aO ?_
 refine aZ ?_
 refine bh (SE.fin (Γ':=[(8,_)]) [2,0,1,3] ⟨rfl,trivial⟩ rfl) ?_
 exact aN () [.eq (.bool true)] 2 ⟨rfl,trivial⟩ rfl
theorem ND{v:Value}{p:Nat}{n:Int}:cm Tryz.prog 80 [.eq .nilIface,.eq v] [.obj p 140 (.agg (.eq (.int .i64 n))),.inv 0 dF] (fun _:Unit=>(bz [.eq (.bool false)],[.obj p 140 (.agg (.eq (.int .i64 n))),.inv 0 dF])):=by
 refine cm.of 42 Tryz.func80 rfl Tryz.ntmps80 rfl fun S w0=>?_;refine ae ?_;refine ab ?_;refine dD rfl ?_;refine au ?_;refine ag ?_;show JC _ _ _ _ _;refine ae ?_;refine ae ?_;refine ab ?_;refine aC rfl rfl ?_;refine aF rfl (rW rfl Tryz.underlying94 rfl) ⟨rfl,rfl,trivial⟩ ?_;refine au ?_;refine ag ?_;show JC _ _ _ _ _;refine bC rfl (fun hb=>?_) (fun hb=>(by cases hb));refine ae ?_;refine ab ?_;refine dD rfl ?_;refine au ?_;refine ag ?_;show JC _ _ _ _ _;refine aB ?_;refine aO ?_;exact aN () [.eq (.bool false)] 2 ⟨rfl,trivial⟩ rfl
theorem KI{p:Nat}{n e0:Int}:cm Tryz.prog 80 [.eq (.iface 140 (.agg #[.int .i64 n])),.eq (.iface 143 (.pointer (some ⟨p,0,none⟩)))] [.obj p 140 (.agg (.eq (.int .i64 e0))),.inv 0 dF]
 (fun _:Unit=>(bz [.eq (.bool true)],[.obj p 140 (.agg (.eq (.int .i64 n))),.inv 0 dF])):=by
 refine cm.of 42 Tryz.func80 rfl Tryz.ntmps80 rfl fun S w0=>?_
 refine ae ?_
 refine ab ?_
 refine dD rfl ?_
 refine au ?_
 refine ag ?_
 show JC _ _ _ _ _
 refine ae ?_
 refine ae ?_
 refine ab ?_
 refine aC rfl rfl ?_
 refine aF rfl (rW rfl Tryz.underlying94 rfl) ⟨rfl,rfl,trivial⟩ ?_
 refine au ?_
 refine ag ?_
 show JC _ _ _ _ _
 refine bC rfl (fun hb=>(by cases hb)) (fun hb=>?_)
 refine aY ?_
 refine ag ?_
 show JC _ _ _ _ _
 refine ae ?_
 refine ae ?_
 refine ab ?_
 refine aC rfl rfl ?_
 refine aF rfl (rW rfl Tryz.underlying20 rfl) ⟨rfl,rfl,trivial⟩ ?_
 refine au ?_
 refine ag ?_
 show JC _ _ _ _ _
 refine bC rfl (fun hb=>(by cases hb)) (fun hb=>?_)
 refine aY ?_
 refine ag ?_
 show JC _ _ _ _ _
 refine ae ?_
 refine ab ?_
 refine aC rfl rfl ?_
 refine aD rfl rfl rfl (GR (T:=143) (v:=fun b=>ta 143 b 150) K9 [.tmp 13] [.iface 143 (.pointer (some ⟨p,0,none⟩))] rfl rfl rfl (A2 _) rfl (wj _)) ⟨rfl,trivial⟩ fun a=>?_
 refine bZ (sL 14 rfl fun _ _ _ h=>KO rfl rfl rfl h) ?_
 refine aD rfl rfl rfl (bg rfl Oi Qs) trivial fun b5=>?_
 refine bj rfl rfl (bm rfl zi trivial rfl rfl) ⟨rfl,rfl,trivial⟩ ?_
 refine au ?_
 refine ag ?_
 show JC _ _ _ _ _
 refine ae ?_
 refine ab ?_
 refine bV rfl rfl rfl (ap rfl zi (yN) rfl) ⟨rfl,trivial⟩ ?_
 refine aF rfl (dX (N:=[(.tmp 15,N8 143 a 150)]) (GU Oy [.tmp 15] [ta 143 a 150] rfl rfl rfl (I4 _) (BG _)) fun _ _ _ hn=>⟨yC hn.1,trivial⟩) ⟨rfl,trivial⟩ ?_
 refine c9 rfl rfl ?_
 refine au ?_
 refine ag ?_
 show JC _ _ _ _ _
 refine ae ?_
 refine ae ?_
 refine ab ?_
 refine aC rfl rfl ?_
 refine aF rfl (zD K7 [] [] rfl rfl rfl (Ls 143) JG (Da 143 (.inl rfl))) ⟨rfl,trivial⟩ ?_
 refine aF rfl (ig rfl) ⟨rfl,rfl,trivial⟩ ?_
 refine aC rfl rfl ?_
 refine mi rfl rfl rfl rfl rfl rfl (ap rfl zi (yN) rfl) ⟨rfl,trivial⟩ ?_
 refine bH 1 rfl ?_
 refine mi rfl rfl rfl rfl rfl rfl (dX (N:=[(.tmp 21,N8 143 a 150)]) (GT Ox [.tmp 21] [ta 143 a 150] rfl rfl rfl (fun _ _ h=>HA h) zM trivial) fun _ _ _ hn=>⟨yC hn.1,trivial⟩) ⟨rfl,trivial⟩ ?_
 refine aF rfl (vq rfl) ⟨rfl,rfl,trivial⟩ ?_
 refine au ?_
 refine ag ?_
 show JC _ _ _ _ _
 refine bC rfl (fun hb=>(by cases hb)) (fun hb=>?_)
 refine aY ?_
 refine ag ?_
 show JC _ _ _ _ _
 refine ae ?_
 refine ab ?_
 refine aC rfl rfl ?_
 refine aF rfl (zD Oq [] [] rfl rfl rfl (OW 143) Kt Jv) ⟨rfl,trivial⟩ ?_
 refine c9 rfl rfl ?_
 refine au ?_
 refine ag ?_
 show JC _ _ _ _ _
 refine ae ?_
 refine ae ?_
 refine ab ?_
 refine aC rfl rfl ?_
 refine aF rfl (zD K7 [] [] rfl rfl rfl (Ls 140) JH (Da 140 (.inr rfl))) ⟨rfl,trivial⟩ ?_
 refine aF rfl (ig rfl) ⟨rfl,rfl,trivial⟩ ?_
 refine aC rfl rfl ?_
 refine m3 rfl rfl rfl rfl rfl rfl (aR rfl) ⟨rfl,trivial⟩ ?_
 refine bH 3 rfl ?_
 refine mi rfl rfl rfl rfl rfl rfl (ED rfl) ⟨rfl,trivial⟩ ?_
 refine m3 rfl rfl rfl rfl rfl rfl (zD Oo [.tmp 32] [sx] rfl rfl rfl (OU 140) JK Ju) ⟨rfl,rfl,trivial⟩ ?_
 refine m3 rfl rfl rfl rfl rfl rfl (fm rfl) ⟨rfl,trivial⟩ ?_
 refine aF rfl (vp rfl) ⟨rfl,rfl,trivial⟩ ?_
 refine au ?_
 refine ag ?_
 show JC _ _ _ _ _
 refine bC rfl (fun hb=>(by cases hb)) (fun hb=>?_)
 refine aY ?_
 refine ag ?_
 show JC _ _ _ _ _
 refine ae ?_
 refine ab ?_
 refine aC rfl rfl ?_
 refine aC rfl rfl ?_
 refine bH 2 rfl ?_
 refine bV rfl rfl rfl (ap rfl zi (yN) rfl) ⟨rfl,trivial⟩ ?_
 refine aC rfl rfl ?_
 refine bH 3 rfl ?_
 refine bH 3 rfl ?_
 refine bG (Δ:=[_,_]) (F:=_) (fun _ _ _=>ay rfl _) rfl rfl (dX (N:=[(.tmp 37,.eq (.iface 140 (.agg #[.int .i64 n]))),(.tmp 38,.eq (.iface 143 (.pointer (some ⟨p,0,none⟩)))),(.tmp 39,N8 143 a 150),(.tmp 40,.eq (.iface 221 (.agg #[hd 140])))])
  (ar [.tmp 37,.tmp 38,.tmp 39,.tmp 40] rfl rfl Qh rfl (NE (a:=a) (p:=p) (n:=n) (e0:=e0))) fun _ _ _ hn=>⟨hn.1,trivial,hn.2.2.1,hn.2.2.2.1,trivial⟩) ⟨rfl,rfl,rfl,rfl,trivial⟩ fun _=>?_
 refine c9 rfl rfl ?_
 refine au ?_
 refine ag ?_
 show JC _ _ _ _ _
 refine aB ?_
 refine bh (SE.fin (Γ':=[(4,_)]) [1,3,0,2] ⟨rfl,trivial⟩ rfl) ?_
 exact aN () [.eq (.bool true)] 2 ⟨rfl,trivial⟩ rfl
def QR:Value→Option (Option Int)
 | .nilIface=>some none
 | .iface t (.agg cs)=>if t=140 then(match cs.toList with |[.int .i64 n]=>some (some n) |_=>none) else none
 |_=>none
theorem Il{v:Value}{q:Option Int}(h:QR v=some q):(v= .nilIface∧q=none)∨∃n,v= .iface 140 (.agg #[.int .i64 n])∧q=some n:=by
 unfold QR at h;split at h
 ·cases h;exact .inl ⟨rfl,rfl⟩
 ·rename_i t cs;split at h
  ·rename_i e;split at h
   ·rename_i n hn;cases h;obtain⟨l⟩:=cs;cases hn;exact .inr ⟨n,by rw [e],rfl⟩
   ·cases h
  ·cases h
 ·cases h
theorem Qo{v:Value}{q:Option Int}{p:Nat}{e0:Int}(h:QR v=some q):cm Tryz.prog 80 [.eq v,.eq (.iface 143 (.pointer (some ⟨p,0,none⟩)))] [.obj p 140 (.agg (.eq (.int .i64 e0))),.inv 0 dF]
 (fun _:Unit=>(bz [.eq (.bool q.isSome)],[.obj p 140 (.agg (.eq (.int .i64 (q.getD e0)))),.inv 0 dF])):=by
 rcases Il h with⟨rfl,rfl⟩ |⟨n,rfl,rfl⟩
 ·
  exact ND
 ·
  exact KI
end Go.Proofs.YtmeojbemjkmebaaGreatDoor
