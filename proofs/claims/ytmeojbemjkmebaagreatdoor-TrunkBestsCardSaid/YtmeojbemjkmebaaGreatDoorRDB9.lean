import Derived.Test.YtmeojbemjkmebaaGreatDoorRDTr6
set_option linter.unusedSimpArgs false
set_option linter.unusedVariables false
set_option maxRecDepth 20000
set_option maxHeartbeats 4000000
namespace Go.Proofs.YtmeojbemjkmebaaGreatDoor
open K Go Go.Proofs Go.Extern
theorem Az{x:Option (Nat×Addr×Nat)}{z:Sem Value}{f:Nat→Addr→Nat→Nat→Sem Value}{T:Nat}{a:Addr}{fl:Nat}(h:x=some (T,a,fl))(hf:Ns Tryz.prog (f T a fl (fl % 32))):Ns Tryz.prog (match x with |none=>z |some (t,a,fl)=>f t a fl (fl % 32)):=by
 subst h;exact hf
theorem IE{a b:Nat}{S:FS}{w:World}(h:(D.obj a 143 (.eq (.pointer (some ⟨b,0,none⟩)))).holds S w):
 (ReflectliteValue.method (ReflectliteValue.valueError "reflectlite.Value.IsNil" 0) ReflectliteValue.isNil #[tK 143 a 150]).run Tryz.prog w= .ok (.bool false) w:=by
 obtain⟨cs,h1,rfl,_⟩:=h
 rw [Ss]
 simp only [Sem.run_bind,Ac,Result.andThen_ok]
 have hl:=fR MY (fun _=>rfl) h1 (off:=0) (by simp)
 simp [ReflectliteValue.isNil,hl,mk]
theorem Aq{a:Nat}:Ns Tryz.prog (ReflectliteValue.method (ReflectliteValue.valueError "reflectlite.Value.IsNil" 0) ReflectliteValue.isNil #[tK 143 a 150]):=by
 rw [Ss];refine gB (q:=fun x=>x=some (143,⟨a,0,none⟩,150)) (oW (by kernel_rfl)) (show Pq Tryz.prog _ _ from Eq.mpr (show Pq Tryz.prog (fun x=>x=some (143,⟨a,0,none⟩,150)) (ReflectliteValue.parts (tK 143 a 150))=(some (143,(⟨a,0,none⟩:Addr),150)=some (143,⟨a,0,none⟩,150)) by kernel_rfl) rfl) fun x hx=>Az hx ?_;unfold ReflectliteValue.isNil;simp only [List.contains,List.elem];refine ah mm fun v=>?_;split <;> trivial
theorem Ax{a:Nat}:Ns Tryz.prog (ReflectliteValue.method (ReflectliteValue.valueError "reflectlite.Value.Elem" 0) ReflectliteValue.elem #[tK 143 a 150]):=by
 rw [Ss];refine gB (q:=fun x=>x=some (143,⟨a,0,none⟩,150)) (oW (by kernel_rfl)) (show Pq Tryz.prog _ _ from Eq.mpr (show Pq Tryz.prog (fun x=>x=some (143,⟨a,0,none⟩,150)) (ReflectliteValue.parts (tK 143 a 150))=(some (143,(⟨a,0,none⟩:Addr),150)=some (143,⟨a,0,none⟩,150)) by kernel_rfl) rfl) fun x hx=>Az hx ?_;unfold ReflectliteValue.elem;refine ah mm fun v=>?_;refine gB (q:=fun x=>x=some 140) (oW (by kernel_rfl)) (show Pq Tryz.prog _ _ from Eq.mpr (show Pq Tryz.prog (fun x=>x=some 140) (Rtype.elem? 143)=(some 140=some 140) by kernel_rfl) rfl) fun x hx=>?_;subst hx;have ve:∀n,Ns Tryz.prog (ReflectliteValue.valueError "reflectlite.Value.Elem" n:Sem Value):=fun n=>ah (oW (by kernel_rfl)) fun t=>ah (ah aO fun d=>by split <;> trivial) fun e=>ah kB fun _=>trivial;have mk':∀p,Ns Tryz.prog (ReflectliteValue.mk 140 p ReflectliteValue.flagAddr):=fun p=>oW (by kernel_rfl);cases v with
 |pointer q=>cases q with
  |none=>trivial
  |some q=>exact mk' q
 |_=>exact ve _
theorem Jb{a b:Nat}{S:FS}{w:World}(h:(D.obj a 143 (.eq (.pointer (some ⟨b,0,none⟩)))).holds S w):
 (ReflectliteValue.method (ReflectliteValue.valueError "reflectlite.Value.Elem" 0) ReflectliteValue.elem #[tK 143 a 150]).run Tryz.prog w= .ok (tK 140 b 409) w:=by
 obtain⟨cs,h1,rfl,_⟩:=h
 rw [Ss]
 simp only [Sem.run_bind,Ac,Result.andThen_ok]
 have hl:=fR MY (fun _=>rfl) h1 (off:=0) (by simp)
 have e1:(Rtype.elem? 143).run Tryz.prog w= .ok (some 140) w:=by kernel_rfl
 have e2:(ReflectliteValue.mk 140 ⟨b,0,none⟩ ReflectliteValue.flagAddr).run Tryz.prog w= .ok (tK 140 b 409) w:=by kernel_rfl
 simp [ReflectliteValue.elem,hl,mk,e1,e2]
theorem UH(v x:Value):ReflectliteValue.set #[v,x]=(do
 let (some (dst,a,fl),some (src,b,_)):=(←ReflectliteValue.parts v,←ReflectliteValue.parts x)
  |unsupported (.noEntry "extern/(internal/reflectlite.Value).Set.zeroValue")
 if fl / ReflectliteValue.flagAddr % 2 == 0 then unsupported (.noEntry "extern/(internal/reflectlite.Value).Set.unaddressable")
 let val←loadVar src b
 if←Rtype.directlyAssignable dst src then storeVar dst a val
 else if←Rtype.implements dst src then
  if(←Rtype.kind src) == 20 then
   match val with
   | .nilIface=>unsupported (.noEntry "extern/reflectlite: a nil value of one interface type handed on as a value of another")
   |_=>storeVar dst a val
  else storeVar dst a (.iface src val)
 else panicString ("reflectlite.Set: value of type " ++(←Rtype.spelt src)++ " is not assignable to type " ++(←Rtype.spelt dst))
 pure (.tuple #[])):=rfl
theorem Ft(a:Addr)(w:World):(ReflectliteValue.parts (.agg #[hd 140,.pointer (some a),.int .u64 409])).run Tryz.prog w= .ok (some (140,a,409)) w:=by kernel_rfl
theorem Hz(a:Addr)(w:World):(ReflectliteValue.parts (.agg #[hd 140,.pointer (some a),.int .u64 153])).run Tryz.prog w= .ok (some (140,a,153)) w:=by kernel_rfl
theorem Gf(w:World):(Rtype.directlyAssignable 140 140).run Tryz.prog w= .ok true w:=by kernel_rfl
theorem FI{p b:Nat}:Ns Tryz.prog (ReflectliteValue.set #[tK 140 p 409,tK 140 b 153]):=by
 rw [UH];refine gB (q:=fun x=>x=some (140,⟨p,0,none⟩,409)) (oW (by kernel_rfl)) (show Pq Tryz.prog _ _ from Eq.mpr (show Pq Tryz.prog (fun x=>x=some (140,⟨p,0,none⟩,409)) (ReflectliteValue.parts (tK 140 p 409))=(some (140,(⟨p,0,none⟩:Addr),409)=some (140,⟨p,0,none⟩,409)) by kernel_rfl) rfl) fun x hx=>?_;subst hx;refine gB (q:=fun x=>x=some (140,⟨b,0,none⟩,153)) (oW (by kernel_rfl)) (show Pq Tryz.prog _ _ from Eq.mpr (show Pq Tryz.prog (fun x=>x=some (140,⟨b,0,none⟩,153)) (ReflectliteValue.parts (tK 140 b 153))=(some (140,(⟨b,0,none⟩:Addr),153)=some (140,⟨b,0,none⟩,153)) by kernel_rfl) rfl) fun x hx=>?_;subst hx;refine ah mm fun v=>?_;refine gB (q:=fun x=>x=true) (oW (by kernel_rfl)) (show Pq Tryz.prog _ _ from Eq.mpr (show Pq Tryz.prog (fun x=>x=true) (Rtype.directlyAssignable 140 140)=(true=true) by kernel_rfl) rfl) fun x hx=>?_;subst hx;exact ah uw fun _=>trivial
theorem Hf:dL Tryz.prog 140 1 true:=⟨fun w=>by kernel_rfl,fun w=>by kernel_rfl⟩
theorem HH{M:Md Tryz.prog}{o:Oper}{x y:Operand}{c:Call}{ts:Array TypeId}{p b:Nat}{e0 n:Int}(ho:o.op= .call c)(hc:c={ callee:=.value (.func 145),args:=[x,y].toArray,argTypes:=ts }):
 bF M o [(x,.eq (tK 140 p 409)),(y,.eq (tK 140 b 153))] [.obj p 140 (.agg (.eq (.int .i64 e0))),.obj b 140 (.eq (.int .i64 n))] (fun _:Unit=>(.eq (.tuple #[]),[.obj p 140 (.agg (.eq (.int .i64 n))),.obj b 140 (.eq (.int .i64 n))])):=by
 have hex:∀{S:FS} {w:World} {a:Act},bp S w a [(x,.eq (tK 140 p 409)),(y,.eq (tK 140 b 153))]→execOp a.eval o=callFunc 145 #[tK 140 p 409,tK 140 b 153]:=fun {S w a} hN=>lh (xs:=[x,y]) (vs:=[tK 140 p 409,tK 140 b 153]) ho hc (iY rfl hN)
 refine jj ⟨by simp only [nd, *],fun S w a next hd hN hO k=>?_⟩ (fun _ _ a hN _=>by rw [hex hN];exact MS.ns _ FI) (fun d hd=>by simp at hd;rcases hd with rfl |rfl <;> trivial)
 obtain⟨cs1,h1,⟨rfl,_⟩⟩:=hO.holds (.obj p 140 (.agg (.eq (.int .i64 e0)))) (by simp)
 obtain⟨cs2,h2,⟨rfl,_⟩⟩:=hO.holds (.obj b 140 (.eq (.int .i64 n))) (by simp)
 have hne:p≠b:=fun e=>by
  have:=hO.apart;simp only [List.pairwise_cons] at this;exact this.1 _ (List.mem_singleton.2 rfl) p rfl (by rw [e];rfl)
 have op:=hO.own p ⟨_,List.mem_cons_self ..,rfl⟩
 have ob:=hO.own b ⟨_,List.mem_cons_of_mem _ (List.mem_singleton.2 rfl),rfl⟩
 have hl:=fR Hf (fun h=>by cases h) h2 (off:=0) (by simp)
 have hst:=iO Tryz.prog p 140 0 [.int .i64 n] 0 w #[.int .i64 e0] h1 (fun v hv=>by simp at hv;subst hv;rfl) (by simp)
 have hr:(execOp a.eval o).run Tryz.prog w= .ok (.value (.tuple #[])) { w with heap:=w.heap.setIfInBounds p (.cells #[.int .i64 n] 140 (0,0)) }:=by
  rw [hex hN,MS.run,UH];simp only [Sem.run_bind,Ft,Hz,Result.andThen_ok];simp at hst;simp [ReflectliteValue.flagAddr,hl,mk,Gf,storeVar,Hf.size,Value.cells,hst]
 rw [hr]
 refine k () S _ _ (nz hd ⟨_,List.mem_cons_self ..,rfl⟩ _) rfl ⟨fun d hd=>?_,fun b' hb'=>?_,?_⟩ (fun b' ⟨d,hd,e⟩=>.inl ?_)
 ·
  simp at hd;rcases hd with rfl |rfl
  ·exact⟨[.int .i64 n],by simp [op.2],rfl,rfl⟩
  ·exact⟨[.int .i64 n],by simp [Array.getElem?_setIfInBounds_ne hne,h2],rfl,rfl⟩
 ·
  obtain⟨d,hd,e⟩:=hb';simp at hd;rcases hd with rfl |rfl
  ·cases e;exact⟨op.1,by simpa using op.2⟩
  ·cases e;exact⟨ob.1,by simpa using ob.2⟩
 ·
  refine List.pairwise_cons.2 ⟨fun d hd b' e e'=>?_,List.pairwise_singleton _ _⟩;simp at hd;subst hd;cases e;cases e';exact hne rfl
 ·
  simp at hd;rcases hd with rfl |rfl
  ·exact⟨_,List.mem_cons_self ..,e⟩
  ·exact⟨_,List.mem_cons_of_mem _ (List.mem_singleton.2 rfl),e⟩
end Go.Proofs.YtmeojbemjkmebaaGreatDoor
set_option linter.unusedVariables false
set_option maxRecDepth 20000
set_option maxHeartbeats 4000000
namespace Go.Proofs.YtmeojbemjkmebaaGreatDoor
open K Go Go.Proofs Go.Extern
theorem PN:∀w,(zeroValue 183).run Tryz.prog w= .ok (.agg #[.pointer none,.pointer none,.int .u64 0]) w:=fun w=>by kernel_rfl
theorem RP:∀S w,(A.cells S w (.agg (.pair (.eq (.pointer none)) (.pair (.eq (.pointer none)) (.eq (.int .u64 0))))) (Value.cells (.agg #[.pointer none,.pointer none,.int .u64 0])).toList):=fun _ _=>⟨[_],_,rfl,⟨rfl,rfl⟩,[_],_,rfl,⟨rfl,rfl⟩,rfl,rfl⟩
theorem zQ:dL Tryz.prog 183 3 true:=⟨fun w=>by kernel_rfl,fun w=>by kernel_rfl⟩
def f4:Obj→Prop:=fun o=>o= .cells #[sU] 186 (0,0)
theorem FC{M:Md Tryz.prog}{o:Oper}{x:Operand}(ho:o.op= .load 186 x):bF M o [(x,.eq (.pointer (some ⟨0,0,none⟩)))] [.inv 0 f4] (fun _:Unit=>(.eq sU,[.inv 0 f4])):=
 .val1 (hcm:=fun o h=>by cases h;rfl) fun S w a h hs=>by
  have e:a.eval x= .pointer (some ⟨0,0,none⟩):=h.1
  obtain⟨ob,h1,rfl⟩:=hs
  have hsz:∀w,(sizeOf 186).run Tryz.prog w= .ok 1 w:=fun w=>by kernel_rfl
  have hag:∀w,(isAgg 186).run Tryz.prog w= .ok false w:=fun w=>by kernel_rfl
  have hc:w.cell? ⟨0,0,none⟩=some sU:=by simp [World.cell?,h1]
  refine⟨sU,?_,rfl⟩
  simp [execOp,ho,Instr.loadAt,e,Instr.sureAddr,loadVar,hsz,hag,hc]
theorem RA:ae Tryz.prog 112:=ae.of Tryz.func112 (by kernel_rfl) (by kernel_rfl)
theorem Q3:ae Tryz.prog 80:=ae.of Tryz.func80 (by kernel_rfl) (by kernel_rfl)
theorem zt{n:Nat}:true=false→n=1:=fun h=>nomatch h
def Qa:Nat→Unit→Option Unit
 |0,_=>none
 |_+1,_=>some ()
theorem OU{a p:Nat}{n e0:Int}:bX Tryz.prog 112 [.eq (.iface 140 (.agg #[.int .i64 n])),.any,PC 143 a 150,.eq (.iface 221 (.agg #[hd 140]))] [.obj a 143 (.eq (.pointer (some ⟨p,0,none⟩))),.obj p 140 (.agg (.eq (.int .i64 e0)))]
 (fun _:Unit=>(bj [.eq (.bool true)],[.obj a 143 (.eq (.pointer (some ⟨p,0,none⟩))),.obj p 140 (.agg (.eq (.int .i64 n)))])):=by
 refine bX.of 62 Tryz.func112 rfl Tryz.ntmps112 rfl fun S w0=>?_
 refine ar ?_
 refine ab ?_
 refine aD rfl rfl rfl (oV rfl trivial) ⟨rfl,trivial⟩ fun b6=>?_
 refine dF rfl ?_
 refine ax ?_
 refine ag ?_
 show JC _ _ _ _ _
 refine aj ?_
 have h:(Qa 1 ()).bind some=some ():=rfl
 refine aK (Z:=Unit) (α:=Unit) (fun _ _=>[(0,.eq (.iface 140 (.agg #[.int .i64 n]))),(3,.eq (.iface 221 (.agg #[hd 140]))),(6,.eq (.pointer (some ⟨b6,0,none⟩)))]) (fun _ _=>[.obj b6 183 (PC 143 a 150),.obj a 143 (.eq (.pointer (some ⟨p,0,none⟩))),.obj p 140 (.agg (.eq (.int .i64 e0)))]) Qa 1 () () (fun _=>rfl) h (SE.fin [0,1,2] ⟨rfl,rfl,rfl,trivial⟩ rfl) (fun _ _ _ _=>?_)
 refine aj ?_
 refine ar ?_
 refine ar ?_
 refine ab ?_
 refine aC rfl rfl ?_
 refine aF rfl (HS PW [.tmp 16] [.iface 140 (.agg #[.int .i64 n])] rfl rfl rfl (E4 _) (FH _)) ⟨rfl,trivial⟩ ?_
 refine aC rfl rfl ?_
 refine aF rfl (Ag PU [.tmp 18] [.iface 221 (.agg #[hd 140])] rfl rfl rfl (Qj 140) LX KY) ⟨rfl,rfl,trivial⟩ ?_
 refine ax ?_
 refine ag ?_
 show JC _ _ _ _ _
 refine bK rfl (fun hb=>?_) (fun hb=>(by cases hb))
 refine ar ?_
 refine ab ?_
 refine bW rfl rfl rfl (ai rfl zQ (zt) rfl) ⟨rfl,trivial⟩ ?_
 refine bG 1 rfl ?_
 refine bW rfl rfl rfl (cV (N:=[(.tmp 20,PC 143 a 150)]) (HQ PV [.tmp 20] [tK 143 a 150] rfl rfl rfl (fun _ _ h=>Jb h) Ax trivial) fun _ _ _ hn=>⟨zi hn.1,trivial⟩) ⟨rfl,trivial⟩ ?_
 refine aC rfl rfl ?_
 refine aD rfl rfl rfl (HO (T:=140) (v:=fun b=>tK 140 b 153) MU [.tmp 22] [.iface 140 (.agg #[.int .i64 n])] rfl rfl rfl (BN n) rfl (wS n)) ⟨rfl,trivial⟩ fun b23=>?_
 refine bG 3 rfl ?_
 refine bN (Δ:=[_,_]) (F:=_) (fun _ _ _=>ay rfl _) rfl rfl (HH rfl rfl) ⟨rfl,rfl,trivial⟩ fun _=>?_
 refine ax ?_
 refine ag ?_
 show JC _ _ _ _ _
 refine ar ?_
 refine ab ?_
 refine dF rfl ?_
 refine ax ?_
 refine ag ?_
 show JC _ _ _ _ _
 refine bI ?_
 refine eC ?_
 refine mC ?_
 refine eC ?_
 refine mC ?_
 refine bu (SE.fin (Γ':=[(8,_)]) [2,0,1,3] ⟨rfl,trivial⟩ rfl) ?_
 exact aN () [.eq (.bool true)] 2 ⟨rfl,trivial⟩ rfl
theorem OT{v:Value}{p:Nat}{n:Int}:bX Tryz.prog 80 [.eq .nilIface,.eq v] [.obj p 140 (.agg (.eq (.int .i64 n))),.inv 0 f4] (fun _:Unit=>(bj [.eq (.bool false)],[.obj p 140 (.agg (.eq (.int .i64 n))),.inv 0 f4])):=by
 refine bX.of 42 Tryz.func80 rfl Tryz.ntmps80 rfl fun S w0=>?_;refine ar ?_;refine ab ?_;refine dF rfl ?_;refine ax ?_;refine ag ?_;show JC _ _ _ _ _;refine ar ?_;refine ar ?_;refine ab ?_;refine aC rfl rfl ?_;refine aF rfl (sE rfl Tryz.underlying94 rfl) ⟨rfl,rfl,trivial⟩ ?_;refine ax ?_;refine ag ?_;show JC _ _ _ _ _;refine bK rfl (fun hb=>?_) (fun hb=>(by cases hb));refine ar ?_;refine ab ?_;refine dF rfl ?_;refine ax ?_;refine ag ?_;show JC _ _ _ _ _;refine bI ?_;refine eC ?_;exact aN () [.eq (.bool false)] 2 ⟨rfl,trivial⟩ rfl
theorem LY{p:Nat}{n e0:Int}:bX Tryz.prog 80 [.eq (.iface 140 (.agg #[.int .i64 n])),.eq (.iface 143 (.pointer (some ⟨p,0,none⟩)))] [.obj p 140 (.agg (.eq (.int .i64 e0))),.inv 0 f4]
 (fun _:Unit=>(bj [.eq (.bool true)],[.obj p 140 (.agg (.eq (.int .i64 n))),.inv 0 f4])):=by
 refine bX.of 42 Tryz.func80 rfl Tryz.ntmps80 rfl fun S w0=>?_
 refine ar ?_
 refine ab ?_
 refine dF rfl ?_
 refine ax ?_
 refine ag ?_
 show JC _ _ _ _ _
 refine ar ?_
 refine ar ?_
 refine ab ?_
 refine aC rfl rfl ?_
 refine aF rfl (sE rfl Tryz.underlying94 rfl) ⟨rfl,rfl,trivial⟩ ?_
 refine ax ?_
 refine ag ?_
 show JC _ _ _ _ _
 refine bK rfl (fun hb=>(by cases hb)) (fun hb=>?_)
 refine cR ?_
 refine ag ?_
 show JC _ _ _ _ _
 refine ar ?_
 refine ar ?_
 refine ab ?_
 refine aC rfl rfl ?_
 refine aF rfl (sE rfl Tryz.underlying20 rfl) ⟨rfl,rfl,trivial⟩ ?_
 refine ax ?_
 refine ag ?_
 show JC _ _ _ _ _
 refine bK rfl (fun hb=>(by cases hb)) (fun hb=>?_)
 refine cR ?_
 refine ag ?_
 show JC _ _ _ _ _
 refine ar ?_
 refine ab ?_
 refine aC rfl rfl ?_
 refine aD rfl rfl rfl (HO (T:=143) (v:=fun b=>tK 143 b 150) MU [.tmp 13] [.iface 143 (.pointer (some ⟨p,0,none⟩))] rfl rfl rfl (BM _) rfl (wR _)) ⟨rfl,trivial⟩ fun a=>?_
 refine cp (te 14 rfl fun _ _ _ h=>L6 rfl rfl rfl h) ?_
 refine aD rfl rfl rfl (aY rfl PN RP) trivial fun b5=>?_
 refine a8 rfl rfl (aX rfl zQ trivial rfl rfl) ⟨rfl,rfl,trivial⟩ ?_
 refine ax ?_
 refine ag ?_
 show JC _ _ _ _ _
 refine ar ?_
 refine ab ?_
 refine bW rfl rfl rfl (ai rfl zQ (zt) rfl) ⟨rfl,trivial⟩ ?_
 refine aF rfl (cV (N:=[(.tmp 15,PC 143 a 150)]) (HS PY [.tmp 15] [tK 143 a 150] rfl rfl rfl (Kt _) (CS _)) fun _ _ _ hn=>⟨zi hn.1,trivial⟩) ⟨rfl,trivial⟩ ?_
 refine dn rfl rfl ?_
 refine ax ?_
 refine ag ?_
 show JC _ _ _ _ _
 refine ar ?_
 refine ar ?_
 refine ab ?_
 refine aC rfl rfl ?_
 refine aF rfl (Ag MR [] [] rfl rfl rfl (Nb 143) K4 (Ee 143 (.inl rfl))) ⟨rfl,trivial⟩ ?_
 refine aF rfl (gX rfl) ⟨rfl,rfl,trivial⟩ ?_
 refine aC rfl rfl ?_
 refine jr rfl rfl rfl rfl rfl rfl (ai rfl zQ (zt) rfl) ⟨rfl,trivial⟩ ?_
 refine bG 1 rfl ?_
 refine jr rfl rfl rfl rfl rfl rfl (cV (N:=[(.tmp 21,PC 143 a 150)]) (HQ PX [.tmp 21] [tK 143 a 150] rfl rfl rfl (fun _ _ h=>IE h) Aq trivial) fun _ _ _ hn=>⟨zi hn.1,trivial⟩) ⟨rfl,trivial⟩ ?_
 refine aF rfl (mi rfl) ⟨rfl,rfl,trivial⟩ ?_
 refine ax ?_
 refine ag ?_
 show JC _ _ _ _ _
 refine bK rfl (fun hb=>(by cases hb)) (fun hb=>?_)
 refine cR ?_
 refine ag ?_
 show JC _ _ _ _ _
 refine ar ?_
 refine ab ?_
 refine aC rfl rfl ?_
 refine aF rfl (Ag PT [] [] rfl rfl rfl (Qi 143) LK KW) ⟨rfl,trivial⟩ ?_
 refine dn rfl rfl ?_
 refine ax ?_
 refine ag ?_
 show JC _ _ _ _ _
 refine ar ?_
 refine ar ?_
 refine ab ?_
 refine aC rfl rfl ?_
 refine aF rfl (Ag MR [] [] rfl rfl rfl (Nb 140) K5 (Ee 140 (.inr rfl))) ⟨rfl,trivial⟩ ?_
 refine aF rfl (gX rfl) ⟨rfl,rfl,trivial⟩ ?_
 refine aC rfl rfl ?_
 refine ng rfl rfl rfl rfl rfl rfl (aL rfl) ⟨rfl,trivial⟩ ?_
 refine bG 3 rfl ?_
 refine jr rfl rfl rfl rfl rfl rfl (FC rfl) ⟨rfl,trivial⟩ ?_
 refine ng rfl rfl rfl rfl rfl rfl (Ag PS [.tmp 32] [sU] rfl rfl rfl (Qh 140) K7 KV) ⟨rfl,rfl,trivial⟩ ?_
 refine ng rfl rfl rfl rfl rfl rfl (eW rfl) ⟨rfl,trivial⟩ ?_
 refine aF rfl (gy rfl) ⟨rfl,rfl,trivial⟩ ?_
 refine ax ?_
 refine ag ?_
 show JC _ _ _ _ _
 refine bK rfl (fun hb=>(by cases hb)) (fun hb=>?_)
 refine cR ?_
 refine ag ?_
 show JC _ _ _ _ _
 refine ar ?_
 refine ab ?_
 refine aC rfl rfl ?_
 refine aC rfl rfl ?_
 refine bG 2 rfl ?_
 refine bW rfl rfl rfl (ai rfl zQ (zt) rfl) ⟨rfl,trivial⟩ ?_
 refine aC rfl rfl ?_
 refine bG 3 rfl ?_
 refine bG 3 rfl ?_
 refine bN (Δ:=[_,_]) (F:=_) (fun _ _ _=>ay rfl _) rfl rfl (cV (N:=[(.tmp 37,.eq (.iface 140 (.agg #[.int .i64 n]))),(.tmp 38,.eq (.iface 143 (.pointer (some ⟨p,0,none⟩)))),(.tmp 39,PC 143 a 150),(.tmp 40,.eq (.iface 221 (.agg #[hd 140])))])
  (ao [.tmp 37,.tmp 38,.tmp 39,.tmp 40] rfl rfl RA rfl (OU (a:=a) (p:=p) (n:=n) (e0:=e0))) fun _ _ _ hn=>⟨hn.1,trivial,hn.2.2.1,hn.2.2.2.1,trivial⟩) ⟨rfl,rfl,rfl,rfl,trivial⟩ fun _=>?_
 refine dn rfl rfl ?_
 refine ax ?_
 refine ag ?_
 show JC _ _ _ _ _
 refine bI ?_
 refine bu (SE.fin (Γ':=[(4,_)]) [1,3,0,2] ⟨rfl,trivial⟩ rfl) ?_
 exact aN () [.eq (.bool true)] 2 ⟨rfl,trivial⟩ rfl
def SB:Value→Option (Option Int)
 | .nilIface=>some none
 | .iface t (.agg cs)=>if t=140 then(match cs.toList with |[.int .i64 n]=>some (some n) |_=>none) else none
 |_=>none
theorem Jp{v:Value}{q:Option Int}(h:SB v=some q):(v= .nilIface∧q=none)∨∃n,v= .iface 140 (.agg #[.int .i64 n])∧q=some n:=by
 unfold SB at h;split at h
 ·cases h;exact .inl ⟨rfl,rfl⟩
 ·rename_i t cs;split at h
  ·rename_i e;split at h
   ·rename_i n hn;cases h;obtain⟨l⟩:=cs;cases hn;exact .inr ⟨n,by rw [e],rfl⟩
   ·cases h
  ·cases h
 ·cases h
theorem RJ{v:Value}{q:Option Int}{p:Nat}{e0:Int}(h:SB v=some q):bX Tryz.prog 80 [.eq v,.eq (.iface 143 (.pointer (some ⟨p,0,none⟩)))] [.obj p 140 (.agg (.eq (.int .i64 e0))),.inv 0 f4]
 (fun _:Unit=>(bj [.eq (.bool q.isSome)],[.obj p 140 (.agg (.eq (.int .i64 (q.getD e0)))),.inv 0 f4])):=by
 rcases Jp h with⟨rfl,rfl⟩ |⟨n,rfl,rfl⟩
 ·
  exact OT
 ·
  exact LY
end Go.Proofs.YtmeojbemjkmebaaGreatDoor
