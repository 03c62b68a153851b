import Derived.Test.YtghkncjelangeaaGreatDoorQBTr6
set_option linter.unusedSimpArgs false
set_option linter.unusedVariables false
set_option maxRecDepth 20000
set_option maxHeartbeats 4000000
namespace Go.Proofs.YtghkncjelangeaaGreatDoor
open K Go Go.Proofs Go.Extern
theorem Am{x:Option (Nat×Addr×Nat)}{z:Sem Value}{f:Nat→Addr→Nat→Nat→Sem Value}{T:Nat}{a:Addr}{fl:Nat}(h:x=some (T,a,fl))(hf:Ns Tryz.prog (f T a fl (fl % 32))):Ns Tryz.prog (match x with |none=>z |some (t,a,fl)=>f t a fl (fl % 32)):=by
 subst h;exact hf
theorem Il{a b:Nat}{S:FS}{w:World}(h:(D.obj a 102 (.eq (.pointer (some ⟨b,0,none⟩)))).holds S w):
 (ReflectliteValue.method (ReflectliteValue.valueError "reflectlite.Value.IsNil" 0) ReflectliteValue.isNil #[td 102 a 150]).run Tryz.prog w= .ok (.bool false) w:=by
 obtain⟨cs,h1,rfl,_⟩:=h
 rw [RE]
 simp only [Sem.run_bind,zR,Result.andThen_ok]
 have hl:=f4 MC (fun _=>rfl) h1 (off:=0) (by simp)
 simp [ReflectliteValue.isNil,hl,mk]
theorem Ae{a:Nat}:Ns Tryz.prog (ReflectliteValue.method (ReflectliteValue.valueError "reflectlite.Value.IsNil" 0) ReflectliteValue.isNil #[td 102 a 150]):=by
 rw [RE];refine gK (q:=fun x=>x=some (102,⟨a,0,none⟩,150)) (oI (by kernel_rfl)) (show Pq Tryz.prog _ _ from Eq.mpr (show Pq Tryz.prog (fun x=>x=some (102,⟨a,0,none⟩,150)) (ReflectliteValue.parts (td 102 a 150))=(some (102,(⟨a,0,none⟩:Addr),150)=some (102,⟨a,0,none⟩,150)) by kernel_rfl) rfl) fun x hx=>Am hx ?_;unfold ReflectliteValue.isNil;simp only [List.contains,List.elem];refine ai ml fun v=>?_;split <;> trivial
theorem Ak{a:Nat}:Ns Tryz.prog (ReflectliteValue.method (ReflectliteValue.valueError "reflectlite.Value.Elem" 0) ReflectliteValue.elem #[td 102 a 150]):=by
 rw [RE];refine gK (q:=fun x=>x=some (102,⟨a,0,none⟩,150)) (oI (by kernel_rfl)) (show Pq Tryz.prog _ _ from Eq.mpr (show Pq Tryz.prog (fun x=>x=some (102,⟨a,0,none⟩,150)) (ReflectliteValue.parts (td 102 a 150))=(some (102,(⟨a,0,none⟩:Addr),150)=some (102,⟨a,0,none⟩,150)) by kernel_rfl) rfl) fun x hx=>Am hx ?_;unfold ReflectliteValue.elem;refine ai ml fun v=>?_;refine gK (q:=fun x=>x=some 97) (oI (by kernel_rfl)) (show Pq Tryz.prog _ _ from Eq.mpr (show Pq Tryz.prog (fun x=>x=some 97) (Rtype.elem? 102)=(some 97=some 97) by kernel_rfl) rfl) fun x hx=>?_;subst hx;have ve:∀n,Ns Tryz.prog (ReflectliteValue.valueError "reflectlite.Value.Elem" n:Sem Value):=fun n=>ai (oI (by kernel_rfl)) fun t=>ai (ai aR fun d=>by split <;> trivial) fun e=>ai kK fun _=>trivial;have mk':∀p,Ns Tryz.prog (ReflectliteValue.mk 97 p ReflectliteValue.flagAddr):=fun p=>oI (by kernel_rfl);cases v with
 |pointer q=>cases q with
  |none=>trivial
  |some q=>exact mk' q
 |_=>exact ve _
theorem IQ{a b:Nat}{S:FS}{w:World}(h:(D.obj a 102 (.eq (.pointer (some ⟨b,0,none⟩)))).holds S w):
 (ReflectliteValue.method (ReflectliteValue.valueError "reflectlite.Value.Elem" 0) ReflectliteValue.elem #[td 102 a 150]).run Tryz.prog w= .ok (td 97 b 409) w:=by
 obtain⟨cs,h1,rfl,_⟩:=h
 rw [RE]
 simp only [Sem.run_bind,zR,Result.andThen_ok]
 have hl:=f4 MC (fun _=>rfl) h1 (off:=0) (by simp)
 have e1:(Rtype.elem? 102).run Tryz.prog w= .ok (some 97) w:=by kernel_rfl
 have e2:(ReflectliteValue.mk 97 ⟨b,0,none⟩ ReflectliteValue.flagAddr).run Tryz.prog w= .ok (td 97 b 409) w:=by kernel_rfl
 simp [ReflectliteValue.elem,hl,mk,e1,e2]
theorem Un(v x:Value):ReflectliteValue.set #[v,x]=(do
 let (some (dst,a,fl),some (src,b,_)):=(←ReflectliteValue.parts v,←ReflectliteValue.parts x)
  |unsupported (.noEntry "extern/(internal/reflectlite.Value).Set.zeroValue")
 if fl / ReflectliteValue.flagAddr % 2 == 0 then unsupported (.noEntry "extern/(internal/reflectlite.Value).Set.unaddressable")
 let val←loadVar src b
 if←Rtype.directlyAssignable dst src then storeVar dst a val
 else if←Rtype.implements dst src then
  if(←Rtype.kind src) == 20 then
   match val with
   | .nilIface=>unsupported (.noEntry "extern/reflectlite: a nil value of one interface type handed on as a value of another")
   |_=>storeVar dst a val
  else storeVar dst a (.iface src val)
 else panicString ("reflectlite.Set: value of type " ++(←Rtype.spelt src)++ " is not assignable to type " ++(←Rtype.spelt dst))
 pure (.tuple #[])):=rfl
theorem E4(a:Addr)(w:World):(ReflectliteValue.parts (.agg #[hd 97,.pointer (some a),.int .u64 409])).run Tryz.prog w= .ok (some (97,a,409)) w:=by kernel_rfl
theorem Hi(a:Addr)(w:World):(ReflectliteValue.parts (.agg #[hd 97,.pointer (some a),.int .u64 153])).run Tryz.prog w= .ok (some (97,a,153)) w:=by kernel_rfl
theorem FR(w:World):(Rtype.directlyAssignable 97 97).run Tryz.prog w= .ok true w:=by kernel_rfl
theorem Fg{p b:Nat}:Ns Tryz.prog (ReflectliteValue.set #[td 97 p 409,td 97 b 153]):=by
 rw [Un];refine gK (q:=fun x=>x=some (97,⟨p,0,none⟩,409)) (oI (by kernel_rfl)) (show Pq Tryz.prog _ _ from Eq.mpr (show Pq Tryz.prog (fun x=>x=some (97,⟨p,0,none⟩,409)) (ReflectliteValue.parts (td 97 p 409))=(some (97,(⟨p,0,none⟩:Addr),409)=some (97,⟨p,0,none⟩,409)) by kernel_rfl) rfl) fun x hx=>?_;subst hx;refine gK (q:=fun x=>x=some (97,⟨b,0,none⟩,153)) (oI (by kernel_rfl)) (show Pq Tryz.prog _ _ from Eq.mpr (show Pq Tryz.prog (fun x=>x=some (97,⟨b,0,none⟩,153)) (ReflectliteValue.parts (td 97 b 153))=(some (97,(⟨b,0,none⟩:Addr),153)=some (97,⟨b,0,none⟩,153)) by kernel_rfl) rfl) fun x hx=>?_;subst hx;refine ai ml fun v=>?_;refine gK (q:=fun x=>x=true) (oI (by kernel_rfl)) (show Pq Tryz.prog _ _ from Eq.mpr (show Pq Tryz.prog (fun x=>x=true) (Rtype.directlyAssignable 97 97)=(true=true) by kernel_rfl) rfl) fun x hx=>?_;subst hx;exact ai t7 fun _=>trivial
theorem MA:dR Tryz.prog 97 1 true:=⟨fun w=>by kernel_rfl,fun w=>by kernel_rfl⟩
theorem Hr{M:Md Tryz.prog}{o:Oper}{x y:Operand}{c:Call}{ts:Array TypeId}{p b:Nat}{e0 n:Int}(ho:o.op= .call c)(hc:c={ callee:=.value (.func 134),args:=[x,y].toArray,argTypes:=ts }):
 bN M o [(x,.eq (td 97 p 409)),(y,.eq (td 97 b 153))] [.obj p 97 (.agg (.eq (.int .i64 e0))),.obj b 97 (.eq (.int .i64 n))] (fun _:Unit=>(.eq (.tuple #[]),[.obj p 97 (.agg (.eq (.int .i64 n))),.obj b 97 (.eq (.int .i64 n))])):=by
 have hex:∀{S:FS} {w:World} {a:Act},bI S w a [(x,.eq (td 97 p 409)),(y,.eq (td 97 b 153))]→execOp a.eval o=callFunc 134 #[td 97 p 409,td 97 b 153]:=fun {S w a} hN=>lp (xs:=[x,y]) (vs:=[td 97 p 409,td 97 b 153]) ho hc (iZ rfl hN)
 refine jp ⟨by simp only [nd, *],fun S w a next hd hN hO k=>?_⟩ (fun _ _ a hN _=>by rw [hex hN];exact L8.ns _ Fg) (fun d hd=>by simp at hd;rcases hd with rfl |rfl <;> trivial)
 obtain⟨cs1,h1,⟨rfl,_⟩⟩:=hO.holds (.obj p 97 (.agg (.eq (.int .i64 e0)))) (by simp)
 obtain⟨cs2,h2,⟨rfl,_⟩⟩:=hO.holds (.obj b 97 (.eq (.int .i64 n))) (by simp)
 have hne:p≠b:=fun e=>by
  have:=hO.apart;simp only [List.pairwise_cons] at this;exact this.1 _ (List.mem_singleton.2 rfl) p rfl (by rw [e];rfl)
 have op:=hO.own p ⟨_,List.mem_cons_self ..,rfl⟩
 have ob:=hO.own b ⟨_,List.mem_cons_of_mem _ (List.mem_singleton.2 rfl),rfl⟩
 have hl:=f4 MA (fun h=>by cases h) h2 (off:=0) (by simp)
 have hst:=iP Tryz.prog p 97 0 [.int .i64 n] 0 w #[.int .i64 e0] h1 (fun v hv=>by simp at hv;subst hv;rfl) (by simp)
 have hr:(execOp a.eval o).run Tryz.prog w= .ok (.value (.tuple #[])) { w with heap:=w.heap.setIfInBounds p (.cells #[.int .i64 n] 97 (0,0)) }:=by
  rw [hex hN,L8.run,Un];simp only [Sem.run_bind,E4,Hi,Result.andThen_ok];simp at hst;simp [ReflectliteValue.flagAddr,hl,mk,FR,storeVar,MA.size,Value.cells,hst]
 rw [hr]
 refine k () S _ _ (np hd ⟨_,List.mem_cons_self ..,rfl⟩ _) rfl ⟨fun d hd=>?_,fun b' hb'=>?_,?_⟩ (fun b' ⟨d,hd,e⟩=>.inl ?_)
 ·
  simp at hd;rcases hd with rfl |rfl
  ·exact⟨[.int .i64 n],by simp [op.2],rfl,rfl⟩
  ·exact⟨[.int .i64 n],by simp [Array.getElem?_setIfInBounds_ne hne,h2],rfl,rfl⟩
 ·
  obtain⟨d,hd,e⟩:=hb';simp at hd;rcases hd with rfl |rfl
  ·cases e;exact⟨op.1,by simpa using op.2⟩
  ·cases e;exact⟨ob.1,by simpa using ob.2⟩
 ·
  refine List.pairwise_cons.2 ⟨fun d hd b' e e'=>?_,List.pairwise_singleton _ _⟩;simp at hd;subst hd;cases e;cases e';exact hne rfl
 ·
  simp at hd;rcases hd with rfl |rfl
  ·exact⟨_,List.mem_cons_self ..,e⟩
  ·exact⟨_,List.mem_cons_of_mem _ (List.mem_singleton.2 rfl),e⟩
end Go.Proofs.YtghkncjelangeaaGreatDoor
set_option linter.unusedVariables false
set_option maxRecDepth 20000
set_option maxHeartbeats 4000000
namespace Go.Proofs.YtghkncjelangeaaGreatDoor
open K Go Go.Proofs Go.Extern
theorem O3:∀w,(zeroValue 166).run Tryz.prog w= .ok (.agg #[.pointer none,.pointer none,.int .u64 0]) w:=fun w=>by kernel_rfl
theorem Rm:∀S w,(A.cells S w (.agg (.pair (.eq (.pointer none)) (.pair (.eq (.pointer none)) (.eq (.int .u64 0))))) (Value.cells (.agg #[.pointer none,.pointer none,.int .u64 0])).toList):=fun _ _=>⟨[_],_,rfl,⟨rfl,rfl⟩,[_],_,rfl,⟨rfl,rfl⟩,rfl,rfl⟩
theorem zE:dR Tryz.prog 166 3 true:=⟨fun w=>by kernel_rfl,fun w=>by kernel_rfl⟩
def jv:Obj→Prop:=fun o=>o= .cells #[sw] 169 (0,0)
theorem Fb{M:Md Tryz.prog}{o:Oper}{x:Operand}(ho:o.op= .load 169 x):bN M o [(x,.eq (.pointer (some ⟨0,0,none⟩)))] [.inv 0 jv] (fun _:Unit=>(.eq sw,[.inv 0 jv])):=
 .val1 (hcm:=fun o h=>by cases h;rfl) fun S w a h hs=>by
  have e:a.eval x= .pointer (some ⟨0,0,none⟩):=h.1
  obtain⟨ob,h1,rfl⟩:=hs
  have hsz:∀w,(sizeOf 169).run Tryz.prog w= .ok 1 w:=fun w=>by kernel_rfl
  have hag:∀w,(isAgg 169).run Tryz.prog w= .ok false w:=fun w=>by kernel_rfl
  have hc:w.cell? ⟨0,0,none⟩=some sw:=by simp [World.cell?,h1]
  refine⟨sw,?_,rfl⟩
  simp [execOp,ho,Instr.loadAt,e,Instr.sureAddr,loadVar,hsz,hag,hc]
theorem Q6:ah Tryz.prog 105:=ah.of Tryz.func105 (by kernel_rfl) (by kernel_rfl)
theorem QE:ah Tryz.prog 63:=ah.of Tryz.func63 (by kernel_rfl) (by kernel_rfl)
theorem zg{n:Nat}:true=false→n=1:=fun h=>nomatch h
def PG:Nat→Unit→Option Unit
 |0,_=>none
 |_+1,_=>some ()
theorem Oo{a p:Nat}{n e0:Int}:cd Tryz.prog 105 [.eq (.iface 97 (.agg #[.int .i64 n])),.any,OR 102 a 150,.eq (.iface 207 (.agg #[hd 97]))] [.obj a 102 (.eq (.pointer (some ⟨p,0,none⟩))),.obj p 97 (.agg (.eq (.int .i64 e0)))]
 (fun _:Unit=>(bv [.eq (.bool true)],[.obj a 102 (.eq (.pointer (some ⟨p,0,none⟩))),.obj p 97 (.agg (.eq (.int .i64 n)))])):=by
 refine cd.of 62 Tryz.func105 rfl Tryz.ntmps105 rfl fun S w0=>?_
 refine ae ?_
 refine ab ?_
 refine aF rfl rfl rfl (oH rfl trivial) ⟨rfl,trivial⟩ fun b6=>?_
 refine dK rfl ?_
 refine au ?_
 refine ag ?_
 show JC _ _ _ _ _
 refine ao ?_
 have h:(PG 1 ()).bind some=some ():=rfl
 refine aJ (Z:=Unit) (α:=Unit) (fun _ _=>[(0,.eq (.iface 97 (.agg #[.int .i64 n]))),(3,.eq (.iface 207 (.agg #[hd 97]))),(6,.eq (.pointer (some ⟨b6,0,none⟩)))]) (fun _ _=>[.obj b6 166 (OR 102 a 150),.obj a 102 (.eq (.pointer (some ⟨p,0,none⟩))),.obj p 97 (.agg (.eq (.int .i64 e0)))]) PG 1 () () (fun _=>rfl) h (SE.fin [0,1,2] ⟨rfl,rfl,rfl,trivial⟩ rfl) (fun _ _ _ _=>?_)
 refine ao ?_
 refine ae ?_
 refine ae ?_
 refine ab ?_
 refine aB rfl rfl ?_
 refine aE rfl (HC O9 [.tmp 16] [.iface 97 (.agg #[.int .i64 n])] rfl rfl rfl (EL _) (Ff _)) ⟨rfl,trivial⟩ ?_
 refine aB rfl rfl ?_
 refine aE rfl (zV O7 [.tmp 18] [.iface 207 (.agg #[hd 97])] rfl rfl rfl (PQ 97) LG KE) ⟨rfl,rfl,trivial⟩ ?_
 refine au ?_
 refine ag ?_
 show JC _ _ _ _ _
 refine bM rfl (fun hb=>?_) (fun hb=>(by cases hb))
 refine ae ?_
 refine ab ?_
 refine bY rfl rfl rfl (aj rfl zE (zg) rfl) ⟨rfl,trivial⟩ ?_
 refine bL 1 rfl ?_
 refine bY rfl rfl rfl (dU (N:=[(.tmp 20,OR 102 a 150)]) (HB O8 [.tmp 20] [td 102 a 150] rfl rfl rfl (fun _ _ h=>IQ h) Ak trivial) fun _ _ _ hn=>⟨yX hn.1,trivial⟩) ⟨rfl,trivial⟩ ?_
 refine aB rfl rfl ?_
 refine aF rfl rfl rfl (HA (T:=97) (v:=fun b=>td 97 b 153) L9 [.tmp 22] [.iface 97 (.agg #[.int .i64 n])] rfl rfl rfl (BB n) rfl (wC n)) ⟨rfl,trivial⟩ fun b23=>?_
 refine bL 3 rfl ?_
 refine bU (Δ:=[_,_]) (F:=_) (fun _ _ _=>ax rfl _) rfl rfl (Hr rfl rfl) ⟨rfl,rfl,trivial⟩ fun _=>?_
 refine au ?_
 refine ag ?_
 show JC _ _ _ _ _
 refine ae ?_
 refine ab ?_
 refine dK rfl ?_
 refine au ?_
 refine ag ?_
 show JC _ _ _ _ _
 refine aA ?_
 refine aV ?_
 refine bj ?_
 refine aV ?_
 refine bj ?_
 refine bC (SE.fin (Γ':=[(8,_)]) [2,0,1,3] ⟨rfl,trivial⟩ rfl) ?_
 exact aO () [.eq (.bool true)] 2 ⟨rfl,trivial⟩ rfl
theorem On{v:Value}{p:Nat}{n:Int}:cd Tryz.prog 63 [.eq .nilIface,.eq v] [.obj p 97 (.agg (.eq (.int .i64 n))),.inv 0 jv] (fun _:Unit=>(bv [.eq (.bool false)],[.obj p 97 (.agg (.eq (.int .i64 n))),.inv 0 jv])):=by
 refine cd.of 42 Tryz.func63 rfl Tryz.ntmps63 rfl fun S w0=>?_;refine ae ?_;refine ab ?_;refine dK rfl ?_;refine au ?_;refine ag ?_;show JC _ _ _ _ _;refine ae ?_;refine ae ?_;refine ab ?_;refine aB rfl rfl ?_;refine aE rfl (rV rfl Tryz.underlying100 rfl) ⟨rfl,rfl,trivial⟩ ?_;refine au ?_;refine ag ?_;show JC _ _ _ _ _;refine bM rfl (fun hb=>?_) (fun hb=>(by cases hb));refine ae ?_;refine ab ?_;refine dK rfl ?_;refine au ?_;refine ag ?_;show JC _ _ _ _ _;refine aA ?_;refine aV ?_;exact aO () [.eq (.bool false)] 2 ⟨rfl,trivial⟩ rfl
theorem LH{p:Nat}{n e0:Int}:cd Tryz.prog 63 [.eq (.iface 97 (.agg #[.int .i64 n])),.eq (.iface 102 (.pointer (some ⟨p,0,none⟩)))] [.obj p 97 (.agg (.eq (.int .i64 e0))),.inv 0 jv]
 (fun _:Unit=>(bv [.eq (.bool true)],[.obj p 97 (.agg (.eq (.int .i64 n))),.inv 0 jv])):=by
 refine cd.of 42 Tryz.func63 rfl Tryz.ntmps63 rfl fun S w0=>?_
 refine ae ?_
 refine ab ?_
 refine dK rfl ?_
 refine au ?_
 refine ag ?_
 show JC _ _ _ _ _
 refine ae ?_
 refine ae ?_
 refine ab ?_
 refine aB rfl rfl ?_
 refine aE rfl (rV rfl Tryz.underlying100 rfl) ⟨rfl,rfl,trivial⟩ ?_
 refine au ?_
 refine ag ?_
 show JC _ _ _ _ _
 refine bM rfl (fun hb=>(by cases hb)) (fun hb=>?_)
 refine aW ?_
 refine ag ?_
 show JC _ _ _ _ _
 refine ae ?_
 refine ae ?_
 refine ab ?_
 refine aB rfl rfl ?_
 refine aE rfl (rV rfl Tryz.underlying20 rfl) ⟨rfl,rfl,trivial⟩ ?_
 refine au ?_
 refine ag ?_
 show JC _ _ _ _ _
 refine bM rfl (fun hb=>(by cases hb)) (fun hb=>?_)
 refine aW ?_
 refine ag ?_
 show JC _ _ _ _ _
 refine ae ?_
 refine ab ?_
 refine aB rfl rfl ?_
 refine aF rfl rfl rfl (HA (T:=102) (v:=fun b=>td 102 b 150) L9 [.tmp 13] [.iface 102 (.pointer (some ⟨p,0,none⟩))] rfl rfl rfl (BA _) rfl (wB _)) ⟨rfl,trivial⟩ fun a=>?_
 refine cC (sK 14 rfl fun _ _ _ h=>LL rfl rfl rfl h) ?_
 refine aF rfl rfl rfl (bf rfl O3 Rm) trivial fun b5=>?_
 refine bh rfl rfl (be rfl zE trivial rfl rfl) ⟨rfl,rfl,trivial⟩ ?_
 refine au ?_
 refine ag ?_
 show JC _ _ _ _ _
 refine ae ?_
 refine ab ?_
 refine bY rfl rfl rfl (aj rfl zE (zg) rfl) ⟨rfl,trivial⟩ ?_
 refine aE rfl (dU (N:=[(.tmp 15,OR 102 a 150)]) (HC Pg [.tmp 15] [td 102 a 150] rfl rfl rfl (JW _) (CG _)) fun _ _ _ hn=>⟨yX hn.1,trivial⟩) ⟨rfl,trivial⟩ ?_
 refine dp rfl rfl ?_
 refine au ?_
 refine ag ?_
 show JC _ _ _ _ _
 refine ae ?_
 refine ae ?_
 refine ab ?_
 refine aB rfl rfl ?_
 refine aE rfl (zV L6 [] [] rfl rfl rfl (ML 102) KO (DZ 102 (.inl rfl))) ⟨rfl,trivial⟩ ?_
 refine aE rfl (iy rfl) ⟨rfl,rfl,trivial⟩ ?_
 refine aB rfl rfl ?_
 refine jR rfl rfl rfl rfl rfl rfl (aj rfl zE (zg) rfl) ⟨rfl,trivial⟩ ?_
 refine bL 1 rfl ?_
 refine jR rfl rfl rfl rfl rfl rfl (dU (N:=[(.tmp 21,OR 102 a 150)]) (HB Pe [.tmp 21] [td 102 a 150] rfl rfl rfl (fun _ _ h=>Il h) Ae trivial) fun _ _ _ hn=>⟨yX hn.1,trivial⟩) ⟨rfl,trivial⟩ ?_
 refine aE rfl (mh rfl) ⟨rfl,rfl,trivial⟩ ?_
 refine au ?_
 refine ag ?_
 show JC _ _ _ _ _
 refine bM rfl (fun hb=>(by cases hb)) (fun hb=>?_)
 refine aW ?_
 refine ag ?_
 show JC _ _ _ _ _
 refine ae ?_
 refine ab ?_
 refine aB rfl rfl ?_
 refine aE rfl (zV O6 [] [] rfl rfl rfl (PP 102) Lq KC) ⟨rfl,trivial⟩ ?_
 refine dp rfl rfl ?_
 refine au ?_
 refine ag ?_
 show JC _ _ _ _ _
 refine ae ?_
 refine ae ?_
 refine ab ?_
 refine aB rfl rfl ?_
 refine aE rfl (zV L6 [] [] rfl rfl rfl (ML 97) KP (DZ 97 (.inr rfl))) ⟨rfl,trivial⟩ ?_
 refine aE rfl (iy rfl) ⟨rfl,rfl,trivial⟩ ?_
 refine aB rfl rfl ?_
 refine m9 rfl rfl rfl rfl rfl rfl (aK rfl) ⟨rfl,trivial⟩ ?_
 refine bL 3 rfl ?_
 refine jR rfl rfl rfl rfl rfl rfl (Fb rfl) ⟨rfl,trivial⟩ ?_
 refine m9 rfl rfl rfl rfl rfl rfl (zV O5 [.tmp 32] [sw] rfl rfl rfl (PO 97) KT KB) ⟨rfl,rfl,trivial⟩ ?_
 refine m9 rfl rfl rfl rfl rfl rfl (dX rfl) ⟨rfl,trivial⟩ ?_
 refine aE rfl (jx rfl) ⟨rfl,rfl,trivial⟩ ?_
 refine au ?_
 refine ag ?_
 show JC _ _ _ _ _
 refine bM rfl (fun hb=>(by cases hb)) (fun hb=>?_)
 refine aW ?_
 refine ag ?_
 show JC _ _ _ _ _
 refine ae ?_
 refine ab ?_
 refine aB rfl rfl ?_
 refine aB rfl rfl ?_
 refine bL 2 rfl ?_
 refine bY rfl rfl rfl (aj rfl zE (zg) rfl) ⟨rfl,trivial⟩ ?_
 refine aB rfl rfl ?_
 refine bL 3 rfl ?_
 refine bL 3 rfl ?_
 refine bU (Δ:=[_,_]) (F:=_) (fun _ _ _=>ax rfl _) rfl rfl (dU (N:=[(.tmp 37,.eq (.iface 97 (.agg #[.int .i64 n]))),(.tmp 38,.eq (.iface 102 (.pointer (some ⟨p,0,none⟩)))),(.tmp 39,OR 102 a 150),(.tmp 40,.eq (.iface 207 (.agg #[hd 97])))])
  (ap [.tmp 37,.tmp 38,.tmp 39,.tmp 40] rfl rfl Q6 rfl (Oo (a:=a) (p:=p) (n:=n) (e0:=e0))) fun _ _ _ hn=>⟨hn.1,trivial,hn.2.2.1,hn.2.2.2.1,trivial⟩) ⟨rfl,rfl,rfl,rfl,trivial⟩ fun _=>?_
 refine dp rfl rfl ?_
 refine au ?_
 refine ag ?_
 show JC _ _ _ _ _
 refine aA ?_
 refine bC (SE.fin (Γ':=[(4,_)]) [1,3,0,2] ⟨rfl,trivial⟩ rfl) ?_
 exact aO () [.eq (.bool true)] 2 ⟨rfl,trivial⟩ rfl
def RI:Value→Option (Option Int)
 | .nilIface=>some none
 | .iface t (.agg cs)=>if t=97 then(match cs.toList with |[.int .i64 n]=>some (some n) |_=>none) else none
 |_=>none
theorem I6{v:Value}{q:Option Int}(h:RI v=some q):(v= .nilIface∧q=none)∨∃n,v= .iface 97 (.agg #[.int .i64 n])∧q=some n:=by
 unfold RI at h;split at h
 ·cases h;exact .inl ⟨rfl,rfl⟩
 ·rename_i t cs;split at h
  ·rename_i e;split at h
   ·rename_i n hn;cases h;obtain⟨l⟩:=cs;cases hn;exact .inr ⟨n,by rw [e],rfl⟩
   ·cases h
  ·cases h
 ·cases h
theorem Re{v:Value}{q:Option Int}{p:Nat}{e0:Int}(h:RI v=some q):cd Tryz.prog 63 [.eq v,.eq (.iface 102 (.pointer (some ⟨p,0,none⟩)))] [.obj p 97 (.agg (.eq (.int .i64 e0))),.inv 0 jv]
 (fun _:Unit=>(bv [.eq (.bool q.isSome)],[.obj p 97 (.agg (.eq (.int .i64 (q.getD e0)))),.inv 0 jv])):=by
 rcases I6 h with⟨rfl,rfl⟩ |⟨n,rfl,rfl⟩
 ·
  exact On
 ·
  exact LH
end Go.Proofs.YtghkncjelangeaaGreatDoor
