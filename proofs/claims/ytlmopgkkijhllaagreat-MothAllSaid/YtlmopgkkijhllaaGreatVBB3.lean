import Derived.Test.YtlmopgkkijhllaaGreatVBB2
import Derived.Laws.StructEq
set_option linter.unusedVariables false
set_option linter.unusedSimpArgs false
namespace Go.Proofs.YtlmopgkkijhllaaGreat
namespace K
open Go
section
variable {c:Cx}{Q:Exit→Act→VW→Prop}{Γ Γ':Ga}{Δ Δ':List D}{C C':Code}{M:Act→VW→Prop}
theorem cg(h:JC c C (bS (C'.wk c.M c.rd Q) Q) Γ Δ):JC c (.seq C C') Q Γ Δ:=fun a w s=>F5 (h a w s)
theorem I8{Z:Type}(G:Z→Ga)(E:Z→List D)(p:Z→Prop)(h:JC c C (bS (fun a w=>∃z,p z∧St c (G z) (E z) a w) Q) Γ Δ)(h':∀z,p z→JC c C' Q (G z) (E z)):JC c (.seq C C') Q Γ Δ:=
 fun a w s=>F5 (mP (fun e a w q=>by
  cases e with
  |normal=>obtain⟨z,hp,hs⟩:=q;exact h' z hp a w hs
  |_=>exact q) (h a w s))
theorem vp{Z:Type}{G:Z→Ga}{E:Z→List D}{p:Z→Prop}(z:Z)(hp:p z)(h:SE c Γ Δ (G z) (E z)):JN c (fun a w=>∃z,p z∧St c (G z) (E z) a w) Γ Δ:=fun a w s=>⟨z,hp,h a w s⟩
theorem ae{id:Nat}{l:List Oper}(h:JO c l.toArray l Q Γ Δ):JC c (.region id l.toArray false) Q Γ Δ:=fun a w s=>vE (h a w s)
theorem jg{s:Nat}{b:Bool}(hl:lk Γ s=some (.eq (.bool b)))(ht:b=true→JC c C Q Γ Δ)(hf:b=false→JC c C' Q Γ Δ):JC c (.cond (.tmp s) C C') Q Γ Δ:=fun a w st=>
 pC (t:=b) (by
  obtain⟨_,_,S,_,_,_,h6⟩:=st
  exact h6 s _ hl) (fun h=>ht h a w st) (fun h=>hf h a w st)
theorem I9{b:Bool}(ht:b=true→JC c C Q Γ Δ)(hf:b=false→JC c C' Q Γ Δ):JC c (.cond (.const (.bool b)) C C') Q Γ Δ:=fun a w st=>
 pC (t:=b) rfl (fun h=>ht h a w st) (fun h=>hf h a w st)
theorem ak{id:Nat}(h:JC c C (Ex.blk id Q) Γ Δ):JC c (.block id C) Q Γ Δ:=fun a w s=>F9 (h a w s)
theorem je(h:JN c (Q .normal) Γ Δ):JC c .skip Q Γ Δ:=fun a w s=>Jp (h a w s)
theorem yu{id:Nat}(h:JN c (Q (.exit id)) Γ Δ):JC c (.exit id) Q Γ Δ:=fun a w s=>Js (h a w s)
theorem dw(h:JN c (Q .ret) Γ Δ):JC c .ret Q Γ Δ:=fun a w s=>Nu (h a w s)
theorem ax(h:JN c M Γ Δ):JN c (bS M Q .normal) Γ Δ:=h
theorem mM{id:Nat}(h:JN c (Q (.exit id)) Γ Δ):JN c (bS M Q (.exit id)) Γ Δ:=h
theorem jy(h:JN c (Q .ret) Γ Δ):JN c (bS M Q .ret) Γ Δ:=h
theorem gC{id:Nat}(h:JN c (Q .normal) Γ Δ):JN c (Ex.blk id Q .normal) Γ Δ:=h
theorem oO{id:Nat}(h:JN c (Q .ret) Γ Δ):JN c (Ex.blk id Q .ret) Γ Δ:=h
theorem qz{id:Nat}(h:JN c (Q .normal) Γ Δ):JN c (Ex.blk id Q (.exit id)) Γ Δ:=fun a w s=>by
 show if id=id then Q .normal a w else Q (.exit id) a w
 rw [if_pos rfl]
 exact h a w s
theorem L1{Z:Type}(G:Z→Ga)(E:Z→List D)(p:Nat→Z→Prop)(n:Nat)(z:Z)(hp:p n z)(hs:SE c Γ Δ (G z) (E z))
 (round:∀n z,p n z→JC c C (bS (fun a w=>∃z':Nat×Z,(z'.1 < n∧p z'.1 z'.2)∧St c (G z'.2) (E z'.2) a w) Q) (G z) (E z)):JC c (.loop C) Q Γ Δ:=fun a w st=>
 xg (fun n a w=>∃z,p n z∧St c (G z) (E z) a w) (fun n a w ⟨z,hp,hs⟩=>mP (fun e a w q=>by
  cases e with
  |normal=>obtain⟨⟨m,z'⟩,⟨hm,hp'⟩,hs'⟩:=q;exact⟨m,hm,z',hp',hs'⟩
  |_=>exact q) (round n z hp a w hs)) n a w ⟨z,hp,hs a w st⟩
def xa(P:Program)(Γ:Ga)(Δ:List D):List ResultVar→List A→Prop
 |[],[]=>True
 | .tmp s::l,r::rs=>lk Γ s=some r∧xa P Γ Δ l rs
 | .cell s T::l,r::rs=>(∃b T0 a0 n g,lk Γ s=some (.eq (.pointer (some ⟨b,0,none⟩)))∧D.obj b T0 a0∈Δ∧dY P T n g∧(g=false→n=1)∧a0.get 0 n g=some r)∧xa P Γ Δ l rs
 |_,_=>False
def Nz:List A→A
 |[]=>.any
 |r::l=>.pair r (Nz l)
@[reducible] def bv:List A→A
 |[r]=>r
 |l=>.tup (Nz l)
def rR(tmps:Array Value):ResultVar→Sem Value
 | .tmp t=>pure (tmps.getD t undef)
 | .cell s t=>do loadVar t (←asAddr (tmps.getD s undef))
theorem xa.run{P:Program}{S:FS}{w:World}{a:Act}(hO:∀d∈Δ,d.holds S w)(h6:∀s r,lk Γ s=some r→r.holds S w (a.tmps.getD s undef)):∀{rv:List ResultVar} {rs:List A},xa P Γ Δ rv rs→
 ∃vs:List Value,(∀w1:World,(∀b,ap Δ b→w1.heap[b]? =w.heap[b]?)→(rv.mapM (rR a.tmps)).run P w1= .ok vs w1)∧A.holds.holdsAll S w (Nz rs) vs∧vs.length=rs.length
 |[],[],_=>⟨[],fun w1 _=>by simp,rfl,rfl⟩
 | .tmp s::l,r::rs,h=>by
  obtain⟨vs,h1,h2,h3⟩:=xa.run hO h6 h.2
  exact⟨a.tmps.getD s undef::vs,fun w1 hw=>by simp only [List.mapM_cons,rR,Sem.run_bind,Sem.run_pure,h1 w1 hw,Result.andThen_ok],⟨_,vs,rfl,h6 s r h.1,h2⟩,by simp [h3]⟩
 | .cell s T::l,r::rs,h=>by
  obtain⟨⟨b,T0,a0,n,g,q1,q2,q3,q4,q5⟩,hr⟩:=h
  obtain⟨vs,h1,h2,h3⟩:=xa.run hO h6 hr
  have e:a.tmps.getD s undef= .pointer (some ⟨b,0,none⟩):=h6 s _ q1
  obtain⟨cs,g1,g2⟩:=hO _ q2
  obtain⟨k1,k2⟩:=iD a0 g2 q5
  have l0:=a0.cells_length g2
  refine⟨_::vs,fun w1 hw=>?_,⟨_,vs,rfl,k1,h2⟩,by simp [h3]⟩
  have hl:=fJ q3 q4 ((hw b ⟨_,q2,rfl⟩).trans g1) (off:=0) (by simp only [Nat.zero_add,List.size_toArray];omega)
  simp only [List.mapM_cons,rR,Sem.run_bind,Sem.run_pure,h1 w1 hw,e,asAddr,hl,Result.andThen_ok]
 |[],_::_,h=>h.elim
 | .cell _ _::_,[],h=>h.elim
 | .tmp _::_,[],h=>h.elim
theorem uh(fn:Func)(tmps:Array Value):results fn tmps=(do
 let vs←fn.results.mapM (rR tmps)
 pure (if h:vs.size=1 then vs[0] else .tuple vs)):=by
 unfold results
 have:(fun x:ResultVar=>(match x with
  | .tmp t=>pure (tmps.getD t undef)
  | .cell a t=>do loadVar t (←asAddr (tmps.getD a undef)):Sem Value))=rR tmps:=by
  funext x
  cases x <;> rfl
 rw [←this]
 rfl
def wI:D→Bool
 | .obj .. =>true
 |_=>false
theorem xa.filt{P:Program}:∀{rv:List ResultVar} {rs:List A},xa P Γ Δ rv rs→xa P Γ (Δ.filter wI) rv rs
 |[],[],_=>trivial
 | .tmp _::_,_::_,h=>⟨h.1,xa.filt h.2⟩
 | .cell _ _::_,_::_,⟨⟨b,T0,a0,n,g,q1,q2,q3,q4,q5⟩,h⟩=>⟨⟨b,T0,a0,n,g,q1,List.mem_filter.2 ⟨q2,rfl⟩,q3,q4,q5⟩,xa.filt h⟩
 |[],_::_,h=>h.elim
 | .cell _ _::_,[],h=>h.elim
 | .tmp _::_,[],h=>h.elim
theorem aQ.ev{Δ:List D}{S:FS}{v:VW}(hO:aQ Δ S v){n:Nat}{e:Event}(h:mN v.heap.size (ap Δ) S n e):lC v n e:=by
 unfold mN at h;unfold lC
 have good:∀b:Nat,(v.heap.size≤b∨ap Δ b∨(S b∧e.write=false))→¬v.A b∧(e.write=true→¬v.Z b):=fun b hb=>by
  rcases hb with hb |hb |⟨hb,hw⟩
  ·exact⟨fun ha=>by have:=hO.domA b ha;omega,fun _ hz=>by have:=hO.domZ b hz;omega⟩
  ·exact⟨(hO.far b hb).1,fun _=>(hO.far b hb).2⟩
  ·exact⟨hO.sees b hb,fun h=>by rw [hw] at h;cases h⟩
 split at h
 ·rename_i ad hl;try rw [hl]
  exact⟨h.1,h.2.1,(good _ h.2.2).1,(good _ h.2.2).2⟩
 ·rename_i r hl;try rw [hl]
  exact⟨h.1,h.2.1,(good _ h.2.2).1,(good _ h.2.2).2⟩
 ·rename_i m hl;try rw [hl]
  exact h
 ·exact h.elim
theorem aQ.sg{α:Type}{P:Program}{Δ:List D}{S:FS}{v:VW}(hO:aQ Δ S v)(hc:∀d∈Δ,d.calmP){s:Sem α}(hns:Ns P s)(h:∃x w1,s.run P (mm S Δ v)= .ok x w1):∃x w',s.run P v= .ok x w'∧∀e∈s.events P v #[],lC v w'.heap.size e:=by
 obtain⟨x,w1,hr⟩:=h;obtain⟨w',r1,_,r3⟩:=GG hns (yV hO.p hc) hr;refine⟨x,w',r1,fun e he=>hO.ev ?_⟩;have:=r3 #[] (fun e he=>by simp at he) e he;unfold mN at this⊢;split at this
 ·exact⟨this.1,this.2.1,this.2.2.imp id (Or.imp id fun x=>⟨x.1.1,x.2⟩)⟩
 ·exact⟨this.1,this.2.1,this.2.2.imp id (Or.imp id fun x=>⟨x.1.1,x.2⟩)⟩
 ·exact this
 ·exact this
theorem xa.sg{P:Program}{S:FS}{v:VW}{a:Act}(hO:aQ Δ S v)(h6:∀s r,lk Γ s=some r→r.holds S v (a.tmps.getD s undef)){fn:Func}{rs:List A}(h:xa P Γ Δ fn.results.toList rs):
 ∃x,(∀w1:World,(∀b,ap Δ b→w1.heap[b]? =v.heap[b]?)→(results fn a.tmps).run P w1= .ok x w1)∧(bv rs).holds S v x∧eF v v ((results fn a.tmps).events P v #[]):=by
 have h':=h.filt
 have hO':aQ (Δ.filter wI) S v:=hO.re ⟨fun d hd=>hO.holds d (List.mem_filter.1 hd).1,fun b ⟨d,hd,e⟩=>hO.own b ⟨d,(List.mem_filter.1 hd).1,e⟩,hO.apart.sublist List.filter_sublist⟩ (fun b ⟨d,hd,e⟩=>⟨d,(List.mem_filter.1 hd).1,e⟩) fun _ h=>.inl h
 have main:∀{w:World},(∀d∈Δ.filter wI,d.holds S w)→(∀s r,lk Γ s=some r→r.holds S w (a.tmps.getD s undef))→∃x,(∀w1:World,(∀b,ap (Δ.filter wI) b→w1.heap[b]? =w.heap[b]?)→(results fn a.tmps).run P w1= .ok x w1)∧(bv rs).holds S w x:=fun {w} hO h6=>by
  obtain⟨vs,q1,q2,q3⟩:=xa.run hO h6 h';refine⟨if h:vs.length=1 then vs[0] else .tuple vs.toArray,fun w1 hw=>?_,?_⟩
  ·rw [uh]
   have e1:(fn.results.mapM (rR a.tmps)).run P w1= .ok vs.toArray w1:=by
    rw [Array.mapM_eq_mapM_toList];simp only [Sem.run_map,q1 w1 hw,Result.andThen_ok]
   simp only [Sem.run_bind,e1,Result.andThen_ok,Sem.run_pure,List.size_toArray,List.getElem_toArray]
  ·match rs,vs,q2,q3 with
   |[r],[v],q2,_=>
    obtain⟨v',vs',e,h,_⟩:=q2;cases e;simpa [bv] using h
   |[],[],q2,_=>exact⟨[],rfl,q2⟩
   |r::r'::rs,v::v'::vs,q2,_=>exact⟨v::v'::vs,by simp,q2⟩
 obtain⟨x,r1,r2⟩:=main hO'.holds h6
 have hns:Ns P (results fn a.tmps):=by
  rw [uh];refine ai (C7 (fun rv=>?_) _) fun _=>bT;cases rv with
  |tmp t=>exact bT
  |cell s t=>exact ai wE fun _=>uy
 have hcm:∀d∈Δ.filter wI,d.calmP:=fun d hd=>by
  have:=(List.mem_filter.1 hd).2;cases d <;> first |trivial |cases this
 obtain⟨x',r3,_⟩:=main (w:=mm S (Δ.filter wI) v) (pM hO'.p).holds fun s r hl=>(tp (pN hO'.p) r).1 (h6 s r hl)
 obtain⟨y,w',r4,r5⟩:=hO'.sg hcm hns ⟨x',_,r3 _ fun _ _=>rfl⟩
 rw [r1 _ fun _ _=>rfl] at r4
 simp only [Result.ok.injEq] at r4
 obtain⟨rfl,rfl⟩:=r4
 exact⟨x,fun w1 hw=>r1 w1 fun b ⟨d,hd,e⟩=>hw b ⟨d,(List.mem_filter.1 hd).1,e⟩,r2,fun _ _ _=>rfl,Nat.le_refl _,.refl _,rfl,rfl,r5⟩
def bR(P:Program)(fn:Func)(R:Ending→VW→Prop):Exit→Act→VW→Prop
 | .ret,a,v=>a.defers=[]∧∃x,(∀v1,bh v v1→(results fn a.tmps).run P v1= .ok x v1∧eF v1 v1 ((results fn a.tmps).events P v1 #[]))∧R (.returned x) v
 | .normal,a,v=>a.defers=[]∧∃x,(∀v1,bh v v1→(results fn a.tmps).run P v1= .ok x v1∧eF v1 v1 ((results fn a.tmps).events P v1 #[]))∧R (.returned x) v
 | .panic chain,a,v=>a.defers=[]∧R (.panicked chain) v
 |_,_,_=>False
theorem aM{P:Program}{M:Md P}{S:FS}{w0:VW}{Δ0:List D}{X:Type}{R:X→A×List D}{N:Nat}{fn:Func}(x:X)(rs:List A)(k:Nat)
 (hr:xa P Γ Δ fn.results.toList rs) (hR:R x=(bv rs,Δ.take k)):JN ⟨P,N,S,w0,ap Δ0,none,[],M⟩ (bR P fn (dr S w0 Δ0 R) .ret) Γ Δ:=by
 rintro a w ⟨h1,h2,S',h3,h4,h5,h6⟩
 obtain⟨u,q1,q2,_⟩:=xa.sg h5 h6 hr
 have hm:∀d,d∈Δ.take k→d∈Δ:=fun d hd=>List.mem_of_mem_take hd
 refine⟨h1,u,fun v1 hrel=>?_,x,S',_,rfl,h3,by rw [hR];exact q2,by rw [hR];exact h5.re ⟨fun d hd=>h5.holds d (hm d hd),fun b ⟨d,hd,e⟩=>h5.own b ⟨d,hm d hd,e⟩,h5.apart.sublist (List.take_sublist k Δ)⟩ (fun b ⟨d,hd,e⟩=>⟨d,hm d hd,e⟩) (fun _ h=>.inl h),?_⟩
 ·
  have hK:=fp h3.dom h5.sees hrel;obtain⟨u',_,_,p3⟩:=xa.sg (h5.rely h3.dom hrel) (fun s r hl=>A.mono (fun _ h=>h) hK r (h6 s r hl)) hr;exact⟨q1 _ fun b hb=>hrel.keep b (h5.own b hb).2 (h5.far b hb).1,p3⟩
 ·
  rw [hR];exact fun b ⟨d,hd,e⟩=>h4 b ⟨d,hm d hd,e⟩
def entry:Nat→List A→Ga
 |_,[]=>[]
 |k,r::l=>(k,r)::entry (k+1) l
theorem qq{S:FS}{w:World}:∀{as:List A} {vs:List Value} {k s:Nat} {r:A},fy S w as vs→lk (entry k as) s=some r→∃j,s=k+j∧j < vs.length∧r.holds S w (vs.getD j undef)
 |[],_,_,_,_,_,h=>by cases h
 |r0::as,_,k,s,r,⟨v,vs',rfl,h1,h2⟩,h=>by
  simp only [entry,lk] at h
  split at h
  ·
   rename_i e;cases h;exact⟨0,by omega,by simp,h1⟩
  ·
   obtain⟨j,e,hj,hr⟩:=qq h2 h
   exact⟨j+1,by omega,by simpa using hj,by simpa using hr⟩
theorem fy.length{S:FS}{w:World}:∀{as:List A} {vs:List Value},fy S w as vs→vs.length=as.length
 |[],_,h=>by have:_=[]:=h;subst this;rfl
 |_::_,_,⟨_,_,rfl,_,h⟩=>by simp [fy.length h]
theorem bQ.of{P:Program}{M:Md P}{f:Nat}{fn:Func}{C:Code}{as:List A}{Δ:List D}{X:Type}{R:X→A×List D}(N:Nat)(hf:P.funcs[f]? =some fn)(hb:fn.body=some C)(hN:fn.ntmps=N)(hn:Nat.ble as.length N=true)
 (h:∀S w0,JC ⟨P,N,S,w0,ap Δ,none,[],M⟩ C (bR P fn (dr S w0 Δ R)) (entry 0 as) Δ):bQ M f as Δ R:=by
 subst hN
 intro kind hkind S w vs hd hall hO T hT cs hc
 have hn:=Nat.le_of_ble_eq_true hn
 have hst:St ⟨P,fn.ntmps,S,w,ap Δ,none,[],M⟩ (entry 0 as) Δ { tmps:=vs.toArray++Array.replicate (fn.ntmps - vs.toArray.size) undef,defers:=[] } w:=by
  refine⟨rfl,?_,S,bp.refl hd,fun b hb=>.inl hb,hO,fun s r hl=>?_⟩
  ·have:=hall.length;simp only [Array.size_append,List.size_toArray,Array.size_replicate];omega
  ·obtain⟨j,e,hj,hr⟩:=qq hall hl;have e':s=j:=by omega
   subst e'
   have e2:(vs.toArray++Array.replicate (fn.ntmps - vs.toArray.size) undef).getD s undef=vs.getD s undef:=by
    simp [Array.getD_eq_getD_getElem?,Array.getElem?_append,hj]
   rw [e2];exact hr
 have he:Frame.enter P f vs.toArray kind=Frame.atR { (default:Frame) with fn:=f,kind:=kind } { tmps:=vs.toArray++Array.replicate (fn.ntmps - vs.toArray.size) undef,defers:=[] } [.code C]:=by
  simp [Frame.enter,Frame.atR,hf,hb];rfl
 rw [he]
 refine h S w _ _ hst T hT _ [] cs rfl fun e a' v' q=>?_
 have fin:∀todo,(a'.defers=[]∧∃x,(∀v1,bh v' v1→(results fn a'.tmps).run P v1= .ok x v1∧eF v1 v1 ((results fn a'.tmps).events P v1 #[]))∧dr S w Δ R (.returned x) v')→
  T v' { Frame.atR { (default:Frame) with fn:=f,kind:=kind } a' todo with mode:=.returning } cs:=fun todo ⟨q1,x,q2,q3⟩=>hc _ _ _ q3 rfl rfl ⟨rfl,q1,fn,hf,q2⟩
 cases e with
 |normal=>exact(M.bc T hT).move (fun _ _=>wL rfl) (fin _ q)
 |ret=>exact⟨fun _ todo=>fin todo q,fun h=>by cases h⟩
 |panic chain=>exact fun todo=>hc _ _ _ q.2 rfl rfl ⟨rfl,q.1,fn,hf⟩
 |exit id=>exact q.elim
 |goto l=>exact q.elim
 |outgrown=>exact q.elim
theorem de.of{P:Program}{f:Nat}{fn:Func}{C:Code}{as:List A}{Δ:List D}{X:Type}{R:X→A×List D}(N:Nat)(hf:P.funcs[f]? =some fn)(hb:fn.body=some C)(hN:fn.ntmps=N)(hn:Nat.ble as.length N=true)
 (h:∀{M:Md P} (S:FS) (w0:VW),JC ⟨P,N,S,w0,ap Δ,none,[],M⟩ C (bR P fn (dr S w0 Δ R)) (entry 0 as) Δ):de P f as Δ R:=fun _=>bQ.of N hf hb hN hn h
end
def ui(p:Nat→Nat)(o:Oper):Oper:={ o with after:=o.after.map fun e=>{ e with on:=p e.on },guard:=o.guard.map fun g=>(p g.1,g.2) }
def IU(ops ops':Array Oper):Prop:=ops'.size=ops.size∧∃p q:Nat→Nat,(∀i,q (p i)=i)∧(∀j,p (q j)=j)∧∀i,ops'[p i]? =(ops[i]?).map (ui p)
theorem J0(o:Oper):ui id o=o:=by
 cases o;simp [ui]
theorem IU.refl(ops:Array Oper):IU ops ops:=⟨rfl,id,id,fun _=>rfl,fun _=>rfl,fun i=>by
 cases h:ops[i]? <;> simp [h,J0]⟩
section
variable {P:Program}{M:Md P}{M:Md P}{rd:Option Nat}{ops ops':Array Oper}{Q:Exit→Act→VW→Prop}{p q:Nat→Nat}
theorem wJ{L L':Array Bool}(hL:∀i,L'[p i]? =L[i]?)(i:Nat)(b:Bool):L'.getD (p i) b=L.getD i b:=by
 simp only [Array.getD_eq_getD_getElem?,hL]
theorem rS(hp:∀i,ops'[p i]? =(ops[i]?).map (ui p)){L L':Array Bool}(hL:∀i,L'[p i]? =L[i]?)(i:Nat):p i∈Region.ready .any ops' L'↔i∈Region.ready .any ops L:=by
 have hs:p i < ops'.size↔i < ops.size:=by
  have:=hp i;constructor
  ·intro h;rw [Array.getElem?_eq_getElem h] at this;cases h2:ops[i]? with
   |none=>rw [h2] at this;cases this
   |some o=>exact(Array.getElem?_eq_some_iff.1 h2).1
  ·intro h;rw [Array.getElem?_eq_getElem h] at this;exact(Array.getElem?_eq_some_iff.1 this).1
 unfold Region.ready;simp only [List.mem_filter,List.mem_range,hs,wJ hL,hp i,Option.map_map,Bool.and_eq_true];refine and_congr Iff.rfl (and_congr Iff.rfl ?_);cases ops[i]? with
 |none=>exact Iff.rfl
 |some o=>
  simp only [Option.map_some,Function.comp_apply,Option.getD_some,ui,Array.all_map]
  have:∀e:Edge,((!Region.binds .any { e with on:=p e.on } || L'.getD (p e.on) false)=(!Region.binds .any e || L.getD e.on false)):=fun e=>by
   rw [wJ hL];rfl
  simp only [this]
theorem yC(hp:∀i,ops'[p i]? =(ops[i]?).map (ui p)){tm:Array Value}(j:Nat):yielded ops' tm (p j)=yielded ops tm j:=by
 unfold yielded;rw [hp j];cases ops[j]? <;> rfl
theorem FT(hp:∀i,ops'[p i]? =(ops[i]?).map (ui p)){K K':Act→VW→Prop}(hK:∀a w,K' a w→K a w){i:Nat}{a:Act}{w:VW}(h:nG M rd ops' Q (p i) K' a w):nG M rd ops Q i K a w:=by
 unfold nG at h⊢;rw [hp i] at h;cases ho:ops[i]? with
 |none=>rw [ho] at h;exact hK _ _ h
 |some o=>
  rw [ho] at h;simp only [Option.map_some] at h
  have hw:Region.wanted (ui p o) (yielded ops' a.tmps)=Region.wanted o (yielded ops a.tmps):=by
   unfold Region.wanted ui;cases hg:o.guard with
   |none=>simp
   |some g=>simp [yC hp]
  rw [hw] at h;simp only;split at h
  ·rename_i hh;rw [if_pos hh];have h':o.wk M rd a w K' Q:=h;exact od hK h'
  ·rename_i hh;rw [if_neg hh];exact hK _ _ h
theorem LE(hqp:∀i,q (p i)=i)(hpq:∀j,p (q j)=j)(hp:∀i,ops'[p i]? =(ops[i]?).map (ui p)):∀(aF:Nat) {L L':Array Bool} {a:Act} {w:VW},(∀i,L'[p i]? =L[i]?)→fQ M rd .any ops' Q aF L' a w→fQ M rd .any ops Q aF L a w:=by
 have hnil:∀{L L':Array Bool},(∀i,L'[p i]? =L[i]?)→Region.ready .any ops L=[]→Region.ready .any ops' L'=[]:=fun {L L'} hL h=>by
  rw [List.eq_nil_iff_forall_not_mem];intro j hj;rw [←hpq j,rS hp hL] at hj;rw [h] at hj;cases hj
 have hnil':∀{L L':Array Bool},(∀i,L'[p i]? =L[i]?)→Region.ready .any ops' L'=[]→Region.ready .any ops L=[]:=fun {L L'} hL h=>by
  rw [List.eq_nil_iff_forall_not_mem];intro j hj;rw [←rS hp hL,h] at hj;cases hj
 intro aF
 induction aF with
 |zero=>intro L L' a w hL h;exact⟨hnil' hL h.1,h.2⟩
 |succ aF ih=>
  intro L L' a w hL h;refine⟨fun h0=>h.1 (hnil hL h0),fun i hi=>?_⟩;refine FT hp (fun a w h'=>ih ?_ h') (h.2 (p i) ((rS hp hL i).2 hi));intro j
  have hsz:p i < L'.size↔i < L.size:=by
   have:=hL i;constructor
   ·intro h;rw [Array.getElem?_eq_getElem h] at this;exact(Array.getElem?_eq_some_iff.1 this.symm).1
   ·intro h;rw [Array.getElem?_eq_getElem h] at this;exact(Array.getElem?_eq_some_iff.1 this).1
  rw [Array.getElem?_setIfInBounds,Array.getElem?_setIfInBounds];by_cases hij:i=j
  ·subst hij;simp only [if_true,hsz]
  ·rw [if_neg (fun e=>hij (by rw [←hqp i,e,hqp])),if_neg hij,hL]
def zQ(xs:List Nat)(o:Oper):Oper:={ o with after:=o.after.filter fun e=> !xs.contains e.on }
def Jb(ops ops':Array Oper):Prop:=ops'.size=ops.size∧(∀(i:Nat) o,ops[i]? =some o→∀e∈o.after,e.on < i)∧∃f:Nat→List Nat,∀i,ops'[i]? =(ops[i]?).map (zQ (f i))
def OZ(ops ops':Array Oper):Prop:=∃ops1,(ops1=ops∨Jb ops ops1)∧IU ops1 ops'
theorem OZ.refl(ops:Array Oper):OZ ops ops:=⟨ops,.inl rfl,IU.refl ops⟩
theorem qi{L:Array Bool}{i:Nat}:i∈Region.ready .any ops L↔i < ops.size∧L.getD i true=false∧∀o,ops[i]? =some o→∀e∈o.after,Region.binds .any e=true→L.getD e.on false=true:=by
 unfold Region.ready;simp only [List.mem_filter,List.mem_range,Bool.and_eq_true,Bool.not_eq_true'];refine and_congr_right fun hi=>and_congr Iff.rfl ?_;rw [Array.getElem?_eq_getElem hi];simp only [Option.map_some,Option.getD_some,Option.some.injEq];constructor
 ·rintro h o' rfl e he hb
  have:=Array.all_eq_true_iff_forall_mem.1 h e he;simpa [hb] using this
 ·intro h;rw [Array.all_eq_true_iff_forall_mem];intro e he;cases hb:Region.binds .any e with
  |false=>simp
  |true=>simp [h _ rfl e he hb]
theorem uX{L:Array Bool}{i:Nat}(hd:Jb ops ops')(h:i∈Region.ready .any ops L):i∈Region.ready .any ops' L:=by
 obtain⟨hs,_,f,hf⟩:=hd;rw [qi] at h⊢;refine⟨by omega,h.2.1,fun o ho e he hb=>?_⟩;rw [hf] at ho;cases h2:ops[i]? with
 |none=>rw [h2] at ho;cases ho
 |some o'=>
  rw [h2] at ho;cases ho;exact h.2.2 o' h2 e (Array.mem_filter.1 he).1 hb
theorem Ip{L:Array Bool}(hd:Jb ops ops')(hL:L.size=ops.size)(h:Region.ready .any ops L=[]):Region.ready .any ops' L=[]:=by
 obtain⟨hs,hw,f,hf⟩:=hd;rw [List.eq_nil_iff_forall_not_mem] at h⊢
 have key:∀i,i < ops.size→L.getD i false=true:=by
  intro i
  induction i using Nat.strongRecOn with
  |_ i ih=>
   intro hi;cases hb:L.getD i false with
   |true=>rfl
   |false=>
    have hb':L.getD i true=false:=by
     rw [Array.getD_eq_getD_getElem?,Array.getElem?_eq_getElem (by omega)] at hb⊢;exact hb
    exact absurd (qi.2 ⟨hi,hb',fun o ho e he _=>ih e.on (hw i o ho e he) (by have:=hw i o ho e he;omega)⟩) (h i)
 intro i hi;rw [qi] at hi;have:=key i (by omega);have h2:=hi.2.1;rw [Array.getD_eq_getD_getElem?,Array.getElem?_eq_getElem (by omega)] at this h2;rw [Option.getD_some] at this h2;rw [h2] at this;cases this
theorem xf{f:Nat→List Nat}(hf:∀i,ops'[i]? =(ops[i]?).map (zQ (f i))){tm:Array Value}(j:Nat):yielded ops' tm j=yielded ops tm j:=by
 unfold yielded;rw [hf j];cases ops[j]? <;> rfl
theorem IB(hd:Jb ops ops'):∀(aF:Nat) {L:Array Bool} {a:Act} {w:VW},L.size=ops.size→fQ M rd .any ops' Q aF L a w→fQ M rd .any ops Q aF L a w:=by
 obtain⟨hs,hw,f,hf⟩:=hd;have hd:Jb ops ops':=⟨hs,hw,f,hf⟩
 have hnil':∀{L:Array Bool},Region.ready .any ops' L=[]→Region.ready .any ops L=[]:=fun {L} h=>by
  rw [List.eq_nil_iff_forall_not_mem] at h⊢;exact fun i hi=>h i (uX hd hi)
 intro aF
 induction aF with
 |zero=>intro L a w _ h;exact⟨hnil' h.1,h.2⟩
 |succ aF ih=>
  intro L a w hL h;refine⟨fun h0=>h.1 (Ip hd hL h0),fun i hi=>?_⟩;have h2:=h.2 i (uX hd hi);unfold nG at h2⊢;rw [hf i] at h2;cases ho:ops[i]? with
  |none=>rw [ho] at h2;exact ih (by simpa using hL) h2
  |some o=>
   rw [ho] at h2;simp only [Option.map_some] at h2
   have hw:Region.wanted (zQ (f i) o) (yielded ops' a.tmps)=Region.wanted o (yielded ops a.tmps):=by
    unfold Region.wanted zQ;cases hg:o.guard with
    |none=>simp
    |some g=>simp [xf hf]
   rw [hw] at h2;simp only;split at h2
   ·rename_i hh;rw [if_pos hh];have h':o.wk M rd a w (fQ M rd .any ops' Q aF (L.setIfInBounds i true)) Q:=h2;exact od (fun a w h=>ih (by simpa using hL) h) h'
   ·rename_i hh;rw [if_neg hh];exact ih (by simpa using hL) h2
theorem pB{id:Nat}{a:Act}{w:VW}(hr:OZ ops ops')(hm:P.follows .mixedOrders=true)
 (h:∀v1,bh w v1→fQ M rd .any ops' Q ops'.size (Array.replicate ops'.size false) a (v1.upd { v1.toWorld with drawn:=v1.drawn+1 })):(Code.region id ops true).wk M rd Q a w:=by
 obtain⟨ops1,hx,hs,p,q,h1,h2,h3⟩:=hr
 have hs1:ops1.size=ops.size:=by
  rcases hx with rfl |hx
  ·rfl
  ·exact hx.1
 have fin:(∀v1,bh w v1→fQ M rd .any ops1 Q ops1.size (Array.replicate ops1.size false) a (v1.upd { v1.toWorld with drawn:=v1.drawn+1 }))→(Code.region id ops true).wk M rd Q a w:=fun h=>by
  rw [hs1] at h;rcases hx with rfl |hx
  ·exact l6 hm h
  ·exact l6 hm fun v1 hv=>IB hx _ (by simp) (h v1 hv)
 rw [hs] at h
 refine fin fun v1 hv=>LE h1 h2 h3 _ (fun i=>?_) (h v1 hv)
 have:p i < ops1.size↔i < ops1.size:=by
  have:=h3 i;rw [←hs];constructor
  ·intro h;rw [Array.getElem?_eq_getElem h] at this;cases h2:ops1[i]? with
   |none=>rw [h2] at this;cases this
   |some o=>rw [hs];exact(Array.getElem?_eq_some_iff.1 h2).1
  ·intro h;rw [hs] at h;rw [Array.getElem?_eq_getElem h] at this;exact(Array.getElem?_eq_some_iff.1 this).1
 simp only [Array.getElem?_replicate,this]
end
@[reducible] def zo(ps:List Nat)(i:Nat):Nat:=if i < ps.length then ps.idxOf i else i
@[reducible] def G8(ps:List Nat)(j:Nat):Nat:=if j < ps.length then ps.getD j 0 else j
@[reducible] def ul(ps:List Nat)(l:List Oper):List Oper:=ps.map fun i=>ui (zo ps) (l.getD i default)
def Lx(ps:List Nat)(n:Nat):Bool:=ps.length == n && (List.range n).all fun i=>Nat.blt (ps.idxOf i) n && ps.getD (ps.idxOf i) 0 == i && Nat.blt (ps.getD i 0) n && ps.idxOf (ps.getD i 0) == i
theorem EB{ps:List Nat}{l:List Oper}(h:Lx ps l.length=true):IU l.toArray (ul ps l).toArray:=by
 unfold Lx at h;simp only [Bool.and_eq_true,beq_iff_eq,List.all_eq_true,List.mem_range] at h;obtain⟨hl,h⟩:=h
 have h':∀i,i < ps.length→ps.idxOf i < ps.length∧ps.getD (ps.idxOf i) 0=i∧ps.getD i 0 < ps.length∧ps.idxOf (ps.getD i 0)=i:=fun i hi=>by
  obtain⟨⟨⟨a,b⟩,c⟩,d⟩:=h i (by omega);rw [hl];exact⟨Nat.blt_eq▸a,b,Nat.blt_eq▸c,d⟩
 refine⟨by simp [ul,hl],zo ps,G8 ps,fun i=>?_,fun j=>?_,fun i=>?_⟩
 ·unfold zo G8;by_cases hi:i < ps.length
  ·rw [if_pos hi,if_pos (h' i hi).1,(h' i hi).2.1]
  ·rw [if_neg hi,if_neg hi]
 ·unfold zo G8;by_cases hj:j < ps.length
  ·rw [if_pos hj,if_pos (h' j hj).2.2.1,(h' j hj).2.2.2]
  ·rw [if_neg hj,if_neg hj]
 ·simp only [List.getElem?_toArray];unfold zo;by_cases hi:i < ps.length
  ·rw [if_pos hi];obtain⟨a,b,_,_⟩:=h' i hi;have hi':i < l.length:=by omega
   unfold ul;rw [List.getElem?_map,List.getElem?_eq_getElem a,List.getElem?_eq_getElem hi',Option.map_some,Option.map_some]
   have:ps[ps.idxOf i]=i:=by
    rw [List.getD_eq_getElem?_getD,List.getElem?_eq_getElem a] at b;exact b
   rw [this,List.getD_eq_getElem?_getD,List.getElem?_eq_getElem hi',Option.getD_some]
  ·rw [if_neg hi,List.getElem?_eq_none (by simp [ul];omega),List.getElem?_eq_none (by omega)];rfl
theorem GR{ps:List Nat}{l:List Oper}(h:Lx ps l.length=true):OZ l.toArray (ul ps l).toArray:=⟨_,.inl rfl,EB h⟩
@[reducible] def T9(ds:List (List Nat))(l:List Oper):List Oper:=(List.range l.length).map fun i=>zQ (ds.getD i []) (l.getD i default)
structure DE where
 o:Oper
 d:Nat
 N:List (Operand×A)
 r:A
 u:Option (Nat×Bool)
 b:Bool
 E:Value→List D
@[reducible] def lF(Δ:List D):Option (Nat×Bool)→List D
 |none=>[]
 |some (k,_)=>match Δ[k]? with |some d=>[d] |none=>[]
@[reducible] def iI(Δ:List D):Option (Nat×Bool)→List D
 |some (k,false)=>match Δ[k]? with |some d=>[d] |none=>[]
 |_=>[]
structure DV(c:Cx)(ops:Array Oper)(Δ:List D)(e:DE):Prop where
 dst:e.o.dst=some e.d
 lt:e.d < c.N
 run:∀(S:FS) (w:VW) (a:Act) (K:Act→VW→Prop) (Q:Exit→Act→VW→Prop),(∀b,S b→b < w.heap.size)→bC S w a e.N→aQ (lF Δ e.u) S w→
  (∀S' w' v,bp (ap (lF Δ e.u)) S w S' w'→e.r.holds S' w' v→aQ (iI Δ e.u++e.E v) S' w'→(∀b,ap (iI Δ e.u++e.E v) b→ap (lF Δ e.u) b∨w.heap.size≤b)→K (a.put (some e.d) v) w')→
  if Region.wanted e.o (yielded ops a.tmps) then e.o.wk c.M c.rd a w K Q else K (a.put (some e.d) undef) w
def Ef(c:Cx)(ops:Array Oper)(Δ:List D):Ga→List DE→Prop
 |_,[]=>True
 |Γ,e::es=>DV c ops Δ e∧dO Γ e.N∧Ef c ops Δ ((e.d,e.r)::Γ) es
def BW:Ga→List DE→Ga
 |Γ,[]=>Γ
 |Γ,e::es=>BW ((e.d,e.r)::Γ) es
def nu:List DE→List Value→Ga
 |e::es,v::vs=>if e.b then(e.d,.eq v)::nu es vs else nu es vs
 |_,_=>[]
def sN(e:DE)(k:Nat):Bool:=match e.u with |some (k',true)=>k' == k |_=>false
def mR(es:List DE)(k:Nat):Bool:=es.any fun e=>sN e k
def births:List DE→List Value→List D
 |e::es,v::vs=>e.E v++births es vs
 |_,_=>[]
def oG(Δ:List D)(es:List DE)(vs:List Value):List D:=keepFrom 0 Δ++births es vs
where
 keepFrom (k:Nat):List D→List D
 |[]=>[]
 |d::l=>if mR es k then keepFrom (k+1) l else d::keepFrom (k+1) l
def fq(o:Oper):List Nat:=(o.after.toList.filter (Region.binds .any)).map (·.on)
def qx(masks:List Nat):List Nat→Nat
 |[]=>0
 |j::js=>(1 <<< j |||masks.getD j 0) |||qx masks js
def kH:List Nat→List Oper→List Nat
 |masks,[]=>masks
 |masks,o::l=>kH (masks++[qx masks (fq o)]) l
def fE:List (Operand×A)→List Nat
 |[]=>[]
 |(.tmp t,_)::l=>t::fE l
 |_::l=>fE l
def sT(M:List Nat)(es:List DE)(i:Nat)(e:DE):Bool:=
 es.zipIdx.all fun(e',j)=>j == i ||
  (e'.d != e.d && (!(fE e.N).contains e'.d || (if j < i then(M.getD i 0).testBit j else(M.getD j 0).testBit i)) &&
   (match e.u,e'.u with |some (k,x),some (k',x')=>k != k' || (!x && !x') |_,_=>true))
def LA(full:List Oper)(es:List DE):Bool:=
 let M:=kH [] full
 (es.zipIdx.all fun(e,i)=>sT M es i e) && (full.zipIdx.all fun(o,i)=>(fq o).all (· < i))
def chk(full:List Oper)(es:List DE):Bool:=
 let M:=kH [] full
 (es.zipIdx.all fun(e,i)=>sT M es i e) && (full.zipIdx.all fun(o,i)=>(fq o).all (· < i)) &&
 ((List.range full.length).all fun j=>j < es.length || (List.range j).all fun i=>(M.getD j 0).testBit i)
section
variable {c:Cx}{full:List Oper}{Q:Exit→Act→VW→Prop}{Γ0 Γ:Ga}{Δ:List D}{acc:List DE}{o:Oper}{l:List Oper}{N:List (Operand×A)}{r:A}{d:Nat}{id:Nat}
def DR(c:Cx)(id:Nat)(full:List Oper)(Q:Exit→Act→VW→Prop)(Γ0:Ga)(Δ:List D)(acc:List DE)(l:List Oper)(Γ:Ga):Prop:=
 full=acc.map (·.o)++l→Ef c full.toArray Δ Γ0 acc→Γ=BW Γ0 acc→∀ops,OZ ops full.toArray→JC c (.region id ops true) Q Γ0 Δ
theorem Ef.snoc{ops:Array Oper}{e:DE}:∀{acc:List DE} {Γ0:Ga},Ef c ops Δ Γ0 acc→DV c ops Δ e→dO (BW Γ0 acc) e.N→Ef c ops Δ Γ0 (acc++[e])
 |[],_,_,h,h'=>⟨h,h',trivial⟩
 |_::_,_,⟨h1,h2,h3⟩,h,h'=>⟨h1,h2,Ef.snoc h3 h h'⟩
theorem ES{e:DE}(acc:List DE):∀{Γ0:Ga},BW Γ0 (acc++[e])=(e.d,e.r)::BW Γ0 acc:=by
 induction acc with
 |nil=>intro Γ0;rfl
 |cons x acc ih=>intro Γ0;exact ih
theorem DR.step{e:DE}(ho:e.o=o)(hv:DV c full.toArray Δ e)(hh:dO Γ e.N)(h:DR c id full Q Γ0 Δ (acc++[e]) l ((e.d,e.r)::Γ)):DR c id full Q Γ0 Δ acc (o::l) Γ:=by
 intro h1 h2 h3;subst h3;exact h (by rw [h1,List.map_append,List.append_assoc];simp [ho]) (Ef.snoc h2 hv hh) (ES acc).symm
theorem Eb(h:DR c id full Q Γ Δ [] full Γ):JC c (.region id full.toArray true) Q Γ Δ:=h rfl trivial rfl _ (OZ.refl _)
theorem I4{l0:List Oper}(hr:OZ l0.toArray full.toArray)(h:DR c id full Q Γ Δ [] full Γ):JC c (.region id l0.toArray true) Q Γ Δ:=h rfl trivial rfl _ hr
theorem Ee{ops:Array Oper}(hg:o.guard=none)(hd:o.dst=some d)(hdN:Nat.blt d c.N=true)(ht:bo c.M o N [] (fun _:Unit=>(r,[]))):DV c ops Δ ⟨o,d,N,r,none,false,fun _=>[]⟩:=
 ⟨hd,Nat.blt_eq▸hdN,fun S w a K Q hdm hN hO k=>by
  rw [if_pos (ab hg _)]
  exact ht.run c.rd S w a K Q hdm hN hO fun _ S' w' v h1 h2 h3 h4=>by rw [hd];exact k S' w' v h1 h2 h3 h4⟩
theorem Ed{ops:Array Oper}{e:D}(k:Nat)(hk:Δ[k]? =some e)(hg:o.guard=none)(hd:o.dst=some d)(hdN:Nat.blt d c.N=true)(ht:bo c.M o N [e] (fun _:Unit=>(r,[e]))):DV c ops Δ ⟨o,d,N,r,some (k,false),false,fun _=>[]⟩:=
 ⟨hd,Nat.blt_eq▸hdN,fun S w a K Q hdm hN hO kk=>by
  rw [if_pos (ab hg _)]
  simp only [lF,iI,hk,List.append_nil] at hO kk
  exact ht.run c.rd S w a K Q hdm hN hO fun _ S' w' v h1 h2 h3 h4=>by rw [hd];exact kk S' w' v h1 h2 h3 h4⟩
theorem Je{ops:Array Oper}{e e':D}(k:Nat)(hk:Δ[k]? =some e)(hg:o.guard=none)(hd:o.dst=some d)(hdN:Nat.blt d c.N=true)(ht:bo c.M o N [e] (fun _:Unit=>(r,[e']))):DV c ops Δ ⟨o,d,N,r,some (k,true),false,fun _=>[e']⟩:=
 ⟨hd,Nat.blt_eq▸hdN,fun S w a K Q hdm hN hO kk=>by
  rw [if_pos (ab hg _)]
  simp only [lF,iI,hk,List.nil_append] at hO kk
  exact ht.run c.rd S w a K Q hdm hN hO fun _ S' w' v h1 h2 h3 h4=>by rw [hd];exact kk S' w' v h1 h2 h3 h4⟩
theorem Jd{ops:Array Oper}{X:Type}{f:X→Value}{E:X→List D}(E':Value→List D)(hE:∀x,E' (f x)=E x)(hg:o.guard=none)(hd:o.dst=some d)(hdN:Nat.blt d c.N=true)(ht:bo c.M o N [] (fun x=>(.eq (f x),E x))):
 DV c ops Δ ⟨o,d,N,.any,none,true,E'⟩:=
 ⟨hd,Nat.blt_eq▸hdN,fun S w a K Q hdm hN hO k=>by
  rw [if_pos (ab hg _)]
  exact ht.run c.rd S w a K Q hdm hN hO fun x S' w' v h1 h2 h3 h4=>by
   have e:v=f x:=h2
   subst e
   rw [hd]
   exact k S' w' _ h1 trivial (by simpa [iI,hE] using h3) (by simpa [iI,hE] using h4)⟩
theorem FA{ops:Array Oper}{X:Type}{f:X→Value}{e:D}{E:X→List D}(k:Nat)(hk:Δ[k]? =some e)(E':Value→List D)(hE:∀x,E' (f x)=E x)(hg:o.guard=none)(hd:o.dst=some d)(hdN:Nat.blt d c.N=true)
 (ht:bo c.M o N [e] (fun x=>(.eq (f x),E x))):DV c ops Δ ⟨o,d,N,.any,some (k,true),true,E'⟩:=
 ⟨hd,Nat.blt_eq▸hdN,fun S w a K Q hdm hN hO kk=>by
  rw [if_pos (ab hg _)]
  simp only [lF,iI,hk] at hO kk
  exact ht.run c.rd S w a K Q hdm hN hO fun x S' w' v h1 h2 h3 h4=>by
   have e:v=f x:=h2
   subst e
   rw [hd]
   exact kk S' w' _ h1 trivial (by simpa [hE] using h3) (by simpa [hE] using h4)⟩
theorem nQ{ops:Array Oper}{j s:Nat}{g b:Bool}{oj:Oper}(hg:o.guard=some (j,g))(hj:ops[j]? =some oj)(hs:oj.dst=some s){a:Act}(h:a.tmps.getD s undef= .bool b):Region.wanted o (yielded ops a.tmps)=(b == g):=by
 have h8:yielded ops a.tmps j=some b:=by
  unfold yielded;simp only [hj,Option.bind_some,hs];rw [Array.getD_eq_getD_getElem?] at h;cases h9:a.tmps[s]? with
  |none=>rw [h9] at h;simp [undef] at h
  |some v=>rw [h9] at h;simp at h;subst h;rfl
 simp only [Region.wanted,hg,h8];cases b <;> cases g <;> rfl
theorem O8{ops:Array Oper}{j s:Nat}{g:Bool}{oj:Oper}(hg:o.guard=some (j,g))(hj:ops[j]? =some oj)(hs:oj.dst=some s)(hd:o.dst=some d)(hdN:Nat.blt d c.N=true)(ht:bo c.M o N [] (fun _:Unit=>(r,[]))):
 DV c ops Δ ⟨o,d,(.tmp s,.eq (.bool g))::N,r,none,false,fun _=>[]⟩:=
 ⟨hd,Nat.blt_eq▸hdN,fun S w a K Q hdm hN hO k=>by
  have hb:a.tmps.getD s undef= .bool g:=hN.1
  rw [if_pos (by rw [nQ hg hj hs hb];simp)]
  exact ht.run c.rd S w a K Q hdm hN.2 hO fun _ S' w' v h1 h2 h3 h4=>by rw [hd];exact k S' w' v h1 h2 h3 h4⟩
theorem O7{ops:Array Oper}{e:D}(k:Nat)(hk:Δ[k]? =some e){j s:Nat}{g:Bool}{oj:Oper}(hg:o.guard=some (j,g))(hj:ops[j]? =some oj)(hs:oj.dst=some s)(hd:o.dst=some d)(hdN:Nat.blt d c.N=true)(ht:bo c.M o N [e] (fun _:Unit=>(r,[e]))):
 DV c ops Δ ⟨o,d,(.tmp s,.eq (.bool g))::N,r,some (k,false),false,fun _=>[]⟩:=
 ⟨hd,Nat.blt_eq▸hdN,fun S w a K Q hdm hN hO kk=>by
  have hb:a.tmps.getD s undef= .bool g:=hN.1
  rw [if_pos (by rw [nQ hg hj hs hb];simp)]
  simp only [lF,iI,hk,List.append_nil] at hO kk
  exact ht.run c.rd S w a K Q hdm hN.2 hO fun _ S' w' v h1 h2 h3 h4=>by rw [hd];exact kk S' w' v h1 h2 h3 h4⟩
theorem O6{ops:Array Oper}{j s:Nat}{g b:Bool}{oj:Oper}(hg:o.guard=some (j,g))(hj:ops[j]? =some oj)(hs:oj.dst=some s)(hb:(b == g)=false)(hd:o.dst=some d)(hdN:Nat.blt d c.N=true):
 DV c ops Δ ⟨o,d,[(.tmp s,.eq (.bool b))],.eq undef,none,false,fun _=>[]⟩:=
 ⟨hd,Nat.blt_eq▸hdN,fun S w a K Q hdm hN hO k=>by
  have hb':a.tmps.getD s undef= .bool b:=hN.1
  rw [if_neg (by rw [nQ hg hj hs hb',hb];simp)]
  exact k S w undef (bp.refl hdm) rfl (by simpa [iI,lF] using hO) (fun b hb=>(bW (by simpa [iI] using hb)).elim)⟩
def lst(L:Array Bool)(j:Nat):Bool:=L.getD j false
def ff(L:Array Bool)(k:Nat):Nat→List DE→Bool
 |_,[]=>false
 |j,e::es=>(lst L j && sN e k) || ff L k (j+1) es
def dL(p:Nat→Bool):Nat→List D→List D
 |_,[]=>[]
 |k,d::l=>if p k then d::dL p (k+1) l else dL p (k+1) l
def gd(L:Array Bool)(a:Act):Nat→List DE→List D
 |_,[]=>[]
 |j,e::es=>(if lst L j then e.E (a.tmps.getD e.d undef) else [])++gd L a (j+1) es
def wW(Δ:List D)(es:List DE)(L:Array Bool)(a:Act):List D:=dL (fun k=> !ff L k 0 es) 0 Δ++gd L a 0 es
theorem oy{p q:Nat→Bool}:∀{l:List D} {k:Nat},(∀j,p j=q j)→dL p k l=dL q k l
 |[],_,_=>rfl
 |d::l,k,h=>by simp only [dL,h k,oy h]
theorem ti{p:Nat→Bool}{d:D}:∀{l:List D} {i k:Nat},l[i]? =some d→p (k+i)=true→(dL p k l).Perm (d::dL (fun j=>p j && j != k+i) k l)
 |[],_,_,h,_=>by simp at h
 |x::l,0,k,h,hp=>by
  simp at h
  subst h
  have e:dL p (k+1) l=dL (fun j=>p j && j != k) (k+1) l:=by
   have:∀(l:List D) (m:Nat),k < m→dL p m l=dL (fun j=>p j && j != k) m l:=by
    intro l
    induction l with
    |nil=>intro m _;rfl
    |cons y l ih=>
     intro m hm;have:(m != k)=true:=by simp;omega
     simp only [dL,this,Bool.and_true,ih (m+1) (by omega)]
   exact this l (k+1) (by omega)
  simp only [Nat.add_zero] at hp⊢;simp only [dL,hp,if_true,bne_self_eq_false,Bool.and_false,Bool.false_eq_true,if_false];rw [e]
 |x::l,i+1,k,h,hp=>by
  have ih:=ti (l:=l) (i:=i) (k:=k+1) (by simpa using h) (by rw [←hp];congr 1;omega);have e1:k+1+i=k+(i+1):=by omega
  rw [e1] at ih;have hne:(k != k+(i+1))=true:=by simp
  simp only [dL,hne,Bool.and_true];split
  ·exact(ih.cons x).trans (List.Perm.swap _ _ _)
  ·exact ih
end
section
variable {L L':Array Bool}{a a':Act}{i:Nat}{e:DE}{v:Value}
theorem u7(hL:∀j,j≠i→lst L' j=lst L j):∀{es:List DE} {m:Nat},i < m→(∀(j:Nat) (e':DE),es[j]? =some e'→a'.tmps.getD e'.d undef=a.tmps.getD e'.d undef)→gd L' a' m es=gd L a m es
 |[],_,_,_=>rfl
 |x::es,m,hm,hs=>by
  simp only [gd,hL m (by omega),hs 0 x rfl]
  rw [u7 hL (by omega) (fun j e' h=>hs (j+1) e' (by simpa using h))]
theorem Ab(hL:∀j,j≠i→lst L' j=lst L j)(hi:lst L i=false)(hi':lst L' i=true)(hv:a'.tmps.getD e.d undef=v):
 ∀{es:List DE} {m k:Nat},m+k=i→es[k]? =some e→(∀(j:Nat) (e':DE),es[j]? =some e'→m+j≠i→a'.tmps.getD e'.d undef=a.tmps.getD e'.d undef)→(gd L' a' m es).Perm (e.E v++gd L a m es)
 |[],_,_,_,h,_=>by simp at h
 |x::es,m,0,hm,h,hs=>by
  simp at h hm
  subst h hm
  simp only [gd,hi,hi',if_true,Bool.false_eq_true,if_false,List.nil_append,hv]
  rw [u7 hL (by omega) (fun j e' h=>hs (j+1) e' (by simpa using h) (by omega))]
 |x::es,m,k+1,hm,h,hs=>by
  have ih:=Ab hL hi hi' hv (es:=es) (m:=m+1) (k:=k) (by omega) (by simpa using h) (fun j e' h hj=>hs (j+1) e' (by simpa using h) (by omega))
  simp only [gd,hL m (by omega),hs 0 x rfl (by omega)]
  refine(List.Perm.append_left _ ih).trans ?_
  rw [←List.append_assoc,←List.append_assoc]
  exact List.Perm.append_right _ List.perm_append_comm
theorem wh(hL:∀j,j≠i→lst L' j=lst L j){k:Nat}:∀{es:List DE} {m:Nat},i < m→ff L' k m es=ff L k m es
 |[],_,_=>rfl
 |x::es,m,hm=>by simp only [ff,hL m (by omega),wh hL (es:=es) (m:=m+1) (by omega)]
theorem CQ(hL:∀j,j≠i→lst L' j=lst L j)(hi:lst L i=false)(hi':lst L' i=true){k:Nat}:∀{es:List DE} {m q:Nat},m+q=i→es[q]? =some e→ff L' k m es=(ff L k m es || sN e k)
 |[],_,_,_,h=>by simp at h
 |x::es,m,0,hm,h=>by
  simp at h hm
  subst h hm
  simp only [ff,hi,hi',Bool.true_and,Bool.false_and,Bool.false_or,wh hL (es:=es) (m:=m+1) (by omega)]
  rw [Bool.or_comm]
 |x::es,m,q+1,hm,h=>by
  simp only [ff,hL m (by omega),CQ hL hi hi' (k:=k) (es:=es) (m:=m+1) (q:=q) (by omega) (by simpa using h),Bool.or_assoc]
theorem mT{k:Nat}:∀{es:List DE} {m:Nat},(∀(j:Nat) (e':DE),es[j]? =some e'→lst L (m+j)=true→sN e' k=false)→ff L k m es=false
 |[],_,_=>rfl
 |x::es,m,h=>by
  simp only [ff]
  rw [mT (es:=es) (m:=m+1) (fun j e' he hl=>h (j+1) e' (by simpa using he) (by rw [←hl];congr 1;omega))]
  have h0:=h 0 x rfl
  cases hl:lst L m with
  |false=>rfl
  |true=>
   rw [h0 (by simpa using hl)]
   rfl
theorem cI{L:Array Bool}{i j:Nat}(hi:i < L.size):lst (L.setIfInBounds i true) j=if i=j then true else lst L j:=by
 simp only [lst,Array.getD_eq_getD_getElem?,Array.getElem?_setIfInBounds];split
 ·rename_i h;subst h;first |rfl |simp [hi]
 ·rfl
def cnt(L:Array Bool):Nat→Nat
 |0=>0
 |t+1=>cnt L t+if lst L t then 0 else 1
theorem u5(hL:∀j,j≠i→lst L' j=lst L j):∀{t:Nat},t≤i→cnt L' t=cnt L t
 |0,_=>rfl
 |t+1,h=>by simp only [cnt,hL t (by omega),u5 hL (t:=t) (by omega)]
theorem pe(hL:∀j,j≠i→lst L' j=lst L j)(hi:lst L i=false)(hi':lst L' i=true):∀{t:Nat},i < t→cnt L' t+1=cnt L t
 |0,h=>by omega
 |t+1,h=>by
  simp only [cnt]
  rcases Nat.lt_or_ge i t with hlt |hge
  ·
   have:=pe hL hi hi' (t:=t) hlt
   rw [hL t (by omega)]
   omega
  ·
   have e:i=t:=by omega
   subst e
   rw [u5 hL (Nat.le_refl _),hi,hi']
   simp
theorem jV:∀{t:Nat},cnt L t=0→∀j,j < t→lst L j=true
 |0,_,_,h=>by omega
 |t+1,h0,j,h=>by
  simp only [cnt] at h0
  rcases Nat.lt_or_ge j t with hlt |hge
  ·
   exact jV (t:=t) (by omega) j hlt
  ·
   have e:j=t:=by omega
   subst e
   cases hl:lst L j with
   |true=>rfl
   |false=>rw [hl] at h0;simp at h0
theorem pg:∀{t:Nat},cnt L t≠0→∃j,j < t∧lst L j=false∧∀k,k < j→lst L k=true
 |0,h=>absurd rfl h
 |t+1,h=>by
  by_cases h0:cnt L t=0
  ·
   refine⟨t,by omega,?_,fun k hk=>jV h0 k hk⟩
   cases hl:lst L t with
   |false=>rfl
   |true=>simp [cnt,h0,hl] at h
  ·
   obtain⟨j,h1,h2,h3⟩:=pg h0
   exact⟨j,by omega,h2,h3⟩
end
theorem jW{M:List Nat}{k:Nat}:∀{js:List Nat},(qx M js).testBit k=true→∃j∈js,k=j∨(M.getD j 0).testBit k=true
 |[],h=>by simp [qx] at h
 |j::js,h=>by
  simp only [qx,Nat.testBit_or,Bool.or_eq_true] at h
  rcases h with(h |h) |h
  ·
   refine⟨j,List.mem_cons_self ..,.inl ?_⟩
   rw [Nat.one_shiftLeft,Nat.testBit_two_pow] at h
   exact(by simpa using h:j=k).symm
  ·
   exact⟨j,List.mem_cons_self ..,.inr h⟩
  ·
   obtain⟨j',h1,h2⟩:=jW h
   exact⟨j',List.mem_cons_of_mem _ h1,h2⟩
theorem oJ:∀{l:List Oper} {M:List Nat} {j:Nat},j < M.length→(kH M l)[j]? =M[j]?
 |[],_,_,_=>rfl
 |o::l,M,j,h=>by
  rw [kH,oJ (by simp;omega),List.getElem?_append_left h]
theorem rD:∀{l:List Oper} {M:List Nat} {q:Nat} {o:Oper},l[q]? =some o→∃M',M'.length=M.length+q∧(∀j,j < M'.length→(kH M l)[j]? =M'[j]?)∧(kH M l)[M.length+q]? =some (qx M' (fq o))
 |[],_,_,_,h=>by simp at h
 |o::l,M,0,o',h=>by
  simp at h
  subst h
  refine⟨M,rfl,fun j hj=>oJ hj,?_⟩
  rw [kH,Nat.add_zero,oJ (by simp)]
  simp
 |x::l,M,q+1,o,h=>by
  obtain⟨M',h1,h2,h3⟩:=rD (l:=l) (M:=M++[qx M (fq x)]) (q:=q) (by simpa using h)
  refine⟨M',by rw [h1];simp;omega,h2,?_⟩
  rw [kH,←h3]
  congr 1
  simp
  omega
theorem rF{full:List Oper}{L:Array Bool}(hcl:∀j o,full[j]? =some o→lst L j=true→∀i∈fq o,lst L i=true)(hlt:∀j o,full[j]? =some o→∀i∈fq o,i < j):
 ∀(n j:Nat) (o:Oper),j≤n→full[j]? =some o→(∀i∈fq o,lst L i=true)→∀k,((kH [] full).getD j 0).testBit k=true→lst L k=true:=by
 intro n
 induction n with
 |zero=>
  intro j o hj ho hp k hk;have:j=0:=by omega
  subst this;obtain⟨M',h1,h2,h3⟩:=rD (M:=[]) ho;simp only [List.length_nil,Nat.zero_add] at h3;rw [List.getD_eq_getElem?_getD,h3,Option.getD_some] at hk;obtain⟨i,hi,_⟩:=jW hk;have:=hlt 0 o ho i hi;omega
 |succ n ih=>
  intro j o hj ho hp k hk;obtain⟨M',h1,h2,h3⟩:=rD (M:=[]) ho;simp only [List.length_nil,Nat.zero_add] at h1 h3;rw [List.getD_eq_getElem?_getD,h3,Option.getD_some] at hk;obtain⟨i,hi,hk⟩:=jW hk;rcases hk with rfl |hk
  ·exact hp k hi
  ·have hij:=hlt j o ho i hi
   have hjl:j < full.length:=by
    rcases Nat.lt_or_ge j full.length with h |h
    ·exact h
    ·simp [List.getElem?_eq_none h] at ho
   obtain⟨oi,hoi⟩:∃oi,full[i]? =some oi:=⟨_,List.getElem?_eq_getElem (by omega)⟩;refine ih i oi (by omega) hoi (hcl i oi hoi (hp i hi)) k ?_;rw [List.getD_eq_getElem?_getD] at hk⊢;rw [h2 i (by omega)];exact hk
theorem HV{L:Array Bool}{j:Nat}(h:lst L j=true):j < L.size:=by
 rcases Nat.lt_or_ge j L.size with h' |h'
 ·exact h'
 ·simp [lst,Array.getD_eq_getD_getElem?,Array.getElem?_eq_none h'] at h
theorem cX{full:List Oper}{L:Array Bool}(hs:L.size=full.length){i:Nat}:i∈Region.ready .any full.toArray L↔∃o,full[i]? =some o∧lst L i=false∧∀j∈fq o,lst L j=true:=by
 rw [mem_ready];constructor
 ·rintro⟨h1,o,h2,h3⟩;have h2':full[i]? =some o:=by simpa using h2
  have hi:i < L.size:=by
   rw [hs];rcases Nat.lt_or_ge i full.length with h |h
   ·exact h
   ·simp [List.getElem?_eq_none h] at h2'
  refine⟨o,h2',?_,fun j hj=>?_⟩
  ·simp only [lst,Array.getD_eq_getD_getElem?,Array.getElem?_eq_getElem hi,Option.getD_some] at h1⊢;exact h1
  ·simp only [fq,List.mem_map,List.mem_filter,Array.mem_toList_iff] at hj;obtain⟨ed,⟨h4,h5⟩,rfl⟩:=hj;exact h3 ed h4 h5
 ·rintro⟨o,h1,h2,h3⟩
  have hi:i < L.size:=by
   rw [hs];rcases Nat.lt_or_ge i full.length with h |h
   ·exact h
   ·simp [List.getElem?_eq_none h] at h1
  refine⟨?_,o,by simpa using h1,fun ed h4 h5=>h3 ed.on ?_⟩
  ·simp only [lst,Array.getD_eq_getD_getElem?,Array.getElem?_eq_getElem hi,Option.getD_some] at h2⊢;exact h2
  ·simp only [fq,List.mem_map,List.mem_filter,Array.mem_toList_iff];exact⟨ed,⟨h4,h5⟩,rfl⟩
theorem dS{α:Type}{l:List α}{p:α×Nat→Bool}(h:l.zipIdx.all p=true){i:Nat}{x:α}(hx:l[i]? =some x):p (x,i)=true:=by
 rw [List.all_eq_true] at h;exact h (x,i) (List.mem_zipIdx_iff_getElem?.2 hx)
section
variable {c:Cx}{full:List Oper}{Q:Exit→Act→VW→Prop}{Γ0 Γ:Ga}{Δ:List D}{acc:List DE}{l:List Oper}{id:Nat}
theorem yS{P:Program}{M:Md P}{rd:Option Nat}(hlt:∀j o,full[j]? =some o→∀i∈fq o,i < j):∀(l:List Oper) (j:Nat),full.drop j=l→(∀m,j≤m→m < full.length→∀i,i < m→((kH [] full).getD m 0).testBit i=true)→
 ∀(L:Array Bool),L.size=full.length→(∀i,i < j→i < full.length→lst L i=true)→(∀i,j≤i→lst L i=false)→∀(a:Act) (w:VW),Es M rd full.toArray Q l a w→∀aF,l.length≤aF→fQ M rd .any full.toArray Q aF L a w:=by
 intro l
 induction l with
 |nil=>
  intro j hd _ L hs h1 h2 a w hw aF _
  have hr:Region.ready .any full.toArray L=[]:=by
   rw [List.eq_nil_iff_forall_not_mem];intro i hi;obtain⟨o,h3,h4,_⟩:=(cX hs).1 hi
   have hlen:i < full.length:=by
    rcases Nat.lt_or_ge i full.length with h |h
    ·exact h
    ·simp [List.getElem?_eq_none h] at h3
   have hj:full.length≤j:=by simpa using hd
   rw [h1 i (by omega) hlen] at h4;cases h4
  cases aF with
  |zero=>exact⟨hr,hw⟩
  |succ n=>exact⟨fun _=>hw,by rw [hr];simp⟩
 |cons o l ih=>
  intro j hd hf L hs h1 h2 a w hw aF hfuel
  have hjl:j < full.length:=by
   rcases Nat.lt_or_ge j full.length with h |h
   ·exact h
   ·rw [List.drop_eq_nil_of_le h] at hd;cases hd
  rw [List.drop_eq_getElem_cons hjl] at hd;simp only [List.cons.injEq] at hd;obtain⟨hd1,hd2⟩:=hd;have ho:full[j]? =some o:=by rw [List.getElem?_eq_getElem hjl,hd1]
  have hcl:∀j o,full[j]? =some o→lst L j=true→∀i∈fq o,lst L i=true:=fun j' o' h3 h4 i hi=>by
   have h5:=hlt j' o' h3 i hi
   have h6:j' < j:=by
    rcases Nat.lt_or_ge j' j with h |h
    ·exact h
    ·rw [h2 j' h] at h4;cases h4
   exact h1 i (by omega) (by omega)
  have hrj:j∈Region.ready .any full.toArray L:=(cX hs).2 ⟨o,ho,h2 j (Nat.le_refl _),fun i hi=>h1 i (hlt j o ho i hi) (by have:=hlt j o ho i hi;omega)⟩;obtain⟨m,rfl⟩:∃m,aF=m+1:=⟨aF - 1,by simp only [List.length_cons] at hfuel;omega⟩;refine⟨fun h0=>(by rw [h0] at hrj;cases hrj),fun i hi=>?_⟩;obtain⟨oi,h3,h4,h5⟩:=(cX hs).1 hi
  have hij:i=j:=by
   have hil:i < full.length:=by
    rcases Nat.lt_or_ge i full.length with h |h
    ·exact h
    ·simp [List.getElem?_eq_none h] at h3
   rcases Nat.lt_trichotomy i j with h |h |h
   ·rw [h1 i h hil] at h4;cases h4
   ·exact h
   ·have:=rF hcl hlt i i oi (Nat.le_refl _) h3 h5 j (hf i (by omega) hil j h);rw [h2 j (Nat.le_refl _)] at this;cases this
  subst hij;have ho':full.toArray[i]? =some o:=by simpa using ho
  unfold nG;simp only [ho']
  have hnext:∀a' w',Es M rd full.toArray Q l a' w'→fQ M rd .any full.toArray Q m (L.setIfInBounds i true) a' w':=fun a' w' h=>by
   have hsz:i < L.size:=by omega
   refine ih (i+1) hd2 (fun m hm=>hf m (by omega)) _ (by simpa using hs) (fun k hk hk2=>?_) (fun k hk=>?_) a' w' h m (by simp only [List.length_cons] at hfuel;omega)
   ·rw [cI hsz];split
    ·rfl
    ·exact h1 k (by omega) hk2
   ·rw [cI hsz,if_neg (by omega)];exact h2 k (by omega)
  unfold Es at hw;split
  ·rename_i hwt;rw [if_pos hwt] at hw;exact od hnext hw
  ·rename_i hwt;rw [if_neg hwt] at hw;exact hnext _ _ hw
structure vC(c:Cx)(full:List Oper)(Γ0:Ga)(Δ:List D)(acc:List DE)(L:Array Bool)(a:Act)(w:VW):Prop where
 size:L.size=full.length
 past:∀j,acc.length≤j→lst L j=false
 closed:∀j o,full[j]? =some o→lst L j=true→∀i∈fq o,lst L i=true
 defers:a.defers=c.dfs
 tmps:a.tmps.size=c.N
 ex:∃S:FS,bp c.X c.S0 c.w0 S w∧(∀b,ap (wW Δ acc L a) b→c.X b∨c.w0.heap.size≤b)∧aQ (wW Δ acc L a) S w∧
  (∀s r,lk Γ0 s=some r→(∀j (e:DE),acc[j]? =some e→lst L j=true→e.d≠s)→r.holds S w (a.tmps.getD s undef))∧
  (∀j (e:DE),acc[j]? =some e→lst L j=true→e.r.holds S w (a.tmps.getD e.d undef))
theorem Ef.nth{ops:Array Oper}(acc:List DE):∀{Γ0:Ga} {i:Nat} {e:DE},Ef c ops Δ Γ0 acc→acc[i]? =some e→DV c ops Δ e∧dO (BW Γ0 (acc.take i)) e.N:=by
 induction acc with
 |nil=>intro Γ0 i e _ h;simp at h
 |cons x acc ih=>
  rintro Γ0 i e ⟨h1,h2,h3⟩ h;cases i with
  |zero=>simp at h;subst h;exact⟨h1,h2⟩
  |succ i=>exact ih h3 (by simpa using h)
theorem tP{s:Nat}{r:A}:∀{acc:List DE} {Γ0:Ga},lk (BW Γ0 acc) s=some r→(∃(j:Nat) (e:DE),acc[j]? =some e∧e.d=s∧e.r=r)∨(lk Γ0 s=some r∧∀(j:Nat) (e:DE),acc[j]? =some e→e.d≠s)
 |[],Γ0,h=>.inr ⟨h,fun j e h=>by simp at h⟩
 |x::acc,Γ0,h=>by
  rcases tP (acc:=acc) h with⟨j,e,h1,h2⟩ |⟨h1,h2⟩
  ·
   exact .inl ⟨j+1,e,by simpa using h1,h2⟩
  ·
   simp only [lk] at h1
   split at h1
   ·
    rename_i e;cases h1;exact .inl ⟨0,x,rfl,e,rfl⟩
   ·
    rename_i e
    refine .inr ⟨h1,fun j e' h3=>?_⟩
    cases j with
    |zero=>simp at h3;subst h3;exact e
    |succ j=>exact h2 j e' (by simpa using h3)
theorem eB{S:FS}{w:VW}{a:Act}{Γ:Ga}:∀{N:List (Operand×A)},dO Γ N→(∀s r,s∈fE N→lk Γ s=some r→r.holds S w (a.tmps.getD s undef))→bC S w a N
 |[],_,_=>trivial
 |(.tmp t,r)::l,hh,h=>⟨h t r (by simp [fE]) hh.1,eB hh.2 fun s r hs hl=>h s r (by simp [fE,hs]) hl⟩
 |(.const v,r)::l,hh,h=>⟨by rw [hh.1];rfl,eB hh.2 fun s r hs hl=>h s r (by simpa [fE] using hs) hl⟩
 |(.func f,r)::l,hh,h=>⟨by rw [hh.1];rfl,eB hh.2 fun s r hs hl=>h s r (by simpa [fE] using hs) hl⟩
 |(.global g,r)::l,hh,h=>⟨by rw [hh.1];rfl,eB hh.2 fun s r hs hl=>h s r (by simpa [fE] using hs) hl⟩
theorem E8{L:Array Bool}{a:Act}{u:Option (Nat×Bool)}(hu:∀k x,u=some (k,x)→ff L k 0 acc=false):∃rest,(wW Δ acc L a).Perm (lF Δ u++rest)∧
 ∀L' a',(∀k,ff L' k 0 acc=(ff L k 0 acc || (match u with |some (k',true)=>k' == k |_=>false)))→∀B,(gd L' a' 0 acc).Perm (B++gd L a 0 acc)→(wW Δ acc L' a').Perm ((iI Δ u++B)++rest):=by
 have same:∀L',(∀k,ff L' k 0 acc=ff L k 0 acc)→dL (fun k=> !ff L' k 0 acc) 0 Δ=dL (fun k=> !ff L k 0 acc) 0 Δ:=fun L' h=>oy fun j=>by rw [h]
 have plain:∀{u:Option (Nat×Bool)},lF Δ u=[]→iI Δ u=[]→(∀k,k < Δ.length→(match u with |some (k',true)=>k' == k |_=>false)=false)→
  ∃rest,(wW Δ acc L a).Perm (lF Δ u++rest)∧∀L' a',(∀k,ff L' k 0 acc=(ff L k 0 acc || (match u with |some (k',true)=>k' == k |_=>false)))→∀B,(gd L' a' 0 acc).Perm (B++gd L a 0 acc)→(wW Δ acc L' a').Perm ((iI Δ u++B)++rest):=by
  intro u h1 h2 h3
  refine⟨wW Δ acc L a,by rw [h1];exact List.Perm.refl _,fun L' a' hL B hB=>?_⟩
  rw [h2,List.nil_append]
  have hk:dL (fun k=> !ff L' k 0 acc) 0 Δ=dL (fun k=> !ff L k 0 acc) 0 Δ:=by
   have:∀(l:List D) (m:Nat),m+l.length≤Δ.length→dL (fun k=> !ff L' k 0 acc) m l=dL (fun k=> !ff L k 0 acc) m l:=by
    intro l
    induction l with
    |nil=>intro m _;rfl
    |cons x l ih=>
     intro m hm;simp only [List.length_cons] at hm;simp only [dL,hL m,h3 m (by omega),Bool.or_false,ih (m+1) (by omega)]
   exact this Δ 0 (by omega)
  unfold wW
  rw [hk]
  refine(List.Perm.append_left _ hB).trans ?_
  rw [←List.append_assoc,←List.append_assoc]
  exact List.Perm.append_right _ List.perm_append_comm
 rcases u with _ |⟨k,x⟩
 ·
  exact plain rfl rfl fun _ _=>rfl
 ·
  cases hk:Δ[k]? with
  |none=>
   have hge:Δ.length≤k:=by simpa using hk
   refine plain (by simp [lF,hk]) (by cases x <;> simp [iI,hk]) fun k' hk'=>?_;cases x
   ·rfl
   ·simp;omega
  |some d=>
   have h0:=hu k x rfl;have hsp:=ti (p:=fun k=> !ff L k 0 acc) (l:=Δ) (i:=k) (k:=0) hk (by simp [h0]);simp only [Nat.zero_add] at hsp;refine⟨dL (fun j=> !ff L j 0 acc && j != k) 0 Δ++gd L a 0 acc,?_,fun L' a' hL B hB=>?_⟩
   ·unfold wW;simp only [lF,hk];exact List.Perm.append_right _ hsp
   ·unfold wW;cases x with
    |false=>
     have:dL (fun k=> !ff L' k 0 acc) 0 Δ=dL (fun k=> !ff L k 0 acc) 0 Δ:=same L' fun j=>by rw [hL];simp
     rw [this];simp only [iI,hk];refine((List.Perm.append_right _ hsp).trans (List.Perm.append_left _ hB)).trans ?_;simp only [List.cons_append,List.nil_append];refine List.Perm.cons _ ?_;rw [←List.append_assoc,←List.append_assoc];exact List.Perm.append_right _ List.perm_append_comm
    |true=>
     have:dL (fun k=> !ff L' k 0 acc) 0 Δ=dL (fun j=> !ff L j 0 acc && j != k) 0 Δ:=oy fun j=>by
      rw [hL];simp only [Bool.not_or];congr 1;cases h:(k == j) <;> simp_all [bne,Bool.beq_comm]
     rw [this];simp only [iI,List.nil_append];refine(List.Perm.append_left _ hB).trans ?_;rw [←List.append_assoc,←List.append_assoc];exact List.Perm.append_right _ List.perm_append_comm
theorem vC.step(hfull:full=acc.map (·.o)++l)(hDR:Ef c full.toArray Δ Γ0 acc)(hck:LA full acc=true){L:Array Bool}{a:Act}{w:VW}(h:vC c full Γ0 Δ acc L a w){i:Nat}(hi:i < acc.length)(hri:i∈Region.ready .any full.toArray L):
 nG c.M c.rd full.toArray Q i (fun a' w'=>vC c full Γ0 Δ acc (L.setIfInBounds i true) a' w') a w:=by
 unfold LA at hck
 simp only [Bool.and_eq_true] at hck
 obtain⟨hc1,hc2⟩:=hck
 have hlt:∀j o,full[j]? =some o→∀i∈fq o,i < j:=fun j o ho i hi=>by
  have:=dS hc2 ho;rw [List.all_eq_true] at this;simpa using this i hi
 obtain⟨e,he⟩:∃e,acc[i]? =some e:=⟨_,List.getElem?_eq_getElem hi⟩
 obtain⟨hDV,hHas⟩:=Ef.nth acc hDR he
 have hone:=dS hc1 he
 simp only [sT] at hone
 have hother:∀(j:Nat) (e':DE),acc[j]? =some e'→j≠i→e'.d≠e.d∧(e'.d∈fE e.N→if j < i then((kH [] full).getD i 0).testBit j=true else((kH [] full).getD j 0).testBit i=true)∧
  (∀k x k' x',e.u=some (k,x)→e'.u=some (k',x')→k≠k'∨(x=false∧x'=false)):=fun j e' hj hne=>by
  have:=dS hone hj
  simp only [Bool.or_eq_true,beq_iff_eq,hne,false_or,Bool.and_eq_true,bne_iff_ne,Bool.not_eq_true'] at this
  obtain⟨⟨h1,h2⟩,h3⟩:=this
  refine⟨h1,fun hm=>?_,fun k x k' x' hu hu'=>?_⟩
  ·
   rcases h2 with h2 |h2
   ·simp [hm] at h2
   ·split <;> rename_i hji
    ·rw [if_pos hji] at h2;exact h2
    ·rw [if_neg hji] at h2;exact h2
  ·
   rw [hu,hu'] at h3;simp only [Bool.or_eq_true,bne_iff_ne,Bool.and_eq_true,Bool.not_eq_true'] at h3;exact h3
 obtain⟨oi,hoi,hli,hpi⟩:=(cX h.size).1 hri
 have hoe:oi=e.o:=by
  rw [hfull,List.getElem?_append_left (by simpa using hi)] at hoi;simp [he] at hoi;exact hoi.symm
 subst hoe
 have hiL:i < L.size:=by rw [h.size,hfull];simp;omega
 have hahead:=rF h.closed hlt i i e.o (Nat.le_refl _) hoi hpi
 obtain⟨S,h3,h4,h5,h6,h7⟩:=h.ex
 have hsetL:∀j,j≠i→lst (L.setIfInBounds i true) j=lst L j:=fun j hj=>by rw [cI hiL,if_neg (Ne.symm hj)]
 have hsetI:lst (L.setIfInBounds i true) i=true:=by rw [cI hiL,if_pos rfl]
 have hnot:∀(j:Nat) (e':DE),acc[j]? =some e'→((kH [] full).getD j 0).testBit i=true→lst L j=false:=fun j e' hj hb=>by
  cases hl:lst L j with
  |false=>rfl
  |true=>
   obtain⟨oj,hoj⟩:∃oj,full[j]? =some oj:=⟨_,List.getElem?_eq_getElem (by rw [←h.size];exact HV hl)⟩;have:=rF h.closed hlt j j oj (Nat.le_refl _) hoj (h.closed j oj hoj hl) i hb;rw [hli] at this;cases this
 have hneeds:bC S w a e.N:=eB hHas fun s r hs hl=>by
  rcases tP hl with⟨j,e',hj,hd,hr⟩ |⟨h8,h9⟩
  ·have hji:j < i:=by
    rcases Nat.lt_or_ge j i with hh |hh
    ·exact hh
    ·rw [List.getElem?_eq_none (by simp;omega)] at hj;cases hj
   have hj':acc[j]? =some e':=by
    rw [List.getElem?_take] at hj;simpa [hji] using hj
   have hb:=(hother j e' hj' (by omega)).2.1 (by rw [hd];exact hs);rw [if_pos hji] at hb;have:=h7 j e' hj' (hahead j hb);rw [hd,hr] at this;exact this
  ·refine h6 s r h8 fun j e' hj hlj hds=>?_;rcases Nat.lt_trichotomy j i with hh |hh |hh
   ·exact h9 j e' (by rw [List.getElem?_take];simpa [hh] using hj) hds
   ·subst hh;rw [hli] at hlj;cases hlj
   ·have hb:=(hother j e' hj (by omega)).2.1 (by rw [hds];exact hs);rw [if_neg (by omega)] at hb;rw [hnot j e' hj hb] at hlj;cases hlj
 have hup:∀k x,e.u=some (k,x)→ff L k 0 acc=false:=fun k x hu=>mT fun j e' hj hlj=>by
  simp only [Nat.zero_add] at hlj;have hne:j≠i:=fun hh=>by subst hh;rw [hli] at hlj;cases hlj
  have h3:=(hother j e' hj hne).2.2;unfold sN;split
  ·rename_i k' hu';rcases h3 k x k' true hu hu' with hh |⟨_,hh⟩
   ·simpa using Ne.symm hh
   ·cases hh
  ·rfl
 obtain⟨rest,hp1,hp2⟩:=E8 (Δ:=Δ) (acc:=acc) (L:=L) (a:=a) hup
 have hown:=h5.perm hp1
 have hownU:aQ (lF Δ e.u) S w:=hown.part
 have hgo:=hDV.run S w a (fun a' w'=>vC c full Γ0 Δ acc (L.setIfInBounds i true) a' w') Q h3.dom hneeds hownU fun S' w' v hs hr ho hf=>by
  have hdl:e.d < a.tmps.size:=by rw [h.tmps];exact hDV.lt
  have hput:∀s,(a.put (some e.d) v).tmps.getD s undef=if e.d=s then v else a.tmps.getD s undef:=fun s=>lu hdl
  have hbl:(gd (L.setIfInBounds i true) (a.put (some e.d) v) 0 acc).Perm (e.E v++gd L a 0 acc):=
   Ab hsetL hli hsetI (by rw [hput,if_pos rfl]) (Nat.zero_add i) he fun j e' hj hne=>by
    rw [hput,if_neg (Ne.symm (hother j e' hj (by omega)).1)]
  have hperm:=hp2 (L.setIfInBounds i true) (a.put (some e.d) v) (fun k=>CQ hsetL hli hsetI (Nat.zero_add i) he) _ hbl;have hin:∀b,ap (lF Δ e.u) b→ap (wW Δ acc L a) b:=fun b ⟨d,hd,hb⟩=>⟨d,hp1.mem_iff.2 (List.mem_append.2 (.inl hd)),hb⟩;have hK:fW S w w':=fun b hb=>hs.keep b (h3.dom b hb) (h5.sees b hb) (fun hx=>(h5.own b (hin b hx)).1 hb);have hfr:=hown.frame h3.dom hs ho hf;refine⟨by simpa using h.size,fun j hj=>by rw [hsetL j (by omega)];exact h.past j hj,fun j o hj hlj k hk=>?_,h.defers,by simpa [Act.put] using h.tmps,S',h3.trans hs fun b hb=>h4 b (hin b hb),fun b hb=>?_,hfr.perm hperm.symm,fun s r hl hno=>?_,fun j e' hj hlj=>?_⟩
  ·rw [cI hiL];split
   ·rfl
   ·rw [cI hiL] at hlj;split at hlj
    ·rename_i hij;subst hij;have:o=e.o:=by rw [hoi] at hj;cases hj;rfl
     subst this;exact hpi k hk
    ·exact h.closed j o hj hlj k hk
  ·rw [mI hperm] at hb;obtain⟨d,hd,hbd⟩:=hb;rcases List.mem_append.1 hd with hd |hd
   ·rcases hf b ⟨d,hd,hbd⟩ with hh |hh
    ·exact h4 b (hin b hh)
    ·exact .inr (Nat.le_trans h3.size hh)
   ·exact h4 b ⟨d,hp1.mem_iff.2 (List.mem_append.2 (.inr hd)),hbd⟩
  ·rw [hput,if_neg (hno i e he hsetI)];exact A.mono hs.sub hK r (h6 s r hl fun j e' hj hlj=>hno j e' hj (by rw [cI hiL];split <;> first |rfl |exact hlj))
  ·rw [hput];by_cases hji:j=i
   ·subst hji;have:e'=e:=by rw [he] at hj;cases hj;rfl
    subst this;rw [if_pos rfl];exact hr
   ·rw [if_neg (Ne.symm (hother j e' hj hji).1)];exact A.mono hs.sub hK e'.r (h7 j e' hj (by rw [hsetL j hji] at hlj;exact hlj))
 have hoi':full.toArray[i]? =some e.o:=by simpa using hoi
 unfold nG
 simp only [hoi']
 split
 ·
  rename_i hw;rw [if_pos hw] at hgo;exact hgo
 ·
  rename_i hw;rw [if_neg hw] at hgo;rw [hDV.dst];exact hgo
theorem St.drew{a:Act}{w v1:VW}(h:St c Γ Δ a w)(hr:bh w v1):St c Γ Δ a (v1.upd { v1.toWorld with drawn:=v1.drawn+1 }):=(h.rely hr).rely (bh.drawn v1 _)
theorem sx{s:Nat}{r:A}{a:Act}:∀{acc:List DE},lk (nu acc (acc.map fun e=>a.tmps.getD e.d undef)++Γ) s=some r→r= .eq (a.tmps.getD s undef)∨lk Γ s=some r
 |[],h=>.inr h
 |e::es,h=>by
  simp only [List.map_cons,nu] at h
  split at h
  ·
   simp only [List.cons_append,lk] at h
   split at h
   ·
    rename_i hd;subst hd;cases h;exact .inl rfl
   ·
    exact sx h
  ·
   exact sx h
theorem vC.start{a:Act}{w1:VW}(hst':St c Γ0 Δ a w1):vC c full Γ0 Δ acc (Array.replicate full.toArray.size false) a w1:=by
 refine⟨by simp,fun j _=>?_,fun j o _ hj=>?_,hst'.defers,hst'.size,?_⟩
 ·simp [lst,Array.getD_eq_getD_getElem?,Array.getElem?_replicate];split <;> rfl
 ·exfalso;simp [lst,Array.getD_eq_getD_getElem?,Array.getElem?_replicate] at hj;split at hj <;> simp at hj
 ·obtain⟨h1,h2,S,h3,h4,h5,h6⟩:=hst'
  have hz:∀j,lst (Array.replicate full.toArray.size false) j=false:=fun j=>by
   simp [lst,Array.getD_eq_getD_getElem?,Array.getElem?_replicate];split <;> rfl
  have hD:wW Δ acc (Array.replicate full.toArray.size false) a=Δ:=by
   unfold wW
   have e1:∀(es:List DE) (m:Nat),gd (Array.replicate full.toArray.size false) a m es=[]:=by
    intro es
    induction es with
    |nil=>intro m;rfl
    |cons x es ih=>intro m;simp only [gd,hz m,ih (m+1)];rfl
   have e2:∀(l:List D) (k:Nat),dL (fun k=> !ff (Array.replicate full.toArray.size false) k 0 acc) k l=l:=by
    intro l
    induction l with
    |nil=>intro k;rfl
    |cons x l ih=>
     intro k;have:ff (Array.replicate full.toArray.size false) k 0 acc=false:=mT fun j e' _ hl=>by rw [hz] at hl;cases hl
     simp only [dL,this,ih (k+1),Bool.not_false,if_true]
   rw [e1,e2,List.append_nil]
  rw [hD];exact⟨S,h3,h4,h5,fun s r hl _=>h6 s r hl,fun j e hj hl=>by rw [hz] at hl;cases hl⟩
theorem DR.fin(hck:chk full acc=true)(hm:c.P.follows .mixedOrders=true)(h:∀vs:List Value,vs.length=acc.length→JO c full.toArray l Q (nu acc vs++Γ) (oG Δ acc vs)):DR c id full Q Γ0 Δ acc l Γ:=by
 intro hfull hDR hΓ ops hren a w hst;refine pB hren hm fun v1 hv=>?_;have hst':=hst.drew hv;generalize (v1.upd { v1.toWorld with drawn:=v1.drawn+1 })=w1 at hst'⊢
 have hck0:LA full acc=true:=by
  unfold chk at hck;simp only [Bool.and_eq_true] at hck;exact Bool.and_eq_true_iff.2 ⟨hck.1.1,hck.1.2⟩
 have hck':=hck;unfold chk at hck';simp only [Bool.and_eq_true] at hck';obtain⟨⟨hc1,hc2⟩,hc3⟩:=hck'
 have hlt:∀j o,full[j]? =some o→∀i∈fq o,i < j:=fun j o ho i hi=>by
  have:=dS hc2 ho;rw [List.all_eq_true] at this;simpa using this i hi
 have hforced:∀m,acc.length≤m→m < full.length→∀i,i < m→((kH [] full).getD m 0).testBit i=true:=fun m hm1 hm2 i hi=>by
  rw [List.all_eq_true] at hc3;have:=hc3 m (List.mem_range.2 hm2);simp only [Bool.or_eq_true,decide_eq_true_eq] at this;rcases this with h |h
  ·omega
  ·rw [List.all_eq_true] at h;exact h i (List.mem_range.2 hi)
 have hlen:full.length=acc.length+l.length:=by rw [hfull];simp
 have full_up:∀L a w,vC c full Γ0 Δ acc L a w→cnt L acc.length=0→∀aF,l.length≤aF→fQ c.M c.rd .any full.toArray Q aF L a w:=by
  intro L a w hI h0 aF hf;have hall:=jV h0;refine yS hlt l acc.length (by rw [hfull];simp) hforced L hI.size (fun i hi _=>hall i hi) hI.past a w ?_ aF hf;refine h (acc.map fun e=>a.tmps.getD e.d undef) (by simp) a w ?_;obtain⟨S,h3,h4,h5,h6,h7⟩:=hI.ex
  have hD:oG Δ acc (acc.map fun e=>a.tmps.getD e.d undef)=wW Δ acc L a:=by
   unfold oG wW
   have e1:∀(es:List DE) (m:Nat),(∀j (e:DE),es[j]? =some e→lst L (m+j)=true)→births es (es.map fun e=>a.tmps.getD e.d undef)=gd L a m es:=by
    intro es
    induction es with
    |nil=>intro m _;rfl
    |cons x es ih=>
     intro m hh;have:=hh 0 x rfl;simp only [Nat.add_zero] at this;simp only [List.map_cons,births,gd,this,if_true];rw [ih (m+1) fun j e he=>by have:=hh (j+1) e (by simpa using he);rwa [show m+1+j=m+(j+1) by omega]]
   have e2:∀(k:Nat) (es:List DE) (m:Nat),(∀j (e:DE),es[j]? =some e→lst L (m+j)=true)→ff L k m es=mR es k:=by
    intro k es
    induction es with
    |nil=>intro m _;rfl
    |cons x es ih=>
     intro m hh;have:=hh 0 x rfl;simp only [Nat.add_zero] at this;simp only [ff,mR,List.any_cons,this,Bool.true_and];rw [ih (m+1) fun j e he=>by have:=hh (j+1) e (by simpa using he);rwa [show m+1+j=m+(j+1) by omega]];rfl
   have hl:∀j (e:DE),acc[j]? =some e→lst L (0+j)=true:=fun j e he=>by
    rw [Nat.zero_add];refine hall j ?_;rcases Nat.lt_or_ge j acc.length with h |h
    ·exact h
    ·simp [List.getElem?_eq_none h] at he
   rw [e1 acc 0 hl];congr 1
   have:∀(l:List D) (k:Nat),oG.keepFrom acc k l=dL (fun k=> !ff L k 0 acc) k l:=by
    intro l
    induction l with
    |nil=>intro k;rfl
    |cons x l ih=>
     intro k;simp only [oG.keepFrom,dL,e2 k acc 0 hl,ih];cases mR acc k <;> rfl
   exact this Δ 0
  rw [hD];refine⟨hI.defers,hI.tmps,S,h3,h4,h5,fun s r hl=>?_⟩;rcases sx hl with rfl |hl
  ·rfl
  ·rw [hΓ] at hl;rcases tP hl with⟨j,e,hj,hd,hr⟩ |⟨h8,h9⟩
   ·have hjl:j < acc.length:=by
     rcases Nat.lt_or_ge j acc.length with h |h
     ·exact h
     ·simp [List.getElem?_eq_none h] at hj
    have:=h7 j e hj (hall j hjl);rw [hd,hr] at this;exact this
   ·exact h6 s r h8 fun j e hj _=>h9 j e hj
 have key:∀aF L a w,vC c full Γ0 Δ acc L a w→cnt L acc.length+l.length≤aF→fQ c.M c.rd .any full.toArray Q aF L a w:=by
  intro aF
  induction aF with
  |zero=>intro L a w hI hf;exact full_up L a w hI (by omega) 0 (by omega)
  |succ n ih=>
   intro L a w hI hf;by_cases h0:cnt L acc.length=0
   ·exact full_up L a w hI h0 (n+1) (by omega)
   ·obtain⟨j,hj1,hj2,hj3⟩:=pg h0;obtain⟨oj,hoj⟩:∃oj,full[j]? =some oj:=⟨_,List.getElem?_eq_getElem (by omega)⟩;have hrj:j∈Region.ready .any full.toArray L:=(cX hI.size).2 ⟨oj,hoj,hj2,fun i hi=>hj3 i (hlt j oj hoj i hi)⟩;refine⟨fun hh=>(by rw [hh] at hrj;cases hrj),fun i hi=>?_⟩;obtain⟨oi,hoi,hli,hpi⟩:=(cX hI.size).1 hi
    have hil:i < full.length:=by
     rcases Nat.lt_or_ge i full.length with h |h
     ·exact h
     ·simp [List.getElem?_eq_none h] at hoi
    have hit:i < acc.length:=by
     rcases Nat.lt_or_ge i acc.length with h |h
     ·exact h
     ·have:=rF hI.closed hlt i i oi (Nat.le_refl _) hoi hpi j (hforced i h hil j (by omega));rw [hj2] at this;cases this
    refine kL (fun a' w' hI'=>ih _ a' w' hI' ?_) (vC.step hfull hDR hck0 hI hit hi);have hiL:i < L.size:=by rw [hI.size];exact hil
    have:=pe (L:=L) (L':=L.setIfInBounds i true) (i:=i) (fun j hj=>by rw [cI hiL,if_neg (Ne.symm hj)]) hli (by rw [cI hiL,if_pos rfl]) hit;omega
 refine key full.toArray.size _ a w1 ⟨by simp,fun j _=>?_,fun j o _ hj=>?_,hst'.defers,hst'.size,?_⟩ ?_
 ·simp [lst,Array.getD_eq_getD_getElem?,Array.getElem?_replicate];split <;> rfl
 ·exfalso;simp [lst,Array.getD_eq_getD_getElem?,Array.getElem?_replicate] at hj;split at hj <;> simp at hj
 ·obtain⟨h1,h2,S,h3,h4,h5,h6⟩:=hst'
  have hz:∀j,lst (Array.replicate full.toArray.size false) j=false:=fun j=>by
   simp [lst,Array.getD_eq_getD_getElem?,Array.getElem?_replicate];split <;> rfl
  have hD:wW Δ acc (Array.replicate full.toArray.size false) a=Δ:=by
   unfold wW
   have e1:∀(es:List DE) (m:Nat),gd (Array.replicate full.toArray.size false) a m es=[]:=by
    intro es
    induction es with
    |nil=>intro m;rfl
    |cons x es ih=>intro m;simp only [gd,hz m,ih (m+1)];rfl
   have e2:∀(l:List D) (k:Nat),dL (fun k=> !ff (Array.replicate full.toArray.size false) k 0 acc) k l=l:=by
    intro l
    induction l with
    |nil=>intro k;rfl
    |cons x l ih=>
     intro k;have:ff (Array.replicate full.toArray.size false) k 0 acc=false:=mT fun j e' _ hl=>by rw [hz] at hl;cases hl
     simp only [dL,this,ih (k+1),Bool.not_false,if_true]
   rw [e1,e2,List.append_nil]
  rw [hD];exact⟨S,h3,h4,h5,fun s r hl _=>h6 s r hl,fun j e hj hl=>by rw [hz] at hl;cases hl⟩
 ·have:cnt (Array.replicate full.toArray.size false) acc.length≤acc.length:=by
   have:∀t,cnt (Array.replicate full.toArray.size false) t≤t:=by
    intro t
    induction t with
    |zero=>exact Nat.le_refl _
    |succ t ih=>simp only [cnt];split <;> omega
   exact this _
  simp only [List.size_toArray];simp only [List.size_toArray] at this;omega
end
section
variable {α β γ ρ:Type}{K:β→Option ρ}{r:ρ}
theorem aa{X:Option α}{f:α→Option β}(h:(X.bind f).bind K=some r):∃x,X=some x∧(f x).bind K=some r:=by
 cases X with
 |none=>cases h
 |some x=>exact⟨x,rfl,h⟩
theorem fe{p:Prop}[Decidable p]{X Y:Option β}(hp:p)(h:(if p then X else Y).bind K=some r):X.bind K=some r:=by rwa [if_pos hp] at h
theorem cS{p:Prop}[Decidable p]{X Y:Option β}(hp:¬p)(h:(if p then X else Y).bind K=some r):Y.bind K=some r:=by rwa [if_neg hp] at h
theorem tU{p:Prop}[Decidable p](h:decide p=true):p:=of_decide_eq_true h
theorem tV{p:Prop}[Decidable p](h:decide p=false):¬p:=of_decide_eq_false h
theorem RU{p:Prop}[Decidable p](h:(!decide p)=true):¬p:=by simpa using h
theorem Uj{p:Prop}[Decidable p](h:(!decide p)=false):p:=by simpa using h
theorem MK{b:Bool}(h:b=false):¬b=true:=by simp [h]
theorem Bl{b:Bool}(h:(!b)=true):¬b=true:=by simpa using h
theorem RR{b:Bool}(h:(!b)=false):b=true:=by simpa using h
theorem aY{X:Option ρ}(h:X=some r):X.bind some=some r:=by rw [h];rfl
def bE{ε:Type}(X:Option (Except ε α))(g:ε→Option β)(f:α→Option β):Option β:=match X with
 |none=>none
 |some (.error e)=>g e
 |some (.ok x)=>f x
def cF(p:Prop)[Decidable p]:Option Unit:=if p then some () else none
theorem ao{p:Prop}[Decidable p]{u:Unit}(h:cF p=some u):p:=by
 unfold cF at h;split at h
 ·assumption
 ·cases h
end
section
variable {c:Cx}{ops:Array Oper}{o:Oper}{l:List Oper}{Q:Exit→Act→VW→Prop}{Γ Γ':Ga}{Δ Δ' F:List D}{N:List (Operand×A)}{d:Nat}{X:Type}{r r':A}{C C':Code}
theorem aI{α β ρ Z:Type}{Y:Option α}{f:α→Option β}{K:β→Option ρ}{q:ρ}(G:Z→α→Ga)(E:Z→α→List D)(h:(Y.bind f).bind K=some q)
 (h1:∀K':α→Option ρ,Y.bind K'=some q→JC c C (bS (fun a w=>∃z:Z×α,K' z.2=some q∧St c (G z.1 z.2) (E z.1 z.2) a w) Q) Γ Δ)
 (h2:∀z x,(f x).bind K=some q→JC c C' Q (G z x) (E z x)):JC c (.seq C C') Q Γ Δ:=
 I8 (Z:=Z×α) (fun z=>G z.1 z.2) (fun z=>E z.1 z.2) (fun z=>(f z.2).bind K=some q) (h1 (fun x=>(f x).bind K) (by
  cases Y with
  |none=>cases h
  |some x=>exact h)) fun z h=>h2 z.1 z.2 h
theorem dx{α β ρ ε Z:Type}{Y:Option (Except ε α)}{g:ε→Option β}{f:α→Option β}{K:β→Option ρ}{q:ρ}(G:Z→α→Ga)(E:Z→α→List D)(p:ε→Prop)(h:(bE Y g f).bind K=some q)(hg:∀e,(g e).bind K=some q→p e)
 (h1:∀K':Except ε α→Option ρ,(∀e,K' (.error e)=some q→p e)→Y.bind K'=some q→JC c C (bS (fun a w=>∃z:Z×α,K' (.ok z.2)=some q∧St c (G z.1 z.2) (E z.1 z.2) a w) Q) Γ Δ)
 (h2:∀z x,(f x).bind K=some q→JC c C' Q (G z x) (E z x)):JC c (.seq C C') Q Γ Δ:=
 I8 (Z:=Z×α) (fun z=>G z.1 z.2) (fun z=>E z.1 z.2) (fun z=>(f z.2).bind K=some q) (h1 (fun | .error e=>(g e).bind K | .ok x=>(f x).bind K) hg (by
  cases Y with
  |none=>cases h
  |some x=>cases x with
   |error e=>exact h
   |ok x=>exact h)) fun z h=>h2 z.1 z.2 h
def fg(Δ:List D):List Nat→Option (List D)
 |[]=>some []
 |k::ks=>match Δ[k]?,fg Δ ks with
  |some d,some l=>some (d::l)
  |_,_=>none
theorem iW{Δ:List D}:∀{ks:List Nat} {Δ':List D},fg Δ ks=some Δ'→∀d∈Δ',∃k∈ks,Δ[k]? =some d
 |[],_,h,d,hd=>by cases h;simp at hd
 |k::ks,_,h,d,hd=>by
  simp only [fg] at h
  split at h
  ·
   rename_i d' l h1 h2
   cases h
   rcases List.mem_cons.1 hd with rfl |hd
   ·
    exact⟨k,List.mem_cons_self ..,h1⟩
   ·
    obtain⟨k',h3,h4⟩:=iW h2 d hd
    exact⟨k',List.mem_cons_of_mem _ h3,h4⟩
  ·
   cases h
theorem qP{α:Type}{R:α→α→Prop}(hR:∀a b,R a b→R b a):∀{l:List α},l.Pairwise R→∀{i j:Nat} {a b:α},i≠j→l[i]? =some a→l[j]? =some b→R a b
 |[],_,i,_,_,_,_,h,_=>by simp at h
 |x::l,hp,i,j,a,b,hne,hi,hj=>by
  obtain⟨h1,h2⟩:=List.pairwise_cons.1 hp
  cases i with
  |zero=>
   cases j with
   |zero=>exact absurd rfl hne
   |succ j=>
    simp at hi hj
    subst hi
    exact h1 b (List.mem_of_getElem? hj)
  |succ i=>
   cases j with
   |zero=>
    simp at hi hj
    subst hj
    exact hR _ _ (h1 a (List.mem_of_getElem? hi))
   |succ j=>exact qP hR h2 (i:=i) (j:=j) (by omega) (by simpa using hi) (by simpa using hj)
theorem iQ{Δ:List D}{R:D→D→Prop}(hR:∀a b,R a b→R b a)(hp:Δ.Pairwise R):∀{ks:List Nat} {Δ':List D},ks.Nodup→fg Δ ks=some Δ'→Δ'.Pairwise R
 |[],_,_,h=>by cases h;exact List.Pairwise.nil
 |k::ks,_,hn,h=>by
  simp only [fg] at h
  split at h
  ·
   rename_i d' l h1 h2
   cases h
   obtain⟨hn1,hn2⟩:=List.nodup_cons.1 hn
   refine List.pairwise_cons.2 ⟨fun d hd=>?_,iQ hR hp hn2 h2⟩
   obtain⟨k',h3,h4⟩:=iW h2 d hd
   exact qP hR hp (fun e=>hn1 (by rw [e];exact h3)) h1 h4
  ·
   cases h
theorem SE.fin(ks:List Nat)(hs:Jj Γ' Γ)(hk:fg Δ ks=some Δ')(hn:ks.Nodup:=by decide):SE c Γ Δ Γ' Δ':=fun a w ⟨h1,h2,S,h3,h4,h5,h6⟩=>by
 have hm:∀d∈Δ',d∈Δ:=fun d hd=>by
  obtain⟨k,_,h⟩:=iW hk d hd
  exact List.mem_of_getElem? h
 exact⟨h1,h2,S,h3,fun b ⟨d,hd,e⟩=>h4 b ⟨d,hm d hd,e⟩,h5.re ⟨fun d hd=>h5.holds d (hm d hd),fun b ⟨d,hd,e⟩=>h5.own b ⟨d,hm d hd,e⟩,iQ (fun _ _ h b e e'=>h b e' e) h5.apart hn hk⟩ (fun b ⟨d,hd,e⟩=>⟨d,hm d hd,e⟩) (fun _ h=>.inl h),fun s r hl=>h6 s r (hs.lk hl)⟩
theorem cG{s:Nat}{b:Bool}(hl:lk Γ s=some (.eq (.bool b)))(h1:b=true→JO c ops l Q ((s,.eq (.bool true))::Γ) Δ)(h2:b=false→JO c ops l Q ((s,.eq (.bool false))::Γ) Δ):JO c ops l Q Γ Δ:=by
 have key:∀b':Bool,b=b'→∀a w,St c Γ Δ a w→St c ((s,.eq (.bool b'))::Γ) Δ a w:=fun b' e a w ⟨g1,g2,S,g3,g4,g5,g6⟩=>⟨g1,g2,S,g3,g4,g5,fun s' q hq=>by
  simp only [lk] at hq;split at hq
  ·rename_i e';subst e' e;cases hq;exact g6 s _ hl
  ·exact g6 s' q hq⟩
 intro a w st;cases b
 ·exact h2 rfl a w (key _ rfl a w st)
 ·exact h1 rfl a w (key _ rfl a w st)
theorem nv{v:Value}{T T':TypeId}{t:Ty}{dd:List t.den}{b off:Nat}{a0 a1:A}(ss:List Nat)(hh:pr Γ v ss)(hg:a0.get off 1 false=some (.eq v))(hs:a0.set off 1 false (.rep (.slice t) dd)=some a1):
 SE c Γ (.sl v T t dd:: .obj b T' a0::F) (rQ Γ (.rep (.slice t) dd) ss) (.obj b T' a1::F):=fun a w h=>by
 have k1:=gZ (F:=.obj b T' a0::F) ss hh a w h
 have k2:=IT hg hs a w h
 obtain⟨h1,h2,S,h3,h4,h5,h6,h7⟩:=uT h
 obtain⟨_,_,S2,p3,p4,p5,p6⟩:=k2
 have hK:fW S2 w w:=fun _ _=>rfl
 have hK1:fW S w w:=fun _ _=>rfl
 obtain⟨cs,q1,q2⟩:=h5.holds _ (List.mem_cons_self ..)
 obtain⟨g1,g2⟩:=iD a0 q2 hg
 have l0:=a0.cells_length q2
 have gv:mk false ((cs.drop off).take 1)=v:=g1
 have hlt:off < cs.length:=by omega
 have hc:(cs.drop off).take 1=[v]:=by
  have e9:(cs.drop off).take 1=[cs[off]]:=by rw [List.drop_eq_getElem_cons hlt];rfl
  rw [e9] at gv⊢;have e10:cs[off]=v:=gv;rw [e10]
 obtain⟨xs,e1,e2⟩:=h7
 have e3:xs=[v]:=by
  have l1:=aN (.slice t) e1;match xs,l1 with
  |[u],_=>simp [mk] at e2;rw [e2]
 subst e3
 obtain⟨m1,_⟩:=lE a0 q2 (r:=.rep (.slice t) dd) (new:=[v]) e1 rfl hs
 have e4:cs.take off++[v]++cs.drop (off+[v].length)=cs:=by
  show cs.take off++[v]++cs.drop (off+1)=cs;rw [←hc,←List.take_add,List.take_append_drop]
 rw [e4] at m1
 refine⟨h1,h2,S,h3,fun x ⟨e,he,hb⟩=>?_,h5.re ⟨fun e he=>?_,fun x ⟨e,he,hb⟩=>?_,?_⟩ (fun x ⟨e,he,hb⟩=>by
  rcases List.mem_cons.1 he with rfl |he
  ·exact⟨_,List.mem_cons_self ..,hb⟩
  ·exact⟨e,List.mem_cons_of_mem _ he,hb⟩) (fun _ h=>.inl h),fun s q hq=>?_⟩
 ·
  rcases List.mem_cons.1 he with rfl |he
  ·exact h4 x ⟨_,List.mem_cons_self ..,hb⟩
  ·exact h4 x ⟨e,List.mem_cons_of_mem _ he,hb⟩
 ·
  rcases List.mem_cons.1 he with rfl |he
  ·exact⟨cs,q1,m1⟩
  ·exact h5.holds e (List.mem_cons_of_mem _ he)
 ·
  rcases List.mem_cons.1 he with rfl |he
  ·exact h5.own x ⟨_,List.mem_cons_self ..,hb⟩
  ·exact h5.own x ⟨e,List.mem_cons_of_mem _ he,hb⟩
 ·
  have hp:=List.pairwise_cons.1 h5.apart;exact List.pairwise_cons.2 ⟨fun e he=>hp.1 e he,hp.2⟩
 ·
  rcases sw hq with⟨hs',rfl⟩ |hq
  ·have:=h6 s _ (hh.mem hs');have e:a.tmps.getD s undef=v:=this;rw [e];exact⟨_,e1,rfl⟩
  ·exact h6 s q hq
theorem bY{op:Op}{ty:TypeId}{pos:String}{af:Array Edge}(hdN:Nat.blt d c.N=true)(ht:bo c.M ⟨some d,op,ty,pos,af,none⟩ N [] (fun _:Unit=>(r,[])))(hh:dO Γ N)(h:JO c ops l Q ((d,r)::Γ) Δ):
 JO c ops (⟨some d,op,ty,pos,af,none⟩::l) Q Γ Δ:=O3 rfl rfl hdN ht hh h
theorem gU{t:Nat}{ty:TypeId}{pos:String}{af:Array Edge}(hdN:Nat.blt d c.N=true)(hl:lk Γ t=some r)(h:JO c ops l Q ((d,r)::Γ) Δ):
 JO c ops (⟨some d,.move (.tmp t),ty,pos,af,none⟩::l) Q Γ Δ:=bY hdN (bz rfl) ⟨hl,trivial⟩ h
theorem fa{v:Value}{ty:TypeId}{pos:String}{af:Array Edge}(hdN:Nat.blt d c.N=true)(h:JO c ops l Q ((d,.eq v)::Γ) Δ):
 JO c ops (⟨some d,.move (.const v),ty,pos,af,none⟩::l) Q Γ Δ:=bY hdN (bz rfl) ⟨rfl,trivial⟩ h
theorem vo{t:Nat}{ty:TypeId}{pos:String}{af:Array Edge}(hdN:Nat.blt d c.N=true)(hl:lk Γ t=some r)(h:JO c ops l Q ((d,r)::Γ) Δ):
 JO c ops (⟨some d,.assign (.tmp t),ty,pos,af,none⟩::l) Q Γ Δ:=bY hdN (og rfl) ⟨hl,trivial⟩ h
theorem D9{v:Value}{ty:TypeId}{pos:String}{af:Array Edge}(hdN:Nat.blt d c.N=true)(h:JO c ops l Q ((d,.eq v)::Γ) Δ):
 JO c ops (⟨some d,.assign (.const v),ty,pos,af,none⟩::l) Q Γ Δ:=bY hdN (og rfl) ⟨rfl,trivial⟩ h
end
theorem MI{b:Bool}(h:b=true):b=true:=h
theorem Og{p:Prop}[Decidable p](h:(!decide p)=false):¬¬p:=fun hn=>hn (Uj h)
theorem uw{b:Bool}(h:(!b)=false):¬¬b=true:=fun hn=>hn (RR h)
section
variable {c:Cx}{ops:Array Oper}{o:Oper}{l:List Oper}{Q:Exit→Act→VW→Prop}{Γ Γ' Γ0:Ga}{Δ Δ' F:List D}{N N':List (Operand×A)}{d:Nat}{X:Type}{r r':A}{C C':Code}{P:Program}{M:Md P}
theorem aK{α β ρ Z:Type}{K:β→Option ρ}{q:ρ}(G:Z→α→Ga)(E:Z→α→List D)(L:Nat→α→Option β)(n:Nat)(z:Z)(x:α)(h0:∀x,L 0 x=none)(h:(L n x).bind K=some q)(hs:SE c Γ Δ (G z x) (E z x))
 (round:∀n z x,(L (n+1) x).bind K=some q→JC c C (bS (fun a w=>∃z':Z×α,(L n z'.2).bind K=some q∧St c (G z'.1 z'.2) (E z'.1 z'.2) a w) Q) (G z x) (E z x)):JC c (.loop C) Q Γ Δ:=by
 refine L1 (Z:=Z×α) (fun z=>G z.1 z.2) (fun z=>E z.1 z.2) (fun n z=>(L n z.2).bind K=some q) n (z,x) h hs ?_
 rintro n ⟨z,x⟩ h
 cases n with
 |zero=>rw [h0] at h;cases h
 |succ n=>
  intro a w st;refine mP (fun e a w q=>?_) (round n z x h a w st);cases e with
  |normal=>obtain⟨z',hp,hs⟩:=q;exact⟨(n,z'),⟨Nat.lt_succ_self n,hp⟩,hs⟩
  |_=>exact q
def AE(a a':A):Prop:=∀S w cs,a.cells S w cs→a'.cells S w cs
theorem AE.rfl{a:A}:AE a a:=fun _ _ _ h=>h
theorem AE.trans{a b e:A}(h:AE a b)(h':AE b e):AE a e:=fun S w cs q=>h' S w cs (h S w cs q)
theorem AE.pair{a a' b b':A}(h:AE a a')(h':AE b b'):AE (.pair a b) (.pair a' b'):=fun S w _ ⟨c1,c2,e,q1,q2⟩=>⟨c1,c2,e,h S w c1 q1,h' S w c2 q2⟩
theorem AE.agg{a a':A}(h:AE a a'):AE (.agg a) (.agg a'):=fun S w cs q=>h S w cs q
theorem AA{t u:Ty}{x:(Ty.pair t u).den}:AE (.rep (.pair t u) x) (.pair (.rep t x.1) (.rep u x.2)):=fun _ _ _ h=>h
theorem Ej{t:Ty}{x:t.den}:AE (.rep (.agg t) x) (.agg (.rep t x)):=fun _ _ _ h=>h
theorem jB{a:A}{t:Ty}{x:t.den}(h:pJ a t x):AE a (.rep t x):=fun _ _ _ q=>h.cells q
theorem AE.int{k:IntKind}{n:Int}:AE (.rep (.int k) n) (.eq (.int k n)):=fun _ _ _ h=>⟨h,Eq.refl _⟩
theorem AE.bool{b:Bool}:AE (.rep .bool b) (.eq (.bool b)):=fun _ _ _ h=>⟨h,Eq.refl _⟩
theorem AE.ptr{t:Ty}{x:t.den}:AE (.rep (.ptr t) x) (.at t x):=fun _ _ _ h=>h
theorem AE.val{v:Value}:AE (.rep .val v) (.eq v):=fun _ _ _ h=>h
theorem iv{b:Nat}{T:TypeId}{a a':A}(h:AE a a'):SE c Γ (.obj b T a::F) Γ (.obj b T a'::F):=fun act w ⟨h1,h2,S,h3,h4,h5,h6⟩=>by
 have hm:∀e,e∈(.obj b T a'::F:List D)→∃e',e'∈(.obj b T a::F:List D)∧e'.foot=e.foot:=fun e he=>by
  rcases List.mem_cons.1 he with e' |he
  ·
   subst e';exact⟨_,List.mem_cons_self ..,Eq.refl _⟩
  ·
   exact⟨e,List.mem_cons_of_mem _ he,Eq.refl _⟩
 refine⟨h1,h2,S,h3,fun x ⟨e,he,hb⟩=>?_,h5.re ⟨fun e he=>?_,fun x ⟨e,he,hb⟩=>?_,?_⟩ (fun x ⟨e,he,hb⟩=>by obtain⟨e',q1,q2⟩:=hm e he;exact⟨e',q1,q2.trans hb⟩) (fun _ h=>.inl h),h6⟩
 ·
  obtain⟨e',q1,q2⟩:=hm e he
  exact h4 x ⟨e',q1,q2.trans hb⟩
 ·
  rcases List.mem_cons.1 he with e' |he
  ·
   subst e'
   obtain⟨cs,q1,q2⟩:=h5.holds _ (List.mem_cons_self ..)
   exact⟨cs,q1,h S w cs q2⟩
  ·
   exact h5.holds e (List.mem_cons_of_mem _ he)
 ·
  obtain⟨e',q1,q2⟩:=hm e he
  exact h5.own x ⟨e',q1,q2.trans hb⟩
 ·
  have hp:=List.pairwise_cons.1 h5.apart
  exact List.pairwise_cons.2 ⟨fun e he=>hp.1 e he,hp.2⟩
theorem bF{R:X→A×List D}(h:bo M o N' Δ R)(hN:∀S w a,bC S w a N→bC S w a N'):bo M o N Δ R:=⟨h.1,fun ro S w a next Q hd hn hO k=>h.2 ro S w a next Q hd (hN S w a hn) hO k⟩
theorem aE{S:FS}{w:World}{a:A}{t:Ty}{x:t.den}{v:Value}(h:pJ a t x)(hs:a.stor)(hg:a.isAgg=t.isAgg)(hv:a.holds S w v):(FG t x).holds S w v:=h.holds hs hg hv
theorem lend{S:FS}{w:World}{u v:Value}{r:A}(h1:(A.eq v).holds S w u)(hv:r.holds S w v):r.holds S w u:=by
 have e:u=v:=h1;rw [e];exact hv
theorem oD:∀d∈([]:List D),d.flat=true:=fun _ h=>nomatch h
def NB:List DE→Prop
 |[]=>True
 |e::es=>(e.b=false∧∀v,e.E v=e.E undef)∧NB es
@[reducible] def lW:List DE→List D
 |[]=>[]
 |e::es=>e.E undef++lW es
theorem wU:∀{es:List DE} {vs:List Value},NB es→vs.length=es.length→births es vs=lW es
 |[],[],_,_=>rfl
 |e::es,v::vs,h,hl=>by
  simp only [births,lW,h.1.2 v]
  rw [wU h.2 (by simpa using hl)]
 |[],_::_,_,h=>by simp at h
 |_::_,[],_,h=>by simp at h
theorem wV:∀{es:List DE} {vs:List Value},NB es→nu es vs=[]
 |[],_,_=>by simp [nu]
 |e::es,[],h=>by simp [nu]
 |e::es,v::vs,h=>by
  simp only [nu,h.1.1,Bool.false_eq_true,if_false]
  exact wV h.2
theorem Eg{full:List Oper}{acc:List DE}{id:Nat}(hn:NB acc)(hck:chk full acc=true)(hm:c.P.follows .mixedOrders=true)(h:JO c full.toArray l Q Γ (oG.keepFrom acc 0 Δ++lW acc)):DR c id full Q Γ0 Δ acc l Γ:=
 DR.fin hck hm fun vs hv=>by
  rw [wV hn,List.nil_append]
  unfold oG
  rw [wU hn hv]
  exact h
section
variable {full:List Oper}{acc:List DE}{id:Nat}{e e':D}{j s:Nat}{g b m:Bool}{oj:Oper}
def NM:List DE→Prop
 |[]=>True
 |e::es=>((∀k,sN e k=false)∧e.E undef=[])∧NM es
theorem NB.snoc{x:DE}:∀{es:List DE},NB es→(x.b=false∧∀v,x.E v=x.E undef)→NB (es++[x])
 |[],_,h=>⟨h,trivial⟩
 |_::_,⟨h1,h2⟩,h=>⟨h1,NB.snoc h2 h⟩
theorem NM.snoc{x:DE}:∀{es:List DE},NM es→((∀k,sN x k=false)∧x.E undef=[])→NM (es++[x])
 |[],_,h=>⟨h,trivial⟩
 |_::_,⟨h1,h2⟩,h=>⟨h1,NM.snoc h2 h⟩
theorem xc:∀{es:List DE},NM es→lW es=[]
 |[],_=>rfl
 |e::es,⟨h1,h2⟩=>by simp only [lW,h1.2,xc h2,List.append_nil]
theorem D6:∀{es:List DE} {k:Nat},NM es→mR es k=false
 |[],_,_=>rfl
 |e::es,k,⟨h1,h2⟩=>by
  have:=D6 (k:=k) h2
  unfold mR at this⊢
  simp only [List.any_cons,h1.1 k,this,Bool.or_false]
theorem NM.keep{es:List DE}(h:NM es):∀{Δ:List D} {k:Nat},oG.keepFrom es k Δ=Δ
 |[],_=>rfl
 |d::Δ,k=>by
  unfold oG.keepFrom
  rw [D6 h,if_neg (by simp),NM.keep h]
def DN(c:Cx)(id:Nat)(full:List Oper)(Q:Exit→Act→VW→Prop)(Γ0:Ga)(Δ:List D)(acc:List DE)(l:List Oper)(Γ:Ga)(m:Bool):Prop:=
 NB acc→(m=true→NM acc)→DR c id full Q Γ0 Δ acc l Γ
theorem cK(h:DN c id full Q Γ Δ [] full Γ true):JC c (.region id full.toArray true) Q Γ Δ:=Eb (h trivial fun _=>trivial)
theorem CG{m:Bool}(hck:chk full acc=true)(hm:c.P.follows .mixedOrders=true)(h:JO c full.toArray l Q Γ Δ)(ht:m=true:=by rfl):DN c id full Q Γ0 Δ acc l Γ m:=
 fun h1 h2=>Eg h1 hck hm (by rw [NM.keep (h2 ht),xc (h2 ht),List.append_nil];exact h)
theorem Me{m:Bool}(hck:chk full acc=true)(hm:c.P.follows .mixedOrders=true)(h:JO c full.toArray l Q Γ (oG.keepFrom acc 0 Δ++lW acc)):DN c id full Q Γ0 Δ acc l Γ m:=
 fun h1 _=>Eg h1 hck hm h
theorem fx(hg:o.guard=none)(hd:o.dst=some d)(hdN:Nat.blt d c.N=true)(ht:bo c.M o N [] (fun _:Unit=>(r,[])))(hh:dO Γ N)
 (h:DN c id full Q Γ0 Δ (acc++[⟨o,d,N,r,none,false,fun _=>[]⟩]) l ((d,r)::Γ) m):DN c id full Q Γ0 Δ acc (o::l) Γ m:=
 fun h1 h2=>DR.step rfl (Ee hg hd hdN ht) hh (h (h1.snoc ⟨rfl,fun _=>rfl⟩) fun e=>(h2 e).snoc ⟨fun _=>rfl,rfl⟩)
theorem yw(k:Nat)(hk:Δ[k]? =some e)(hg:o.guard=none)(hd:o.dst=some d)(hdN:Nat.blt d c.N=true)(ht:bo c.M o N [e] (fun _:Unit=>(r,[e])))(hh:dO Γ N)
 (h:DN c id full Q Γ0 Δ (acc++[⟨o,d,N,r,some (k,false),false,fun _=>[]⟩]) l ((d,r)::Γ) m):DN c id full Q Γ0 Δ acc (o::l) Γ m:=
 fun h1 h2=>DR.step rfl (Ed k hk hg hd hdN ht) hh (h (h1.snoc ⟨rfl,fun _=>rfl⟩) fun e=>(h2 e).snoc ⟨fun _=>rfl,rfl⟩)
theorem Eh(k:Nat)(hk:Δ[k]? =some e)(hg:o.guard=none)(hd:o.dst=some d)(hdN:Nat.blt d c.N=true)(ht:bo c.M o N [e] (fun _:Unit=>(r,[e'])))(hh:dO Γ N)
 (h:DN c id full Q Γ0 Δ (acc++[⟨o,d,N,r,some (k,true),false,fun _=>[e']⟩]) l ((d,r)::Γ) false):DN c id full Q Γ0 Δ acc (o::l) Γ m:=
 fun h1 _=>DR.step rfl (Je k hk hg hd hdN ht) hh (h (h1.snoc ⟨rfl,fun _=>rfl⟩) fun e=>nomatch e)
theorem cz(hg:o.guard=some (j,g))(hj:full.toArray[j]? =some oj)(hs:oj.dst=some s)(hd:o.dst=some d)(hdN:Nat.blt d c.N=true)(ht:bo c.M o N [] (fun _:Unit=>(r,[])))(hh:dO Γ ((.tmp s,.eq (.bool g))::N))
 (h:DN c id full Q Γ0 Δ (acc++[⟨o,d,(.tmp s,.eq (.bool g))::N,r,none,false,fun _=>[]⟩]) l ((d,r)::Γ) m):DN c id full Q Γ0 Δ acc (o::l) Γ m:=
 fun h1 h2=>DR.step rfl (O8 hg hj hs hd hdN ht) hh (h (h1.snoc ⟨rfl,fun _=>rfl⟩) fun e=>(h2 e).snoc ⟨fun _=>rfl,rfl⟩)
theorem gR(k:Nat)(hk:Δ[k]? =some e)(hg:o.guard=some (j,g))(hj:full.toArray[j]? =some oj)(hs:oj.dst=some s)(hd:o.dst=some d)(hdN:Nat.blt d c.N=true)(ht:bo c.M o N [e] (fun _:Unit=>(r,[e])))(hh:dO Γ ((.tmp s,.eq (.bool g))::N))
 (h:DN c id full Q Γ0 Δ (acc++[⟨o,d,(.tmp s,.eq (.bool g))::N,r,some (k,false),false,fun _=>[]⟩]) l ((d,r)::Γ) m):DN c id full Q Γ0 Δ acc (o::l) Γ m:=
 fun h1 h2=>DR.step rfl (O7 k hk hg hj hs hd hdN ht) hh (h (h1.snoc ⟨rfl,fun _=>rfl⟩) fun e=>(h2 e).snoc ⟨fun _=>rfl,rfl⟩)
theorem Mc(hg:o.guard=some (j,g))(hj:full.toArray[j]? =some oj)(hs:oj.dst=some s)(hl:lk Γ s=some (.eq (.bool b)))(hb:(b == g)=false)(hd:o.dst=some d)(hdN:Nat.blt d c.N=true)
 (h:DN c id full Q Γ0 Δ (acc++[⟨o,d,[(.tmp s,.eq (.bool b))],.eq undef,none,false,fun _=>[]⟩]) l ((d,.eq undef)::Γ) m):DN c id full Q Γ0 Δ acc (o::l) Γ m:=
 fun h1 h2=>DR.step rfl (O6 hg hj hs hb hd hdN) ⟨hl,trivial⟩ (h (h1.snoc ⟨rfl,fun _=>rfl⟩) fun e=>(h2 e).snoc ⟨fun _=>rfl,rfl⟩)
theorem t3(hg:o.guard=none)(hd:o.dst=some d)(hdN:Nat.blt d c.N=true)(ht:bo c.M o N [] (fun _:Unit=>(.eq (.bool b),[])))(hh:dO Γ N)
 (h1:b=true→DN c id full Q Γ0 Δ (acc++[⟨o,d,N,.eq (.bool true),none,false,fun _=>[]⟩]) l ((d,.eq (.bool true))::Γ) m)
 (h2:b=false→DN c id full Q Γ0 Δ (acc++[⟨o,d,N,.eq (.bool false),none,false,fun _=>[]⟩]) l ((d,.eq (.bool false))::Γ) m):DN c id full Q Γ0 Δ acc (o::l) Γ m:=by
 cases b
 ·
  exact fx hg hd hdN ht hh (h2 rfl)
 ·
  exact fx hg hd hdN ht hh (h1 rfl)
end
theorem Ni{T:TypeId}{t:Ty}{d:t.den}{z0:Value}(h:(P.info? T).map (·.zero)=some (some z0))(hr:∀S w,rd S w t d z0.cells.toList):∀i z,P.info? T=some i→i.zero=some z→∀S w,rd S w t d z.cells.toList:=by
 intro i z h1 h2 S w;rw [h1] at h;simp only [Option.map_some,Option.some.injEq] at h;rw [h2] at h;cases h;exact hr S w
def Na:List (Nat×Operand×A)→Prop
 |[]=>True
 |p::ps=>p.2.2.stor∧Na ps
theorem jK:∀{ps:List (Nat×Operand×A)},Na ps→∀p∈ps,p.2.2.stor
 |p::ps,h,q,hq=>by
  rcases List.mem_cons.1 hq with e |hq
  ·
   rw [e];exact h.1
  ·
   exact jK h.2 q hq
def sF(a b:Int):Int:=if a < b then b else a
def H4(a b:Int):Int:=if b < a then b else a
end
@[reducible] def qs:(t:Ty)→t.den→List Value
 | .int k,n=>[.int k n]
 | .bool,b=>[.bool b]
 | .pair a b,x=>qs a x.1++qs b x.2
 | .agg t,x=>qs t x
 |_,_=>[]
@[reducible] def Ty.plain:Ty→Bool
 | .int _=>true
 | .bool=>true
 | .pair a b=>a.plain && b.plain
 | .agg t=>t.plain
 |_=>false
theorem uj{S:FS}{w:World}(t:Ty):∀{x:t.den} {cs:List Value},t.plain=true→rd S w t x cs→cs=qs t x:=by
 induction t with
 |int k=>intro x cs _ h;exact h
 |bool=>intro x cs _ h;exact h
 |pair a b iha ihb=>
  rintro x cs hp ⟨c1,c2,rfl,h1,h2⟩;simp only [Ty.plain,Bool.and_eq_true] at hp;rw [iha hp.1 h1,ihb hp.2 h2]
 |agg t ih=>intro x cs hp h;exact ih hp h
 |_=>intro x cs hp _;simp [Ty.plain] at hp
theorem Ij(t:Ty):∀(x:t.den),t.plain=true→(qs t x).all ut=true:=by
 induction t with
 |int k=>intro x _;rfl
 |bool=>intro x _;rfl
 |pair a b iha ihb=>
  intro x hp;simp only [Ty.plain,Bool.and_eq_true] at hp;simp only [qs,List.all_append,iha _ hp.1,ihb _ hp.2,Bool.and_self]
 |agg t ih=>intro x hp;exact ih x hp
 |_=>intro x hp;simp [Ty.plain] at hp
theorem Db{S:FS}{w:World}{t:Ty}{p:t.den}{v:Value}(hag:t.isAgg=true)(hp:t.plain=true)(h:(A.rep t p).holds S w v):kO v=true:=by
 obtain⟨c,h1,e⟩:=h;rw [uj t hp h1] at e;subst e;simp only [mk,hag,↓reduceIte];show(qs t p).toArray.toList.all ut=true;exact Ij t p hp
theorem HC{P:Program}{o:Oper}{x y:Operand}{T T':TypeId}{t:Ty}{p q:t.den}{b:BinOp}{S S':FS}{w w':World}{ρ:Operand→Value}(ho:o.op= .binOp b T x y T')(hag:t.isAgg=true)(hp:t.plain=true)(h1:(A.rep t p).holds S w (ρ x))(h2:(A.rep t q).holds S' w' (ρ y)):Ns P (execOp ρ o):=
 tO ho (uB (Db hag hp h1) (Db hag hp h2))
structure L6(P:Program)(T:TypeId)(t:Ty):Prop where
 plain:t.plain=true
 guard:P.eqGuardType P.depth T=false
 eql:∀(w:World) (x y:t.den),∃r:Bool,(Op.equalIn 10000 T (.agg (qs t x).toArray) (.agg (qs t y).toArray)).run P w= .ok r w∧(r=true↔x=y)
section
variable {P:Program}{M:Md P}{o:Oper}{x y z:Operand}{T T' e:TypeId}{r r':A}{t u:Ty}
theorem N7{p q:t.den}[Decidable (p=q)](ho:o.op= .binOp .eql T x y T')(h:L6 P T t)(hag:t.isAgg=true):bo M o [(x,.rep t p),(y,.rep t q)] [] (fun _:Unit=>(.eq (.bool (decide (p=q))),[])):=
 bo.val0 (hns:=fun _ _ a hN=>HC ho hag h.plain hN.1 hN.2.1) fun S w a hN=>by
  obtain⟨c1,h1,e1⟩:=hN.1
  obtain⟨c2,h2,e2⟩:=hN.2.1
  have h1:=uj t h.plain h1
  have h2:=uj t h.plain h2
  subst h1 h2
  obtain⟨b,g1,g2⟩:=h.eql w p q
  have e1':a.eval x= .agg (qs t p).toArray:=by rw [e1];simp [mk,hag]
  have e2':a.eval y= .agg (qs t q).toArray:=by rw [e2];simp [mk,hag]
  refine⟨.bool b,by simp only [execOp,ho,e1',e2',Sem.run_bind,run_eqGuard_agg w _ _ _ _ _ _ h.guard,run_eql_struct,g1,Result.andThen_ok,Sem.run_pure],?_⟩
  show Value.bool b=_
  congr 1
  by_cases hpq:p=q
  ·
   rw [decide_eq_true hpq,g2.2 hpq]
  ·
   rw [decide_eq_false hpq]
   cases b
   ·
    rfl
   ·
    exact absurd (g2.1 rfl) hpq
theorem N5{p q:t.den}[Decidable (p=q)](ho:o.op= .binOp .neq T x y T')(h:L6 P T t)(hag:t.isAgg=true):bo M o [(x,.rep t p),(y,.rep t q)] [] (fun _:Unit=>(.eq (.bool (!decide (p=q))),[])):=
 bo.val0 (hns:=fun _ _ a hN=>HC ho hag h.plain hN.1 hN.2.1) fun S w a hN=>by
  obtain⟨c1,h1,e1⟩:=hN.1
  obtain⟨c2,h2,e2⟩:=hN.2.1
  have h1:=uj t h.plain h1
  have h2:=uj t h.plain h2
  subst h1 h2
  obtain⟨b,g1,g2⟩:=h.eql w p q
  have e1':a.eval x= .agg (qs t p).toArray:=by rw [e1];simp [mk,hag]
  have e2':a.eval y= .agg (qs t q).toArray:=by rw [e2];simp [mk,hag]
  refine⟨.bool (!b),by simp only [execOp,ho,e1',e2',Sem.run_bind,run_eqGuard_agg w _ _ _ _ _ _ h.guard,run_neq_struct,g1,Result.andThen_ok,Sem.run_pure],?_⟩
  show Value.bool (!b)=_
  congr 2
  by_cases hpq:p=q
  ·
   rw [decide_eq_true hpq,g2.2 hpq]
  ·
   rw [decide_eq_false hpq]
   cases b
   ·
    rfl
   ·
    exact absurd (g2.1 rfl) hpq
theorem Hg{k:IntKind}{n m:Int}{c:Call}{ts:Array TypeId}(ho:o.op= .call c)(hc:c={ callee:=.builtin .max,args:= #[x,y],argTypes:=ts }):
 bo M o [(x,.eq (.int k n)),(y,.eq (.int k m))] [] (fun _:Unit=>(.eq (.int k (sF n m)),[])):=
 .val0 fun S w a h=>by
  have e1:a.eval x= .int k n:=h.1
  have e2:a.eval y= .int k m:=h.2.1
  refine⟨.int k (sF n m),?_,rfl⟩
  have hm:=run_max_int2 (P:=P) w ts o.type k k n m
  simp [execOp,ho,hc,resolve,invoke,builtin,e1,e2,hm,sF]
theorem P0{k:IntKind}{n m:Int}{c:Call}{ts:Array TypeId}(ho:o.op= .call c)(hc:c={ callee:=.builtin .min,args:= #[x,y],argTypes:=ts }):
 bo M o [(x,.eq (.int k n)),(y,.eq (.int k m))] [] (fun _:Unit=>(.eq (.int k (H4 n m)),[])):=
 .val0 fun S w a h=>by
  have e1:a.eval x= .int k n:=h.1
  have e2:a.eval y= .int k m:=h.2.1
  refine⟨.int k (H4 n m),?_,rfl⟩
  have hm:=run_min_int2 (P:=P) w ts o.type k k n m
  simp [execOp,ho,hc,resolve,invoke,builtin,e1,e2,hm,H4]
def yy(P:Program)(T:TypeId)(places:Array (Nat×Nat)):Prop:=∃fs:Array Field,P.underlying T=some (.struct fs)∧∀w,(fs.mapM fun f=>(do pure (f.offset,←sizeOf f.type):Sem (Nat×Nat))).run P w= .ok places w
theorem dV{places:Array (Nat×Nat)}{zv:Value}{a0 a1:A}(ps:List (Nat×Operand×A))(ho:o.op= .build T (ps.map fun p=>(p.1,p.2.1)).toArray)(hT:yy P T places)
 (hz:∀w,(zeroValue T).run P w= .ok zv w) (ha:∀S w,a0.cells S w zv.cells.toList) (hs:∀p∈ps,p.2.2.stor) (hf:wP places a0 ps=some a1):bo M o (ps.map (·.2)) [] (fun _:Unit=>(.agg a1,[])):=by
 obtain⟨fs,h1,h2⟩:=hT
 exact Kt ps ho h1 h2 hz ha hs hf
theorem wH{n m:Nat}{k:Nat}(hn:n=k)(h:Nat.ble (n * m) 16777216=true):k * m≤16777216:=by
 subst hn;exact Nat.le_of_ble_eq_true h
theorem bg{bytes n:Nat}(ps:List (Operand×A))(l:List t.den)(ho:o.op= .buildSlice T n (ps.zipIdx.map fun p=>(p.2,p.1.1)).toArray)(hn:n=ps.length)(hT:pz P T e t.cells bytes)(he:yv t ps l)
 (hb:Nat.ble (n * t.cells) 16777216=true) (hl:l.length=ps.length):bo M o ps [] (fun _:Unit=>(.rep (.slice t) l,[])):=P1 ps l ho hn hT he (wH hn hb) hl
theorem jk{bytes n:Nat}(ps:List (Operand×A))(l:List t.den)(ho:o.op= .buildSlice T n (ps.zipIdx.map fun p=>(p.2,p.1.1)).toArray)(hn:n=ps.length)(hT:pz P T e t.cells bytes)(he:yv t ps l)
 (hb:Nat.ble (n * t.cells) 16777216=true) (hl:l.length=ps.length):bo M o ps [] (fun v:Value=>(.eq v,[.sl v e t l])):=EF ps l ho hn hT he (wH hn hb) hl
theorem kl{α:Type}{R:α→List Value→Prop}{m:Nat}(hR:∀x cs,R x cs→cs.length=m):∀{l:List α} {cs:List Value} {i:Nat} {x':α} {new:List Value},dH R l cs→i < l.length→R x' new→
 dH R (l.set i x') (cs.take (i * m)++new++cs.drop (i * m+m))
 |[],_,i,_,_,_,hi,_=>by simp at hi
 |x0::l,_,i,x',new,⟨c1,c2,rfl,h1,h2⟩,hi,hx=>by
  have l1:=hR _ _ h1
  cases i with
  |zero=>
   rw [Nat.zero_mul,List.take_zero,List.nil_append,Nat.zero_add,List.drop_append,List.drop_eq_nil_of_le (by omega),List.nil_append,l1,Nat.sub_self,List.drop_zero]
   exact⟨new,c2,rfl,hx,h2⟩
  |succ i=>
   have ih:=kl hR h2 (i:=i) (by simpa using hi) hx
   refine⟨c1,_,?_,h1,ih⟩
   have e1:(i+1) * m=c1.length+i * m:=by rw [Nat.add_mul,l1];omega
   rw [e1,List.take_append,List.take_of_length_le (by omega),Nat.add_sub_cancel_left,List.append_assoc,List.append_assoc,List.append_assoc,
    show c1.length+i * m+m=c1.length+(i * m+m) by omega,List.drop_append,List.drop_eq_nil_of_le (by omega),Nat.add_sub_cancel_left,List.nil_append]
theorem mY{b off n N k:Nat}{i:Int}{g:Bool}{T0:TypeId}{a0:A}{l:List t.den}{d:t.den}(ho:o.op= .load T x)(ht:dY P T n g)(hg:g=false→n=1)(hget:a0.get off (N * t.cells) true=some (.rep (.arr N t) l))
 (hn:t.cells=n) (hag:t.isAgg=g) (hk:k=off+i.toNat * t.cells) (hl:aO l i=some d):
 bo M o [(x,.eq (.pointer (some ⟨b,k,none⟩)))] [.obj b T0 a0] (fun _:Unit=>(FG t d,[.obj b T0 a0])):=
 .val1 fun S w a h hs=>by
  have e:a.eval x= .pointer (some ⟨b,k,none⟩):=h.1
  obtain⟨cs,h1,h2⟩:=hs
  have l0:=a0.cells_length h2
  obtain⟨h3,h4⟩:=iD a0 h2 hget
  subst hn hk
  obtain⟨cs',⟨q1,q2⟩,q3⟩:=h3
  have q4:(cs.drop off).take (N * t.cells)=cs':=by simpa [mk] using q3
  subst q4
  obtain⟨g0,g1,g2⟩:=dA hl
  obtain⟨r1,r2⟩:=ji (fun _ _ h=>aN t h) q2 g2
  have hi:i.toNat < N:=by omega
  have hle:i.toNat * t.cells+t.cells≤N * t.cells:=by
   rw [←Nat.succ_mul];exact Nat.mul_le_mul_right _ hi
  have r3:((cs.drop off).drop (i.toNat * t.cells)).take t.cells=(((cs.drop off).take (N * t.cells)).drop (i.toNat * t.cells)).take t.cells:=by
   rw [List.drop_take,List.take_take,Nat.min_eq_left (by omega)]
  rw [←r3,List.drop_drop] at r1;have hr:=fJ ht hg h1 (off:=off+i.toNat * t.cells) (by simp only [List.size_toArray];omega);rw [←hag] at hr;refine⟨_,?_,jp r1⟩;simp [execOp,ho,Instr.loadAt,e,Instr.sureAddr,hr]
theorem gr{b off n N k:Nat}{i:Int}{g:Bool}{T0:TypeId}{a0 a1:A}{l:List t.den}{d:t.den}(ho:o.op= .store T x y)(ht:dY P T n g)(he:pJ r t d)(hs:r.stor)(hget:a0.get off (N * t.cells) true=some (.rep (.arr N t) l))
 (hn:t.cells=n) (hk:k=off+i.toNat * t.cells) (h0:0≤i) (hi:i < N) (hset:a0.set off (N * t.cells) true (.rep (.arr N t) (l.set i.toNat d))=some a1):
 bo M o [(x,.eq (.pointer (some ⟨b,k,none⟩))),(y,r)] [.obj b T0 a0] (fun _:Unit=>(.eq undef,[.obj b T0 a1])):=by
 refine vB.T ⟨by simp only [nd, *],fun S w a next hd hN hO kk=>?_⟩ (fun _ _ a _ _=>im (by simp only [sc, *]) a.eval) (fun d hd=>by first |(simp at hd;done) |(simp at hd;subst hd;trivial))
 subst hn hk
 have e1:a.eval x= .pointer (some ⟨b,off+i.toNat * t.cells,none⟩):=hN.1
 obtain⟨p1,p2,_⟩:=eh hN.2.1 hs
 have p3:=he.cells p1
 have l3:=aN t p3
 obtain⟨cs,h3,h4⟩:=hO.holds _ (by simp:D.obj b T0 a0∈[D.obj b T0 a0])
 obtain⟨hnb,hbs⟩:=hO.own b (jU.2 rfl)
 have l0:=a0.cells_length h4
 obtain⟨g1,g2⟩:=iD a0 h4 hget
 obtain⟨cs',⟨q1,q2⟩,q3⟩:=g1
 have q4:(cs.drop off).take (N * t.cells)=cs':=by simpa [mk] using q3
 subst q4
 have hi':i.toNat < N:=by omega
 have hle:i.toNat * t.cells+t.cells≤N * t.cells:=by
  rw [←Nat.succ_mul];exact Nat.mul_le_mul_right _ hi'
 have hrow:=kl (fun _ _ h=>aN t h) q2 (i:=i.toNat) (by omega) p3
 have hlen:(((cs.drop off).take (N * t.cells)).take (i.toNat * t.cells)++(a.eval y).cells.toList++((cs.drop off).take (N * t.cells)).drop (i.toNat * t.cells+t.cells)).length=N * t.cells:=by
  simp only [List.length_append,List.length_take,List.length_drop];omega
 obtain⟨s1,s2⟩:=lE a0 h4 (r:=.rep (.arr N t) (l.set i.toNat d)) ⟨by rw [List.length_set];exact q1,hrow⟩ hlen hset
 have hcs:cs.take off++(((cs.drop off).take (N * t.cells)).take (i.toNat * t.cells)++(a.eval y).cells.toList++((cs.drop off).take (N * t.cells)).drop (i.toNat * t.cells+t.cells))++cs.drop (off+N * t.cells)=
  cs.take (off+i.toNat * t.cells)++(a.eval y).cells.toList++cs.drop (off+i.toNat * t.cells+t.cells):=by
  rw [List.take_take,Nat.min_eq_left (by omega),List.take_add,List.drop_take,List.drop_drop]
  have e5:cs.drop (off+i.toNat * t.cells+t.cells)=(cs.drop (off+(i.toNat * t.cells+t.cells))).take (N * t.cells - (i.toNat * t.cells+t.cells))++cs.drop (off+N * t.cells):=by
   rw [←Nat.add_assoc];conv=>lhs;rw [←List.take_append_drop (N * t.cells - (i.toNat * t.cells+t.cells)) (cs.drop (off+i.toNat * t.cells+t.cells))]
   rw [List.drop_drop];congr 2;omega
  rw [e5]
  simp only [List.append_assoc]
 rw [hcs] at s1
 have hst:=kW P b T0 (off+i.toNat * t.cells) (a.eval y).cells.toList 0 w cs.toArray h3 (fun v hv=>oS r p1 v hv) (by simp only [Nat.add_zero,List.size_toArray];omega)
 have hsz:(a.eval y).cells.size=t.cells:=by rw [←Array.length_toList];omega
 have hr:(execOp a.eval o).run P w= .ok .skip { w with heap:=w.heap.setIfInBounds b (.cells (cs.take (off+i.toNat * t.cells)++(a.eval y).cells.toList++cs.drop (off+i.toNat * t.cells+t.cells)).toArray T0 (0,0)) }:=by
  simp only [Nat.add_zero,l3] at hst;simp [execOp,ho,Instr.storeAt,e1,Instr.sureAddr,storeVar,ht.size,hsz,hst]
 rw [hr]
 have hK:fW S w { w with heap:=w.heap.setIfInBounds b (.cells (cs.take (off+i.toNat * t.cells)++(a.eval y).cells.toList++cs.drop (off+i.toNat * t.cells+t.cells)).toArray T0 (0,0)) }:=fun b' hb'=>by
  have hne:b≠b':=fun e=>hnb (by rw [e];exact hb');simp [Array.getElem?_setIfInBounds_ne hne]
 refine kk () S _ _ (qK hd (jU.2 rfl) _) rfl (fS ⟨_,by simp [hbs],A.cells_mono (fun _ h=>h) hK a1 s1⟩ ?_) (fun b' hb'=>.inl ?_)
 ·
  intro b' hb';simp only [D.foot,Option.some.injEq] at hb';subst hb';exact⟨hnb,by simpa using hbs⟩
 ·
  rw [jU] at hb'⊢;exact hb'
inductive Ji:(t:Ty)→t.den→(off n:Nat)→(u:Ty)→u.den→t.den→Prop
 |whole {t:Ty} {x y:t.den}:Ji t x 0 t.cells t y y
 |left {a b u:Ty} {x:(Ty.pair a b).den} {off n:Nat} {y:u.den} {x':a.den} (h:Ji a x.1 off n u y x'):Ji (.pair a b) x off n u y (x',x.2)
 |right {a b u:Ty} {x:(Ty.pair a b).den} {off k n:Nat} {y:u.den} {x':b.den} (h:Ji b x.2 off n u y x') (hk:k=a.cells+off):Ji (.pair a b) x k n u y (x.1,x')
 |agg {t u:Ty} {x:(Ty.agg t).den} {off n:Nat} {y:u.den} {x':t.den} (h:Ji t x off n u y x'):Ji (.agg t) x off n u y x'
theorem Ji.spec{S:FS}{w:World}{t u:Ty}{x x':t.den}{off n:Nat}{y:u.den}(h:Ji t x off n u y x'):∀{cs new:List Value},rd S w t x cs→rd S w u y new→rd S w t x' (cs.take off++new++cs.drop (off+n))∧off+n≤t.cells∧n=u.cells:=by
 induction h with
 | @whole t x y=>
  intro cs new h1 h2;have l1:=aN t h1;refine⟨?_,by omega,rfl⟩;rw [List.take_zero,List.nil_append,Nat.zero_add,List.drop_eq_nil_of_le (by omega),List.append_nil];exact h2
 | @left a b u x off n y x' _ ih=>
  rintro cs new ⟨c1,c2,rfl,h1,h2⟩ h3;obtain⟨q1,q2,q3⟩:=ih h1 h3;have l1:=aN a h1;refine⟨⟨_,c2,?_,q1,h2⟩,by simp only [Ty.cells];omega,q3⟩;rw [List.take_append_of_le_length (by omega),List.drop_append_of_le_length (by omega)];simp only [List.append_assoc]
 | @right a b u x off k n y x' _ hk ih=>
  rintro cs new ⟨c1,c2,rfl,h1,h2⟩ h3;obtain⟨q1,q2,q3⟩:=ih h2 h3;have l1:=aN a h1;refine⟨⟨c1,_,?_,h1,q1⟩,by simp only [Ty.cells];omega,q3⟩
  rw [hk,←l1,List.take_append,List.take_of_length_le (by omega),Nat.add_sub_cancel_left,List.append_assoc,List.append_assoc,List.append_assoc,show c1.length+off+n=c1.length+(off+n) by omega,
   List.drop_append,List.drop_eq_nil_of_le (by omega),Nat.add_sub_cancel_left,List.nil_append]
 |agg _ ih=>intro cs new h1 h2;exact ih h1 h2
theorem NL{α:Type}(C V:List α)(p off n m L:Nat)(hV:V.length=n)(h1:off+n≤m)(h2:p+m≤L)(h3:L≤C.length):
 (C.take (p+off)++V++C.drop (p+off+n)).take L=(C.take L).take p++((((C.take L).drop p).take m).take off++V++(((C.take L).drop p).take m).drop (off+n))++(C.take L).drop (p+m):=by
 have e1:(C.take L).take p=C.take p:=by rw [List.take_take,Nat.min_eq_left (by omega)]
 have e2:(((C.take L).drop p).take m).take off=(C.drop p).take off:=by
  rw [List.take_take,Nat.min_eq_left (by omega),List.drop_take,List.take_take,Nat.min_eq_left (by omega)]
 have e3:(((C.take L).drop p).take m).drop (off+n)=(C.drop (p+(off+n))).take (m - (off+n)):=by
  rw [List.drop_take,List.drop_drop,List.drop_take,List.take_take,Nat.min_eq_left (by omega)]
 have e4:(C.take L).drop (p+m)=(C.drop (p+m)).take (L - (p+m)):=by rw [List.drop_take]
 rw [e1,e2,e3,e4]
 have e5:C.take (p+off)=C.take p++(C.drop p).take off:=List.take_add
 have e6:(C.drop (p+(off+n))).take (m - (off+n))++(C.drop (p+m)).take (L - (p+m))=(C.drop (p+off+n)).take (L - (p+off+n)):=by
  have:L - (p+off+n)=(m - (off+n))+(L - (p+m)):=by omega
  rw [this,List.take_add,List.drop_drop,show p+off+n+(m - (off+n))=p+m by omega,←Nat.add_assoc]
 rw [List.take_append,List.take_of_length_le (by simp only [List.length_append,List.length_take];omega),e5]
 have e7:L - (C.take p++(C.drop p).take off++V).length=L - (p+off+n):=by
  simp only [List.length_append,List.length_take,List.length_drop];omega
 rw [e7,←e6]
 simp only [List.append_assoc]
theorem Bh{v:Value}{TE:TypeId}{u:Ty}{l:List t.den}{k i off n:Nat}{g:Bool}{d d':t.den}{z:u.den}(ho:o.op= .store T x y)(ht:dY P T n g)(hk:k=i * t.cells+off)(hl:l[i]? =some d)(he:pJ r u z)(hs:r.stor)(hu:Ji t d off n u z d'):
 bo M o [(x,.eq (ry v k)),(y,r)] [.sl v TE t l] (fun _:Unit=>(.eq undef,[.sl v TE t (l.set i d')])):=by
 refine vB.T ⟨by simp only [nd, *],fun S w a next hd hN hO kk=>?_⟩ (fun _ _ a _ _=>im (by simp only [sc, *]) a.eval) (fun d hd=>by first |(simp at hd;done) |(simp at hd;subst hd;trivial))
 have e1:a.eval x=ry v k:=hN.1
 obtain⟨p1,p2,_⟩:=eh hN.2.1 hs
 have p3:=he.cells p1
 have l3:=aN u p3
 have hi:i < l.length:=by
  rcases Nat.lt_or_ge i l.length with h |h
  ·exact h
  ·simp [List.getElem?_eq_none h] at hl
 rcases hO.holds _ (by simp:D.sl v TE t l∈[D.sl v TE t l]) with⟨rfl,rfl⟩ |⟨b,cap,c,rfl,q1,q1',q2,q3,q4⟩
 ·
  simp at hi
 have hfoot:∀b',ap [D.sl (.slice (some ⟨b,0,none⟩) l.length cap) TE t l] b'↔b'=b:=fun b'=>by
  rw [ii];simp [D.foot,Value.ownBlock,eq_comm]
 obtain⟨hnb,hbs⟩:=hO.own b ((hfoot b).2 rfl)
 obtain⟨r1,r2⟩:=ji (fun _ _ h=>aN t h) q4 hl
 obtain⟨u1,u2,u3⟩:=hu.spec r1 p3
 have hrow:=kl (fun _ _ h=>aN t h) q4 hi u1
 have hle:i * t.cells+t.cells≤l.length * t.cells:=by
  rw [←Nat.succ_mul];exact Nat.mul_le_mul_right _ hi
 have hcap:l.length * t.cells≤c.size:=by rw [q3];exact Nat.mul_le_mul_right _ q1
 have lc:c.toList.length=c.size:=Array.length_toList
 have hc:c=c.toList.toArray:=(Array.toArray_toList).symm
 rw [hc] at q2
 have hst:=kW P b TE k (a.eval y).cells.toList 0 w c.toList.toArray q2 (fun v hv=>oS r p1 v hv) (by simp only [Nat.add_zero,List.size_toArray];omega)
 have hsz:(a.eval y).cells.size=n:=by rw [←Array.length_toList];omega
 have hr:(execOp a.eval o).run P w= .ok .skip { w with heap:=w.heap.setIfInBounds b (.cells (c.toList.take k++(a.eval y).cells.toList++c.toList.drop (k+n)).toArray TE (0,0)) }:=by
  have e1':a.eval x= .pointer (some ⟨b,k,none⟩):=by rw [e1];simp [ry]
  have l4:(a.eval y).cells.toList.length=n:=by omega
  simp only [Nat.add_zero,l4] at hst;simp only [execOp,ho,Instr.storeAt,e1',Instr.sureAddr,storeVar,Sem.run_bind,Sem.run_pure,ht.size,Result.andThen_ok,hsz,ne_eq,not_true,if_false];simpa using congrArg (fun r:Result Unit=>r.andThen fun _ w'=>.ok Next.skip w') hst
 rw [hr]
 generalize hw':({ w with heap:=w.heap.setIfInBounds b (.cells (c.toList.take k++(a.eval y).cells.toList++c.toList.drop (k+n)).toArray TE (0,0)) }:World)=w'
 have hK:fW S w w':=fun b' hb'=>by
  have hne:b≠b':=fun e=>hnb (by rw [e];exact hb');subst hw';simp [Array.getElem?_setIfInBounds_ne hne]
 have hstep:jZ (ap [D.sl (.slice (some ⟨b,0,none⟩) l.length cap) TE t l]) S w S w':=by
  subst hw';exact qK hd ((hfoot b).2 rfl) _
 refine kk () S _ _ hstep rfl (fS (.inr ⟨b,cap,(c.toList.take k++(a.eval y).cells.toList++c.toList.drop (k+n)).toArray,by rw [List.length_set],by rw [List.length_set];exact q1,q1',by subst hw';simp [hbs],?_,?_⟩) ?_) (fun b' hb'=>.inl ?_)
 ·
  simp only [List.size_toArray,List.length_append,List.length_take,List.length_drop];omega
 ·
  rw [List.length_set,List.toList_toArray]
  have e6:(c.toList.take k++(a.eval y).cells.toList++c.toList.drop (k+n)).take (l.length * t.cells)=
   (c.toList.take (l.length * t.cells)).take (i * t.cells)++((((c.toList.take (l.length * t.cells)).drop (i * t.cells)).take t.cells).take off++(a.eval y).cells.toList++(((c.toList.take (l.length * t.cells)).drop (i * t.cells)).take t.cells).drop (off+n))++(c.toList.take (l.length * t.cells)).drop (i * t.cells+t.cells):=by
   subst hk
   exact NL _ _ _ _ _ _ _ (by omega) u2 hle (by omega)
  rw [e6];exact cu (fun _ _ h=>dP (fun _ h=>h) hK t h) hrow
 ·
  intro b' hb';have:b'=b:=by simpa [D.foot,Value.ownBlock,eq_comm] using hb'
  subst this;exact⟨hnb,Nat.lt_of_lt_of_le hbs hstep.size⟩
 ·
  rw [ii] at hb';have:b'=b:=by simpa [D.foot,Value.ownBlock,eq_comm] using hb'
  exact(hfoot b').2 this
theorem nj{α:Type}{l:List α}{i:Int}{x:α}(h:aO l i=some x):i.toNat < l.length:=by
 obtain⟨h0,h1,_⟩:=dA h;omega
theorem gp{v:Value}{TE:TypeId}{l:List t.den}{k i n:Nat}{g:Bool}{d':t.den}(ho:o.op= .store T x y)(ht:dY P T n g)(hk:k=i * t.cells)(hi:i < l.length)(hn:t.cells=n)(he:pJ r t d')(hs:r.stor):
 bo M o [(x,.eq (ry v k)),(y,r)] [.sl v TE t l] (fun _:Unit=>(.eq undef,[.sl v TE t (l.set i d')])):=by
 subst hn
 exact Bh (off:=0) ho ht hk (List.getElem?_eq_getElem hi) he hs .whole
end
end K
