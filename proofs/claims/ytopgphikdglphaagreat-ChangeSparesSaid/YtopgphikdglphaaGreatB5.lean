import Derived.Test.YtopgphikdglphaaGreatB4
import Derived.DeepKeys5
import Derived.Conc.Holds
import Derived.ChangeSame
import Derived.ChangeSlices
import Derived.JoinedOf
import Derived.JoinedAt
import Derived.RowKit3
import Derived.SizedLaws
import Derived.Carry
import Derived.Conc.Pipeline3
import Derived.Conc.CrowdTrace
import Derived.Conc.CrowdSel
import Derived.Conc.LeavingOf
namespace Go.Proofs.YtopgphikdglphaaGreat
namespace K
open Go
def nv(P:Program)(k:TypeId)(R:Value→Int→Prop)(o:Obj):Prop:=
 ∃es cl,o= .map es cl∧∀e∈es.toList,(∃lt,keyOf P k e.key=some lt)∧nY e.key=true∧∃n,e.val= .int .i64 n∧R e.key n
theorem nv.nil{P:Program}{k:TypeId}{R:Value→Int→Prop}:nv P k R (.map #[] 0):=⟨#[],0,rfl,by simp⟩
section
variable {P:Program}{M:Md P}{o:Oper}{x y v:Operand}{T T' k e:TypeId}{R:Value→Int→Prop}{kv:Value}
theorem nv.calm{P:Program}{k:TypeId}{R:Value→Int→Prop}{o:Obj}(h:nv P k R o):calm o=true:=by
 obtain⟨es,cl,rfl,h⟩:=h;show(es.toList.all fun e=>nY e.key)=true;rw [List.all_eq_true];exact fun e he=>(h e he).2.1
theorem oZ{w:World}{z:Nat}{es:Array MapEntry}{cl:Nat}(h:w.heap[z]? =some (.map es cl)):(getObj z).run P w= .ok (.map es cl) w:=by simp [getObj,Sem.run,h]
theorem we{w:World}{z:Nat}{es:Array MapEntry}{cl:Nat}(o:Obj)(h:w.heap[z]? =some (.map es cl)):(setObj z o).run P w= .ok () (w.putObj z o):=by simp [setObj,Sem.run,h,World.putObj]
theorem J5{b:Bool}{ρ:Operand→Value}(ho:o.op= .lookup T x y b)(h:nY (ρ y)=true):Ns P (execOp ρ o):=by
 unfold execOp;rw [ho];exact kS (Ft h)
theorem J1{ρ:Operand→Value}(ho:o.op= .mapUpdate T x y v)(h:nY (ρ y)=true):Ns P (execOp ρ o):=by
 unfold execOp;rw [ho];exact ML (zA h)
theorem zI{z:Nat}{ob:Obj}(hT:P.underlying T=some (.map k e))(hz:∀w,(zeroValue e).run P w= .ok (.int .i64 0) w)(hk:WideMaps.KeyLaw P k)(hkv:∃lt,keyOf P k kv=some lt)
 (hfun:∀n n',R kv n→R kv n'→n=n') (hob:nv P k R ob):
 ∃n b,(b=true→R kv n)∧∀w,w.heap[z]? =some ob→(Instr.lookup T (.map (some z)) kv true).run P w= .ok (.tuple #[.int .i64 n,.bool b]) w:=by
 obtain⟨es,cl,rfl,h2⟩:=hob
 obtain⟨lt,hlt⟩:=hkv
 by_cases he:∃en∈es.toList,en.key=kv
 ·
  obtain⟨e0,he0,hk0⟩:=he;obtain⟨_,_,n0,_,hR0⟩:=h2 e0 he0;rw [hk0] at hR0;refine⟨n0,true,fun _=>hR0,fun w h1=>?_⟩;have hc:=hk.check w es.isEmpty hlt;rcases hk.find w hlt es.toList (fun e he=>(h2 e he).1) with⟨h3,h4⟩ |⟨j,en,h3,h4,h5⟩
  ·exact absurd hk0 (h4 e0 he0)
  ·obtain⟨_,_,n,hn,hR⟩:=h2 en (List.mem_of_getElem? h4);rw [h5] at hR;obtain rfl:=hfun _ _ hR hR0;simp only [Instr.lookup,Sem.run_bind,run_underlying hT,Result.andThen_ok,oZ h1,Sem.run_pure,hc,h3,hn,if_true]
 ·
  refine⟨0,false,fun h=>Bool.noConfusion h,fun w h1=>?_⟩;have hc:=hk.check w es.isEmpty hlt;rcases hk.find w hlt es.toList (fun e he=>(h2 e he).1) with⟨h3,h4⟩ |⟨j,en,h3,h4,h5⟩
  ·simp only [Instr.lookup,Sem.run_bind,run_underlying hT,Result.andThen_ok,oZ h1,Sem.run_pure,hc,h3,hz,if_true]
  ·exact absurd ⟨en,List.mem_of_getElem? h4,h5⟩ he
theorem Fp{z:Nat}{rk:A}{ob:Obj}{n:Int}{b:Bool}(hnk:nY kv=true)(hcm:calm ob=true)(ho:o.op= .lookup T x y true)(hy:∀S w u,rk.holds S w u→u=kv)
 (hr:∀w,w.heap[z]? =some ob→(Instr.lookup T (.map (some z)) kv true).run P w= .ok (.tuple #[.int .i64 n,.bool b]) w):
 bZ M o [(x,.eq (.map (some z))),(y,rk)] [.raw z ob] (fun _:Unit=>(.tup (.pair (.eq (.int .i64 n)) (.pair (.eq (.bool b)) .any)),[.raw z ob])):=by
 refine lI ⟨by simp only [nd, *],fun S w a next hd hN hO kk=>?_⟩ (fun S w a hN _=>J5 ho (by have e:a.eval y=kv:=hy _ _ _ hN.2.1;rw [e];exact hnk)) (fun d hd=>by rw [List.mem_singleton.1 hd];exact hcm)
 have e1:a.eval x= .map (some z):=hN.1
 have e2:a.eval y=kv:=hy S w _ hN.2.1
 have h1:w.heap[z]? =some ob:=hO.holds _ (List.mem_singleton.2 rfl)
 have hrun:(execOp a.eval o).run P w= .ok (.value (.tuple #[.int .i64 n,.bool b])) w:=by
  simp only [execOp,ho,e1,e2,Sem.run_bind,hr w h1,Result.andThen_ok,Sem.run_pure]
 rw [hrun]
 exact kk () S w _ (lE.refl hd) ⟨[_,_],rfl,_,_,rfl,rfl,_,_,rfl,rfl,rfl⟩ hO (fun b hb=>.inl hb)
theorem AQ{z:Nat}{rk:A}{n:Int}(hnk:nY kv=true)(ho:o.op= .mapUpdate T x y v)(hT:P.underlying T=some (.map k e))(hk:WideMaps.KeyLaw P k)(hy:∀S w u,rk.holds S w u→u=kv)(hkv:∃lt,keyOf P k kv=some lt)(hR:R kv n):
 bZ M o [(x,.eq (.map (some z))),(y,rk),(v,.eq (.int .i64 n))] [.inv z (nv P k R)] (fun _:Unit=>(.eq undef,[.inv z (nv P k R)])):=by
 refine lI ⟨by simp only [nd, *],fun S w a next hd hN hO kk=>?_⟩ (fun S w a hN _=>J1 ho (by have e:a.eval y=kv:=hy _ _ _ hN.2.1;rw [e];exact hnk)) (fun d hd=>by rw [List.mem_singleton.1 hd];exact fun _ h=>h.calm)
 have e1:a.eval x= .map (some z):=hN.1
 have e2:a.eval y=kv:=hy S w _ hN.2.1
 have e3:a.eval v= .int .i64 n:=hN.2.2.1
 obtain⟨ob,h1,es,cl,rfl,h2⟩:=hO.holds _ (List.mem_singleton.2 rfl)
 have hb:=hO.own z ⟨_,List.mem_singleton.2 rfl,rfl⟩
 obtain⟨lt,hlt⟩:=hkv
 have hc:=hk.check w false hlt
 have hgo:∀ob',(Instr.mapUpdate T (.map (some z)) kv (.int .i64 n)).run P w= .ok () (w.putObj z ob')→nv P k R ob'→Qi o a next ((execOp a.eval o).run P w):=fun ob' hr hM=>by
  have hrun:(execOp a.eval o).run P w= .ok .skip (w.putObj z ob'):=by
   simp only [execOp,ho,e1,e2,e3,Sem.run_bind,hr,Result.andThen_ok,Sem.run_pure]
  rw [hrun];refine kk () S _ _ (vY hd ⟨_,List.mem_singleton.2 rfl,rfl⟩ ob') rfl (iT ⟨ob',G7 hb.2,hM⟩ fun b h=>?_) (fun b hb=>.inl hb);simp only [D.foot,Option.some.injEq] at h;subst h;exact⟨hb.1,by rw [wq];exact hb.2⟩
 rcases hk.find w hlt es.toList (fun e he=>(h2 e he).1) with⟨h3,h4⟩ |⟨j,en,h3,h4,h5⟩
 ·
  refine hgo (.map (es.push { key:=kv,val:=.int .i64 n,born:=cl }) (cl+1)) ?_ ⟨_,_,rfl,fun e he=>?_⟩
  ·simp only [Instr.mapUpdate,Sem.run_bind,run_underlying hT,Result.andThen_ok,oZ h1,Sem.run_pure,hc,h3,we _ h1]
  ·simp only [Array.toList_push,List.mem_append,List.mem_singleton] at he;rcases he with he |rfl
   ·exact h2 e he
   ·exact⟨⟨lt,hlt⟩,hnk,n,rfl,hR⟩
 ·
  have hst:=hk.stays w hlt;have hj:es[j]? =some en:=by simpa using h4
  refine hgo (.map (es.modify j fun e=>{ e with key:=kv,val:=.int .i64 n }) cl) ?_ ⟨_,_,rfl,fun e he=>?_⟩
  ·simp only [Instr.mapUpdate,Sem.run_bind,run_underlying hT,Result.andThen_ok,oZ h1,Sem.run_pure,hc,h3,hj,Option.map_some,Option.getD_some,h5,hst,we _ h1]
  ·obtain⟨i,hi⟩:=List.mem_iff_getElem?.1 he;have hi':(es.modify j fun e=>{ e with key:=kv,val:=.int .i64 n })[i]? =some e:=by rw [←Array.getElem?_toList];exact hi
   rw [Array.getElem?_modify] at hi';split at hi'
   ·obtain⟨e0,_,rfl⟩:=Option.map_eq_some_iff.1 hi';exact⟨⟨lt,hlt⟩,hnk,n,rfl,hR⟩
   ·exact h2 e (List.mem_of_getElem? (by simpa using hi'))
theorem JZ{rx ry:A}{kw:Value}(hnk:nY kv=true)(hnw:nY kw=true)(ho:o.op= .binOp .eql k x y T')(hg:P.eqGuardType P.depth k=false)(hd:P.keyTypeAt 9999 k=true)(hk:WideMaps.KeyLaw P k)(hw:(match P.underlying k with |some (.array _ _) |some (.struct _)=>true |_=>false)=true)
 (hx:∀S w u,rx.holds S w u→u=kv) (hy:∀S w u,ry.holds S w u→u=kw) (hkv:∃lt,keyOf P k kv=some lt) (hkw:∃lt,keyOf P k kw=some lt):
 bZ M o [(x,rx),(y,ry)] [] (fun q:{ q:Bool // q=true↔kv=kw }=>(.eq (.bool q.1),[])):=by
 refine lI ⟨by simp only [nd, *],fun S w a next hdm hN hO kk=>?_⟩ (fun S w a hN _=>vF ho (by have e1:a.eval x=kv:=hx _ _ _ hN.1;have e2:a.eval y=kw:=hy _ _ _ hN.2.1;rw [e1,e2];exact wE hnk hnw)) (fun d hd=>by simp at hd)
 have e1:a.eval x=kv:=hx S w _ hN.1
 have e2:a.eval y=kw:=hy S w _ hN.2.1
 obtain⟨l1,h1⟩:=hkv
 obtain⟨l2,h2⟩:=hkw
 obtain⟨r,hr,hiff⟩:=run_equal_deep (P:=P) w (Nat.le_succ 9999) hd hw h1 h2
 have hrun:(execOp a.eval o).run P w= .ok (.value (.bool r)) w:=by
  obtain⟨xs,_,rfl,_⟩:=keyOf_top hw h1;obtain⟨ys,_,rfl,_⟩:=keyOf_top hw h2;have h3:(Op.equalIn 10000 k (.agg xs) (.agg ys)).run P w= .ok r w:=hr;simp only [execOp,ho,e1,e2,Sem.run_bind,run_eqGuard_agg w _ _ _ _ _ _ hg,run_eql_struct,h3,Result.andThen_ok,Sem.run_pure]
 rw [hrun]
 refine kk ⟨r,hiff.trans ⟨fun h=>hk.inj h1 (h▸h2),fun h=>?_⟩⟩ S w _ (lE.refl hdm) rfl hO (fun b hb=>.inl hb)
 subst h
 rw [h1] at h2
 exact Option.some.inj h2
end
theorem DO{c:Cx}{C:Code}{Q:Exit→Act→VW→Prop}{Γ:Ga}{F:List D}{z:Nat}{p:Obj→Prop}(h:∀ob,p ob→JC c C Q Γ (.raw z ob::F)):JC c C Q Γ (.inv z p::F):=by
 intro a w st
 obtain⟨ob,h1,h2⟩:∃o,w.heap[z]? =some o∧p o:=by
  obtain⟨_,_,S,_,_,h5,_⟩:=st;exact h5.holds _ (List.mem_cons_self ..)
 exact h ob h2 a w (st.swap (d:=.inv z p) (d':=.raw z ob) (fun b'=>Iff.rfl) fun S _=>h1)
theorem Nv{P:Program}{M:Md P}{N l p:Nat}{rec:Loop}{cA cB:Code}(hcA:rec.assign=cA)(hcB:rec.body=cB){as:A}{Δ:List D}{Γ:Ga}{X:Type}{R:X→A×List D}(hp:rec.params= #[p])(hN:rec.tmps.size=N)(hpN:p < N)(hΓ:qL rec.tmps Γ)
 (h:∀S w,JC ⟨P,N,S,w,aS (.raw l (.loop rec)::Δ),some l,[],M⟩ cA (cT (zu M l cB (ul P l (fU S w (.raw l (.loop rec)::Δ) R))) (fun _ _ _=>False)) ((p,as)::Γ) (.raw l (.loop rec)::Δ)):
 YT M l [as] (.raw l (.loop rec)::Δ) R:=by
 subst hcA hcB
 exact YT.of hp hN hpN hΓ h
section
variable {c:Cx}{Q:Exit→Act→VW→Prop}{Γ Γ':Ga}{Δ Δ':List D}{C:Code}
theorem Ij{a b r:Code}{l:Nat}(h:findLabel a l=some r):findLabel (.seq a b) l=some (.seq r b):=by rw [findLabel,h]
theorem py{a b r:Code}{l:Nat}(h:findLabel a l=none)(h':findLabel b l=some r):findLabel (.seq a b) l=some r:=by rw [findLabel,h];exact h'
theorem Ii{l:Nat}:findLabel (.label l) l=some .skip:=by simp [findLabel]
def Jn{P:Program}(M:Md P)(rest:Code)(i:Nat)(Q:Exit→Act→VW→Prop):Nat→Act→VW→Prop
 |0=>fun _ _=>False
 |n+1=>fun a w=>rest.wk M none (ny i (Jn M rest i Q n) Q) a w
def Ja{P:Program}(M:Md P)(rest:Code)(i:Nat)(Q:Exit→Act→VW→Prop):Act→VW→Prop:=fun a w=>∃n,Jn M rest i Q n a w
theorem zc{i:Nat}{rest:Code}(hrd:c.rd=none)(hf:findLabel C i=some rest)(first:JC c C (ny i (Ja c.M rest i Q) Q) Γ Δ):JC c (.scope C) Q Γ Δ:=by
 intro a w st;refine xK i hf (Jn c.M rest i Q) (first a w st) fun n a w hJ=>?_;cases n with
 |zero=>exact hJ.elim
 |succ n=>
  have hJ:rest.wk c.M none (ny i (Jn c.M rest i Q n) Q) a w:=hJ;rw [hrd];refine oU (fun e a' w' hq=>?_) hJ;cases e with
  |goto l'=>exact⟨hq.1,n,Nat.lt_succ_self n,hq.2⟩
  |_=>exact hq
theorem DT{α β ρ Z:Type}{K:β→Option ρ}{q:ρ}{i:Nat}{rest:Code}(hrd:c.rd=none)(G:Z→α→Ga)(E:Z→α→List D)(L:Nat→α→Option β)(n:Nat)(z:Z)(x:α)(h0:∀x,L 0 x=none)(h:(L n x).bind K=some q)(hs:SE c Γ Δ (G z x) (E z x))
 (pass:∀n z x,(L (n+1) x).bind K=some q→JC c rest (ny i (fun a w=>∃z':Z×α,(L n z'.2).bind K=some q∧St c (G z'.1 z'.2) (E z'.1 z'.2) a w) Q) (G z x) (E z x)):
 JC c rest (ny i (Ja c.M (.seq .skip rest) i Q) Q) Γ Δ:=by
 have key:∀n a w,(∃z':Z×α,(L n z'.2).bind K=some q∧St c (G z'.1 z'.2) (E z'.1 z'.2) a w)→Jn c.M (.seq .skip rest) i Q n a w:=by
  intro n
  induction n with
  |zero=>rintro a w ⟨z',h,_⟩;rw [h0] at h;cases h
  |succ n ih=>
   rintro a w ⟨z',h,st⟩;have hp:=aj (aU (a7 (pass n z'.1 z'.2 h))) a w st;rw [hrd] at hp;refine oU (fun e a' w' hq=>?_) hp;cases e with
   |goto l'=>exact⟨hq.1,ih a' w' hq.2⟩
   |_=>exact hq
 intro a w st
 cases n with
 |zero=>rw [h0] at h;cases h
 |succ n=>
  refine oU (fun e a' w' hq=>?_) (pass n z x h a w (hs a w st));cases e with
  |goto l'=>exact⟨hq.1,_,key n a' w' hq.2⟩
  |_=>exact hq
theorem Lu{Z:Type}{i:Nat}{G:Z→Ga}{E:Z→List D}{p:Z→Prop}(z:Z)(hp:p z)(h:SE c Γ Δ (G z) (E z)):
 JN c (ny i (fun a w=>∃z,p z∧St c (G z) (E z) a w) Q (.goto i)) Γ Δ:=fun a w st=>⟨rfl,z,hp,h a w st⟩
@[reducible] def F8{α β:Type}(x:α×β):(α ⊕ Value)×β:=(.inl x.1,x.2)
theorem AH{α β:Type}{R:α→List Value→Prop}{R':β→List Value→Prop}{f:α→β}(h:∀x cs,R x cs→R' (f x) cs):∀{l:List α} {cs:List Value},dp R l cs→dp R' (l.map f) cs
 |[],_,e=>e
 |_::_,_,⟨c1,c2,e,h1,h2⟩=>⟨c1,c2,e,h _ _ h1,AH h h2⟩
theorem AI{α β:Type}{R:α→List Value→Prop}{R':β→List Value→Prop}{f:α→β}(h:∀x cs,R' (f x) cs→R x cs){y:β}{z:α}(hy:∀cs,R' y cs→R z cs):∀{l:List α} {i:Nat} {cs:List Value},dp R' ((l.map f).set i y) cs→dp R (l.set i z) cs
 |[],_,_,e=>e
 |x::l,0,_,⟨c1,c2,e,h1,h2⟩=>⟨c1,c2,e,hy _ h1,by
  have key:∀{l:List α} {cs:List Value},dp R' (l.map f) cs→dp R l cs:=by
   intro l
   induction l with
   |nil=>intro cs e;exact e
   |cons x l ih=>rintro cs ⟨c1,c2,e,h1,h2⟩;exact⟨c1,c2,e,h _ _ h1,ih h2⟩
  exact key h2⟩
 |x::l,i+1,_,⟨c1,c2,e,h1,h2⟩=>⟨c1,c2,e,h _ _ h1,AI h hy h2⟩
theorem H9{α β:Type}{f:α→β}{l:List α}{i:Int}{x:α}(h:aL l i=some x):aL (List.map f l) i=some (f x):=by
 obtain⟨h0,h1,h2⟩:=bP h;unfold aL;rw [if_pos h0,List.getElem?_map,h2];rfl
theorem H8{α:Type}{l:List α}{i:Int}{x:α}(y:α)(h:aL l i=some x):aL (List.set l (Int.toNat i) y) i=some y:=by
 obtain⟨h0,h1,h2⟩:=bP h;unfold aL;rw [if_pos h0,List.getElem?_set];simp only [if_true];rw [if_pos (by omega)]
section
variable {u r:Ty}{v:Value}{T:TypeId}{F:List D}
theorem IV{l:List (Ty.agg (.pair (.slice u) r)).den}:SE c Γ (.sl v T (.agg (.pair (.slice u) r)) l::F) Γ (.sl v T (.agg (.pair (.alt (.slice u)) r)) (List.map F8 l)::F):=fun a w h=>
 h.swap (d:=.sl v T (.agg (.pair (.slice u) r)) l) (d':=.sl v T (.agg (.pair (.alt (.slice u)) r)) (List.map F8 l)) (fun _=>Iff.rfl) fun S hs=>by
  rcases hs with⟨h1,rfl⟩ |⟨b,cap,cc,rfl,q1,q1',q2,q3,q4⟩
  ·
   exact .inl ⟨h1,rfl⟩
  ·
   refine .inr ⟨b,cap,cc,by rw [List.length_map],by rw [List.length_map];exact q1,q1',q2,q3,?_⟩
   rw [List.length_map]
   refine AH (R':=rd S w (.agg (.pair (.alt (.slice u)) r))) (fun x cs hx=>?_) q4
   obtain⟨c1,c2,e,g1,g2⟩:=hx
   exact⟨c1,c2,e,⟨g1,aX (.slice u) g1⟩,g2⟩
theorem IX{nm:Value}{Tu:TypeId}{d:List u.den}{l:List (Ty.agg (.pair (.slice u) r)).den}{i:Nat}{q:r.den}:
 SE c Γ (.sl nm Tu u d:: .sl v T (.agg (.pair (.alt (.slice u)) r)) (List.set (List.map F8 l) i (.inr nm,q))::F) Γ (.sl v T (.agg (.pair (.slice u) r)) (List.set l i (d,q))::F):=fun a w h=>by
 obtain⟨h1,h2,S,h3,h4,h5,h6,h7⟩:=tG h
 have st:St c Γ (.sl v T (.agg (.pair (.alt (.slice u)) r)) (List.set (List.map F8 l) i (.inr nm,q))::F) a w:=⟨h1,h2,S,h3,h4,h5,h6⟩
 obtain⟨xs,e1,e2⟩:=h7
 have e3:xs=[nm]:=by
  have l1:=aX (.slice u) e1;match xs,l1 with
  |[x],_=>simp [mk] at e2;rw [e2]
 subst e3
 have hd:(D.sl v T (.agg (.pair (.slice u) r)) (List.set l i (d,q))).holds S w:=by
  rcases h5.holds _ (List.mem_cons_self ..) with⟨g1,g2⟩ |⟨b,cap,cc,rfl,q1,q1',q2,q3,q4⟩
  ·refine .inl ⟨g1,?_⟩;cases l with
   |nil=>rfl
   |cons x l=>cases i <;> cases g2
  ·have hlen:(List.set (List.map F8 l) i (.inr nm,q)).length=(List.set l i (d,q)).length:=by simp
   refine .inr ⟨b,cap,cc,by rw [hlen],by rw [←hlen];exact q1,q1',q2,q3,?_⟩;rw [hlen] at q4;refine AI (R:=rd S w (.agg (.pair (.slice u) r))) (fun x cs hx=>?_) (fun cs hx=>?_) q4
   ·obtain⟨c1,c2,e,g1,g2⟩:=hx;exact⟨c1,c2,e,g1.1,g2⟩
   ·obtain⟨c1,c2,e,g1,g2⟩:=hx;obtain⟨rfl,_⟩:=g1;exact⟨_,c2,e,e1,g2⟩
 have hp:=List.pairwise_cons.1 h5.apart
 refine⟨h1,h2,S,h3,fun x ⟨e,he,hb⟩=>?_,h5.re ⟨fun e he=>?_,fun x ⟨e,he,hb⟩=>?_,List.pairwise_cons.2 ⟨fun e he=>hp.1 e he,hp.2⟩⟩ (fun x ⟨e,he,hb⟩=>by
  rcases List.mem_cons.1 he with rfl |he
  ·exact⟨_,List.mem_cons_self ..,hb⟩
  ·exact⟨e,List.mem_cons_of_mem _ he,hb⟩) (fun _ h=>.inl h),h6⟩
 ·
  rcases List.mem_cons.1 he with rfl |he
  ·exact h4 x ⟨_,List.mem_cons_self ..,hb⟩
  ·exact h4 x ⟨e,List.mem_cons_of_mem _ he,hb⟩
 ·
  rcases List.mem_cons.1 he with rfl |he
  ·exact hd
  ·exact h5.holds e (List.mem_cons_of_mem _ he)
 ·
  rcases List.mem_cons.1 he with rfl |he
  ·exact h5.own x ⟨_,List.mem_cons_self ..,hb⟩
  ·exact h5.own x ⟨e,List.mem_cons_of_mem _ he,hb⟩
theorem SE.altR{t:Ty}{v:Value}(s:Nat)(ht:t.isAgg=false)(hl:lk Γ s=some (.rep (.alt t) (.inr v))):SE c Γ Δ ((s,.eq v)::Γ) Δ:=fun a w h=>by
 obtain⟨h1,h2,S,h3,h4,h5,h6⟩:=h
 refine⟨h1,h2,S,h3,h4,h5,fun s' q hq=>?_⟩
 simp only [lk] at hq
 split at hq
 ·
  rename_i e
  subst e
  cases hq
  obtain⟨xs,e1,e2⟩:=h6 _ _ hl
  obtain⟨rfl,_⟩:=e1
  exact e2
 ·
  exact h6 s' q hq
end
end
def lT(T:TypeId)(n:Int)(r:Bool):List PanicEntry:=[{ v:=.iface T (.int .i64 n),recovered:=r }]
def Jr(g b:Nat):Deferred:={ target:=.fn (.func g) #[.pointer (some ⟨b,0,none⟩)],args:= #[] }
section
variable {P:Program}{a:Act}{cs:List Frame}{w:World}
theorem FH{b:Frame}{k:List Item}{ops:Array Oper}{i:Nat}{rest:List Nat}{o:Oper}(hb:b.roundOf=none)(ho:ops[i]? =some o)(hw:Region.wanted o (yielded ops a.tmps)=true)(hr:∀ρ,execOp ρ o=pure .recover):
 ∃es,(∀e∈es,e∈(#[]:Array Event))∧∀main,stepG P main (Gr (b.atR a (.inRegion ops (i::rest)::k)) cs) w=match tryRecover (b.atR a (.inRegion ops (i::rest)::k)) cs with
  |some (x,cs')=>.go (Gr (b.atR (a.put o.dst x) (.inRegion ops rest::k)) cs') w es
  |none=>.go (Gr (b.atR (a.put o.dst .nilIface) (.inRegion ops rest::k)) cs) w es:=by
 have hfin:∀x,(b.atR a (.inRegion ops (i::rest)::k)).finish x=b.atR (a.put o.dst x) (.inRegion ops rest::k):=fun x=>by rw [Frame.finish_atR,ho];rfl
 refine⟨seen P b.fn (if b.kind == .early then #[] else #[]),fun e he=>?_,fun main=>?_⟩
 ·
  have:=Conc.mem_seen he;split at this <;> exact this
 ·
  rw [ye ho hw,hb,Oper.semAt_none,hr];have hT:(pure Next.recover:Sem Next).runT P w #[]=(.ok .recover w, #[]):=rfl;have hro:(b.atR a (.inRegion ops (i::rest)::k)).roundOf=none:=hb;simp only [stepG.apply,if_true,hT,hro];cases htr:tryRecover (b.atR a (.inRegion ops (i::rest)::k)) cs with
  |none=>simp only [GStep.after,Array.append_empty,hfin];rfl
  |some p=>obtain⟨x,cs'⟩:=p;simp only [GStep.after,Array.append_empty,hfin];rfl
theorem Bm{fr:Frame}{g b:Nat}{ds:List Deferred}(m:FrameMode)(hen:an P g)(hm:fr.mode=m)(hm':m≠.run)(hd:fr.defers=Jr g b::ds):
 ∃es,(∀e∈es,e∈(#[]:Array Event))∧∀main,stepG P main (Gr fr cs) w= .go (Gr (Frame.enter P g #[.pointer (some ⟨b,0,none⟩)] .deferred) ({ fr with defers:=ds }::cs)) w es:=by
 refine⟨seen P fr.fn #[],fun e he=>Conc.mem_seen he,fun main=>?_⟩
 have hi:invoke (.fn (.func g) #[.pointer (some ⟨b,0,none⟩)]) #[]=callFunc g #[.pointer (some ⟨b,0,none⟩)]:=by simp [invoke]
 cases m with
 |run=>exact absurd rfl hm'
 |returning=>simp only [stepG,hm,unwind,hd,Jr,callDeferred,hi,pz hen,GStep.after,Array.append_empty];rfl
 |panicking ch=>simp only [stepG,hm,unwind,hd,Jr,callDeferred,hi,pz hen,GStep.after,Array.append_empty];rfl
theorem Ic{fr c:Frame}{x:Value}{fn:Func}(h1:fr.mode= .returning)(h2:fr.defers=[])(hk:fr.kind= .deferred)(h3:P.funcs[fr.fn]? =some fn)(h4:(results fn fr.tmps).run P w= .ok x w)(hc:c.mode= .returning∨∃T n,c.mode= .panicking (lT T n true)):
 ∀main,stepG P main (Gr fr (c::cs)) w= .go (Gr { c with mode:=.returning } cs) w (seen P fr.fn ((results fn fr.tmps).events P w #[])):=fun main=>by
 rcases hc with hc |⟨T,n,hc⟩
 ·
  have e:({ c with mode:=.returning }:Frame)=c:=by cases c;cases hc;rfl
  rw [e]
  simp [stepG,unwind,h1,h2,h3,h4,doReturn,hk,GStep.after,hc]
 ·
  simp [stepG,unwind,h1,h2,h3,h4,doReturn,hk,GStep.after,hc,lT]
end
def nC{P:Program}(M:Md P)(g:Nat)(m:FrameMode)(Tc:TypeId)(e0 e1:Int):Prop:=
 ∀T,M.ok T→∀(b:Nat) (S:FS) (w:VW) (fr:Frame) (cs:List Frame),(∀b,S b→b < w.heap.size)→bo [.obj b Tc (.eq (.int .i64 e0))] S w→fr.mode=m→
  (∀S' w',bX (aS [.obj b Tc (.eq (.int .i64 e0))]) S w S' w'→bo [.obj b Tc (.eq (.int .i64 e1))] S' w'→T w' { fr with mode:=.returning } cs)→
  T w (Frame.enter P g #[.pointer (some ⟨b,0,none⟩)] .deferred) (fr::cs)
structure Ai(P:Program)(g:Nat)(T Tc:TypeId):Prop where
 enter:an P g
 calm:∀(M:Md P) (e0:Int),nC M g .returning Tc e0 e0
 caught:∀(M:Md P) (e0 n:Int),nC M g (.panicking (lT T n false)) Tc e0 n
theorem nC.of{P:Program}{M:Md P}{g d id N:Nat}{fn:Func}{o:Oper}{l:List Oper}{C:Code}{m m1:FrameMode}{val:Value}{Tc:TypeId}{e0 e1:Int}(hf:P.funcs[g]? =some fn)(hb:fn.body=some (.seq (.region id (o::l).toArray false) C))(hN:fn.ntmps=N)(hn:0 < N)
 (hg:o.guard=none) (hd:o.dst=some d) (hdN:d < N) (ho:∀ρ,execOp ρ o=pure .recover)
 (hm:∀(fr b:Frame) (cs:List Frame),b.kind= .deferred→fr.mode=m→(match tryRecover b (fr::cs) with |some (x,cs')=>x=val∧cs'={ fr with mode:=m1 }::cs |none=>val= .nilIface∧m1=m)) (hm1:m1= .returning∨∃T n,m1= .panicking (lT T n true))
 (h:∀(b:Nat) (S:FS) (w0:VW),JO ⟨P,N,S,w0,aS [.obj b Tc (.eq (.int .i64 e0))],none,[],M⟩ (o::l).toArray l
  (cT (C.wk M none (c9 P fn (fU S w0 [.obj b Tc (.eq (.int .i64 e0))] (fun _:Unit=>(bG [],[.obj b Tc (.eq (.int .i64 e1))]))))) (c9 P fn (fU S w0 [.obj b Tc (.eq (.int .i64 e0))] (fun _:Unit=>(bG [],[.obj b Tc (.eq (.int .i64 e1))])))))
  [(d,.eq val),(0,.eq (.pointer (some ⟨b,0,none⟩)))] [.obj b Tc (.eq (.int .i64 e0))]):nC M g m Tc e0 e1:=by
 subst hN
 intro T hT b S w fr cs hdom hO hfr hk
 have bc:=M.bc T hT
 rw [tK hf hb]
 refine bc.move (fun _ _=>jT) (bc.move (fun _ _=>oI) ?_)
 let a:Act:={ tmps:= #[Value.pointer (some ⟨b,0,none⟩)]++Array.replicate (fn.ntmps - 1) undef,defers:=[] }
 let fb:Frame:={ (default:Frame) with fn:=g,kind:=.deferred }
 have hst:St ⟨P,fn.ntmps,S,w,aS [.obj b Tc (.eq (.int .i64 e0))],none,[],M⟩ [(0,.eq (.pointer (some ⟨b,0,none⟩)))] [.obj b Tc (.eq (.int .i64 e0))] a w:=
  St.entry (as:=[.eq (.pointer (some ⟨b,0,none⟩))]) (vs:=[.pointer (some ⟨b,0,none⟩)]) (by rw [Nat.ble_eq];exact hn) hdom ⟨_,_,rfl,rfl,rfl⟩ hO
 have hst2:∀v1,de w v1→St ⟨P,fn.ntmps,S,w,aS [.obj b Tc (.eq (.int .i64 e0))],none,[],M⟩ [(d,.eq val),(0,.eq (.pointer (some ⟨b,0,none⟩)))] [.obj b Tc (.eq (.int .i64 e0))] (a.put o.dst val) v1:=fun v1 hr=>by
  obtain⟨h1,h2,S',h3,h4,h5,h6⟩:=hst.rely hr;rw [hd];refine⟨h1,by simpa [Act.put] using h2,S',h3,h4,h5,fun s r hl=>?_⟩;rw [lr (by rw [h2];exact hdN)];simp only [lk] at hl;split at hl
  ·rename_i e;cases hl;rw [if_pos e];rfl
  ·rename_i e;rw [if_neg e];exact h6 s r (by simp only [lk];exact hl)
 have hsz:(o::l).toArray.size=l.length+1:=by simp
 have hlist:List.range (o::l).toArray.size=0::List.range' 1 l.length:=by rw [hsz,List.range_eq_range',List.range'_succ]
 rw [hlist]
 have go:∀v1,de w v1→T v1 (fb.atR (a.put o.dst val) (.inRegion (o::l).toArray (List.range' 1 l.length)::[.code C])) ({ fr with mode:=m1 }::cs):=fun v1 hr=>by
  have hw:=mF l 1 (ops:=(o::l).toArray) (fun j=>by simp [Nat.add_comm 1 j]) (h b S w _ _ (hst2 v1 hr))
  have finR:∀a' v' todo,c9 P fn (fU S w [.obj b Tc (.eq (.int .i64 e0))] (fun _:Unit=>(bG [],[.obj b Tc (.eq (.int .i64 e1))]))) .ret a' v'→T v' { fb.atR a' todo with mode:=.returning } ({ fr with mode:=m1 }::cs):=by
   rintro a' v' todo ⟨q1,x,q2,_,S',v,_,q3,_,q4,_⟩;refine bc.step _ _ _ fun v1 hr=>?_;obtain⟨r1,r2⟩:=q2 v1 hr;exact⟨_,_,v1.toWorld,_,Ic (fr:={ fb.atR a' todo with mode:=.returning }) (c:={ fr with mode:=m1 }) rfl q1 rfl hf r1 hm1,r2.sub fun e he=>Conc.mem_seen he,bc.rely _ _ _ _ hr (hk S' v' q3 q4)⟩
  have out:∀e a' v',e≠.normal→c9 P fn (fU S w [.obj b Tc (.eq (.int .i64 e0))] (fun _:Unit=>(bG [],[.obj b Tc (.eq (.int .i64 e1))]))) e a' v'→∀k,nT T fb k ({ fr with mode:=m1 }::cs) e a' v':=by
   intro e a' v' he q k;cases e with
   |normal=>exact absurd rfl he
   |ret=>exact⟨fun _ todo=>finR a' v' todo q,fun h=>by cases h⟩
   |panic ch=>obtain⟨_,_,_,_,q2,_⟩:=q;cases q2
   |exit id=>exact q.elim
   |goto i=>exact q.elim
   |outgrown=>exact q.elim
  refine pV _ hw T hT fb [.code C] _ rfl fun e a' v' q=>?_;cases e with
  |normal=>
   refine q T hT fb [] _ rfl fun e a' v' q=>?_
   cases e with
    |normal=>exact bc.move (fun _ _=>Bl rfl) (finR a' v' [] q)
    |ret=>exact out _ a' v' (by simp) q []
    |panic ch=>exact out _ a' v' (by simp) q []
    |exit id=>exact out _ a' v' (by simp) q []
    |goto i=>exact out _ a' v' (by simp) q []
    |outgrown=>exact out _ a' v' (by simp) q []
  |ret=>exact out .ret a' v' (by simp) q _
  |panic ch=>exact out (.panic ch) a' v' (by simp) q _
  |exit id=>exact out (.exit id) a' v' (by simp) q _
  |goto i=>exact out (.goto i) a' v' (by simp) q _
  |outgrown=>exact out .outgrown a' v' (by simp) q _
 refine bc.step _ _ _ fun v1 hr=>?_
 obtain⟨es,e1',e2⟩:=FH (P:=P) (a:=a) (cs:=fr::cs) (w:=v1.toWorld) (b:=fb) (k:=[.code C]) (ops:=(o::l).toArray) (i:=0) (rest:=List.range' 1 l.length) (o:=o) rfl (by simp) (az hg _) ho
 have hm':=hm fr (fb.atR a (.inRegion (o::l).toArray (0::List.range' 1 l.length)::[.code C])) cs rfl hfr
 cases htr:tryRecover (fb.atR a (.inRegion (o::l).toArray (0::List.range' 1 l.length)::[.code C])) (fr::cs) with
 |none=>
  rw [htr] at hm' e2;obtain⟨rfl,rfl⟩:=hm';have e:({ fr with mode:=m1 }:Frame)=fr:=by cases fr;cases hfr;rfl
  have:=go v1 hr;rw [e] at this;exact⟨_,_,v1.toWorld,es,e2,(iD.refl v1).sub e1',this⟩
 |some p=>
  obtain⟨x,cs'⟩:=p;rw [htr] at hm' e2;obtain⟨rfl,rfl⟩:=hm';exact⟨_,_,v1.toWorld,es,e2,(iD.refl v1).sub e1',go v1 hr⟩
def OL{P:Program}(M:Md P)(fn:Func)(R:Ending→VW→Prop)(m:FrameMode)(a:Act)(v:VW):Prop:=
 ∀T,M.ok T→∀(fr:Frame) (cs:List Frame),P.funcs[fr.fn]? =some fn→fr.mode=m→fr.defers=a.defers→fr.tmps=a.tmps→
  (∀v',c9 P fn R .ret { a with defers:=[] } v'→T v' { fr with mode:=.returning,defers:=[] } cs)→T v fr cs
def rC{P:Program}(M:Md P)(fn:Func)(R:Ending→VW→Prop):Exit→Act→VW→Prop
 | .ret,a,v=>OL M fn R .returning a v
 | .normal,a,v=>OL M fn R .returning a v
 | .panic ch,a,v=>OL M fn R (.panicking ch) a v
 |_,_,_=>False
section
variable {P:Program}{M:Md P}{N:Nat}{S:FS}{w0:VW}{X:Nat→Prop}{ops:Array Oper}{o:Oper}{l:List Oper}{Q:Exit→Act→VW→Prop}{Γ:Ga}{Δ F:List D}{b g s:Nat}{T Tc:TypeId}{fn:Func}{R:Ending→VW→Prop}{n e0:Int}{a0:A}
theorem I9{cl:Call}{ts:Array TypeId}(hg:o.guard=none)(hd:o.dst=none)(ho:o.op= .defer cl)(hcl:cl={ callee:=.value (.tmp s),args:= #[],argTypes:=ts })(hl:lk Γ s=some (.eq (.func (.func g) #[] #[.pointer (some ⟨b,0,none⟩)])))
 (h:JO ⟨P,N,S,w0,X,none,[Jr g b],M⟩ ops l Q Γ Δ):JO ⟨P,N,S,w0,X,none,[],M⟩ ops (o::l) Q Γ Δ:=by
 intro a w hst
 have hw:Region.wanted o (yielded ops a.tmps)=true:=az hg _
 refine om fun K hK=>?_
 rw [if_pos hw]
 intro v1 hr
 obtain⟨h1,h2,S',h3,h4,h5,h6⟩:=hst.rely hr
 have e1:a.eval (.tmp s)= .func (.func g) #[] #[.pointer (some ⟨b,0,none⟩)]:=h6 s _ hl
 have hex:(o.semAt none a.eval)=pure (.defer (Jr g b)):=by
  rw [Oper.semAt_none];simp [execOp,ho,hcl,resolve,Deferred.ofValue,e1,Jr]
 show Sg P v1 (o.semAt none a.eval)∧GI M v1 o a K Q ((o.semAt none a.eval).run P v1)
 rw [hex]
 refine⟨iD.refl v1,hK _ _ (h _ _ ⟨?_,by rw [hd];simpa [Act.put] using h2,S',h3,h4,h5,fun s r hl=>by rw [hd];simpa [Act.put] using h6 s r hl⟩)⟩
 have h1:a.defers=[]:=h1
 rw [hd]
 simp [Act.put,h1]
theorem lW{c:Cx}(hrd:c.rd=none)(hg:o.guard=none)(ho:o.op= .panic (.tmp s))(hl:lk Γ s=some (.eq (.iface T (.int .i64 n))))(h:JN c (Q (.panic (lT T n false))) Γ Δ):JO c ops (o::l) Q Γ Δ:=by
 intro a w hst;have hw:Region.wanted o (yielded ops a.tmps)=true:=az hg _;refine om fun K hK=>?_;rw [if_pos hw,hrd];intro v1 hr;have hst':=hst.rely hr;obtain⟨h1,h2,S',h3,h4,h5,h6⟩:=hst';have e1:a.eval (.tmp s)= .iface T (.int .i64 n):=h6 s _ hl
 have hex:(o.semAt none a.eval)= .halt (.panic (.iface T (.int .i64 n))):=by
  rw [Oper.semAt_none];unfold execOp;rw [ho];show((Instr.panic (a.eval (.tmp s))).bind _)=_;rw [e1];rfl
 rw [hex];exact⟨iD.refl v1,h a _ (hst.rely hr)⟩
theorem cN{c:Cx}{M1:Act→VW→Prop}{ch:List PanicEntry}(h:JN c (Q (.panic ch)) Γ Δ):JN c (cT M1 Q (.panic ch)) Γ Δ:=h
theorem fW{c:Cx}{id:Nat}{ch:List PanicEntry}(h:JN c (Q (.panic ch)) Γ Δ):JN c (nz id Q (.panic ch)) Γ Δ:=h
theorem Ql{m:FrameMode}{e1:Int}(hE:an P g)(hc:nC M g m Tc e0 e1)(hm:m≠.run)(h:JN ⟨P,N,S,w0,X,none,[],M⟩ (c9 P fn R .ret) Γ (.obj b Tc (.eq (.int .i64 e1))::F)):
 JN ⟨P,N,S,w0,X,none,[Jr g b],M⟩ (OL M fn R m) Γ (.obj b Tc (.eq (.int .i64 e0))::F):=by
 intro a w st T hT fr cs hfn hmo hdf htm hk
 have bc:=M.bc T hT
 have h1:a.defers=[Jr g b]:=st.1
 refine bc.step _ _ _ fun v1 hr=>?_
 obtain⟨es,q1,q2⟩:=Bm (P:=P) (cs:=cs) (w:=v1.toWorld) m hE hmo hm (hdf.trans h1)
 refine⟨_,_,v1.toWorld,es,q2,(iD.refl v1).sub q1,?_⟩
 obtain⟨_,h2,S1,h3,h4,h5,h6⟩:=st.rely hr
 have hO1:bo [.obj b Tc (.eq (.int .i64 e0))] S1 v1:=bo.part (F:=F) h5
 refine hc T hT b S1 v1 { fr with defers:=[] } cs h3.dom hO1 hmo fun S' w' g1 g2=>?_
 refine hk w' (h _ _ ⟨rfl,h2,S',h3.trans g1 (fun x hx=>h4 x (by obtain⟨d,hd,e⟩:=hx;rw [List.mem_singleton.1 hd] at e;exact⟨_,List.mem_cons_self ..,e⟩)),?_,?_,fun s r hl=>?_⟩)
 ·
  rintro x ⟨d,hd,e⟩;rcases List.mem_cons.1 hd with rfl |hd
  ·exact h4 x ⟨_,List.mem_cons_self ..,e⟩
  ·exact h4 x ⟨d,List.mem_cons_of_mem _ hd,e⟩
 ·
  refine bo.frame (Δ:=[.obj b Tc (.eq (.int .i64 e0))]) (Δ':=[.obj b Tc (.eq (.int .i64 e1))]) (F:=F) h3.dom h5 g1 g2 fun x hx=>.inl ?_;obtain⟨d,hd,e⟩:=hx;rw [List.mem_singleton.1 hd] at e;exact⟨_,List.mem_singleton.2 rfl,e⟩
 ·
  have hK:jZ S1 v1 w':=fun x hx=>g1.keep x (h3.dom x hx) (h5.sees x hx) fun hf=>(hO1.own x hf).1 hx;exact A.mono g1.sub hK r (h6 s r hl)
theorem Lt(hc:Ai P g T Tc)(h:JN ⟨P,N,S,w0,X,none,[],M⟩ (c9 P fn R .ret) Γ (.obj b Tc (.eq (.int .i64 e0))::F)):
 JN ⟨P,N,S,w0,X,none,[Jr g b],M⟩ (rC M fn R .ret) Γ (.obj b Tc (.eq (.int .i64 e0))::F):=Ql hc.enter (hc.calm M e0) (by simp) h
theorem lX(hc:Ai P g T Tc)(h:JN ⟨P,N,S,w0,X,none,[],M⟩ (c9 P fn R .ret) Γ (.obj b Tc (.eq (.int .i64 n))::F)):
 JN ⟨P,N,S,w0,X,none,[Jr g b],M⟩ (rC M fn R (.panic (lT T n false))) Γ (.obj b Tc (.eq (.int .i64 e0))::F):=Ql hc.enter (hc.caught M e0 n) (by simp) h
theorem Jp{f:Nat}{C:Code}{as:List A}{Y:Type}{R:Y→A×List D}(N:Nat)(hf:P.funcs[f]? =some fn)(hb:fn.body=some C)(hN:fn.ntmps=N)(hn:Nat.ble as.length N=true)
 (h:∀S w0,JC ⟨P,N,S,w0,aS Δ,none,[],M⟩ C (rC M fn (fU S w0 Δ R)) (entry 0 as) Δ):kE M f as Δ R:=by
 subst hN
 intro kind S w vs hd hall hO T hT cs hc
 have bc:=M.bc T hT
 rw [tK hf hb]
 refine h S w _ _ (St.entry hn hd hall hO) T hT _ [] cs rfl fun e a' v' q=>?_
 have fin:∀(m:FrameMode) (todo:List Item),OL M fn (fU S w Δ R) m a' v'→T v' { Frame.atR { (default:Frame) with fn:=f,kind:=kind } a' todo with mode:=m } cs:=fun m todo q=>
  q T hT { Frame.atR { (default:Frame) with fn:=f,kind:=kind } a' todo with mode:=m } cs hf rfl rfl rfl fun v'' ⟨p1,x,p2,p3⟩=>hc _ _ _ p3 rfl rfl ⟨rfl,rfl,fn,hf,p2⟩
 cases e with
 |normal=>exact bc.move (fun _ _=>Bl rfl) (fin .returning [] q)
 |ret=>exact⟨fun _ todo=>fin .returning todo q,fun h=>by cases h⟩
 |panic chain=>exact fun todo=>fin (.panicking chain) todo q
 |exit id=>exact q.elim
 |goto l=>exact q.elim
 |outgrown=>exact q.elim
theorem LG{f:Nat}{C:Code}{as:List A}{Y:Type}{R:Y→A×List D}(N:Nat)(hf:P.funcs[f]? =some fn)(hb:fn.body=some C)(hN:fn.ntmps=N)(hn:Nat.ble as.length N=true)
 (h:∀{M:Md P} (S:FS) (w0:VW),JC ⟨P,N,S,w0,aS Δ,none,[],M⟩ C (rC M fn (fU S w0 Δ R)) (entry 0 as) Δ):bQ P f as Δ R:=fun _=>Jp N hf hb hN hn h
end
section
variable {P:Program}{M:Md P}{o:Oper}{x:Operand}{T T':TypeId}{n:Int}
theorem JY(ho:o.op= .typeAssert x T' T true)(h:Aa P T):bZ M o [(x,.eq .nilIface)] [] (fun _:Unit=>(.tup (.pair (.eq (.int .i64 0)) (.pair (.eq (.bool false)) .any)),[])):=
 .val0 fun S w a hN=>by
  have e1:a.eval x= .nilIface:=hN.1
  refine⟨.tuple #[.int .i64 0,.bool false],?_,[_,_],rfl,_,_,rfl,rfl,_,_,rfl,rfl,rfl⟩
  have:(Instr.typeAssert .nilIface T' T true).run P w= .ok (.tuple #[.int .i64 0,.bool false]) w:=by
   unfold Instr.typeAssert;simp only [Sem.run_bind,run_underlying h.1,Result.andThen_ok,h.2,Sem.run_pure,if_true]
  simp only [execOp,ho,e1,Sem.run_bind,this,Result.andThen_ok,Sem.run_pure]
theorem JX(ho:o.op= .typeAssert x T' T true)(h:Aa P T):bZ M o [(x,.eq (.iface T (.int .i64 n)))] [] (fun _:Unit=>(.tup (.pair (.eq (.int .i64 n)) (.pair (.eq (.bool true)) .any)),[])):=
 .val0 fun S w a hN=>by
  have e1:a.eval x= .iface T (.int .i64 n):=hN.1
  refine⟨.tuple #[.int .i64 n,.bool true],?_,[_,_],rfl,_,_,rfl,rfl,_,_,rfl,rfl,rfl⟩
  have:(Instr.typeAssert (.iface T (.int .i64 n)) T' T true).run P w= .ok (.tuple #[.int .i64 n,.bool true]) w:=by rw [wh h];simp
  simp only [execOp,ho,e1,Sem.run_bind,this,Result.andThen_ok,Sem.run_pure]
theorem G3{fr b:Frame}{cs:List Frame}{m:FrameMode}(hb:b.kind= .deferred)(hm:fr.mode= .returning)(he:m= .returning):
 (match tryRecover b (fr::cs) with |some (x,cs')=>x= .nilIface∧cs'={ fr with mode:=m }::cs |none=>Value.nilIface= .nilIface∧m= .returning):=by
 simp [tryRecover,hb,hm,he]
theorem G2{fr b:Frame}{cs:List Frame}(hb:b.kind= .deferred)(hm:fr.mode= .panicking (lT T n false)):
 (match tryRecover b (fr::cs) with |some (x,cs')=>x= .iface T (.int .i64 n)∧cs'={ fr with mode:=.panicking (lT T n true) }::cs |none=>Value.iface T (.int .i64 n)= .nilIface∧FrameMode.panicking (lT T n true)= .panicking (lT T n false)):=by
 simp [tryRecover,hb,hm,lT]
end
theorem D6{P:Program}{M:Md P}{o:Oper}{x:Operand}{T:TypeId}{f n:Nat}{g:Bool}{fs:Array Field}{fd:Field}{a1 r:A}(ho:o.op= .field T x f)(hu:P.underlying T=some (.struct fs))(hf:fs[f]? =some fd)(hz:fX P fd.type n g)(hg:g=false→n=1)
 (hget:a1.get fd.offset n g=some r) (hag:a1.isAgg=true) (hs:a1.stor):bZ M o [(x,a1)] [] (fun _:Unit=>(r,[])):=
 .val0 fun S w a hN=>by
  obtain⟨h1,h2,h3⟩:=fG hN.1 hs
  obtain⟨g1,g2⟩:=kF a1 h1 hget
  generalize hcs:(a.eval x).cells.toList=cs at h1 h2 h3 g1
  have e1:a.eval x= .agg cs.toArray:=by rw [h3,hag];rfl
  refine⟨_,?_,g1⟩
  have hp:(part fd.type cs.toArray fd.offset).run P w= .ok (mk g ((cs.drop fd.offset).take n)) w:=by
   unfold part;cases g with
   |true=>
    simp only [Sem.run_bind,hz.agg,Result.andThen_ok,if_true,hz.size,Sem.run_pure];simp only [mk,if_true,Result.ok.injEq,and_true,Value.agg.injEq];apply Array.ext';simp [List.extract_eq_take_drop,Nat.add_sub_cancel_left]
   |false=>
    obtain rfl:=hg rfl;have hlt:fd.offset < cs.length:=by omega
    have e9:(cs.drop fd.offset).take 1=[cs[fd.offset]]:=by rw [List.drop_eq_getElem_cons hlt];rfl
    have e8:cs.toArray[fd.offset]? =some cs[fd.offset]:=by simp [hlt]
    rw [e9];simp only [Sem.run_bind,hz.agg,Result.andThen_ok,e8];rfl
  simp [execOp,ho,e1,Instr.field,Sem.run_bind,run_underlying hu,hf,asAgg,hp]
end K
end Go.Proofs.YtopgphikdglphaaGreat
namespace Go.Proofs.YtopgphikdglphaaGreat
namespace K
open Go Go.ChangeShapes Go.WideShapes Go.ChangeAt Go.RowKit
@[reducible] def vw(W:World):VW:=⟨W,fun _=>False,fun _=>False⟩
theorem Hg{S:FS}{W:World}:bo [] S (vw W):=⟨fun _ h=>by simp at h,fun _ hb=>(iW hb).elim,List.Pairwise.nil,fun _ hb=>(iW hb).elim,fun _ _ h=>h,fun _ h=>h.elim,fun _ h=>h.elim⟩
section
variable {H:Type}{enc:TypeId×Value→H}{P:Program}{M:Md P}
theorem G8{f:Func}{s:ChangeSpec}{apart fresh handsOn again:Bool}{W W':World}{args:Array Value}{v:Value}{ds gs:List (DataW H)}{before pa pv:List MemPlace}
 (hW:DataW.Whole enc P f.params.toList s.vars apart W args.toList ds gs before)
 (hres:∀(b:Nat) (sp:Nat→Bool) (hd:Bool),DataW.TrodAll enc P W' b sp hd f.resultTypes.toList (v.resultList f.resultTypes.size) (s.fn H (ds++gs)).results [])
 (hargs:∀sp:Nat→Bool,(∀p∈before,sp p.block=true)→DataW.TrodAll enc P W' 0 sp true f.params.toList args.toList (s.fn H (ds++gs)).args pa)
 (hvars:∀sp:Nat→Bool,(∀p∈before,sp p.block=true)→DataW.TrodVars enc P W' sp s.vars (s.fn H (ds++gs)).vars pv)
 (hps:before=pa++pv) (hk:W.keptBut W' (· ∈before)) (hfz:∀a:Addr,a.block < W.heap.size→W'.frozen? a=W.frozen? a)
 (hok:∀(j:Nat) (t:TypeId) (r:Value),f.resultTypes[j]? =some t→(v.resultList f.resultTypes.size)[j]? =some r→Value.okWide P W' .any 0 t r):
 s.post enc P f apart fresh handsOn again W args v W':=by
 have hlt:∀p∈before,p.block < W.heap.size:=fun p hp=>hW.lt p hp
 have hold:∀p∈before,(fun b=>decide (b < W.heap.size)) p.block=true:=fun p hp=>by simpa using hlt p hp
 refine⟨ds,gs,before,[],pa,pv,hW,hres _ _ _,hargs _ hold,hvars _ hold,World.keptBut_mono (fun p hp=>⟨hp,?_⟩) hk,fun _=>?_⟩
 ·
  rw [hps,List.mem_append] at hp;exact Or.inr hp
 ·
  obtain⟨_,_,_,_,_,hz,hn⟩:=hW;refine⟨hok,_,_,([]++pa)++pv,⟨[]++pa,pv,trodAll_append (hargs _ (fun _ _=>rfl)) (hres _ _ _),hvars _ (fun _ _=>rfl),rfl,?_,?_⟩,?_⟩
  ·intro b off hp;have hp':MemPlace.cell b off∈before:=by rw [hps];simpa using hp
   rw [hfz _ (hlt _ hp')];exact hz b off hp'
  ·intro ha;have:=hn ha;rw [hps] at this;simpa using this
  ·intro p hp _;rw [hps];simpa using hp
theorem E1{S S':FS}{W:World}{W':VW}{may:MemPlace→Prop}(h:bX (aS []) S (vw W) S' W'):W.keptBut W' may∧∀a:Addr,a.block < W.heap.size→W'.frozen? a=W.frozen? a:=by
 have hk:∀b,b < W.heap.size→W'.heap[b]? =W.heap[b]? :=fun b hb=>h.keep b hb (fun hx=>hx) (fun hx=>iW hx);refine⟨⟨h.os,h.output,fun i hi=>by rw [hk i hi];exact(World.keptBut_refl W may).2.2 i hi⟩,fun a ha=>?_⟩;unfold World.frozen?;rw [hk _ ha]
end
def MT(P:Program):Ty→TypeId ⊕ (List Field×Nat)→Prop
 | .int k,.inl T=>P.underlying T=some (.int k)
 | .bool,.inl T=>P.underlying T=some .bool
 | .slice t,.inl T=>∃e,P.underlying T=some (.slice e)∧P.cellsOf e=t.cells∧MT P t (.inl e)
 | .agg t,.inl T=>∃fs:Array Field,P.underlying T=some (.struct fs)∧P.cellsOf T=t.cells∧MT P t (.inr (fs.toList,0))
 | .pair t u,.inr (f::fs,off)=>f.offset=off∧P.cellsOf f.type=t.cells∧MT P t (.inl f.type)∧
  ((∃g,fs=[g]∧g.offset=off+t.cells∧P.cellsOf g.type=u.cells∧MT P u (.inl g.type))∨MT P u (.inr (fs,off+t.cells)))
 |_,_=>False
theorem MT.pos{P:Program}:∀(t:Ty) {s:TypeId ⊕ (List Field×Nat)},MT P t s→0 < t.cells
 | .int _,_,_=>by simp [Ty.cells]
 | .bool,_,_=>by simp [Ty.cells]
 | .slice _,_,_=>by simp [Ty.cells]
 | .agg t,.inl T,⟨_,_,_,h⟩=>MT.pos t h
 | .pair t u,.inr (f::fs,off),⟨_,_,h,_⟩=>by have:=MT.pos t h;simp only [Ty.cells];omega
 | .agg _,.inr _,h=>h.elim
 | .pair _ _,.inl _,h=>h.elim
 | .pair _ _,.inr ([],_),h=>h.elim
 | .val,.inl _,h=>h.elim
 | .val,.inr _,h=>h.elim
 | .arr _ _,.inl _,h=>h.elim
 | .arr _ _,.inr _,h=>h.elim
 | .ptr _,.inl _,h=>h.elim
 | .ptr _,.inr _,h=>h.elim
 | .tag _ _,.inl _,h=>h.elim
 | .tag _ _,.inr _,h=>h.elim
 | .ign,.inl _,h=>h.elim
 | .ign,.inr _,h=>h.elim
 | .alt _,.inl _,h=>h.elim
 | .alt _,.inr _,h=>h.elim
theorem add_mk{b off i:Nat}:Addr.add ⟨b,off,none⟩ i=⟨b,off+i,none⟩:=by
 unfold Addr.add;by_cases h:i=0
 ·subst h;simp
 ·simp [h]
theorem Ld{a:Addr}{b off i:Nat}(h:a.add (0 * i)=⟨b,off,none⟩):a=⟨b,off,none⟩:=by
 unfold Addr.add at h;rwa [if_pos (Nat.zero_mul i)] at h
theorem yR{W:World}{base n:Nat}{a:Addr}{row:List Value}(hn:0 < n)(h:W.cells? base a n=some row):
 ∃b off c T fz,a=⟨b,off,none⟩∧W.heap[b]? =some (.cells c T fz)∧row=(c.toList.drop off).take n:=by
 unfold World.cells? at h
 split at h
 ·
  have hl:=mapM_some_length h;have hg:=mapM_some_get h;rw [List.length_range] at hl;have h0:=hg 0 0 (by simp [hn]);obtain⟨b,off,sp⟩:=a;rw [List.getElem?_eq_getElem (by omega)] at h0;unfold World.cell? at h0;split at h0
  ·rename_i c T fz hb;split at h0
   ·cases h0
   rename_i hsp
   have hsp':sp=none:=by cases sp with
    |none=>rfl
    |some x=>simp [Addr.add] at hsp
   subst hsp';have hb':W.heap[b]? =some (.cells c T fz):=hb;refine⟨b,off,c,T,fz,rfl,hb',?_⟩;apply List.ext_getElem?;intro i;by_cases hi:i < n
   ·have:=hg i i (by simp [hi]);rw [←this,List.getElem?_take,if_pos hi,List.getElem?_drop,Array.getElem?_toList];rw [add_mk];simp [World.cell?,hb']
   ·rw [List.getElem?_take,if_neg hi,List.getElem?_eq_none (by omega)]
  ·cases h0
 ·
  cases h
theorem D5{α:Type}{R:α→List Value→Prop}{m:Nat}{cl:List Value}:∀{len off:Nat},(∀i,i < len→∃d,R d ((cl.drop (off+i * m)).take m))→∃l:List α,l.length=len∧dp R l ((cl.drop off).take (len * m))
 |0,_,_=>⟨[],rfl,by simp [dp]⟩
 |len+1,off,h=>by
  obtain⟨d,hd⟩:=h 0 (by omega)
  obtain⟨l,hl,hr⟩:=D5 (R:=R) (m:=m) (cl:=cl) (len:=len) (off:=off+m) (fun i hi=>by
   have:=h (i+1) (by omega)
   rwa [Nat.succ_mul,show off+(i * m+m)=off+m+i * m from by omega] at this)
  refine⟨d::l,by simp [hl],_,_,?_,hd,hr⟩
  rw [Nat.succ_mul,Nat.add_comm (len * m) m,List.take_add,List.drop_drop]
  simp
section
variable {H:Type}{enc:TypeId×Value→H}{P:Program}{M:Md P}
theorem CW{W:World}{S:FS}:∀(t:Ty),
 (∀T aH cs (x:DataW H×List MemPlace),MT P t (.inl T)→DataW.trod enc P W 0 (fun _=>true) true aH T cs=some x→(∀p∈x.2,S p.block)→∃d:t.den,rd S W t d cs)∧
 (∀(fs:List Field) (off n:Nat) (cs:List Value) (xs:List (DataW H×List MemPlace)),MT P t (.inr (fs,off))→cs.length=off+t.cells→xs.length=fs.length→
  (∀(i:Nat) f,fs[i]? =some f→DataW.trod enc P W 0 (fun _=>true) true n f.type ((cs.drop f.offset).take (P.cellsOf f.type))=xs[i]?)→(∀y∈xs,∀p∈y.2,S p.block)→∃d:t.den,rd S W t d (cs.drop off)):=by
 intro t
 induction t with
 |int k=>
  refine⟨fun T aH cs x hm h _=>?_,fun fs off n cs xs hm=>by cases fs <;> exact hm.elim⟩;obtain⟨n,rfl,_,_⟩:=DataW.trod_int hm h;exact⟨n,rfl⟩
 |bool=>
  refine⟨fun T aH cs x hm h _=>?_,fun fs off n cs xs hm=>by cases fs <;> exact hm.elim⟩;obtain⟨n,rfl,_⟩:=DataW.trod_bool hm h;exact⟨n,rfl⟩
 |slice t ih=>
  refine⟨fun T aH cs x hm h hS=>?_,fun fs off n cs xs hm=>by cases fs <;> exact hm.elim⟩;obtain⟨e,he,hce,hme⟩:=hm;have hpos:=MT.pos t hme;rcases DataW.trod_slice he h with⟨rfl,_⟩ |⟨a,len,cap,elems,rest,n,_,rfl,rfl,_,hl,_,hlen,hel,_,_⟩
  ·exact⟨[],.inl ⟨none,0,rfl,rfl⟩⟩
  ·cases len with
   |zero=>exact⟨[],.inl ⟨some a,cap,rfl,rfl⟩⟩
   |succ len=>
    rw [hce] at hel
    have row:∀i,i < len+1→∃r y,W.cells? 0 (a.add (i * t.cells)) t.cells=some r∧DataW.trod enc P W 0 (fun _=>true) true n e r=some y∧y∈elems:=fun i hi=>by
     have:=hel i hi;rw [List.getElem?_eq_getElem (by omega)] at this;obtain⟨r,e1,e2⟩:=Option.bind_eq_some_iff.1 this;exact⟨r,_,e1,e2,List.getElem_mem _⟩
    obtain⟨r0,y0,e0,_,_⟩:=row 0 (by omega);obtain⟨b,off,c,T',fz,ha,hb,_⟩:=yR hpos e0;have ha':=Ld ha;subst ha'
    obtain⟨l,hl1,hl2⟩:=D5 (R:=rd S W t) (m:=t.cells) (cl:=c.toList) (len:=len+1) (off:=off) (fun i hi=>by
     obtain⟨r,y,e1,e2,hy⟩:=row i hi;obtain⟨b',off',c',T2,fz',ha2,hb2,hr⟩:=yR hpos e1;rw [add_mk,Addr.mk.injEq] at ha2;obtain⟨rfl,rfl,_⟩:=ha2;rw [hb] at hb2;cases hb2;subst hr;exact ih.1 e n _ y hme e2 (fun p hp=>hS p (List.mem_append.2 (.inr (List.mem_flatMap.2 ⟨y,List.mem_append.2 (.inl hy),hp⟩)))))
    refine⟨l,.inr ⟨b,off,cap,c,T',fz,by rw [hl1],by rw [hl1];exact hl,?_,hb,by rw [hl1];exact hl2⟩⟩;have:=hS (.cell b (off+0)) (List.mem_append.2 (.inl (MemPlace.mem_row.2 ⟨0,Nat.mul_pos (by omega) (by omega),rfl⟩)));exact this
 |agg t ih=>
  refine⟨fun T aH cs x hm h hS=>?_,fun fs off n cs xs hm=>by cases fs <;> exact hm.elim⟩;obtain⟨fs,hf,hc,hmf⟩:=hm;obtain⟨xs,n,_,rfl,hl,hxl,hx⟩:=DataW.trod_struct hf h;obtain⟨d,hd⟩:=ih.2 fs.toList 0 n cs xs hmf (by omega) (by simpa using hxl) (fun i f hi=>hx i f (by simpa using hi)) (fun y hy p hp=>hS p (List.mem_flatMap.2 ⟨y,hy,hp⟩));exact⟨d,by simpa [rd] using hd⟩
 |pair t u iht ihu=>
  refine⟨fun T aH cs x hm=>hm.elim,fun fs off n cs xs hm hl hxl hx hS=>?_⟩;cases fs with
  |nil=>exact hm.elim
  |cons f fs=>
   obtain⟨h1,h2,h3,h4⟩:=hm;simp only [Ty.cells] at hl;cases xs with
   |nil=>simp at hxl
   |cons y ys=>
    have e0:=hx 0 f rfl;rw [h1,h2] at e0;obtain⟨d1,hd1⟩:=iht.1 f.type n _ y h3 e0 (hS y (by simp))
    have hrest:∃d:u.den,rd S W u d (cs.drop (off+t.cells)):=by
     rcases h4 with⟨g,rfl,g1,g2,g3⟩ |h4
     ·cases ys with
      |nil=>simp at hxl
      |cons z zs=>
       have e1:=hx 1 g rfl;rw [g1,g2] at e1;obtain⟨d2,hd2⟩:=ihu.1 g.type n _ z g3 e1 (hS z (by simp));rw [List.take_of_length_le (by rw [List.length_drop];omega)] at hd2;exact⟨d2,hd2⟩
     ·exact ihu.2 fs (off+t.cells) n cs ys h4 (by omega) (by simpa using hxl) (fun i g hi=>hx (i+1) g hi) (fun z hz=>hS z (by simp [hz]))
    obtain⟨d2,hd2⟩:=hrest;refine⟨(d1,d2),_,_,?_,hd1,hd2⟩;rw [←List.drop_drop,List.take_append_drop]
 |val=>exact⟨fun T aH cs x hm=>hm.elim,fun fs off n cs xs hm=>by cases fs <;> exact hm.elim⟩
 |arr _ _ _=>exact⟨fun T aH cs x hm=>hm.elim,fun fs off n cs xs hm=>by cases fs <;> exact hm.elim⟩
 |ptr _ _=>exact⟨fun T aH cs x hm=>hm.elim,fun fs off n cs xs hm=>by cases fs <;> exact hm.elim⟩
 |tag _ _=>exact⟨fun T aH cs x hm=>hm.elim,fun fs off n cs xs hm=>by cases fs <;> exact hm.elim⟩
 |ign=>exact⟨fun T aH cs x hm=>hm.elim,fun fs off n cs xs hm=>by cases fs <;> exact hm.elim⟩
 |alt _ _=>exact⟨fun T aH cs x hm=>hm.elim,fun fs off n cs xs hm=>by cases fs <;> exact hm.elim⟩
theorem H6{W:World}{S:FS}{base:Nat}{t:Ty}{T:TypeId}{v:Value}{d:t.den}(hm:MT P t (.inl T))(hv:Value.okWide P W .any base T v)(h:rd S W t d v.cells.toList):(A.rep t d).holds S W v:=by
 refine⟨_,h,?_⟩;cases t with
 |int k=>obtain⟨n,rfl⟩:=okWide_int hm hv;rfl
 |bool=>obtain⟨n,rfl⟩:=okWide_bool hm hv;rfl
 |slice t=>obtain⟨e,he,_⟩:=hm;obtain⟨a,l,c,rfl⟩:=okWide_slice he hv;rfl
 |agg t=>obtain⟨fs,hf,_⟩:=hm;obtain⟨cs,rfl,_⟩:=okWide_struct hf hv;simp [mk,Ty.isAgg,Value.cells]
 |val=>exact hm.elim
 |pair _ _=>exact hm.elim
 |arr _ _=>exact hm.elim
 |ptr _=>exact hm.elim
 |tag _ _=>exact hm.elim
 |ign=>exact hm.elim
 |alt _=>exact hm.elim
theorem As{W:World}{sp:Nat→Bool}:∀{ts:List TypeId} {vs:List Value} {ds:List (DataW H)} {ps:List MemPlace},DataW.TrodAll enc P W 0 sp true ts vs ds ps→ds.length=ts.length
 |[],[],[],_,_=>rfl
 |_::_,_::_,_::_,_,h=>by
  obtain⟨q,r,h1,h2,_⟩:=h
  simp [As h2]
 |[],_::_,_,_,h=>h.elim
 |[],[],_::_,_,h=>h.elim
 |_::_,[],_,_,h=>h.elim
 |_::_,_::_,[],_,h=>h.elim
theorem BQ{S:FS}{w:World}{a b:A}(hab:∀v,a.holds S w v→b.holds S w v):∀{as:List A} {vs:List Value} (i:Nat),as[i]? =some a→lG S w as vs→lG S w (as.set i b) vs
 |[],_,_,h,_=>by simp at h
 |x::as,vs,0,h,⟨v,vs',e,h1,h2⟩=>by
  simp at h
  subst h
  exact⟨v,vs',e,hab v h1,h2⟩
 |x::as,vs,i+1,h,⟨v,vs',e,h1,h2⟩=>⟨v,vs',e,h1,BQ hab i (by simpa using h) h2⟩
theorem Gu{P:Program}{M:Md P}{f:Nat}{as:List A}{Δ:List D}{X:Type}{R:X→A×List D}{k:IntKind}{d:Int}(i:Nat)(h:as[i]? =some (.rep (.int k) d))(hc:kE M f (as.set i (.eq (.int k d))) Δ R):kE M f as Δ R:=
 fun kk S w vs hd h2 ho=>hc kk S w vs hd (BQ (fun v hv=>by
  obtain⟨cs,h,e⟩:=hv
  simp only [rd] at h
  subst h
  exact e) i h h2) ho
def Lk:List (TypeId×Ty)→List A→Prop
 |[],as=>as=[]
 |p::l,as=>∃d as',as= .rep p.2 d::as'∧Lk l as'
theorem EG{W:World}{S:FS}{base:Nat}:∀{ts:List (TypeId×Ty)} {vs:List Value} {ds:List (DataW H)} {ps:List MemPlace},(∀p∈ts,MT P p.2 (.inl p.1))→(∀(j:Nat) t v,(ts.map (·.1))[j]? =some t→vs[j]? =some v→Value.okWide P W .any base t v)→
 DataW.TrodAll enc P W 0 (fun _=>true) true (ts.map (·.1)) vs ds ps→(∀p∈ps,S p.block)→∃as,Lk ts as∧lG S W as vs
 |[],[],[],_,_,_,_,_=>⟨[],rfl,rfl⟩
 |p::ts,v::vs,d::ds,ps,hm,hv,h,hS=>by
  obtain⟨q,r,⟨aH,h1⟩,h2,rfl⟩:=h
  obtain⟨a,ha⟩:=(CW p.2).1 p.1 aH _ _ (hm p (by simp)) h1 (fun x hx=>hS x (List.mem_append.2 (.inl hx)))
  obtain⟨as,hl,h3⟩:=EG (ts:=ts) (fun x hx=>hm x (by simp [hx])) (fun j t w h h'=>hv (j+1) t w h h') h2 (fun x hx=>hS x (List.mem_append.2 (.inr hx)))
  exact⟨.rep p.2 a::as,⟨a,as,rfl,hl⟩,v,vs,rfl,H6 (hm p (by simp)) (hv 0 _ _ rfl rfl) ha,h3⟩
 |[],_::_,_,_,_,_,h,_=>h.elim
 |[],[],_::_,_,_,_,h,_=>h.elim
 |_::_,[],_,_,_,_,h,_=>h.elim
 |_::_,_::_,[],_,_,_,h,_=>h.elim
theorem BS(FC:laidOutB P=true){W W':World}{sp:Nat→Bool}(hk:∀b,b < W.heap.size→W'.heap[b]? =W.heap[b]?):∀{ts:List TypeId} {vs:List Value} {ds:List (DataW H)} {ps:List MemPlace},(∀T∈ts,P.readableRec T=true∧T < P.types.size)→
 DataW.TrodAll enc P W 0 (fun _=>true) true ts vs ds ps→(∀p∈ps,p.block < W.heap.size∧sp p.block=true)→DataW.TrodAll enc P W' 0 sp true ts vs ds ps
 |[],[],[],_,_,h,_=>h
 |T::ts,v::vs,d::ds,ps,hT,h,hp=>by
  obtain⟨q,r,h1,h2,rfl⟩:=h
  obtain⟨t1,t2⟩:=hT T (by simp)
  refine⟨q,r,WideElems.Trod_stays FC t1 t2 h1 (fun p hq=>?_) (fun p hq=>(hp p (List.mem_append.2 (.inl hq))).2),BS FC hk (fun x hx=>hT x (by simp [hx])) h2 (fun p hq=>hp p (List.mem_append.2 (.inr hq))),rfl⟩
  have hb:=hk _ (hp p (List.mem_append.2 (.inl hq))).1
  cases p with
  |cell b off=>have hb:W'.heap[b]? =W.heap[b]? :=hb;simp only [World.sameAt,World.cell?,hb]
  |map b=>exact hb
 |[],_::_,_,_,_,h,_=>h.elim
 |[],[],_::_,_,_,h,_=>h.elim
 |_::_,[],_,_,_,h,_=>h.elim
 |_::_,_::_,[],_,_,h,_=>h.elim
theorem FZ{M:Md P}{f:Nat}{fn:Func}{B:TypeId}{s:ChangeSpec}(ts:List (TypeId×Ty))(hp:fn.params.toList=ts.map (·.1))(hr:fn.resultTypes= #[B])(hB:P.underlying B=some .bool)
 (hm:∀p∈ts,MT P p.2 (.inl p.1)) (FC:laidOutB P=true) (hT:∀T∈ts.map (·.1),P.readableRec T=true∧T < P.types.size)
 (hs:∀ds:List (DataW H),ds.length=ts.length→s.fn H ds={ results:=[.lit (.bool true)],args:=ds }) (hv:s.vars=[])
 (law:∀as,Lk ts as→kE M f as [] (fun _:Unit=>(bG [.eq (.bool true)],[])))
 (W:World) (base:Nat) (args:Array Value) (ds gs:List (DataW H)) (before:List MemPlace)
 (hval:∀(j:Nat) t v,fn.params[j]? =some t→args[j]? =some v→Value.okWide P W .any base t v)
 (hW:DataW.Whole enc P fn.params.toList s.vars false W args.toList ds gs before):
 nD M .normal f args (vw W) fun e W'=>∃v,e= .returned v∧∀v1,de W' v1→s.post enc P fn false true false false W args v v1.toWorld:=by
 have hW':=hW
 obtain⟨p,q,hA,hV,rfl,_,_⟩:=hW
 rw [hv] at hV
 obtain⟨rfl,rfl⟩:=trodVars_none hV
 have hlt:∀x∈p,x.block < W.heap.size:=hA.lt
 have hlen:=As hA
 rw [hp,List.length_map] at hlen
 rw [hp] at hA
 obtain⟨as,hL,h2⟩:=EG (S:=fun b=>b < W.heap.size) (base:=base) hm (fun j t v h1 h2=>hval j t v (by rw [←hp] at h1;simpa using h1) (by simpa using h2)) hA hlt
 have:=law as hL .normal (fun b=>b < W.heap.size) (vw W) args.toList (fun _ h=>h) h2 Hg
 rw [Array.toArray_toList] at this
 refine this.mono ?_
 rintro e' W' ⟨_,S',v,rfl,h1,h2,_,_⟩
 obtain rfl:v= .bool true:=h2
 refine⟨_,rfl,fun v1 hrel=>?_⟩
 replace h1:=h1.trans (bX.rely (X:=aS []) h1.dom hrel) fun b hb=>.inl hb
 obtain⟨k1,k2⟩:=E1 (may:=(· ∈p++[])) h1
 have hk:∀b,b < W.heap.size→v1.heap[b]? =W.heap[b]? :=fun b hb=>h1.keep b hb (fun hx=>hx) (fun hx=>iW hx)
 refine G8 (pa:=p) (pv:=[]) hW' (fun _ _ _=>?_) (fun sp hsp=>?_) (fun _ _=>?_) rfl k1 k2 (ok_one hr rfl (okWide_bool_mk hB _))
 ·
  rw [hr,List.append_nil,hs ds hlen];exact trodAll_mk1 (shut_bool hB _)
 ·
  rw [hp,List.append_nil,hs ds hlen];exact BS FC hk hT hA (fun x hx=>⟨hlt x hx,hsp x (by simpa using hx)⟩)
 ·
  rw [hv,List.append_nil,hs ds hlen];rfl
end
end K
end Go.Proofs.YtopgphikdglphaaGreat
namespace Go.Proofs.YtopgphikdglphaaGreat
namespace K
open Go
section
variable {c:Cx}{ops:Array Oper}{l:List Oper}{Q:Exit→Act→VW→Prop}{Γ:Ga}{Δ:List D}{r:A}{d s j:Nat}{C':Code}{o oj:Oper}{b g:Bool}{x y z:Operand}
theorem nt(h:JC c C' Q Γ Δ):JO c ops [] (cT (C'.wk c.M c.rd Q) Q) Γ Δ:=aT (a7 h)
theorem sr{id:Nat}{l:List Oper}(h:JO c l.toArray l (cT (C'.wk c.M c.rd Q) Q) Γ Δ):JC c (.seq (.region id l.toArray false) C') Q Γ Δ:=aj (ah h)
theorem sk(h:JC c C' Q Γ Δ):JC c .skip (cT (C'.wk c.M c.rd Q) Q) Γ Δ:=aU (a7 h)
theorem tn(h:JC c C' Q Γ Δ):JN c (cT (C'.wk c.M c.rd Q) Q .normal) Γ Δ:=a7 h
theorem fr(k:Nat){e:D}(hj:JO c ops l Q Γ (e::Δ.eraseIdx k))(h:Δ[k]? =some e:=by exact rfl):JO c ops l Q Γ Δ:=I8 k h hj
section
variable {C1 C2:Code}{p:Prop}[Decidable p]{α β:Type}{X Y:Option α}{K:α→Option β}{v:β}
theorem ci(h:(if p then X else Y).bind K=some v)(ht:X.bind K=some v→JC c C1 Q Γ Δ)(hf:Y.bind K=some v→JC c C2 Q Γ Δ)(hl:lk Γ s=some (.eq (.bool (decide p))):=by exact rfl):JC c (.cond (.tmp s) C1 C2) Q Γ Δ:=ku hl (fun hb=>ht (bY (oQ hb) h)) (fun hb=>hf (bj (oR hb) h))
theorem cn(h:(if¬p then X else Y).bind K=some v)(ht:X.bind K=some v→JC c C1 Q Γ Δ)(hf:Y.bind K=some v→JC c C2 Q Γ Δ)(hl:lk Γ s=some (.eq (.bool (!decide p))):=by exact rfl):JC c (.cond (.tmp s) C1 C2) Q Γ Δ:=ku hl (fun hb=>ht (bY (Ef hb) h)) (fun hb=>hf (bj (tu hb) h))
theorem cv(h:(if b=true then X else Y).bind K=some v)(ht:X.bind K=some v→JC c C1 Q Γ Δ)(hf:Y.bind K=some v→JC c C2 Q Γ Δ)(hl:lk Γ s=some (.eq (.bool b)):=by exact rfl):JC c (.cond (.tmp s) C1 C2) Q Γ Δ:=ku hl (fun hb=>ht (bY (uc hb) h)) (fun hb=>hf (bj (ud hb) h))
theorem cw(h:(if¬(b=true) then X else Y).bind K=some v)(ht:X.bind K=some v→JC c C1 Q Γ Δ)(hf:Y.bind K=some v→JC c C2 Q Γ Δ)(hl:lk Γ s=some (.eq (.bool (!b))):=by exact rfl):JC c (.cond (.tmp s) C1 C2) Q Γ Δ:=ku hl (fun hb=>ht (bY (uu hb) h)) (fun hb=>hf (bj (ox hb) h))
end
theorem mq{t:Nat}{ty:TypeId}{pos:String}{af:Array Edge}(h:JO c ops l Q ((d,r)::Γ) Δ)(hdN:Nat.blt d c.N=true:=by exact rfl)(hl:lk Γ t=some r:=by exact rfl):JO c ops (⟨some d,.move (.tmp t),ty,pos,af,none⟩::l) Q Γ Δ:=qN hdN hl h
theorem aq{t:Nat}{ty:TypeId}{pos:String}{af:Array Edge}(h:JO c ops l Q ((d,r)::Γ) Δ)(hdN:Nat.blt d c.N=true:=by exact rfl)(hl:lk Γ t=some r:=by exact rfl):JO c ops (⟨some d,.assign (.tmp t),ty,pos,af,none⟩::l) Q Γ Δ:=BX hdN hl h
theorem gn(h:JO c ops l Q ((d,.eq undef)::Γ) Δ)(hg:o.guard=some (j,g):=by exact rfl)(hj:ops[j]? =some oj:=by exact rfl)(hs:oj.dst=some s:=by exact rfl)(hl:lk Γ s=some (.eq (.bool b)):=by exact rfl)(hb:(b == g)=false:=by exact rfl)(hd:o.dst=some d:=by exact rfl)(hdN:Nat.blt d c.N=true:=by exact rfl):JO c ops (o::l) Q Γ Δ:=Ac hg hj hs hl hb hd hdN h
theorem cq{v:Value}{ty:TypeId}{pos:String}{af:Array Edge}(h:JO c ops l Q ((d,.eq v)::Γ) Δ)(hdN:Nat.blt d c.N=true:=by exact rfl):JO c ops (⟨some d,.assign (.const v),ty,pos,af,none⟩::l) Q Γ Δ:=OM hdN h
theorem pf{ty:TypeId}{pos:String}{af:Array Edge}(h:JO c ops l Q ((d,r)::Γ) Δ)(hdN:Nat.blt d c.N=true:=by exact rfl)(hh:cu Γ [(x,.eq (.bool false)),(z,r)]:=by exact⟨rfl,rfl,trivial⟩):JO c ops (⟨some d,.pick x y z,ty,pos,af,none⟩::l) Q Γ Δ:=dx hdN (dV rfl) hh h
theorem pt{ty:TypeId}{pos:String}{af:Array Edge}(h:JO c ops l Q ((d,r)::Γ) Δ)(hdN:Nat.blt d c.N=true:=by exact rfl)(hh:cu Γ [(x,.eq (.bool true)),(y,r)]:=by exact⟨rfl,rfl,trivial⟩):JO c ops (⟨some d,.pick x y z,ty,pos,af,none⟩::l) Q Γ Δ:=dx hdN (dw rfl) hh h
theorem gm(h:JO c ops l Q ((d,r)::Γ) Δ)(hg:o.guard=some (j,g):=by exact rfl)(hj:ops[j]? =some oj:=by exact rfl)(hs:oj.dst=some s:=by exact rfl)(hl:lk Γ s=some (.eq (.bool g)):=by exact rfl)(hd:o.dst=some d:=by exact rfl)(hdN:Nat.blt d c.N=true:=by exact rfl)(ho:o.op= .move x:=by exact rfl)(hh:cu Γ [(x,r)]:=by exact⟨rfl,trivial⟩):JO c ops (o::l) Q Γ Δ:=mz hg hj hs hl hd hdN (bg ho) hh h
theorem ja{N:List (Operand×A)}{op:Op}{ty:TypeId}{pos:String}{af:Array Edge}(ht:bZ c.M ⟨some d,op,ty,pos,af,none⟩ N [] (fun _:Unit=>(r,[])))(h:JO c ops l Q ((d,r)::Γ) Δ)(hdN:Nat.blt d c.N=true:=by exact rfl)(hh:cu Γ N:=by exact⟨rfl,trivial⟩):JO c ops (⟨some d,op,ty,pos,af,none⟩::l) Q Γ Δ:=dx hdN ht hh h
theorem ka{N:List (Operand×A)}{F:List D}{e e':D}(ht:bZ c.M o N [e] (fun _:Unit=>(r,[e'])))(h:JO c ops l Q ((d,r)::Γ) (e'::F))(hg:o.guard=none:=by exact rfl)(hd:o.dst=some d:=by exact rfl)(hdN:Nat.blt d c.N=true:=by exact rfl)(hh:cu Γ N:=by exact⟨rfl,trivial⟩):JO c ops (o::l) Q Γ (e::F):=xG hg hd hdN ht hh h
theorem ga{N:List (Operand×A)}(ht:bZ c.M o N [] (fun _:Unit=>(r,[])))(h:JO c ops l Q ((d,r)::Γ) Δ)(hg:o.guard=some (j,g):=by exact rfl)(hj:ops[j]? =some oj:=by exact rfl)(hs:oj.dst=some s:=by exact rfl)(hl:lk Γ s=some (.eq (.bool g)):=by exact rfl)(hd:o.dst=some d:=by exact rfl)(hdN:Nat.blt d c.N=true:=by exact rfl)(hh:cu Γ N:=by exact⟨rfl,trivial⟩):JO c ops (o::l) Q Γ Δ:=mz hg hj hs hl hd hdN ht hh h
theorem jb{N:List (Operand×A)}{op:Op}{ty:TypeId}{pos:String}{af:Array Edge}(ht:bZ c.M ⟨some d,op,ty,pos,af,none⟩ N [] (fun _:Unit=>(r,[])))(h:JO c ops l Q ((d,r)::Γ) Δ)(hdN:Nat.blt d c.N=true:=by exact rfl)(hh:cu Γ N:=by exact⟨rfl,rfl,trivial⟩):JO c ops (⟨some d,op,ty,pos,af,none⟩::l) Q Γ Δ:=dx hdN ht hh h
theorem kb{N:List (Operand×A)}{F:List D}{e e':D}(ht:bZ c.M o N [e] (fun _:Unit=>(r,[e'])))(h:JO c ops l Q ((d,r)::Γ) (e'::F))(hg:o.guard=none:=by exact rfl)(hd:o.dst=some d:=by exact rfl)(hdN:Nat.blt d c.N=true:=by exact rfl)(hh:cu Γ N:=by exact⟨rfl,rfl,trivial⟩):JO c ops (o::l) Q Γ (e::F):=xG hg hd hdN ht hh h
theorem gb{N:List (Operand×A)}(ht:bZ c.M o N [] (fun _:Unit=>(r,[])))(h:JO c ops l Q ((d,r)::Γ) Δ)(hg:o.guard=some (j,g):=by exact rfl)(hj:ops[j]? =some oj:=by exact rfl)(hs:oj.dst=some s:=by exact rfl)(hl:lk Γ s=some (.eq (.bool g)):=by exact rfl)(hd:o.dst=some d:=by exact rfl)(hdN:Nat.blt d c.N=true:=by exact rfl)(hh:cu Γ N:=by exact⟨rfl,rfl,trivial⟩):JO c ops (o::l) Q Γ Δ:=mz hg hj hs hl hd hdN ht hh h
theorem jc{N:List (Operand×A)}{op:Op}{ty:TypeId}{pos:String}{af:Array Edge}(ht:bZ c.M ⟨some d,op,ty,pos,af,none⟩ N [] (fun _:Unit=>(r,[])))(h:JO c ops l Q ((d,r)::Γ) Δ)(hdN:Nat.blt d c.N=true:=by exact rfl)(hh:cu Γ N:=by exact⟨rfl,rfl,rfl,trivial⟩):JO c ops (⟨some d,op,ty,pos,af,none⟩::l) Q Γ Δ:=dx hdN ht hh h
theorem kc{N:List (Operand×A)}{F:List D}{e e':D}(ht:bZ c.M o N [e] (fun _:Unit=>(r,[e'])))(h:JO c ops l Q ((d,r)::Γ) (e'::F))(hg:o.guard=none:=by exact rfl)(hd:o.dst=some d:=by exact rfl)(hdN:Nat.blt d c.N=true:=by exact rfl)(hh:cu Γ N:=by exact⟨rfl,rfl,rfl,trivial⟩):JO c ops (o::l) Q Γ (e::F):=xG hg hd hdN ht hh h
theorem gc{N:List (Operand×A)}(ht:bZ c.M o N [] (fun _:Unit=>(r,[])))(h:JO c ops l Q ((d,r)::Γ) Δ)(hg:o.guard=some (j,g):=by exact rfl)(hj:ops[j]? =some oj:=by exact rfl)(hs:oj.dst=some s:=by exact rfl)(hl:lk Γ s=some (.eq (.bool g)):=by exact rfl)(hd:o.dst=some d:=by exact rfl)(hdN:Nat.blt d c.N=true:=by exact rfl)(hh:cu Γ N:=by exact⟨rfl,rfl,rfl,trivial⟩):JO c ops (o::l) Q Γ Δ:=mz hg hj hs hl hd hdN ht hh h
end
section
variable {c:Cx}{Q:Exit→Act→VW→Prop}{Γ Γ0:Ga}{Δ:List D}{full l:List Oper}{acc:List DE}{id d j s:Nat}{r:A}{g b m:Bool}{o oj:Oper}{x:Operand}
theorem dg(h:DN c id full Q Γ0 Δ (acc++[⟨o,d,[(.tmp s,.eq (.bool b))],.eq undef,none,false,fun _=>[]⟩]) l ((d,.eq undef)::Γ) m)(hg:o.guard=some (j,g):=by exact rfl)(hj:full.toArray[j]? =some oj:=by exact rfl)(hs:oj.dst=some s:=by exact rfl)(hl:lk Γ s=some (.eq (.bool b)):=by exact rfl)(hb:(b == g)=false:=by exact rfl)(hd:o.dst=some d:=by exact rfl)(hdN:Nat.blt d c.N=true:=by exact rfl):DN c id full Q Γ0 Δ acc (o::l) Γ m:=LD hg hj hs hl hb hd hdN h
theorem dm(h:DN c id full Q Γ0 Δ (acc++[⟨o,d,[(x,r)],r,none,false,fun _=>[]⟩]) l ((d,r)::Γ) m)(hg:o.guard=none:=by exact rfl)(hd:o.dst=some d:=by exact rfl)(hdN:Nat.blt d c.N=true:=by exact rfl)(ho:o.op= .move x:=by exact rfl)(hh:cu Γ [(x,r)]:=by exact⟨rfl,trivial⟩):DN c id full Q Γ0 Δ acc (o::l) Γ m:=nB hg hd hdN (bg ho) hh h
theorem da{N:List (Operand×A)}(ht:bZ c.M o N [] (fun _:Unit=>(r,[])))(h:DN c id full Q Γ0 Δ (acc++[⟨o,d,N,r,none,false,fun _=>[]⟩]) l ((d,r)::Γ) m)(hg:o.guard=none:=by exact rfl)(hd:o.dst=some d:=by exact rfl)(hdN:Nat.blt d c.N=true:=by exact rfl)(hh:cu Γ N:=by exact⟨rfl,trivial⟩):DN c id full Q Γ0 Δ acc (o::l) Γ m:=nB hg hd hdN ht hh h
theorem ea(k:Nat){e:D}{N:List (Operand×A)}(ht:bZ c.M o N [e] (fun _:Unit=>(r,[e])))(h:DN c id full Q Γ0 Δ (acc++[⟨o,d,N,r,some (k,false),false,fun _=>[]⟩]) l ((d,r)::Γ) m)(hk:Δ[k]? =some e:=by exact rfl)(hg:o.guard=none:=by exact rfl)(hd:o.dst=some d:=by exact rfl)(hdN:Nat.blt d c.N=true:=by exact rfl)(hh:cu Γ N:=by exact⟨rfl,trivial⟩):DN c id full Q Γ0 Δ acc (o::l) Γ m:=Ag k hk hg hd hdN ht hh h
theorem db{N:List (Operand×A)}(ht:bZ c.M o N [] (fun _:Unit=>(r,[])))(h:DN c id full Q Γ0 Δ (acc++[⟨o,d,N,r,none,false,fun _=>[]⟩]) l ((d,r)::Γ) m)(hg:o.guard=none:=by exact rfl)(hd:o.dst=some d:=by exact rfl)(hdN:Nat.blt d c.N=true:=by exact rfl)(hh:cu Γ N:=by exact⟨rfl,rfl,trivial⟩):DN c id full Q Γ0 Δ acc (o::l) Γ m:=nB hg hd hdN ht hh h
theorem eb(k:Nat){e:D}{N:List (Operand×A)}(ht:bZ c.M o N [e] (fun _:Unit=>(r,[e])))(h:DN c id full Q Γ0 Δ (acc++[⟨o,d,N,r,some (k,false),false,fun _=>[]⟩]) l ((d,r)::Γ) m)(hk:Δ[k]? =some e:=by exact rfl)(hg:o.guard=none:=by exact rfl)(hd:o.dst=some d:=by exact rfl)(hdN:Nat.blt d c.N=true:=by exact rfl)(hh:cu Γ N:=by exact⟨rfl,rfl,trivial⟩):DN c id full Q Γ0 Δ acc (o::l) Γ m:=Ag k hk hg hd hdN ht hh h
theorem dc{N:List (Operand×A)}(ht:bZ c.M o N [] (fun _:Unit=>(r,[])))(h:DN c id full Q Γ0 Δ (acc++[⟨o,d,N,r,none,false,fun _=>[]⟩]) l ((d,r)::Γ) m)(hg:o.guard=none:=by exact rfl)(hd:o.dst=some d:=by exact rfl)(hdN:Nat.blt d c.N=true:=by exact rfl)(hh:cu Γ N:=by exact⟨rfl,rfl,rfl,trivial⟩):DN c id full Q Γ0 Δ acc (o::l) Γ m:=nB hg hd hdN ht hh h
theorem ec(k:Nat){e:D}{N:List (Operand×A)}(ht:bZ c.M o N [e] (fun _:Unit=>(r,[e])))(h:DN c id full Q Γ0 Δ (acc++[⟨o,d,N,r,some (k,false),false,fun _=>[]⟩]) l ((d,r)::Γ) m)(hk:Δ[k]? =some e:=by exact rfl)(hg:o.guard=none:=by exact rfl)(hd:o.dst=some d:=by exact rfl)(hdN:Nat.blt d c.N=true:=by exact rfl)(hh:cu Γ N:=by exact⟨rfl,rfl,rfl,trivial⟩):DN c id full Q Γ0 Δ acc (o::l) Γ m:=Ag k hk hg hd hdN ht hh h
theorem ER{Δ':List D}(hck:chk full acc=true)(hm:c.P.follows .mixedOrders=true)(hΔ:qB.keepFrom acc 0 Δ++nS acc=Δ')(h:JO c full.toArray l Q Γ Δ'):DN c id full Q Γ0 Δ acc l Γ m:=LE hck hm (hΔ▸h)
end
abbrev I(e:Int):A:=.eq (.int .i64 e)
abbrev Pt(b:Nat):A:=.eq (.pointer (some ⟨b,0,none⟩))
abbrev Ri(l:(Ty.slice (.int .i64)).den):A:=.rep (.slice (.int .i64)) l
section
variable {c:Cx}{ops:Array Oper}{l:List Oper}{Q:Exit→Act→VW→Prop}{Γ:Ga}{Δ F:List D}{r:A}{d s j:Nat}{C C':Code}{o oj:Oper}{b g m:Bool}{x y z:Operand}{T U:TypeId}{M M1 M2 M3:Act→VW→Prop}{id:Nat}{acc:List DE}{full:List Oper}{Γ0:Ga}
theorem jz{Z:Type}{G:Z→Ga}{E:Z→List D}{p:Z→Prop}(z:Z)(hp:p z)(ks:List Nat)(hs:Lj (G z) Γ:=by repeat (first |exact trivial |refine⟨rfl,?_⟩))(hk:iI Δ ks=some (E z):=by exact rfl)(hn:ks.Nodup:=by decide):JN c (fun a w=>∃z,p z∧St c (G z) (E z) a w) Γ Δ:=yl z hp (SE.fin ks hs hk hn)
theorem nl(h:JN c M Γ Δ):JO c ops [] (cT M Q) Γ Δ:=aT (a7 h)
theorem xa(h:JN c M3 Γ Δ):JC c (.exit id) (cT M1 (cT M2 (nz id (cT M3 Q)))) Γ Δ:=eD (bf (bf (cg (a7 h))))
theorem rx(h:JN c (Q .ret) Γ Δ):JC c .ret (cT M Q) Γ Δ:=aG (aR h)
theorem br(h:JN c (Q .ret) Γ Δ):JN c (nz id (cT M (cT M1 Q)) .ret) Γ Δ:=aV (aR (aR h))
theorem bn(h:JN c M Γ Δ):JN c (nz id (cT M Q) .normal) Γ Δ:=aO (a7 h)
theorem gu(h:JO c ops l Q ((d,.eq undef)::Γ) Δ)(hg:o.guard=some (j,g):=by exact rfl)(hj:ops[j]? =some oj:=by exact rfl)(hs:oj.dst=some s:=by exact rfl)(hl:lk Γ s=some (.eq undef):=by exact rfl)(hd:o.dst=some d:=by exact rfl)(hdN:Nat.blt d c.N=true:=by exact rfl):JO c ops (o::l) Q Γ Δ:=Lr hg hj hs hl hd hdN h
theorem du(h:DN c id full Q Γ0 Δ (acc++[⟨o,d,[(.tmp s,.eq undef)],.eq undef,none,false,fun _=>[]⟩]) l ((d,.eq undef)::Γ) m)(hg:o.guard=some (j,g):=by exact rfl)(hj:full.toArray[j]? =some oj:=by exact rfl)(hs:oj.dst=some s:=by exact rfl)(hl:lk Γ s=some (.eq undef):=by exact rfl)(hd:o.dst=some d:=by exact rfl)(hdN:Nat.blt d c.N=true:=by exact rfl):DN c id full Q Γ0 Δ acc (o::l) Γ m:=Jm hg hj hs hl hd hdN h
theorem df(hm:c.P.follows .mixedOrders=true)(h:JO c full.toArray l Q Γ Δ)(hck:chk full acc=true:=by kernel_rfl)(ht:m=true:=by rfl):DN c id full Q Γ0 Δ acc l Γ m:=NE hck hm h ht
theorem bx(h:∀b:Nat,JO c ops l Q ((d,.eq (.pointer (some ⟨b,0,none⟩)))::Γ) (.obj b T r::Δ))(hg:o.guard=none:=by exact rfl)(hd:o.dst=some d:=by exact rfl)(hdN:Nat.blt d c.N=true:=by exact rfl)(ho:o.op= .box T x:=by exact rfl)(hh:cu Γ [(x,r)]:=by exact⟨rfl,trivial⟩)(hs:r.stor:=by exact rfl):JO c ops (o::l) Q Γ Δ:=aA hg hd hdN (D8 ho hs) hh h
theorem lo{k off n:Nat}{T0:TypeId}{a0:A}(ht:fX c.P T n b)(h:JO c ops l Q ((d,r)::Γ) (.obj k T0 a0::F))(hg:o.guard=none:=by exact rfl)(hd:o.dst=some d:=by exact rfl)(hdN:Nat.blt d c.N=true:=by exact rfl)(ho:o.op= .load T x:=by exact rfl)(hh:cu Γ [(x,.eq (.pointer (some ⟨k,off,none⟩)))]:=by exact⟨rfl,trivial⟩)(hget:a0.get off n b=some r:=by exact rfl)(hn:b=false→n=1:=by first |exact fun _=>rfl |exact fun h=>nomatch h):JO c ops (o::l) Q Γ (.obj k T0 a0::F):=xG hg hd hdN (ai ho ht hn hget) hh h
theorem fl{k off n f:Nat}{ty:TypeId}{pos:String}{af:Array Edge}(hf:a9 c.P T f n)(h:JO c ops l Q ((d,.eq (.pointer (some ⟨k,off+n,none⟩)))::Γ) Δ)(hdN:Nat.blt d c.N=true:=by exact rfl)(hh:cu Γ [(x,.eq (.pointer (some ⟨k,off,none⟩)))]:=by exact⟨rfl,trivial⟩):JO c ops (⟨some d,.fieldAddr T x f,ty,pos,af,none⟩::l) Q Γ Δ:=dx hdN (am rfl hf) hh h
theorem xr{i t:Nat}{a0:A}{ty:TypeId}{pos:String}{af:Array Edge}(h:JO c ops l Q ((d,r)::Γ) Δ)(hdN:Nat.blt d c.N=true:=by exact rfl)(hl:lk Γ t=some (.tup a0):=by exact rfl)(hi:uh a0 i=some r:=by exact rfl):JO c ops (⟨some d,.extract (.tmp t) i,ty,pos,af,none⟩::l) Q Γ Δ:=dx hdN (fa rfl hi) ⟨hl,trivial⟩ h
theorem ol{t:Ty}{q:List t.den}{e:TypeId}{ty:TypeId}{pos:String}{af:Array Edge}(hT:c.P.underlying T=some (.slice e))(h:JO c ops l Q ((d,.eq (.int .i64 q.length))::Γ) Δ)(hdN:Nat.blt d c.N=true:=by exact rfl)(hh:cu Γ [(x,.rep (.slice t) q)]:=by exact⟨rfl,trivial⟩):JO c ops (⟨some d,.call { callee:=.builtin .len,args:= #[x],argTypes:= #[T] },ty,pos,af,none⟩::l) Q Γ Δ:=dx hdN (mD rfl rfl hT) hh h
end
section
variable {P:Program}{M:Md P}{S:FS}{w0:VW}{Γ:Ga}{Δ Δ0:List D}{N:Nat}{fn:Func}{R:Unit→A×List D}{r r':A}
theorem ra(hr:yY P Γ Δ fn.results.toList [r]:=by exact⟨rfl,trivial⟩)(hR:R ()=(bG [r],Δ.take 0):=by exact rfl):JN ⟨P,N,S,w0,aS Δ0,none,[],M⟩ (c9 P fn (fU S w0 Δ0 R) .ret) Γ Δ:=aZ () [_] 0 hr hR
theorem rb(hr:yY P Γ Δ fn.results.toList [r,r']:=by exact⟨rfl,rfl,trivial⟩)(hR:R ()=(bG [r,r'],Δ.take 0):=by exact rfl):JN ⟨P,N,S,w0,aS Δ0,none,[],M⟩ (c9 P fn (fU S w0 Δ0 R) .ret) Γ Δ:=aZ () [_,_] 0 hr hR
end
def zx(vs:Nat→Value):Nat→List (List Int)→List D
 |_,[]=>[]
 |j,l::ls=>.sl (vs j) 3 (.int .i64) l::zx vs (j+1) ls
def Gv(vs:Nat→Value):Nat→List (List Int)→List Value
 |_,[]=>[]
 |j,_::ls=>vs j::Gv vs (j+1) ls
theorem sU{vs:Nat→Value}:∀{ls:List (List Int)} {j:Nat},(Gv vs j ls).length=ls.length
 |[],_=>rfl
 |_::ls,_=>by rw [Gv,List.length_cons,sU,List.length_cons]
section
variable {c:Cx}{ops:Array Oper}{l:List Oper}{Q:Exit→Act→VW→Prop}{Γ Γ':Ga}{Δ Δ' F:List D}
theorem tY{junk:List D}(hs:Lj Γ' Γ)(hp:Δ.Perm (Δ'++junk)):SE c Γ Δ Γ' Δ':=fun a w h=>by
 obtain⟨h1,h2,S,h3,h4,h5,h6⟩:=h.perm hp
 have hm:∀d∈Δ',d∈Δ'++junk:=fun d hd=>List.mem_append.2 (.inl hd)
 exact⟨h1,h2,S,h3,fun b ⟨d,hd,e⟩=>h4 b ⟨d,hm d hd,e⟩,h5.part,fun s r hl=>h6 s r (hs.lk hl)⟩
theorem GG{S S':FS}{w:World}{vs:Nat→Value}(hSS:∀b,S b→S' b):∀{ls:List (List Int)} {j:Nat} {cs:List Value},(∀d∈zx vs j ls,d.holds S w∧∀b,d.foot=some b→S' b)→dp (rd S w .val) (Gv vs j ls) cs→dp (rd S' w (.slice (.int .i64))) ls cs
 |[],_,_,_,h=>h
 |l::ls,j,cs,hd,h=>by
  obtain⟨c1,c2,rfl,⟨rfl,_⟩,h2⟩:=h
  refine⟨[vs j],c2,rfl,?_,GG hSS (fun d hm=>hd d (List.mem_cons_of_mem _ hm)) h2⟩
  obtain⟨g1,g2⟩:=hd _ (List.mem_cons_self ..)
  rcases g1 with⟨e,rfl⟩ |⟨b,cap,cc,e,q1,q1',q2,q3,q4⟩
  ·
   rw [e];exact .inl ⟨none,0,rfl,rfl⟩
  ·
   have hb:S' b:=g2 b (by rw [D.foot,e];rfl)
   rw [e]
   refine .inr ⟨b,0,cap,cc,3,(0,0),rfl,q1,hb,q2,?_⟩
   rw [List.drop_zero]
   exact cp (fun _ _ h=>eZ hSS (fun _ _=>rfl) (.int .i64) h) q4
theorem NJ{z:Value}{vs:Nat→Value}{ls:List (List Int)}{T:TypeId}:SE c Γ (.sl z T .val (Gv vs 0 ls)::(zx vs 0 ls++F)) Γ (.sl z T (.slice (.int .i64)) ls::F):=fun a w h=>by
 obtain⟨h1,h2,S,h3,h4,h5,h6⟩:=h
 have hK:jZ S w w:=fun _ _=>rfl
 have hp:=List.pairwise_cons.1 h5.apart
 obtain⟨pO,pF,pOF⟩:=List.pairwise_append.1 hp.2
 have hmO:∀d∈zx vs 0 ls,d∈D.sl z T .val (Gv vs 0 ls)::(zx vs 0 ls++F):=fun d hd=>List.mem_cons_of_mem _ (List.mem_append.2 (.inl hd))
 have hmF:∀d∈F,d∈D.sl z T .val (Gv vs 0 ls)::(zx vs 0 ls++F):=fun d hd=>List.mem_cons_of_mem _ (List.mem_append.2 (.inr hd))
 have hft:∀b,aS (zx vs 0 ls) b→aS (D.sl z T .val (Gv vs 0 ls)::(zx vs 0 ls++F)) b:=fun b ⟨d,hd,e⟩=>⟨d,hmO d hd,e⟩
 refine⟨h1,h2,fun x=>S x∨aS (zx vs 0 ls) x,⟨fun x hx=>.inl (h3.sub x hx),fun x hx=>?_,fun x hx=>?_,h3.size,h3.keep,h3.os,h3.tape,h3.output,h3.subA,h3.oldA,h3.Z⟩,fun x ⟨e,he,hb⟩=>?_,h5.re ⟨fun e he=>?_,fun x ⟨e,he,hb⟩=>?_,?_⟩ (fun x ⟨e,he,hb⟩=>by
  rcases List.mem_cons.1 he with rfl |he
  ·
   exact⟨_,List.mem_cons_self ..,hb⟩
  ·
   exact⟨e,hmF e he,hb⟩) (fun x (hx:S x∨aS (zx vs 0 ls) x)=>hx.imp id (hft x)),fun s r hl=>A.mono (fun _ h=>.inl h) hK r (h6 s r hl)⟩
 ·
  rcases hx with hx |hx
  ·
   exact h3.new x hx
  ·
   exact .inr ((h4 x (hft x hx)).symm)
 ·
  rcases hx with hx |hx
  ·
   exact h3.dom x hx
  ·
   exact(h5.own x (hft x hx)).2
 ·
  rcases List.mem_cons.1 he with rfl |he
  ·
   exact h4 x ⟨_,List.mem_cons_self ..,hb⟩
  ·
   exact h4 x ⟨e,hmF e he,hb⟩
 ·
  rcases List.mem_cons.1 he with rfl |he
  ·
   rcases h5.holds _ (List.mem_cons_self ..) with⟨e,hl⟩ |⟨b,cap,cc,e,q1,q1',q2,q3,q4⟩
   ·
    refine .inl ⟨e,?_⟩
    have:=congrArg List.length hl
    rw [sU] at this
    exact List.eq_nil_of_length_eq_zero this
   ·
    rw [sU] at e q1 q4
    refine .inr ⟨b,cap,cc,e,q1,q1',q2,q3,?_⟩
    exact GG (S:=S) (fun _ h=>.inl h) (fun d hd=>⟨h5.holds d (hmO d hd),fun b hb=>.inr ⟨d,hd,hb⟩⟩) q4
  ·
   exact dL (fun _ h=>.inl h) hK e (fun _ _=>rfl) (h5.holds e (hmF e he))
 ·
  have hx:aS (D.sl z T .val (Gv vs 0 ls)::(zx vs 0 ls++F)) x∧¬aS (zx vs 0 ls) x:=by
   rcases List.mem_cons.1 he with rfl |he
   ·exact⟨⟨_,List.mem_cons_self ..,hb⟩,fun⟨d,hd,hb'⟩=>hp.1 d (List.mem_append.2 (.inl hd)) x hb hb'⟩
   ·exact⟨⟨e,hmF e he,hb⟩,fun⟨d,hd,hb'⟩=>pOF d hd e he x hb' hb⟩
  have h7:=h5.own x hx.1;exact⟨fun h=>h.elim h7.1 hx.2,h7.2⟩
 ·exact List.pairwise_cons.2 ⟨fun d hd b e=>hp.1 d (List.mem_append.2 (.inr hd)) b e,pF⟩
end
theorem Ie{z:Value}{vs:Nat→Value}{ls:List (List Int)}{T:TypeId}{S:FS}{w:World}(h5:jq (.sl z T .val (Gv vs 0 ls)::zx vs 0 ls) S w):jq [.sl z T (.slice (.int .i64)) ls] (fun x=>S x∨aS (zx vs 0 ls) x) w:=by
 have hp:=List.pairwise_cons.1 h5.apart;refine⟨fun e he=>?_,fun x ⟨e,he,hb⟩=>?_,List.pairwise_singleton _ _⟩
 ·simp only [List.mem_cons,List.not_mem_nil,or_false] at he;subst he;rcases h5.holds _ (List.mem_cons_self ..) with⟨e,hl⟩ |⟨b,cap,cc,e,q1,q1',q2,q3,q4⟩
  ·refine .inl ⟨e,?_⟩;have:=congrArg List.length hl;rw [sU] at this;exact List.eq_nil_of_length_eq_zero this
  ·rw [sU] at e q1 q4;refine .inr ⟨b,cap,cc,e,q1,q1',q2,q3,?_⟩;exact GG (S:=S) (fun _ h=>.inl h) (fun d hd=>⟨h5.holds d (List.mem_cons_of_mem _ hd),fun b hb=>.inr ⟨d,hd,hb⟩⟩) q4
 ·simp only [List.mem_cons,List.not_mem_nil,or_false] at he;subst he;have h7:=h5.own x ⟨_,List.mem_cons_self ..,hb⟩;exact⟨fun h=>h.elim h7.1 fun⟨d,hd,hb'⟩=>hp.1 d hd x hb hb',h7.2⟩
theorem NG{P:Program}{f:Nat}{as:List A}{T:TypeId}{r:List (List Int)}(h:bQ P f as [] (fun z:Value×(Nat→Value)=>(bG [.eq z.1],.sl z.1 T .val (Gv z.2 0 r)::zx z.2 0 r))):
 bQ P f as [] (fun z:Value=>(bG [.eq z],[.sl z T (.slice (.int .i64)) r])):=fun M k S w vs hd hall hO=>(h M k S w vs hd hall hO).mono fun _ _ hh=>by
 obtain⟨x,S',v,he,g1,g2,g3,g4⟩:=hh
 have hft:∀b,aS (zx x.2 0 r) b→aS (.sl x.1 T .val (Gv x.2 0 r)::zx x.2 0 r) b:=fun b ⟨d,hd,e⟩=>⟨d,List.mem_cons_of_mem _ hd,e⟩
 refine⟨x.1,fun b=>S' b∨aS (zx x.2 0 r) b,v,he,⟨fun b hb=>.inl (g1.sub b hb),fun b hb=>?_,fun b hb=>?_,g1.size,g1.keep,g1.os,g1.tape,g1.output,g1.subA,g1.oldA,g1.Z⟩,g2,g3.re (Ie g3.p) (fun b ⟨d,hd,e⟩=>by
  rw [List.mem_singleton.1 hd] at e
  exact⟨_,List.mem_cons_self ..,e⟩) (fun b (hb:S' b∨aS (zx x.2 0 r) b)=>hb.imp id (hft b)),fun b ⟨d,hd,e⟩=>?_⟩
 ·
  rcases hb with hb |hb
  ·
   exact g1.new b hb
  ·
   exact .inr ((g4 b (hft b hb)).symm)
 ·
  rcases hb with hb |hb
  ·
   exact g1.dom b hb
  ·
   exact(g3.own b (hft b hb)).2
 ·
  simp only [List.mem_cons,List.not_mem_nil,or_false] at hd
  subst hd
  exact g4 b ⟨_,List.mem_cons_self ..,e⟩
theorem te{L:List D}:L.Perm (L++[]):=by rw [List.append_nil]
section
variable {P:Program}{M:Md P}{o:Oper}{x y:Operand}{T T':TypeId}
end
section
variable {P:Program}{M:Md P}{o:Oper}{x y:Operand}{T e:TypeId}{t:Ty}
end
section
variable {c:Cx}{ops:Array Oper}{Q:Exit→Act→VW→Prop}{Γ:Ga}{Δ:List D}{n:Nat}{L:List Bool}
theorem JB{P:Program}{M:Md P}{v:VW}{a:Act}{o:Oper}{K:Act→VW→Prop}{r:Result Next}(hh:GI M v o a K (cT K Q) r):GI M v o a K Q r:=by
 cases r with
 |ok x w'=>
  cases x <;> simp only [GI] at hh⊢ <;> first
   |exact hh
   |exact nD.mono hh (fun e v'' he=>by cases e <;> exact he)
   |exact qQ.mono hh (fun e v'' he=>by cases e <;> exact he)
 |halt x w'=>cases x <;> simp only [GI] at hh⊢ <;> exact hh
theorem Cm{o:Oper}{i:Nat}{K:Act→VW→Prop}{a:Act}{w:VW}(ho:ops[i]? =some o)(st:St c Γ Δ a w)(h:JO c ops [o] (cT K Q) Γ Δ):pR c.M c.rd ops Q i K a w:=by
 have h1:=h a w st;unfold pR;rw [ho];simp only [EU] at h1⊢;split
 ·rename_i hw;rw [if_pos hw] at h1;have h2:o.wk c.M c.rd a w K (cT K Q):=h1;exact fun v1 hr=>⟨(h2 v1 hr).1,JB (h2 v1 hr).2⟩
 ·rename_i hw;rw [if_neg hw] at h1;exact h1
def JD(c:Cx)(ops:Array Oper)(Q:Exit→Act→VW→Prop)(n:Nat)(L:List Bool)(Γ:Ga)(Δ:List D):Prop:=∀a w,St c Γ Δ a w→jj c.M c.rd .any ops Q n L.toArray a w
def ee(c:Cx)(ops:Array Oper)(Q:Exit→Act→VW→Prop)(n:Nat)(L:List Bool)(Γ:Ga)(Δ:List D):List Nat→Prop
 |[]=>True
 |i::l=>(∃o,ops[i]? =some o∧JO c ops [o] (cT (fun a w=>jj c.M c.rd .any ops Q n (L.set i true).toArray a w) Q) Γ Δ)∧ee c ops Q n L Γ Δ l
theorem ee.mem{l:List Nat}(h:ee c ops Q n L Γ Δ l):∀i∈l,∃o,ops[i]? =some o∧JO c ops [o] (cT (fun a w=>jj c.M c.rd .any ops Q n (L.set i true).toArray a w) Q) Γ Δ:=by
 induction l with
 |nil=>intro i hi;simp at hi
 |cons x l ih=>
  intro i hi;rcases List.mem_cons.1 hi with rfl |hi
  ·exact h.1
  ·exact ih h.2 i hi
theorem Jd{id:Nat}(hm:c.P.follows .mixedOrders=true)(hn:ops.size=n)(h:JD c ops Q n (List.replicate n false) Γ Δ):JC c (.region id ops true) Q Γ Δ:=fun a w st=>nU hm fun v1 hr=>by
 have:=h a _ (st.drew hr)
 rw [hn]
 rwa [List.toArray_replicate] at this
theorem JD.step(rdy:List Nat)(hr:Region.ready .any ops L.toArray=rdy)(hne:rdy.isEmpty=false)(h:ee c ops Q n L Γ Δ rdy):JD c ops Q (n+1) L Γ Δ:=fun a w st=>by
 subst hr
 refine⟨fun e=>(by rw [e] at hne;simp at hne),fun i hi=>?_⟩
 obtain⟨o,ho,hj⟩:=h.mem i hi
 have:=Cm ho st hj
 simpa using this
theorem JD.nil(hr:Region.ready .any ops L.toArray=[])(h:JN c (Q .normal) Γ Δ):JD c ops Q 0 L Γ Δ:=fun a w st=>⟨hr,h a w st⟩
theorem BZ{I:Type}{Ge:I→Ga}{De:I→List D}{id:Nat}(hm:c.P.follows .mixedOrders=true)(hn:ops.size=n)
 (h:∀J:Nat→List Bool→Ga→List D→Prop,J=JD c ops Q→(∀i,J 0 L (Ge i) (De i))→J n (List.replicate n false) Γ Δ) (hr:Region.ready .any ops L.toArray=[]) (he:∀i,JN c (Q .normal) (Ge i) (De i)):JC c (.region id ops true) Q Γ Δ:=
 Jd hm hn (h _ rfl fun i=>JD.nil hr (he i))
theorem ee.cons{i:Nat}{o:Oper}{l:List Nat}(ho:ops[i]? =some o)(h:JO c ops [o] (cT (fun a w=>jj c.M c.rd .any ops Q n (L.set i true).toArray a w) Q) Γ Δ)(hl:ee c ops Q n L Γ Δ l):ee c ops Q n L Γ Δ (i::l):=⟨⟨o,ho,h⟩,hl⟩
theorem JD.to{M:Exit→Act→VW→Prop}(h:JD c ops Q n L Γ Δ):JN c (cT (fun a w=>jj c.M c.rd .any ops Q n L.toArray a w) M .normal) Γ Δ:=fun a w st=>h a w st
theorem aQ{M:Exit→Act→VW→Prop}{Γ':Ga}{Δ':List D}(j:JD c ops Q n L Γ' Δ')(ks:List Nat)(hs:Lj Γ' Γ)(hk:iI Δ ks=some Δ':=by rfl)(hn:ks.Nodup:=by decide):JO c ops [] (cT (fun a w=>jj c.M c.rd .any ops Q n L.toArray a w) M) Γ Δ:=aT (bC (SE.fin ks hs hk hn) j.to)
end
end K
end Go.Proofs.YtopgphikdglphaaGreat
namespace Go.Proofs.YtopgphikdglphaaGreat
namespace K
open Go Go.Conc
def blk:Loc→Option Nat
 | .cell a=>some a.block
 | .obj b=>some b
 |_=>none
theorem xc{v:VW}{n b:Nat}{e:Event}(h:qP v n e)(hb:blk e.loc=some b):b < n∧¬v.A b∧(e.write=true→¬v.Z b):=by
 unfold qP at h;unfold blk at hb;split at h
 ·rename_i a ha;rw [ha] at hb;cases hb;exact h.2
 ·rename_i r hr;rw [hr] at hb;cases hb;exact h.2
 ·rename_i m hm;rw [hm] at hb;cases hb
 ·exact h.elim
theorem K7{l:Loc}(h:l.isMemory=true):∃b,blk l=some b:=by
 cases l <;> first |exact⟨_,rfl⟩ |cases h
structure Tr(n z:Nat)(t:Trace):Prop where
 words:Wordless t
 num:∀op∈t,op.g < n
 race:∀said,¬Race said t
 inb:∀j x b,touchAt t j=some x→blk x.loc=some b→b < z
def kj(t:Trace)(g:Nat):Prop:=∀i x,touchAt t i=some x→Knows t g i
theorem C4{v:VW}{n i:Nat}{fn:FuncId}{pos:String}{es:Array Event}(h:∀e∈es,qP v n e):∀op∈MemOp.ofEvents i fn pos es,op.g=i∧(∀m,op.act= .mark m→Neutral m)∧(∀x,op.act.touch? =some x→∃e∈es,x=⟨e.loc,e.write,.plain⟩):=by
 intro op hop;unfold MemOp.ofEvents at hop;split at hop
 ·simp at hop
 ·obtain⟨e,he,rfl⟩:=Array.mem_map.1 hop;refine⟨rfl,?_,?_⟩
  ·intro m hm;have h0:=h e he;obtain⟨l,wr,sy⟩:=e;unfold qP at h0;cases l with
   |cell a=>simp [MemAct.ofEvent] at hm
   |obj b=>
    obtain⟨rfl,_⟩:=h0;cases wr <;> simp [MemAct.ofEvent] at hm
   |mark m'=>
    simp only [MemAct.ofEvent,MemAct.mark.injEq] at hm;have h0:m'= .noRoom:=h0;subst hm h0;simp [Neutral]
   |_=>exact h0.elim
  ·intro x hx;have h0:=h e he;refine⟨e,he,?_⟩;obtain⟨l,wr,sy⟩:=e;unfold qP at h0;cases l with
   |cell a=>
    obtain⟨rfl,_⟩:=h0;simpa [MemAct.ofEvent,MemAct.touch?,eq_comm] using hx
   |obj b=>
    obtain⟨rfl,_⟩:=h0;cases wr <;> simpa [MemAct.ofEvent,MemAct.touch?,eq_comm] using hx
   |mark m'=>
    have h0:m'= .noRoom:=h0;subst h0;simp [MemAct.ofEvent,MemAct.touch?] at hx
   |_=>exact h0.elim
theorem Tr.mono{n n' z:Nat}{t:Trace}(h:Tr n z t)(hn:n≤n'):Tr n' z t:=⟨h.words,fun op ho=>Nat.lt_of_lt_of_le (h.num op ho) hn,h.race,h.inb⟩
theorem Tr.step{v:VW}{n k i z:Nat}{t:Trace}{fn:FuncId}{pos:String}{es:Array Event}(h:Tr n z t)(hz:z≤k)(hi:i < n)(he:∀e∈es,qP v k e)
 (hk:∀j x,touchAt t j=some x→∀e∈es,x.loc=e.loc→x.loc.isMemory=true→(x.write=true∨e.write=true)→Knows t i j):Tr n k (t++MemOp.ofEvents i fn pos es):=by
 have ho:=C4 (i:=i) (fn:=fn) (pos:=pos) he
 refine⟨h.words.append fun op hop m hm=>(ho op hop).2.1 m hm,fun op hop=>?_,fun said=>?_,fun j x b hx hb=>?_⟩
 ·
  rcases Array.mem_append.1 hop with hop |hop
  ·exact h.num op hop
  ·rw [(ho op hop).1];exact hi
 ·
  refine noRace_append (g:=i) (h.race said) (fun op hop=>(ho op hop).1) fun j x hx op hop y hy hc=>?_;obtain⟨e,hem,rfl⟩:=(ho op hop).2.2 y hy;obtain⟨c1,c2,c3,_⟩:=hc;exact hk j x hx e hem c1 c2 (by simpa using c3)
 ·
  obtain⟨op,hop,hxa⟩:=touch_of hx;rcases getElem?_append_cases hop with⟨_,hop'⟩ |⟨_,hu⟩
  ·exact Nat.lt_of_lt_of_le (h.inb j x b (by rw [touchAt_of hop'];exact hxa) hb) hz
  ·obtain⟨e,hem,rfl⟩:=(ho op hu).2.2 x hxa;exact(xc (he e hem) hb).1
theorem kj.step{v:VW}{k i:Nat}{t:Trace}{fn:FuncId}{pos:String}{es:Array Event}(h:kj t i)(he:∀e∈es,qP v k e):kj (t++MemOp.ofEvents i fn pos es) i:=by
 intro j x hx;obtain⟨op,hop,hxa⟩:=touch_of hx;rcases getElem?_append_cases hop with⟨hj,hop'⟩ |⟨_,hu⟩
 ·exact(h j x (by rw [touchAt_of hop'];exact hxa)).app _
 ·have:=knows_own hop;rwa [(C4 (i:=i) (fn:=fn) (pos:=pos) he op hu).1] at this
section
variable (P:Program)(Post:Value→World→Prop)
def yk(m:Machine)(t:Trace):Prop:=∃n last o w' t',runNT P (n+1) m t=(.ended o w',t')∧runN P n m= .next last∧step P last= .ended o w'∧Conc.Good P Post last o w' t'
variable {P Post}
theorem yk.next{m m':Machine}{t:Trace}{ops:Array MemOp}(hs:stepT P m=(.next m',ops))(h:yk P Post m' (t++ops)):yk P Post m t:=by
 obtain⟨n,last,o,w',t',h1,h2,h3,h4⟩:=h;exact⟨n+1,last,o,w',t',by rw [runNT_succ_next hs];exact h1,by rw [runN_succ_next hs];exact h2,h3,h4⟩
end
def aH(k:Nat→Nat):Nat→Nat
 |0=>0
 |n+1=>aH k n+k n
theorem Bn{k:Nat→Nat}{i x:Nat}:∀{n:Nat},n≤i→aH (fun j=>if j=i then x else k j) n=aH k n
 |0,_=>rfl
 |n+1,h=>by
  simp only [aH]
  rw [Bn (by omega),if_neg (by omega)]
theorem uJ{k:Nat→Nat}{i x:Nat}(hx:x < k i):∀{n:Nat},i < n→aH (fun j=>if j=i then x else k j) n < aH k n
 |n+1,h=>by
  simp only [aH]
  by_cases e:n=i
  ·
   subst e
   rw [Bn (Nat.le_refl _),if_pos rfl]
   omega
  ·
   have:=uJ hx (n:=n) (by omega)
   rw [if_neg e]
   omega
def Ab(P:Program)(gs:Array Goroutine)(k:Nat→Nat):Prop:=∀i g,0 < i→gs[i]? =some g→QuitsIn P (k i) g
def qM(P:Program)(Post:Value→World→Prop):Tq:=fun v fr cs=>
 ∀v1,de v v1→∀(gs:Array Goroutine) (sl:Option (Nat×Nat)) (t:Trace) (k:Nat→Nat),gs[0]? =some (Gr fr cs)→Ab P gs k→Tr gs.size v1.heap.size t→kj t 0→yk P Post (crowd gs v1.toWorld sl) t
section
variable {P:Program}{Post:Value→World→Prop}
theorem CZ{gs:Array Goroutine}{k:Nat→Nat}{g0:Goroutine}(h0:gs[0]? =some g0)(hr:g0.status= .running)(hq:Ab P gs k):∀g∈gs,awake g:=fun g hg=>by
 obtain⟨i,hi,rfl⟩:=Array.getElem_of_mem hg
 have e:gs[i]? =some gs[i]:=Array.getElem?_eq_getElem hi
 rcases Nat.eq_zero_or_pos i with rfl |hp
 ·
  rw [h0] at e
  cases e
  exact awake_of (.inl hr)
 ·
  have:=(hq i _ hp e).status
  exact awake_of (this.elim .inl fun h=>.inr (.inr h))
theorem sW{gs:Array Goroutine}{i j:Nat}{g g' x:Goroutine}{w':World}(hi:gs[i]? =some g)(h:((gs.map (woken P g g' w')).setIfInBounds i g')[j]? =some x):(j=i∧x=g')∨(j≠i∧∃y,gs[j]? =some y∧x=woken P g g' w' y):=by
 have hlt:=(Array.getElem?_eq_some_iff.1 hi).1;by_cases e:i=j
 ·subst e;simp [hlt] at h;exact .inl ⟨rfl,h.symm⟩
 ·rw [Array.getElem?_setIfInBounds_ne e,Array.getElem?_map] at h;obtain⟨y,hy,rfl⟩:=Option.map_eq_some_iff.1 h;exact .inr ⟨fun e'=>e e'.symm,y,hy,rfl⟩
theorem rV{gs:Array Goroutine}{i:Nat}{g g':Goroutine}{w':World}(hi:gs[i]? =some g):((gs.map (woken P g g' w')).setIfInBounds i g')[i]? =some g':=by
 have hlt:=(Array.getElem?_eq_some_iff.1 hi).1;simp [hlt]
theorem oY{gs:Array Goroutine}{i j:Nat}{g g' y:Goroutine}{w':World}(hne:j≠i)(hj:gs[j]? =some y)(hy:woken P g g' w' y=y):((gs.map (woken P g g' w')).setIfInBounds i g')[j]? =some y:=by
 rw [Array.getElem?_setIfInBounds_ne (fun e=>hne e.symm),Array.getElem?_map,hj];simp [hy]
theorem wM{v:VW}{fr:Frame}{cs:List Frame}
 (h:∀v1,de v v1→∀(gs:Array Goroutine) (sl:Option (Nat×Nat)) (t:Trace) (k:Nat→Nat),gs[0]? =some (Gr fr cs)→Ab P gs k→Tr gs.size v1.heap.size t→kj t 0→
  ∀d sl0,stepT P (crowd gs (v1.toWorld.at d) sl0)=runT P (crowd gs v1.toWorld sl) 0→yk P Post (crowd gs (v1.toWorld.at d) sl0) t):qM P Post v fr cs:=by
 have key:∀N,∀v1,de v v1→∀(gs:Array Goroutine) (sl:Option (Nat×Nat)) (t:Trace) (k:Nat→Nat),aH k gs.size≤N→gs[0]? =some (Gr fr cs)→Ab P gs k→Tr gs.size v1.heap.size t→kj t 0→yk P Post (crowd gs v1.toWorld sl) t:=by
  intro N
  induction N using Nat.strongRecOn with
  |_ N ih=>
   intro v1 hr gs sl t k hN h0 hq ht hk;obtain⟨i,g,d,sl',hi,hg,hst⟩:=crowd_pick (P:=P) (w:=v1.toWorld) (sl:=sl) (CZ h0 rfl hq) ⟨0,_,h0,rfl⟩;have hr':de v (v1.upd (v1.toWorld.at d)):=hr.trans (de.drawn v1 d);rcases Nat.eq_zero_or_pos i with rfl |hp
   ·exact h _ hr' gs sl' t k h0 hq ht hk v1.drawn sl hst
   ·have hqi:=hq i g hp hi;cases hki:k i with
    |zero=>
     rw [hki] at hqi;have hqi:g.status= .finished:=hqi;rw [hqi] at hg;cases hg
    |succ n=>
     rw [hki] at hqi;rcases hqi with hf |⟨_,g',hw,hq'⟩
     ·rw [hf] at hg;cases hg
     ·have hi0:(i == 0)=false:=by simp;omega
      have hgo:=runT_crowd_go (sl:=sl') hi (by rw [hi0];exact hw (v1.toWorld.at d));rw [←hst] at hgo;refine yk.next hgo ?_;rw [ofEvents_none,Array.append_empty];have hlt:=(Array.getElem?_eq_some_iff.1 hi).1;have hsz:((gs.map (woken P g g' (v1.toWorld.at d))).setIfInBounds i g').size=gs.size:=by simp
      refine ih (aH (fun j=>if j=i then n else k j) gs.size) (Nat.lt_of_lt_of_le (uJ (by omega) hlt) hN) (v1.upd (v1.toWorld.at d)) hr' _ sl' t (fun j=>if j=i then n else k j) (by rw [hsz];exact Nat.le_refl _) ?_ ?_ (by rw [hsz];exact ht) hk
      ·exact oY (by omega) h0 (woken_running rfl)
      ·intro j x hj hx;rcases sW hi hx with⟨rfl,rfl⟩ |⟨hne,y,hy,rfl⟩
       ·simpa using hq'
       ·show QuitsIn P (if j=i then n else k j) _;rw [if_neg hne,woken_quits (hq j y hj hy)];exact hq j y hj hy
 intro v1 hr gs sl t k h0 hq ht hk
 exact key _ v1 hr gs sl t k (Nat.le_refl _) h0 hq ht hk
theorem qM.bc:BC P (qM P Post) where
 rely v v1 fr cs hr h v2 hr':=h v2 (hr.trans hr')
 step v fr cs h:=wM fun v1 hr gs sl t k h0 hq ht hk d sl0 hm=>by
  obtain⟨fr',cs',w',es,h1,h2,h3⟩:=h v1 hr
  have hgo:=runT_crowd_go (sl:=sl) h0 (by exact h1 (0 == 0))
  rw [←hm] at hgo
  refine yk.next hgo ?_
  have hsz:((gs.map (woken P (Gr fr cs) (Gr fr' cs') w')).setIfInBounds 0 (Gr fr' cs')).size=gs.size:=by simp
  refine h3 (v1.upd w') (de.refl _) _ sl _ k (rV h0) ?_ ?_ (hk.step h2.evs)
  ·
   intro j x hj hx
   rcases sW h0 hx with⟨rfl,rfl⟩ |⟨hne,y,hy,rfl⟩
   ·
    exact absurd hj (Nat.lt_irrefl _)
   ·
    rw [woken_quits (hq j y hj hy)];exact hq j y hj hy
  ·
   rw [hsz]
   exact ht.step h2.size (by have:=(Array.getElem?_eq_some_iff.1 h0).1;omega) h2.evs fun j x hx _ _ _ _ _=>hk j x hx
theorem CS{gs:Array Goroutine}{w w':World}{sl:Option (Nat×Nat)}{i:Nat}{g:Goroutine}{o:Outcome}{es:Array Event}(hi:gs[i]? =some g)(h:stepG P (i == 0) g w= .ended o w' es):
 runT P (crowd gs w sl) i=(.ended o w',MemOp.ofEvents i g.frame.fn g.frame.place es):=by
 obtain⟨hlt,rfl⟩:=Array.getElem?_eq_some_iff.1 hi
 have hsw:=swapAt_of_lt hlt { (default:Goroutine) with status:=.finished }
 show runT P { world:=w,gs:=gs,rest:={ timers:= #[],alone:=none,slice:=sl } } i=_
 unfold runT
 simp only [hsw,h,GStep.es]
theorem M8{fr:Frame}{w:World}{x:Value}{fn:Func}(h1:fr.mode= .returning)(h2:fr.defers=[])(hk:fr.kind= .normal)(hin:P.inits.idxOf? fr.fn=none)(h3:P.funcs[fr.fn]? =some fn)(h4:(results fn fr.tmps).run P w= .ok x w):
 stepG P true (Gr fr []) w= .ended (.done x) w (seen P fr.fn ((results fn fr.tmps).events P w #[])):=by
 simp [stepG,unwind,h1,h2,h3,h4,doReturn,hk,hin,GStep.after]
theorem FG{t:Trace}(h:kj t 0):t.HandedOver:=by
 rintro i g hg hne ⟨x,hx,_⟩;obtain⟨q,z,h1,h2,h3⟩:=h i x hx;refine⟨q,by simp [Trace.g?,h1,h2],?_⟩;rcases h3 with rfl |h3
 ·simp only [Trace.g?,h1,Option.map_some,Option.some.injEq] at hg;exact absurd (hg.symm.trans h2) hne
 ·exact h3
theorem Ff{gs:Array Goroutine}{w:World}{sl:Option (Nat×Nat)}{k:Nat→Nat}(hq:Ab P gs k):(crowd gs w sl).OnlyLeaving P:=by
 refine⟨fun g hg=>?_,rfl⟩;obtain⟨j,hj⟩:=List.mem_iff_getElem?.1 hg;rw [List.getElem?_drop] at hj
 have hj':gs[1+j]? =some g:=by
  have:(crowd gs w sl).gs.toList[1+j]? =some g:=hj;rwa [show(crowd gs w sl).gs=gs from rfl,Array.getElem?_toList] at this
 exact⟨k (1+j),(hq _ g (by omega) hj').leaves⟩
theorem Fg{gs:Array Goroutine}{w:World}{sl:Option (Nat×Nat)}{k:Nat→Nat}{t:Trace}(hq:Ab P gs k)(ht:Wordless t):(crowd gs w sl).EndHearing P t:=by
 intro i g hg hne;rw [ht.deaf];exact⟨k i,(hq i g (by omega) hg).hears _ 0⟩
theorem qM.ret{v:VW}{fr:Frame}{x:Value}(hl:Lv P fr v (.returned x))(hk0:fr.kind= .normal)(hin:P.inits.idxOf? fr.fn=none)(hp:∀v1,de v v1→Post x v1.toWorld):qM P Post v fr []:=by
 obtain⟨l1,l2,fn,l3,l4⟩:=hl;refine wM fun v1 hr gs sl t k h0 hq ht hk d sl0 hst=>?_;obtain⟨r1,r2⟩:=l4 v1 hr;have hend:=CS (sl:=sl) h0 (M8 l1 l2 hk0 hin l3 r1);rw [←hst] at hend;have r3:∀e∈seen P fr.fn ((results fn fr.tmps).events P v1.toWorld #[]),qP v1 v1.heap.size e:=fun e he=>r2.evs e (Conc.mem_seen he);have htr:=ht.step (Nat.le_refl _) (i:=0) (fn:=fr.fn) (pos:=fr.place) (by have:=(Array.getElem?_eq_some_iff.1 h0).1;omega) r3 fun j x hx _ _ _ _ _=>hk j x hx;have hka:=hk.step (fn:=fr.fn) (pos:=fr.place) r3;exact⟨0,crowd gs (v1.toWorld.at d) sl0,.done x,v1.toWorld,_,by simp [runNT,hend],rfl,by simp [step,hend],x,rfl,hp v1 hr,htr.race,FG hka,Ff hq,Fg hq htr.words⟩
end
structure Gl(P:Program)(T:Tq)(Gd:Machine→Trace→Prop):Prop where
 next:∀m m' t ops,stepT P m=(.next m',ops)→Gd m' (t++ops)→Gd m t
 fin:∀v fr cs,T v fr cs→∀gs sl t k,gs[0]? =some (Gr fr cs)→Ab P gs k→Tr gs.size v.heap.size t→kj t 0→Gd (crowd gs v.toWorld sl) t
def Ep(P:Program)(T:Tq):Prop:=∀v fr cs,(∀Gd,Gl P T Gd→∀v1,de v v1→∀gs sl t k,gs[0]? =some (Gr fr cs)→Ab P gs k→Tr gs.size v1.heap.size t→kj t 0→Gd (crowd gs v1.toWorld sl) t)→T v fr cs
def BV(P:Program):Md P:=⟨fun T=>BC P T∧Ep P T,fun _ h=>h.1⟩
theorem qM.ok{P:Program}{Post:Value→World→Prop}:(BV P).ok (qM P Post):=
 ⟨qM.bc,fun v fr cs h v1 hr gs sl t k h0 hq ht hk=>h (yk P Post) ⟨fun _ _ _ _ hs hw=>yk.next hs hw,fun v' fr' cs' hT gs sl t k h0 hq ht hk=>hT v' (de.refl v') gs sl t k h0 hq ht hk⟩ v1 hr gs sl t k h0 hq ht hk⟩
theorem JA{P:Program}{Post:Value→World→Prop}{f:FuncId}{args:Array Value}{W:World}(hin:P.inits.idxOf? f=none)
 (h:nD (BV P) .normal f args (vw W) fun e v'=>∃x,e= .returned x∧∀v1,de v' v1→Post x v1.toWorld):
 ∃M last o w' t',runNT P (M+1) (solo (G (Frame.enter P f args .normal) []) W) #[]=(.ended o w',t')∧runN P M (solo (G (Frame.enter P f args .normal) []) W)= .next last∧step P last= .ended o w'∧Conc.Good P Post last o w' t':=by
 have hT:qM P Post (vw W) (Frame.enter P f args .normal) []:=h _ qM.ok [] fun e v' fr ⟨x,he,hp⟩ hf hk hl=>by
  subst he;exact qM.ret hl hk (by rw [hf];exact hin) hp
 have hno:∀i x,touchAt (#[]:Trace) i=some x→False:=fun i x hx=>by simp [touchAt,Trace.act?] at hx
 exact hT (vw W) (de.refl _) #[G (Frame.enter P f args .normal) []] none #[] (fun _=>0) rfl (fun i g hi hg=>by
  have:i=0:=by
   rcases Nat.lt_or_ge i 1 with h |h
   ·omega
   ·rw [Array.getElem?_eq_none (by simpa using h)] at hg;cases hg
  omega) ⟨fun op ho=>by simp at ho,fun op ho=>by simp at ho,fun said ⟨i,j,_,⟨a,b,ha,_⟩,_⟩=>(hno i a ha).elim,fun j x b hx _=>(hno j x hx).elim⟩ fun i x hx=>(hno i x hx).elim
section
variable {α:Type}(r:α→α→Prop)
def Sb(b a:α):Prop:=∀x,r x b→r x a
def Dn(n:Nat)(s' s:Nat→α):Prop:=∃i,i < n∧r (s' i) (s i)∧∀j,j < n→j≠i→Sb r (s' j) (s j)
variable {r}
theorem Sb.refl(a:α):Sb r a a:=fun _ h=>h
theorem Sb.trans{a b c:α}(h:Sb r c b)(h':Sb r b a):Sb r c a:=fun x hx=>h' x (h x hx)
theorem Iu:∀(n:Nat) (s:Nat→α),(∀i,i < n→Acc r (s i))→Acc (Dn r n) s
 |0,s,_=>Acc.intro s fun s' ⟨i,hi,_⟩=>absurd hi (Nat.not_lt_zero i)
 |n+1,s,h=>by
  have key:∀a,Acc r a→∀s0,Acc (Dn r n) s0→∀s,Sb r (s n) a→(∀j,j < n→Sb r (s j) (s0 j))→Acc (Dn r (n+1)) s:=by
   intro a ha
   induction ha with
   |intro a _ ih1=>
    intro s0 h0
    induction h0 with
    |intro s0 h0 ih2=>
     intro s hn hs;refine Acc.intro s fun s' ⟨i,hi,h1,h2⟩=>?_;by_cases e:i=n
     ·subst e;exact ih1 (s' i) (hn _ h1) s0 (Acc.intro s0 h0) s' (Sb.refl _) fun j hj=>(h2 j (by omega) (by omega)).trans (hs j hj)
     ·have hin:i < n:=by omega
      refine ih2 s' ⟨i,hin,hs i hin _ h1,fun j hj hne=>(h2 j (by omega) hne).trans (hs j hj)⟩ s' ((h2 n (by omega) (fun e'=>e e'.symm)).trans hn) fun j _=>Sb.refl _
  exact key (s n) (h n (Nat.lt_succ_self n)) s (Iu n s fun i hi=>h i (by omega)) s (Sb.refl _) fun j _=>Sb.refl _
end
inductive Wk(P:Program)(Sp:VW→Frame→List Frame→Prop):VW→Frame→List Frame→Prop
 |stop {v:VW} {fr:Frame} {cs:List Frame} (h:∀v1,de v v1→Sp v1 fr cs):Wk P Sp v fr cs
 |step {v:VW} {fr:Frame} {cs:List Frame} (f:VW→Frame) (c:VW→List Frame) (w:VW→World) (es:VW→Array Event)
  (h1:∀v1,de v v1→∀main,stepG P main (Gr fr cs) v1.toWorld= .go (Gr (f v1) (c v1)) (w v1) (es v1)) (h2:∀v1,de v v1→iD v1 (w v1) (es v1))
  (h3:∀v1,de v v1→Wk P Sp (v1.upd (w v1)) (f v1) (c v1)):Wk P Sp v fr cs
theorem Wk.rely{P:Program}{Sp:VW→Frame→List Frame→Prop}{v v':VW}{fr:Frame}{cs:List Frame}(hr:de v v')(h:Wk P Sp v fr cs):Wk P Sp v' fr cs:=by
 cases h with
 |stop h=>exact .stop fun v1 h1=>h v1 (hr.trans h1)
 |step f c w es h1 h2 h3=>exact .step f c w es (fun v1 h=>h1 v1 (hr.trans h)) (fun v1 h=>h2 v1 (hr.trans h)) fun v1 h=>h3 v1 (hr.trans h)
theorem Wk.bc{P:Program}{Sp:VW→Frame→List Frame→Prop}:BC P (Wk P Sp) where
 rely _ _ _ _ hr h:=h.rely hr
 step v fr cs h:=by
  classical
  refine .step (fun v1=>if hr:de v v1 then Classical.choose (h v1 hr) else fr) (fun v1=>if hr:de v v1 then Classical.choose (Classical.choose_spec (h v1 hr)) else cs)
   (fun v1=>if hr:de v v1 then Classical.choose (Classical.choose_spec (Classical.choose_spec (h v1 hr))) else v1.toWorld) (fun v1=>if hr:de v v1 then Classical.choose (Classical.choose_spec (Classical.choose_spec (Classical.choose_spec (h v1 hr)))) else #[])
   (fun v1 hr=>?_) (fun v1 hr=>?_) (fun v1 hr=>?_)
  ·simp only [dif_pos hr];exact(Classical.choose_spec (Classical.choose_spec (Classical.choose_spec (Classical.choose_spec (h v1 hr))))).1
  ·simp only [dif_pos hr];exact(Classical.choose_spec (Classical.choose_spec (Classical.choose_spec (Classical.choose_spec (h v1 hr))))).2.1
  ·simp only [dif_pos hr];exact(Classical.choose_spec (Classical.choose_spec (Classical.choose_spec (Classical.choose_spec (h v1 hr))))).2.2
def wr(P:Program):Option (VW×Frame×List Frame)→Option (VW×Frame×List Frame)→Prop
 |_,none=>False
 |none,some _=>True
 |some x',some x=>∃v1 w' es,de x.1 v1∧(∀main,stepG P main (Gr x.2.1 x.2.2) v1.toWorld= .go (Gr x'.2.1 x'.2.2) w' es)∧x'.1=v1.upd w'
theorem ze{P:Program}:Acc (wr P) none:=Acc.intro _ fun y hy=>by cases y <;> exact hy.elim
theorem Wk.acc{P:Program}{Sp:VW→Frame→List Frame→Prop}(hsp:∀v fr cs,Sp v fr cs→∀g w es,stepG P false (Gr fr cs) v.toWorld≠.go g w es){v:VW}{fr:Frame}{cs:List Frame}(h:Wk P Sp v fr cs):Acc (wr P) (some (v,fr,cs)):=by
 induction h with
 | @stop v fr cs h=>
  refine Acc.intro _ fun y hy=>?_;cases y with
  |none=>exact ze
  |some y=>
   obtain⟨v1,w',es,h1,h2,_⟩:=hy;exact absurd (h2 false) (hsp v1 fr cs (h v1 h1) _ _ _)
 | @step v fr cs f c w es h1 h2 h3 ih=>
  refine Acc.intro _ fun y hy=>?_;cases y with
  |none=>exact ze
  |some y=>
   obtain⟨v1,w',es',g1,g2,g3⟩:=hy;have e:=(g2 false).symm.trans (h1 v1 g1 false);simp only [GStep.go.injEq,Goroutine.mk.injEq] at e;obtain⟨⟨e1,e2,_⟩,e3,_⟩:=e;obtain⟨y1,y2,y3⟩:=y;dsimp only at e1 e2 g3;subst e1 e2 e3 g3;exact ih v1 g1
theorem Jw{P:Program}{v v':VW}{fr:Frame}{cs:List Frame}(hr:de v v'):Sb (wr P) (some (v',fr,cs)) (some (v,fr,cs)):=fun y hy=>by
 cases y with
 |none=>trivial
 |some y=>
  obtain⟨v1,w',es,h1,h2,h3⟩:=hy
  exact⟨v1,w',es,hr.trans h1,h2,h3⟩
inductive WS where
 |run |park |quit
 deriving DecidableEq
def Jt(P:Program)(c:Nat)(x:Value)(v:VW)(fr:Frame)(cs:List Frame):Prop:=
 ∃g2 z es n,stepG P false (Gr fr cs) v.toWorld= .comm g2 #[scase c x z] true .send v.toWorld es∧(∀e∈es,qP v v.heap.size e)∧QuitsIn P n (Conc.served g2 undef)
theorem IU{P:Program}{c:Nat}{x:Value}(v:VW)(fr:Frame)(cs:List Frame)(h:Jt P c x v fr cs)(g:Goroutine)(w:World)(es:Array Event):stepG P false (Gr fr cs) v.toWorld≠.go g w es:=by
 obtain⟨g2,z,es',n,h1,_⟩:=h;rw [h1];simp
def OI(P:Program)(c:Nat)(x:Value)(v:VW)(g:Goroutine)(k:Nat):WS→Prop
 | .run=>∃fr cs,g=Gr fr cs∧Wk P (Jt P c x) v fr cs
 | .park=>∃g0 z,g=parked g0 #[scase c x z] .send∧QuitsIn P k (Conc.served g0 undef)
 | .quit=>QuitsIn P k g
structure CI(P:Program)(cf cb:Nat)(sd:Nat→Nat×Value)(n:Nat)(ws:Nat→WS)(k:Nat→Nat)(A Z:Nat→Nat→Prop)(gs:Array Goroutine)(w:World)(t:Trace):Prop where
 size:gs.size=n
 tr:Tr n w.heap.size t
 domA:∀i b,A i b→b < w.heap.size
 domZ:∀i b,Z i b→b < w.heap.size
 cover:∀i j b,i < n→j < n→i≠j→b < w.heap.size→¬A i b→¬A j b→Z i b∧Z j b
 knows:∀i j x b,i < n→(i=0∨ws i≠.quit)→touchAt t j=some x→blk x.loc=some b→¬A i b→(x.write=true∨¬Z i b)→Knows t i j
 kn:∀j op x,t[j]? =some op→op.act.touch? =some x→Knows t 0 j∨(0 < op.g∧ws op.g≠.quit)
 sts:∀i g,0 < i→gs[i]? =some g→OI P (sd i).1 (sd i).2 ⟨w,A i,Z i⟩ g (k i) (ws i)
 chans:∀c,c=cf∨c=cb→∃s,w.heap[c]? =some (.chan 0 #[] false s s false)
 chanA:∀c,c=cf∨c=cb→∀i,A i c
 chn:∀i,ws i≠.quit→(sd i).1=cf∨(sd i).1=cb
def yd(A:Nat→Nat→Prop)(i n n':Nat):Nat→Nat→Prop:=fun j b=>A j b∨(j≠i∧n≤b∧b < n')
theorem wS{A:Nat→Nat→Prop}{i n n':Nat}:yd A i n n' i=A i:=by
 funext b;simp [yd]
section
variable {P:Program}{cf cb:Nat}{sd:Nat→Nat×Value}{n:Nat}{ws:Nat→WS}{k:Nat→Nat}{A Z:Nat→Nat→Prop}{gs:Array Goroutine}{w w':World}{t:Trace}
theorem CI.others(h:CI P cf cb sd n ws k A Z gs w t){i j:Nat}{es:Array Event}(hi:i < n)(hj:j < n)(hne:j≠i)(hG:iD ⟨w,A i,Z i⟩ w' es):de ⟨w,A j,Z j⟩ ⟨w',yd A i w.heap.size w'.heap.size j,Z j⟩ where
 keep b hb ha:=by
  refine hG.keep b hb ?_;by_cases h1:A i b
  ·exact .inl h1
  ·exact .inr (h.cover i j b hi hj (fun e=>hne e.symm) hb h1 ha).1
 size:=hG.size
 sub b hb:=.inl hb
 old b hb:=hb.imp id fun x=>x.2.1
 dom hd b hb:=by
  rcases hb with hb |hb
  ·exact Nat.lt_of_lt_of_le (hd b hb) hG.size
  ·exact hb.2.2
 Z:=rfl
 os:=hG.os
 tape:=hG.tape
 output:=hG.output
theorem CI.chanK(h:CI P cf cb sd n ws k A Z gs w t){i:Nat}{es:Array Event}(hG:iD ⟨w,A i,Z i⟩ w' es){c:Nat}(hc:c=cf∨c=cb):w'.heap[c]? =w.heap[c]? :=
 hG.keep c (h.domA i c (h.chanA c hc i)) (.inl (h.chanA c hc i))
theorem CI.woken(h:CI P cf cb sd n ws k A Z gs w t)(hch:∀c,c=cf∨c=cb→w'.heap[c]? =w.heap[c]?){j:Nat}{x g g':Goroutine}(hj:0 < j)(hx:gs[j]? =some x):Conc.woken P g g' w' x=x:=by
 have hs:=h.sts j x hj hx;cases hw:ws j with
 |run=>
  rw [hw] at hs;obtain⟨fr,cs,rfl,_⟩:=hs;exact woken_running rfl
 |park=>
  rw [hw] at hs;obtain⟨g0,z,rfl,_⟩:=hs;have hc:=h.chn j (by rw [hw];simp);obtain⟨s,hs⟩:=h.chans _ hc;exact woken_send_open _ _ ((hch _ hc).trans hs)
 |quit=>
  rw [hw] at hs;exact woken_quits hs
theorem CI.gen(h:CI P cf cb sd n ws k A Z gs w t){i:Nat}{fn:FuncId}{pos:String}{es:Array Event}{ws':Nat→WS}{k':Nat→Nat}{gs':Array Goroutine}(hin:i < n)(hG:iD ⟨w,A i,Z i⟩ w' es)(hsz:gs'.size=n)
 (hq:∀j,ws' j= .quit↔ws j= .quit) (hi:0 < i→ws i≠.quit)
 (hst:∀j x,0 < j→gs'[j]? =some x→OI P (sd j).1 (sd j).2 ⟨w',yd A i w.heap.size w'.heap.size j,Z j⟩ x (k' j) (ws' j)):
 CI P cf cb sd n ws' k' (yd A i w.heap.size w'.heap.size) Z gs' w' (t++MemOp.ofEvents i fn pos es):=by
 have hops:=C4 (i:=i) (fn:=fn) (pos:=pos) hG.evs
 refine⟨hsz,h.tr.step hG.size hin hG.evs fun j x hx e he hl hm hwr=>?_,fun j b hb=>?_,fun j b hb=>Nat.lt_of_lt_of_le (h.domZ j b hb) hG.size,fun i1 j1 b hi1 hj1 hne hb h1 h2=>?_,fun i1 j x b hi1 ha1 hx hb hA hZ=>?_,fun j op x hop hx=>?_,hst,fun c hc=>?_,fun c hc j=>.inl (h.chanA c hc j),fun j hj=>h.chn j fun e=>hj ((hq j).2 e)⟩
 ·
  obtain⟨b,hb⟩:=K7 hm;have:=xc (hG.evs e he) (hl▸hb);exact h.knows i j x b hin ((Nat.eq_zero_or_pos i).imp id hi) hx hb this.2.1 (hwr.imp id this.2.2)
 ·
  rcases hb with hb |hb
  ·exact Nat.lt_of_lt_of_le (h.domA j b hb) hG.size
  ·exact hb.2.2
 ·
  have hlt:b < w.heap.size:=by
   rcases Nat.lt_or_ge b w.heap.size with hlt |hge
   ·exact hlt
   ·exfalso;by_cases e:i1=i
    ·exact h2 (.inr ⟨fun e'=>hne (e.trans e'.symm),hge,hb⟩)
    ·exact h1 (.inr ⟨e,hge,hb⟩)
  exact h.cover i1 j1 b hi1 hj1 hne hlt (fun x=>h1 (.inl x)) fun x=>h2 (.inl x)
 ·
  obtain⟨op,hop,hxa⟩:=touch_of hx;rcases getElem?_append_cases hop with⟨_,hop'⟩ |⟨_,hu⟩
  ·exact(h.knows i1 j x b hi1 (ha1.imp id fun y e=>y ((hq i1).2 e)) (by rw [touchAt_of hop'];exact hxa) hb (fun y=>hA (.inl y)) hZ).app _
  ·obtain⟨hg,_,ht⟩:=hops op hu;by_cases e:i1=i
   ·subst e;have:=knows_own hop;rwa [hg] at this
   ·obtain⟨ev,hev,rfl⟩:=ht x hxa;obtain⟨hb1,hb2,hb3⟩:=xc (hG.evs ev hev) hb
    have hlt:b < w.heap.size:=by
     rcases Nat.lt_or_ge b w.heap.size with hlt |hge
     ·exact hlt
     ·exact absurd (.inr ⟨e,hge,hb1⟩) hA
    obtain⟨z1,z2⟩:=h.cover i i1 b hin hi1 (fun e'=>e e'.symm) hlt hb2 fun y=>hA (.inl y);rcases hZ with hZ |hZ
    ·exact absurd z1 (hb3 hZ)
    ·exact absurd z2 hZ
 ·
  rcases getElem?_append_cases hop with⟨_,hop'⟩ |⟨_,hu⟩
  ·exact(h.kn j op x hop' hx).imp (·.app _) fun y=>⟨y.1,fun e=>y.2 ((hq _).1 e)⟩
  ·obtain⟨hg,_,_⟩:=hops op hu;rcases Nat.eq_zero_or_pos i with e |hp
   ·left;subst e;have:=knows_own hop;rwa [hg] at this
   ·right;rw [hg];exact⟨hp,fun e=>hi hp ((hq i).1 e)⟩
 ·
  obtain⟨s,hs⟩:=h.chans c hc;exact⟨s,(h.chanK hG hc).trans hs⟩
theorem CI.keep(h:CI P cf cb sd n ws k A Z gs w t){i j:Nat}{x:Goroutine}{es:Array Event}(hin:i < n)(hG:iD ⟨w,A i,Z i⟩ w' es)(hj:0 < j)(hne:j≠i)(hx:gs[j]? =some x):
 OI P (sd j).1 (sd j).2 ⟨w',yd A i w.heap.size w'.heap.size j,Z j⟩ x (k j) (ws j):=by
 have hs:=h.sts j x hj hx
 have hjn:j < n:=by have:=(Array.getElem?_eq_some_iff.1 hx).1;rw [h.size] at this;exact this
 cases hws:ws j with
 |run=>
  rw [hws] at hs;obtain⟨fr1,cs1,e,hk⟩:=hs;exact⟨fr1,cs1,e,hk.rely (h.others hin hjn hne hG)⟩
 |park=>rw [hws] at hs;exact hs
 |quit=>rw [hws] at hs;exact hs
theorem CI.step(h:CI P cf cb sd n ws k A Z gs w t){i:Nat}{fr fr':Frame}{cs cs':List Frame}{es:Array Event}(hi:gs[i]? =some (Gr fr cs))(hG:iD ⟨w,A i,Z i⟩ w' es)
 (hw:0 < i→ws i= .run∧Wk P (Jt P (sd i).1 (sd i).2) ⟨w',A i,Z i⟩ fr' cs'):
 CI P cf cb sd n ws k (yd A i w.heap.size w'.heap.size) Z ((gs.map (Conc.woken P (Gr fr cs) (Gr fr' cs') w')).setIfInBounds i (Gr fr' cs')) w' (t++MemOp.ofEvents i fr.fn fr.place es):=by
 have hin:i < n:=by have:=(Array.getElem?_eq_some_iff.1 hi).1;rw [h.size] at this;exact this
 refine h.gen hin hG (by simp [h.size]) (fun _=>Iff.rfl) (fun hp=>by rw [(hw hp).1];simp) fun j x hj hx=>?_
 rcases sW hi hx with⟨rfl,rfl⟩ |⟨hne,y,hy,rfl⟩
 ·
  obtain⟨hr,hk⟩:=hw hj;rw [hr,wS];exact⟨fr',cs',rfl,hk⟩
 ·
  rw [h.woken (fun c hc=>h.chanK hG hc) hj hy];exact h.keep hin hG hj hne hy
theorem CI.at(h:CI P cf cb sd n ws k A Z gs w t)(d:Nat):CI P cf cb sd n ws k A Z gs (w.at d) t:=
 ⟨h.size,h.tr,h.domA,h.domZ,h.cover,h.knows,h.kn,fun i g hi hg=>by
  have hs:=h.sts i g hi hg
  cases hws:ws i with
  |run=>
   rw [hws] at hs
   obtain⟨fr1,cs1,e,hk⟩:=hs
   exact⟨fr1,cs1,e,hk.rely (de.drawn ⟨w,A i,Z i⟩ d)⟩
  |park=>rw [hws] at hs;exact hs
  |quit=>rw [hws] at hs;exact hs,h.chans,h.chanA,h.chn⟩
end
def upd{α:Type}(f:Nat→α)(i:Nat)(x:α):Nat→α:=fun j=>if j=i then x else f j
theorem gK{α:Type}{f:Nat→α}{i:Nat}{x:α}:upd f i x i=x:=if_pos rfl
theorem fh{α:Type}{f:Nat→α}{i j:Nat}{x:α}(h:j≠i):upd f i x j=f j:=if_neg h
theorem uI{A:Nat→Nat→Prop}{i n:Nat}:yd A i n n=A:=by
 funext j b;simp only [yd,eq_iff_iff];exact⟨fun h=>h.elim id fun x=>by omega,.inl⟩
structure Sc(P:Program)(cf cb:Nat)(sd:Nat→Nat×Value)(n:Nat)(pe:Nat→Prop)(Iv:(Nat→WS)→Prop)(v:VW)(g0:Goroutine)(w:World)(ws:Nat→WS)(k:Nat→Nat)(A Z:Nat→Nat→Prop)(gs:Array Goroutine)(t:Trace):Prop where
 iv:Iv ws
 rely:de v ⟨w,A 0,Z 0⟩
 pend:∀i,0 < i→i < n→(pe i↔ws i≠.quit)
 ci:CI P cf cb sd n ws k A Z gs w t
 head:gs[0]? =some g0
section
variable {P:Program}{cf cb:Nat}{sd:Nat→Nat×Value}{n:Nat}{pe:Nat→Prop}{Iv:(Nat→WS)→Prop}{v:VW}{g0:Goroutine}{w:World}{ws:Nat→WS}{k:Nat→Nat}{A Z:Nat→Nat→Prop}{gs:Array Goroutine}{t:Trace}
theorem Sc.at(h:Sc P cf cb sd n pe Iv v g0 w ws k A Z gs t)(d:Nat):Sc P cf cb sd n pe Iv v g0 (w.at d) ws k A Z gs t:=
 ⟨h.iv,h.rely.trans (de.drawn ⟨w,A 0,Z 0⟩ d),h.pend,h.ci.at d,h.head⟩
def ms(ws:Nat→WS)(A Z:Nat→Nat→Prop)(gs:Array Goroutine)(w:World)(i:Nat):Option (VW×Frame×List Frame):=
 if 0 < i∧ws i= .run then(gs[i]?).map fun g=>(⟨w,A i,Z i⟩,g.frame,g.callers) else none
theorem uB{i:Nat}{fr:Frame}{cs:List Frame}(hi:0 < i)(hw:ws i= .run)(hg:gs[i]? =some (Gr fr cs)):ms ws A Z gs w i=some (⟨w,A i,Z i⟩,fr,cs):=by
 unfold ms;rw [if_pos ⟨hi,hw⟩,hg];rfl
theorem zE{i:Nat}(h:¬(0 < i∧ws i= .run)):ms ws A Z gs w i=none:=if_neg h
theorem MV(h:CI P cf cb sd n ws k A Z gs w t)(i:Nat)(hi:i < n):Acc (wr P) (ms ws A Z gs w i):=by
 by_cases hr:0 < i∧ws i= .run
 ·have hlt:i < gs.size:=by rw [h.size];exact hi
  have hg:gs[i]? =some gs[i]:=Array.getElem?_eq_getElem hlt;have hs:=h.sts i _ hr.1 hg;rw [hr.2] at hs;obtain⟨fr,cs,e,hk⟩:=hs;rw [e] at hg;rw [uB hr.1 hr.2 hg];exact hk.acc IU
 ·rw [zE hr];exact ze
theorem Eg{ws':Nat→WS}{A':Nat→Nat→Prop}{gs':Array Goroutine}{w':World}(h:CI P cf cb sd n ws k A Z gs w t){j:Nat}(hws:ws' j=ws j)(hgs:0 < j→ws j= .run→gs'[j]? =gs[j]?)(hr:de ⟨w,A j,Z j⟩ ⟨w',A' j,Z j⟩):Sb (wr P) (ms ws' A' Z gs' w' j) (ms ws A Z gs w j):=by
 by_cases hx:0 < j∧ws j= .run
 ·have hg':=hgs hx.1 hx.2;cases hg:gs[j]? with
  |none=>
   have e1:ms ws' A' Z gs' w' j=none:=by unfold ms;rw [hg',hg];split <;> rfl
   rw [e1];exact fun y hy=>by cases y <;> exact hy.elim
  |some g=>
   have hs:=h.sts j g hx.1 hg;rw [hx.2] at hs;obtain⟨fr,cs,rfl,_⟩:=hs;rw [uB hx.1 hx.2 hg,uB hx.1 (hws.trans hx.2) (hg'.trans hg)];exact Jw hr
 ·rw [zE (fun h=>hx ⟨h.1,hws▸h.2⟩)];exact fun y hy=>by cases y <;> exact hy.elim
theorem OI.awake{c:Nat}{x:Value}{V:VW}{g:Goroutine}{m:Nat}{s:WS}(h:OI P c x V g m s):awake g:=by
 cases s with
 |run=>obtain⟨fr,cs,rfl,_⟩:=h;exact awake_of (.inl rfl)
 |park=>obtain⟨g1,z,rfl,_⟩:=h;exact awake_of (.inr (.inl rfl))
 |quit=>exact awake_of ((QuitsIn.status h).elim .inl fun h=>.inr (.inr h))
theorem CI.quitStep(h:CI P cf cb sd n ws k A Z gs w t){i m:Nat}{g g':Goroutine}(hp:0 < i)(hi:gs[i]? =some g)(hws:ws i= .quit)(hq:QuitsIn P m g'):CI P cf cb sd n ws (upd k i m) A Z ((gs.map (Conc.woken P g g' w)).setIfInBounds i g') w t:=
 ⟨by simp [h.size],h.tr,h.domA,h.domZ,h.cover,h.knows,h.kn,fun j x hj hx=>by
  rcases sW hi hx with⟨rfl,rfl⟩ |⟨hne,y,hy,rfl⟩
  ·
   rw [hws,gK];exact hq
  ·
   rw [h.woken (fun c hc=>rfl) hj hy,fh hne]
   exact h.sts j y hj hy,h.chans,h.chanA,h.chn⟩
theorem yI{i:Nat}{g g':Goroutine}{w':World}(hp:0 < i)(hi:gs[i]? =some g)(h0:gs[0]? =some g0)(hw:Conc.woken P g g' w' g0=g0):((gs.map (Conc.woken P g g' w')).setIfInBounds i g')[0]? =some g0:=oY (by omega) h0 hw
theorem BB{Gd:Machine→Trace→Prop}(hnx:∀m m' t ops,stepT P m=(.next m',ops)→Gd m' (t++ops)→Gd m t)
 (hg0:g0.status= .running∨g0.status= .blocked)
 (hwk:∀(w:World) (g g':Goroutine),(∀c,c=cf∨c=cb→∃s,w.heap[c]? =some (.chan 0 #[] false s s false))→Conc.woken P g g' w g0=g0)
 (hsome:∀w ws k A Z gs t,Sc P cf cb sd n pe Iv v g0 w ws k A Z gs t→∃(i:Nat) (g:Goroutine),gs[i]? =some g∧g.status= .running)
 (hmain:g0.status= .running→∀w ws k A Z gs t sl,Sc P cf cb sd n pe Iv v g0 w ws k A Z gs t→∀d sl0,stepT P (crowd gs (w.at d) sl0)=runT P (crowd gs w sl) 0→Gd (crowd gs (w.at d) sl0) t)
 (hsend:∀w ws k A Z gs t sl i fr cs,Sc P cf cb sd n pe Iv v g0 w ws k A Z gs t→0 < i→gs[i]? =some (Gr fr cs)→ws i= .run→Jt P (sd i).1 (sd i).2 ⟨w,A i,Z i⟩ fr cs→
  (∀g2 z es m,Iv (upd ws i .park)→CI P cf cb sd n (upd ws i .park) (upd k i m) A Z (gs.setIfInBounds i (parked g2 #[scase (sd i).1 (sd i).2 z] .send)) w (t++MemOp.ofEvents i fr.fn fr.place es)→
   Gd (crowd (gs.setIfInBounds i (parked g2 #[scase (sd i).1 (sd i).2 z] .send)) w sl) (t++MemOp.ofEvents i fr.fn fr.place es))→
  ∀d sl0,stepT P (crowd gs (w.at d) sl0)=runT P (crowd gs w sl) i→Gd (crowd gs (w.at d) sl0) t):
 ∀w ws k A Z gs t sl,Sc P cf cb sd n pe Iv v g0 w ws k A Z gs t→Gd (crowd gs w sl) t:=by
 have key:∀s0,Acc (Dn (wr P) n) s0→∀N,∀w ws k A Z gs t sl,Sc P cf cb sd n pe Iv v g0 w ws k A Z gs t→(∀j,j < n→Sb (wr P) (ms ws A Z gs w j) (s0 j))→aH k n≤N→Gd (crowd gs w sl) t:=by
  intro s0 h0
  induction h0 with
  |intro s0 _ ih1=>
   intro N
   induction N using Nat.strongRecOn with
   |_ N ih2=>
    intro w ws k A Z gs t sl hS hb hN;have hci:=hS.ci
    have haw:∀g∈gs,awake g:=fun g hg=>by
     obtain⟨j,hj,rfl⟩:=Array.getElem_of_mem hg;have e:gs[j]? =some gs[j]:=Array.getElem?_eq_getElem hj;rcases Nat.eq_zero_or_pos j with rfl |hp
     ·rw [hS.head] at e;cases e;exact awake_of (hg0.elim .inl fun h=>.inr (.inl h))
     ·exact(hci.sts j _ hp e).awake
    obtain⟨i,g,d,sl',hi,hg,hst⟩:=crowd_pick (P:=P) (w:=w) (sl:=sl) haw (hsome w ws k A Z gs t hS);have hSd:=hS.at d;have hin:i < n:=by have:=(Array.getElem?_eq_some_iff.1 hi).1;rw [hci.size] at this;exact this
    rcases Nat.eq_zero_or_pos i with rfl |hp
    ·rw [hS.head] at hi;cases hi;exact hmain hg _ ws k A Z gs t sl' hSd w.drawn sl hst
    ·have hi0:(i == 0)=false:=by simp;omega
     have hs:=hSd.ci.sts i g hp hi;have hbd:∀j,j < n→Sb (wr P) (ms ws A Z gs (w.at d) j) (s0 j):=fun j hj=>(Eg hci rfl (fun _ _=>rfl) (de.drawn ⟨w,A j,Z j⟩ d)).trans (hb j hj);cases hws:ws i with
     |park=>
      rw [hws] at hs;obtain⟨g1,z,rfl,_⟩:=hs;cases hg
     |quit=>
      rw [hws] at hs;have hs:QuitsIn P (k i) g:=hs;cases hki:k i with
      |zero=>
       rw [hki] at hs;have hs:g.status= .finished:=hs;rw [hs] at hg;cases hg
      |succ m=>
       rw [hki] at hs;rcases hs with hf |⟨_,g',hw,hq'⟩
       ·rw [hf] at hg;cases hg
       ·have hgo:=runT_crowd_go (sl:=sl') hi (by rw [hi0];exact hw (w.at d));rw [←hst] at hgo;refine hnx _ _ _ _ hgo ?_;rw [ofEvents_none,Array.append_empty];have hwk0:=hwk (w.at d) g g' hSd.ci.chans;have hci':=hSd.ci.quitStep hp hi hws hq';refine ih2 (aH (upd k i m) n) (Nat.lt_of_lt_of_le (uJ (by omega) hin) hN) (w.at d) ws (upd k i m) A Z _ t sl' ⟨hSd.iv,hSd.rely,hSd.pend,hci',yI hp hi hS.head hwk0⟩ (fun j hj=>?_) (Nat.le_refl _);refine(Eg hSd.ci rfl (fun hj0 hr=>?_) (de.refl _)).trans (hbd j hj);have hne:j≠i:=fun e=>by subst e;rw [hws] at hr;cases hr
        have hjs:j < gs.size:=by rw [hci.size];exact hj
        have hy:gs[j]? =some gs[j]:=Array.getElem?_eq_getElem hjs;rw [oY hne hy (hSd.ci.woken (fun c hc=>rfl) hj0 hy),hy]
     |run=>
      rw [hws] at hs;obtain⟨fr,cs,rfl,hk⟩:=hs;cases hk with
      |stop hsp=>
       refine hsend (w.at d) ws k A Z gs t sl' i fr cs hSd hp hi hws (hsp _ (de.refl _)) (fun g2 z es m hIv hci'=>?_) w.drawn sl hst;have hne0:(0:Nat)≠i:=by omega
       refine ih1 (ms (upd ws i .park) A Z (gs.setIfInBounds i (parked g2 #[scase (sd i).1 (sd i).2 z] .send)) (w.at d)) ⟨i,hin,?_,fun j hj hne=>?_⟩ _ (w.at d) (upd ws i .park) (upd k i m) A Z _ _ sl' ⟨hIv,hSd.rely,fun j hj0 hjn=>?_,hci',?_⟩ (fun j _=>Sb.refl _) (Nat.le_refl _)
       ·rw [zE (by rw [gK];simp)];have:=hbd i hin;rw [uB hp hws hi] at this;exact this none trivial
       ·refine(Eg hSd.ci (fh hne) (fun _ _=>?_) (de.refl _)).trans (hbd j hj);rw [Array.getElem?_setIfInBounds_ne (fun e=>hne e.symm)]
       ·by_cases e:j=i
        ·subst e;rw [gK];have:=hS.pend j hj0 hjn;rw [hws] at this;exact⟨fun _=>by simp,fun _=>this.2 (by simp)⟩
        ·rw [fh e];exact hS.pend j hj0 hjn
       ·rw [Array.getElem?_setIfInBounds_ne (fun e=>hne0 e.symm)];exact hS.head
      |step f c w1 es h1 h2 h3=>
       have hrf:=de.refl ⟨w.at d,A i,Z i⟩;have hgo:=runT_crowd_go (sl:=sl') hi (by rw [hi0];exact h1 _ hrf false);rw [←hst] at hgo;refine hnx _ _ _ _ hgo ?_;have hG:=h2 _ hrf;have hci':=hSd.ci.step hi hG fun _=>⟨hws,h3 _ hrf⟩;have hwk0:=hwk (w1 ⟨w.at d,A i,Z i⟩) (Gr fr cs) (Gr (f ⟨w.at d,A i,Z i⟩) (c ⟨w.at d,A i,Z i⟩)) hci'.chans;refine ih1 (ms ws (yd A i (w.at d).heap.size (w1 ⟨w.at d,A i,Z i⟩).heap.size) Z _ (w1 ⟨w.at d,A i,Z i⟩)) ⟨i,hin,?_,fun j hj hne=>?_⟩ _ _ ws k _ Z _ _ sl' ⟨hSd.iv,hSd.rely.trans (hSd.ci.others hin (by omega) (by omega) hG),hSd.pend,hci',yI hp hi hS.head hwk0⟩ (fun j _=>Sb.refl _) (Nat.le_refl _)
       ·have:=hbd i hin;rw [uB hp hws hi] at this;refine this _ ?_;rw [uB hp hws (rV hi),wS];exact⟨_,_,_,hrf,h1 _ hrf,rfl⟩
       ·refine(Eg hSd.ci rfl (fun hj0 hr=>?_) (hSd.ci.others hin hj hne hG)).trans (hbd j hj);have hjs:j < gs.size:=by rw [hci.size];exact hj
        have hy:gs[j]? =some gs[j]:=Array.getElem?_eq_getElem hjs;rw [oY hne hy (hSd.ci.woken (fun c hc=>hSd.ci.chanK hG hc) hj0 hy),hy]
 intro w ws k A Z gs t sl hS
 exact key _ (Iu n _ fun i hi=>MV hS.ci i hi) _ w ws k A Z gs t sl hS (fun j _=>Sb.refl _) (Nat.le_refl _)
end
end K
end Go.Proofs.YtopgphikdglphaaGreat
