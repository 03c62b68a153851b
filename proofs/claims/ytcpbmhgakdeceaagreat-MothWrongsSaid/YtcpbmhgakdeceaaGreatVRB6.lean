import Derived.Test.YtcpbmhgakdeceaaGreatVRB5
import Derived.Maps.Keyed
open Nat
open List hiding mem_of_getElem?
open Array hiding mem_of_getElem? mk
set_option linter.unusedSimpArgs false
set_option linter.unusedVariables false
namespace Go.Proofs.YtcpbmhgakdeceaaGreat
namespace K
open Go
def xt{Y:Type}(P:Program)(k:TypeId)(V:Y->Value)(R:Value->Y->Prop)(o:Obj):Prop:=
 ∃es cl,o= .map es cl/\∀e∈es.toList,(∃lt,keyOf P k e.key=some lt)/\ma e.key=true/\∃n,e.val=V n/\R e.key n
theorem xt.nil{Y:Type}{P:Program}{k:TypeId}{V:Y->Value}{R:Value->Y->Prop}:xt P k V R (.map #[] 0):=⟨#[],0,rfl,by simp⟩
theorem xt.calm{Y:Type}{P:Program}{k:TypeId}{V:Y->Value}{R:Value->Y->Prop}{o:Obj}(h:xt P k V R o):calm o=true:=by
 obtain⟨es,cl,rfl,h⟩:=h;show(es.toList.all λe=>ma e.key)=true;simp_all
section
variable {Y:Type}{P:Program}{M:Md P}{o:Oper}{x y v:Operand}{T T' k e:TypeId}{V:Y->Value}{R:Value->Y->Prop}{kv:Value}
theorem yh{z:Nat}{ob:Obj}(hT:P.underlying T=some (.map k e))(z0:Y)(hz:∀w,(zeroValue e).run P w= .ok (V z0) w)(hk:Maps.Keyed P k)(hkv:∃lt,keyOf P k kv=some lt)
 (hfun:∀n n',R kv n->R kv n'->n=n') (hob:xt P k V R ob):
 ∃n b,(b=true->R kv n)/\(b=false->n=z0)/\∀w,w.heap[z]? =some ob->(Instr.lookup T (.map (some z)) kv true).run P w= .ok (.tuple #[V n,.bool b]) w:=by
 obtain⟨es,cl,rfl,h2⟩:=hob
 obtain⟨lt,hlt⟩:=hkv
 by_cases he:∃en∈es.toList,en.key=kv
 .
  obtain⟨e0,he0,hk0⟩:=he;obtain⟨_,_,n0,_,hR0⟩:=h2 e0 he0;rw [hk0] at hR0;refine⟨n0,true,λ_=>hR0,λh=>Bool.noConfusion h,λw h1=>?_⟩;have hc:=hk.check w es.isEmpty hlt;rcases hk.find w hlt es.toList (λe he=>(h2 e he).1) with⟨h3,h4⟩ |⟨j,en,h3,h4,h5⟩
  .simp_all
  .obtain⟨_,_,n,hn,hR⟩:=h2 en (List.mem_of_getElem? h4);rw [h5] at hR;obtain rfl:=hfun _ _ hR hR0;simp only [Instr.lookup,Sem.run_bind,run_underlying hT,Result.andThen_ok,gI h1,Sem.run_pure,hc,h3,hn,if_true]
 .
  refine⟨z0,false,λh=>Bool.noConfusion h,λ_=>rfl,λw h1=>?_⟩;have hc:=hk.check w es.isEmpty hlt;rcases hk.find w hlt es.toList (λe he=>(h2 e he).1) with⟨h3,h4⟩ |⟨j,en,h3,h4,h5⟩
  .simp only [Instr.lookup,Sem.run_bind,run_underlying hT,Result.andThen_ok,gI h1,Sem.run_pure,hc,h3,hz,if_true]
  grind
theorem Hf{z:Nat}{rk:A}{ob:Obj}{n:Y}{b:Bool}(r:Y->A)(hV:∀S w,(r n).holds S w (V n))(hnk:ma kv=true)(hcm:calm ob=true)(ho:o.op= .lookup T x y true)(hy:∀S w u,rk.holds S w u->u=kv)
 (hr:∀w,w.heap[z]? =some ob->(Instr.lookup T (.map (some z)) kv true).run P w= .ok (.tuple #[V n,.bool b]) w):
 bu M o [(x,.eq (.map (some z))),(y,rk)] [.raw z ob] (λ_:Unit=>(.tup (.pair (r n) (.pair (.eq (.bool b)) .any)),[.raw z ob])):=by
 refine vV.T ⟨by grind [nd],λS w a next hd hN hO kk=>?_⟩ (λS w a hN _=>FO ho (by have e:a.eval y=kv:=hy _ _ _ hN.2.1;simp_all)) (λd hd=>by rw [List.mem_singleton.1 hd];exact hcm)
 have e1:a.eval x= .map (some z):=hN.1
 have e2:a.eval y=kv:=hy S w _ hN.2.1
 have h1:w.heap[z]? =some ob:=hO.holds _ (List.mem_singleton.2 rfl)
 have hrun:(execOp a.eval o).run P w= .ok (.value (.tuple #[V n,.bool b])) w:=by
  simp_all [execOp,Sem.run_bind,Result.andThen_ok,Sem.run_pure]
 rw [hrun]
 exact kk () S w _ (lr.refl hd) ⟨[_,_],rfl,_,_,rfl,hV _ _,_,_,rfl,rfl,rfl⟩ hO (λb hb=>.inl hb)
theorem zU{z:Nat}{rk:A}{n:Y}{rv:A}(hV:∀S w u,rv.holds S w u->u=V n)(hnk:ma kv=true)(ho:o.op= .mapUpdate T x y v)(hT:P.underlying T=some (.map k e))(hk:Maps.Keyed P k)(hy:∀S w u,rk.holds S w u->u=kv)(hkv:∃lt,keyOf P k kv=some lt)(hR:R kv n):
 bu M o [(x,.eq (.map (some z))),(y,rk),(v,rv)] [.inv z (xt P k V R)] (λ_:Unit=>(.eq undef,[.inv z (xt P k V R)])):=by
 refine vV.T ⟨by grind [nd],λS w a next hd hN hO kk=>?_⟩ (λS w a hN _=>FI ho (by have e:a.eval y=kv:=hy _ _ _ hN.2.1;simp_all)) (λd hd=>by rw [List.mem_singleton.1 hd];exact λ_ h=>h.calm)
 have e1:a.eval x= .map (some z):=hN.1
 have e2:a.eval y=kv:=hy S w _ hN.2.1
 have e3:a.eval v=V n:=hV _ _ _ hN.2.2.1
 obtain⟨ob,h1,es,cl,rfl,h2⟩:=hO.holds _ (List.mem_singleton.2 rfl)
 have hb:=hO.own z ⟨_,List.mem_singleton.2 rfl,rfl⟩
 obtain⟨lt,hlt⟩:=hkv
 have hc:=hk.check w false hlt
 have hgo:∀ob',(Instr.mapUpdate T (.map (some z)) kv (V n)).run P w= .ok () (w.putObj z ob')->xt P k V R ob'->VP o a next ((execOp a.eval o).run P w):=λob' hr hM=>by
  have hrun:(execOp a.eval o).run P w= .ok .skip (w.putObj z ob'):=by
   simp_all [execOp,Sem.run_bind,Result.andThen_ok,Sem.run_pure]
  rw [hrun];refine kk () S _ _ (pR hd ⟨_,List.mem_singleton.2 rfl,rfl⟩ ob') rfl (fY ⟨ob',zN hb.2,hM⟩ λb h=>?_) (λb hb=>.inl hb);grind [D.foot,Option.some.injEq,te]
 rcases hk.find w hlt es.toList (λe he=>(h2 e he).1) with⟨h3,h4⟩ |⟨j,en,h3,h4,h5⟩
 .
  refine hgo (.map (es.push { key:=kv,val:=V n,born:=cl }) (cl+1)) ?_ ⟨_,_,rfl,λe he=>?_⟩
  .simp only [Instr.mapUpdate,Sem.run_bind,run_underlying hT,Result.andThen_ok,gI h1,Sem.run_pure,hc,h3,mE _ h1]
  grind
 .
  have hst:=hk.stays w hlt;have hj:es[j]? =some en:=by simp_all
  refine hgo (.map (es.modify j λe=>{ e with key:=kv,val:=V n }) cl) ?_ ⟨_,_,rfl,λe he=>?_⟩
  .simp only [Instr.mapUpdate,Sem.run_bind,run_underlying hT,Result.andThen_ok,gI h1,Sem.run_pure,hc,h3,hj,Option.map_some,Option.getD_some,h5,hst,mE _ h1]
  .obtain⟨i,hi⟩:=List.mem_iff_getElem?.1 he;grind
end
end K
end Go.Proofs.YtcpbmhgakdeceaaGreat
set_option linter.unusedVariables false
namespace Go.Proofs.YtcpbmhgakdeceaaGreat
namespace K
open Go Go.Conc
def VH(P:Program)(T:TypeId):Prop:=∀w:World,(Instr.makeChan T (.int .i64 0)).runT P w #[]=(.ok (.chan (some w.heap.size)) (w.alloc (.chan 0 #[] false 0 0 false)), #[])
section
variable {P:Program}{M:Md P}{o:Oper}{T:TypeId}
theorem Ej(ho:o.op= .makeChan T (.const (.int .i64 0)))(hT:VH P T):bu M o [] [] (λz:Nat=>(.eq (.chan (some z)),[.raw z (.chan 0 #[] false 0 0 false)])):=by
 have hnd:nd o.op=true:=by grind [nd]
 refine⟨hnd,λrd S v a next Q hd _ hO k=>Rh λv1 hr=>?_⟩;rw [Oper.semAt_eq _ _ _ (λc e=>by simp_all)];have h1:=hT v1.toWorld;have r1:(Instr.makeChan T (.int .i64 0)).run P v1= .ok (.chan (some v1.heap.size)) (v1.alloc (.chan 0 #[] false 0 0 false)):=by simp_all
 have e1:(Instr.makeChan T (.int .i64 0)).events P v1 #[]= #[]:=by simp_all
 have hx:execOp a.eval o=(do pure (.value (<-Instr.makeChan T (.int .i64 0))):Sem Next):=by unfold execOp;rw [ho];rfl
 have hrun:(execOp a.eval o).run P v1= .ok (.value (.chan (some v1.heap.size))) (v1.alloc (.chan 0 #[] false 0 0 false)):=by simp_all
 have hev:(execOp a.eval o).events P v1 #[]= #[]:=by simp_all
 have hd1:∀b,S b->b < v1.heap.size:=λb hb=>Nat.lt_of_lt_of_le (hd b hb) hr.size;have hO1:=hO.rely hd hr;refine⟨?_,?_⟩
 .unfold Sg;rw [hrun];refine⟨λb hb _=>im v1 _ b hb,by simp,.refl _,rfl,rfl,λe he=>by simp_all⟩
 .rw [hrun];refine k v1.heap.size S (v1.upd (v1.alloc (.chan 0 #[] false 0 0 false))) _ ((bI.rely hd hr).trans (bI.of (gy (X:=ay []) hd1 _)) λb hb=>.inl hb) rfl (hO1.alloc hd1 _) λb hb=>?_;have:v1.heap.size=b:=by simp_all [D.foot,g7]
  exact .inr (this▸hr.size)
end
end K
end Go.Proofs.YtcpbmhgakdeceaaGreat
set_option linter.unusedVariables false
set_option linter.unusedSectionVars false
namespace Go.Proofs.YtcpbmhgakdeceaaGreat
namespace K
open Go
section
variable {P:Program}{M:Md P}{o:Oper}{T e:TypeId}
theorem Hh{n0 n1 n2:Int}{x0 x1 x2:Operand}(ho:o.op= .build T #[(0,x0),(1,x1),(2,x2)])(hT:P.underlying T=some (.array 3 e))(hs:eE P e 1 false)(hz:∀w,(zeroValue T).run P w= .ok (.agg #[.int .i64 0,.int .i64 0,.int .i64 0]) w):
 bu M o [(x0,.eq (.int .i64 n0)),(x1,.eq (.int .i64 n1)),(x2,.eq (.int .i64 n2))] [] (λ_:Unit=>(.rep (.arr 3 (.int .i64)) [n0,n1,n2],[])):=
 .val0 λS w a hN=>by
  have e0:a.eval x0= .int .i64 n0:=hN.1
  have e1:a.eval x1= .int .i64 n1:=hN.2.1
  have e2:a.eval x2= .int .i64 n2:=hN.2.2.1
  refine⟨.agg #[.int .i64 n0,.int .i64 n1,.int .i64 n2],?_,[.int .i64 n0,.int .i64 n1,.int .i64 n2],⟨rfl,[_],_,rfl,rfl,[_],_,rfl,rfl,[_],_,rfl,rfl,rfl⟩,rfl⟩
  simp [execOp,ho,Instr.build,Sem.run_bind,hz,run_underlying hT,hs.size,e0,e1,e2,Value.cells,Instr.fill]
end
section
variable {κ β:Type}[DecidableEq κ]
def pn(P:Program)(k:TypeId)(K:κ->Value)(V:β->Value)(l:List (κ×β))(o:Obj):Prop:=
 ∃es cl,o= .map es cl/\es.toList.map (λe=>(e.key,e.val))=l.map (λp=>(K p.1,V p.2))/\(∀p∈l,(∃lt,keyOf P k (K p.1)=some lt)/\ma (K p.1)=true)/\(l.map (·.1)).Nodup
def o7(l:List (κ×β))(t:κ)(d:β):β:=match l.find? (λp=>p.1=t) with
 |some p=>p.2
 |none=>d
def Ey(l:List (κ×β))(t:κ)(v:β):List (κ×β):=if t∈l.map (·.1) then l.map (λp=>if p.1=t then(t,v) else p) else l++[(t,v)]
theorem yY{b:Nat}{R R':Obj->Prop}{x:Nat}(h:ay [D.inv b R] x):ay [D.inv b R'] x:=by
 obtain⟨d,hd,e⟩:=h;rw [List.mem_singleton.1 hd] at e;exact⟨_,List.mem_singleton.2 rfl,e⟩
theorem pn.nil{P:Program}{k:TypeId}{K:κ->Value}{V:β->Value}:pn P k K V [] (.map #[] 0):=⟨#[],0,rfl,rfl,by simp,nodup_nil⟩
theorem oN{K:κ->Value}{V:β->Value}{l:List (κ×β)}{es:Array MapEntry}(h:es.toList.map (λe=>(e.key,e.val))=l.map (λp=>(K p.1,V p.2))):∀{i:Nat} {e:MapEntry},es.toList[i]? =some e->∃p,l[i]? =some p/\e.key=K p.1/\e.val=V p.2:=by
 intro i e he;have h1:=congrArg (·[i]?) h;grind
theorem pn.calm{P:Program}{k:TypeId}{K:κ->Value}{V:β->Value}{l:List (κ×β)}{o:Obj}(h:pn P k K V l o):calm o=true:=by
 obtain⟨es,cl,rfl,h1,h2,h3⟩:=h;show(es.toList.all λe=>ma e.key)=true;rw [List.all_eq_true];intro e he;obtain⟨i,hi⟩:=List.mem_iff_getElem?.1 he;obtain⟨p,hp,e1,_⟩:=oN h1 hi;grind
theorem N4{l:List (κ×β)}(hn:(l.map (·.1)).Nodup){i:Nat}{p:κ×β}(hp:l[i]? =some p)(d:β):o7 l p.1 d=p.2:=by
 unfold o7
 have:l.find? (λq=>q.1=p.1)=some p:=by
  induction l generalizing i with
  |nil=>simp at hp
  |cons q l ih=>
   grind
 rw [this]
theorem N3{l:List (κ×β)}{t:κ}(h:t∉l.map (·.1))(d:β):o7 l t d=d:=by
 unfold o7;grind
variable {P:Program}{M:Md P}{o:Oper}{x y v:Operand}{T T' k e:TypeId}{K:κ->Value}{V:β->Value}{l:List (κ×β)}{z:Nat}{rk:A}{t:κ}
theorem ud(r:β->A)(hV:∀S w n,(r n).holds S w (V n))(ho:o.op= .lookup T x y false)(hT:P.underlying T=some (.map k e))(d0:β)(hz:∀w,(zeroValue e).run P w= .ok (V d0) w)(hk:Maps.Keyed P k)(hy:∀S w u,rk.holds S w u->u=K t)(hkt:∃lt,keyOf P k (K t)=some lt)(hnk:ma (K t)=true)(hinj:∀a b,K a=K b->a=b):
 bu M o [(x,.eq (.map (some z))),(y,rk)] [.inv z (pn P k K V l)] (λ_:Unit=>(r (o7 l t d0),[.inv z (pn P k K V l)])):=by
 refine vV.T ⟨by grind [nd],λS w a next hd hN hO kk=>?_⟩ (λS w a hN _=>FO ho (by have e:a.eval y=K t:=hy _ _ _ hN.2.1;simp_all)) (λd hd=>by rw [List.mem_singleton.1 hd];exact λ_ h=>h.calm)
 have e1:a.eval x= .map (some z):=hN.1
 have e2:a.eval y=K t:=hy S w _ hN.2.1
 obtain⟨ob,h1,es,cl,rfl,h2,h3,h4⟩:=hO.holds _ (List.mem_singleton.2 rfl)
 obtain⟨lt,hlt⟩:=hkt
 have hc:=hk.check w es.isEmpty hlt
 have fin:(Instr.lookup T (.map (some z)) (K t) false).run P w= .ok (V (o7 l t d0)) w->VP o a next ((execOp a.eval o).run P w):=λhr=>by
  have hrun:(execOp a.eval o).run P w= .ok (.value (V (o7 l t d0))) w:=by
   simp_all [execOp,Sem.run_bind,Result.andThen_ok,Sem.run_pure]
  rw [hrun];exact kk () S w _ (lr.refl hd) (hV _ _ _) hO (λb hb=>.inl hb)
 refine fin ?_
 rcases hk.find w hlt es.toList (λe he=>by
  obtain⟨i,hi⟩:=List.mem_iff_getElem?.1 he;obtain⟨p,hp,q1,_⟩:=oN h2 hi;grind) with⟨g1,g2⟩ |⟨j,en,g1,g2,g3⟩
 .
  have hno:t∉l.map (·.1):=λhm=>by
   obtain⟨p,hp,hpt⟩:=List.mem_map.1 hm;obtain⟨i,hi⟩:=List.mem_iff_getElem?.1 hp;have hi2:=congrArg (·[i]?) h2;grind
  rw [N3 hno];simp only [Instr.lookup,Sem.run_bind,run_underlying hT,Result.andThen_ok,gI h1,Sem.run_pure,hc,g1,hz,if_false,Bool.false_eq_true]
 .
  obtain⟨p,hp,q1,q2⟩:=oN h2 g2;obtain rfl:p.1=t:=hinj _ _ (q1.symm.trans g3);rw [N4 h4 hp];simp only [Instr.lookup,Sem.run_bind,run_underlying hT,Result.andThen_ok,gI h1,Sem.run_pure,hc,g1,q2,if_false,Bool.false_eq_true]
theorem tg{n:β}{rv:A}(hV:∀S w u,rv.holds S w u->u=V n)(ho:o.op= .mapUpdate T x y v)(hT:P.underlying T=some (.map k e))(hk:Maps.Keyed P k)(hy:∀S w u,rk.holds S w u->u=K t)(hkt:∃lt,keyOf P k (K t)=some lt)(hnk:ma (K t)=true)(hinj:∀a b,K a=K b->a=b):
 bu M o [(x,.eq (.map (some z))),(y,rk),(v,rv)] [.inv z (pn P k K V l)] (λ_:Unit=>(.eq undef,[.inv z (pn P k K V (Ey l t n))])):=by
 refine vV.T ⟨by grind [nd],λS w a next hd hN hO kk=>?_⟩ (λS w a hN _=>FI ho (by have e:a.eval y=K t:=hy _ _ _ hN.2.1;simp_all)) (λd hd=>by rw [List.mem_singleton.1 hd];exact λ_ h=>h.calm)
 have e1:a.eval x= .map (some z):=hN.1
 have e2:a.eval y=K t:=hy S w _ hN.2.1
 have e3:a.eval v=V n:=hV _ _ _ hN.2.2.1
 obtain⟨ob,h1,es,cl,rfl,h2,h3,h4⟩:=hO.holds _ (List.mem_singleton.2 rfl)
 have hb:=hO.own z ⟨_,List.mem_singleton.2 rfl,rfl⟩
 obtain⟨lt,hlt⟩:=hkt
 have hc:=hk.check w false hlt
 have hgo:∀ob',(Instr.mapUpdate T (.map (some z)) (K t) (V n)).run P w= .ok () (w.putObj z ob')->pn P k K V (Ey l t n) ob'->VP o a next ((execOp a.eval o).run P w):=λob' hr hM=>by
  have hrun:(execOp a.eval o).run P w= .ok .skip (w.putObj z ob'):=by
   grind [execOp,Sem.run_bind,Result.andThen_ok,Sem.run_pure]
  rw [hrun];refine kk () S _ _ (pR hd ⟨_,List.mem_singleton.2 rfl,rfl⟩ ob') rfl (fY ⟨ob',zN hb.2,hM⟩ λb h=>?_) (λb hb=>.inl (yY hb));grind [D.foot,Option.some.injEq,te]
 rcases hk.find w hlt es.toList (λe he=>by
  obtain⟨i,hi⟩:=List.mem_iff_getElem?.1 he;obtain⟨p,hp,q1,_⟩:=oN h2 hi;grind) with⟨g1,g2⟩ |⟨j,en,g1,g2,g3⟩
 .
  have hno:t∉l.map (·.1):=λhm=>by
   obtain⟨p,hp,hpt⟩:=List.mem_map.1 hm;obtain⟨i,hi⟩:=List.mem_iff_getElem?.1 hp;have hi2:=congrArg (·[i]?) h2;grind
  have hm:Ey l t n=l++[(t,n)]:=if_neg hno;refine hgo (.map (es.push { key:=K t,val:=V n,born:=cl }) (cl+1)) ?_ ⟨_,_,rfl,?_,λp hp=>?_,?_⟩
  .simp only [Instr.mapUpdate,Sem.run_bind,run_underlying hT,Result.andThen_ok,gI h1,hc,g1,mE _ h1]
  .grind
  .grind
  grind
 .
  have hst:=hk.stays w hlt;have hj:es[j]? =some en:=by grind
  obtain⟨p,hp,q1,q2⟩:=oN h2 g2;obtain rfl:p.1=t:=hinj _ _ (q1.symm.trans g3);have hmem:p.1∈l.map (·.1):=List.mem_map.2 ⟨p,List.mem_of_getElem? hp,rfl⟩;have hm:Ey l p.1 n=l.map (λq=>if q.1=p.1 then(p.1,n) else q):=if_pos hmem;refine hgo (.map (es.modify j λe=>{ e with key:=K p.1,val:=V n }) cl) ?_ ⟨_,_,rfl,?_,λq hq=>?_,?_⟩
  .simp only [Instr.mapUpdate,Sem.run_bind,run_underlying hT,Result.andThen_ok,gI h1,hc,g1,hj,Option.map_some,Option.getD_some,g3,hst,mE _ h1]
  .rw [hm];apply List.ext_getElem?;intro i;rw [List.getElem?_map,List.getElem?_map,List.getElem?_map];have hi2:=congrArg (·[i]?) h2;simp only [List.getElem?_map] at hi2;have hi3:(es.modify j λe=>{ e with key:=K p.1,val:=V n }).toList[i]? =(es.modify j λe=>{ e with key:=K p.1,val:=V n })[i]? :=by grind
   rw [hi3,Array.getElem?_modify];by_cases hji:j=i
   .grind
   .rw [if_neg hji];have hi4:es[i]? =es.toList[i]? :=by grind
    rw [hi4];cases hq:l[i]? with
    |none=>grind
    |some q=>
     rw [hq] at hi2
     have hne:¬q.1=p.1:=λe=>hji (by
      have hlt:=(List.getElem?_eq_some_iff.1 hp).1;refine(getElem?_inj (l:=l.map (·.1)) (by grind) h4).1 ?_;grind)
     grind
  .grind
  grind
theorem Jz{c:Call}(ho:o.op= .call c)(hc:c={ callee:=.builtin .clear,args:= #[x],argTypes:= #[T] })(hT:P.underlying T=some (.map k e)):
 bu M o [(x,.eq (.map (some z)))] [.inv z (pn P k K V l)] (λ_:Unit=>(.eq (.tuple #[]),[.inv z (pn P k K V [])])):=by
 refine vV.T ⟨by grind [nd],λS w a next hd hN hO kk=>?_⟩ (λS w a hN hO=>jm (by grind [uk]) a.eval) (λd hd=>by rw [List.mem_singleton.1 hd];exact λ_ h=>h.calm)
 have e1:a.eval x= .map (some z):=hN.1
 obtain⟨ob,h1,es,cl,rfl,h2,h3,h4⟩:=hO.holds _ (List.mem_singleton.2 rfl)
 have hb:=hO.own z ⟨_,List.mem_singleton.2 rfl,rfl⟩
 have hrun:(execOp a.eval o).run P w= .ok (.value (.tuple #[])) (w.putObj z (.map #[] cl)):=by
  simp [execOp,ho,hc,resolve,invoke,builtin,e1,Builtin.clear_,run_underlying hT,gI h1,mE _ h1]
 rw [hrun]
 refine kk () S _ _ (pR hd ⟨_,List.mem_singleton.2 rfl,rfl⟩ (.map #[] cl)) rfl (fY ⟨_,zN hb.2, #[],cl,rfl,rfl,by simp,nodup_nil⟩ λb h=>?_) (λb hb=>.inl (yY hb))
 simp_all [D.foot,Option.some.injEq,te]
end
section
variable {P:Program}
theorem Bf{vs:Nat->Value}:∀{l:List (List Int)} {j:Nat},(pN vs j l).length=l.length
 |[],_=>rfl
 |_::l,j=>by simp only [pN,length_cons,Bf (l:=l)]
theorem LJ{c:Cx}{ops:Array Oper}{o:Oper}{l:List Oper}{Q:Exit->Act->VW->Prop}{Γ:Ga}{pre:List D}{T:TypeId}{z:Value×(Nat->Value)}{ls:List (List Int)}{x:Operand}{d:Nat}{Tx e:TypeId}{cl:Call}(hg:o.guard=none)(hd:o.dst=some d)(hdN:blt d c.N=true)
 (ho:o.op= .call cl) (hc:cl={ callee:=.builtin .len,args:= #[x],argTypes:= #[Tx] }) (hT:c.P.underlying Tx=some (.slice e)) (hh:ew Γ [(x,.eq z.1)])
 (h:JO c ops l Q ((d,.eq (.int .i64 (ls.length:Int)))::Γ) (pre++zP T z ls)):JO c ops (o::l) Q Γ (pre++zP T z ls):=by
 refine dQ (SE.pp (Δ':=[.sl z.1 T .val (pN z.2 0 ls)]++(pre++pE z.2 0 ls)) perm_middle) ?_
 refine aR (F:=pre++pE z.2 0 ls) (λ_ _ _=>aj hg _) hd hdN (ou (M:=c.M) (t:=.val) (l:=pN z.2 0 ls) (TE:=T) ho hc hT) hh λ_=>?_
 have hp:(D.sl z.1 T .val (pN z.2 0 ls)::(pre++pE z.2 0 ls)).Perm (pre++zP T z ls):=perm_middle.symm
 rw [Bf]
 exact dQ (SE.pp hp) h
end
end K
end Go.Proofs.YtcpbmhgakdeceaaGreat
set_option linter.unusedVariables false
namespace Go.Proofs.YtcpbmhgakdeceaaGreat
namespace K
open Go
def GL(S:FS)(w:VW)(Δ:List D)(pv:Value):Bool->Ending->VW->Prop
 |true=>dn S w Δ (λ_:Unit=>(bn [],Δ))
 |false=>λe v'=>e= .panicked (iZ pv false)/\∃S',bI (ay Δ) S w S' v'/\ba Δ S' v'
def E9{P:Program}(M:Md P)(f:Nat)(Ss:List A)(Δ:List D)(pv:Value)(r:Bool):Prop:=
 ∀(k:CallKind),k≠.early->∀(S:FS) (w:VW) (vs:List Value),(∀b,S b->b < w.heap.size)->gg S w Ss vs->ba Δ S w->kK M k f vs.toArray w (GL S w Δ pv r)
theorem E9.ok{P:Program}{M:Md P}{f:Nat}{Ss:List A}{Δ:List D}{pv:Value}(h:E9 M f Ss Δ pv true):bT M f Ss Δ (λ_:Unit=>(bn [],Δ)):=h
section
variable {P:Program}{M:Md P}{N:Nat}{S:FS}{w0:VW}{X:Nat->Prop}{ops:Array Oper}{o:Oper}{l:List Oper}{Q:Exit->Act->VW->Prop}{Γ:Ga}{Δ F:List D}{fn:Func}{pv:Value}{T e:TypeId}{x:Operand}
theorem E9.of{f:Nat}{C:Code}{Ss:List A}{r:Bool}(N:Nat)(hf:P.funcs[f]? =some fn)(hb:fn.body=some C)(hN:fn.ntmps=N)(hn:ble Ss.length N=true)
 (h:∀S w0,JC ⟨P,N,S,w0,ay Δ,none,[],M⟩ C (bK P fn (GL S w0 Δ pv r)) (entry 0 Ss) Δ):E9 M f Ss Δ pv r:=by
 subst hN
 intro kind hkind S w vs hd hall hO T hT cs hc
 have bc:=M.bc T hT
 rw [enter_at hf hb]
 refine h S w _ _ (St.entry hn hd hall hO) T hT _ [] cs rfl λe a' v' q=>?_
 have fin:∀todo,(a'.defers=[]/\∃x,(∀v1,bz v' v1->(results fn a'.tmps).run P v1= .ok x v1/\eY v1 v1 ((results fn a'.tmps).events P v1 #[]))/\GL S w Δ pv r (.returned x) v')->
  T v' { Frame.atR { (default:Frame) with fn:=f,kind:=kind } a' todo with mode:=.returning } cs:=λtodo ⟨q1,x,q2,q3⟩=>hc _ _ _ q3 rfl rfl ⟨rfl,q1,fn,hf,q2⟩
 cases e with
 |normal=>exact bc.move (λ_ _=>wY rfl) (fin _ q)
 |ret=>exact⟨λ_ todo=>fin todo q,λh=>by cases h⟩
 |panic chain=>exact λtodo=>hc _ _ _ q.2 rfl rfl ⟨rfl,q.1,fn,hf⟩
 |exit id=>exact q.elim
 |goto l=>exact q.elim
 |outgrown=>exact q.elim
theorem PP:JN ⟨P,N,S,w0,ay Δ,none,[],M⟩ (bK P fn (GL S w0 Δ pv false) (.panic (iZ pv false))) Γ Δ:=λa w st=>by
 obtain⟨h1,h2,S',h3,h4,h5,h6⟩:=st
 exact⟨h1,rfl,S',h3,h5⟩
theorem LL{f:Nat}{Ss:List A}{c:Call}{dfs:List Deferred}(xs:List Operand){ts:Array TypeId}(hg:o.guard=none)(ho:o.op= .call c)(hc:c={ callee:=.value (.func f),args:=xs.toArray,argTypes:=ts })(hlen:xs.length=Ss.length)(hen:ag P f)
 (hh:ew Γ (xs.zip Ss)) (hC:E9 M f Ss Δ pv false) (h:JN ⟨P,N,S,w0,X,none,dfs,M⟩ (Q (.panic (iZ pv false))) Γ (Δ++F)):JO ⟨P,N,S,w0,X,none,dfs,M⟩ ops (o::l) Q Γ (Δ++F):=by
 intro a w hst
 have hw:Region.wanted o (yielded ops a.tmps)=true:=aj hg _
 obtain⟨h1,h2,S',h3,h4,h5,h6⟩:=hst
 refine mh λK hK=>?_
 rw [if_pos hw]
 have hO:ba Δ S' w:=h5.part
 have hN:=gW (c:=⟨P,N,S,w0,X,none,dfs,M⟩) h6 hh
 have hnd:nd o.op=true:=by grind [nd]
 have e1:a.eval (.func f)= .func (.func f) #[] #[]:=rfl
 refine Aw (args:=(xs.map a.eval).toArray) hnd (by simp_all [execOp,resolve,Deferred.ofValue,invoke]) hen λv1 hr=>?_
 refine(hC .normal (λe=>nomatch e) S' v1 _ (λb hb=>Nat.lt_of_lt_of_le (h3.dom b hb) hr.size) (gg.of hlen (bM.rely h3.dom hO.sees hr hN)) (hO.rely h3.dom hr)).mono ?_
 rintro e w' ⟨rfl,S2,g1,g2⟩
 exact h _ _ (vi (v:=undef) h1 h2 h3 h4 h5 h6 ((bI.rely h3.dom hr).trans g1 λb hb=>.inl hb) g2 λb hb=>.inl hb)
theorem NF{T':TypeId}{z:Value}{r:A}(hz:∀S w,r.holds S w z)(ho:o.op= .typeAssert x T' T true)(h:SV P T z):bu M o [(x,.eq .nilIface)] [] (λ_:Unit=>(.tup (.pair r (.pair (.eq (.bool false)) .any)),[])):=
 .val0 λS w a hN=>by
  obtain⟨fs,hu⟩:=h.und
  have e1:a.eval x= .nilIface:=hN.1
  refine⟨.tuple #[z,.bool false],?_,[_,_],rfl,_,_,rfl,hz _ _,_,_,rfl,rfl,rfl⟩
  have:(Instr.typeAssert .nilIface T' T true).run P w= .ok (.tuple #[z,.bool false]) w:=by
   unfold Instr.typeAssert;simp only [Sem.run_bind,run_underlying hu,Result.andThen_ok,h.zero,Sem.run_pure,if_true]
  simp_all [execOp,Sem.run_bind,Result.andThen_ok,Sem.run_pure]
theorem NE{T':TypeId}{z u:Value}{r:A}(hz:∀S w,r.holds S w u)(ho:o.op= .typeAssert x T' T true)(h:SV P T z):bu M o [(x,.eq (.iface T u))] [] (λ_:Unit=>(.tup (.pair r (.pair (.eq (.bool true)) .any)),[])):=
 .val0 λS w a hN=>by
  obtain⟨fs,hu⟩:=h.und
  have e1:a.eval x= .iface T u:=hN.1
  refine⟨.tuple #[u,.bool true],?_,[_,_],rfl,_,_,rfl,hz _ _,_,_,rfl,rfl,rfl⟩
  have:(Instr.typeAssert (.iface T u) T' T true).run P w= .ok (.tuple #[u,.bool true]) w:=by
   simp_all [Instr.typeAssert,Sem.run_bind,run_underlying,Result.andThen_ok,Sem.run_pure,if_true]
  simp_all [execOp,Sem.run_bind,Result.andThen_ok,Sem.run_pure]
theorem JA(ho:o.op= .build T #[])(hT:P.underlying T=some (.struct #[]))(hz:∀w,(zeroValue T).run P w= .ok (.agg #[]) w):bu M o [] [] (λ_:Unit=>(.eq (.agg #[]),[])):=
 .val0 λS w a hN=>⟨.agg #[],by simp_all [execOp,Instr.build,Sem.run_bind,run_underlying,Value.cells,Instr.fill],rfl⟩
theorem Jx{v:Value}{fs:Array Field}(ho:o.op= .makeInterface T x)(hu:P.underlying T=some (.struct fs)):bu M o [(x,.eq v)] [] (λ_:Unit=>(.eq (.iface T v),[])):=
 .val0 λS w a hN=>by
  have e1:a.eval x=v:=hN.1
  exact⟨.iface T v,by simp_all [execOp,Instr.makeInterface,run_underlying],rfl⟩
theorem xR{n:Nat}{t:Ty}{l:List t.den}{k:IntKind}{j:Int}{g:Bool}{y:Operand}(ho:o.op= .slice T x none (some y) none)(hT:P.underlying T=some (.array n e))(he:eE P e t.cells g)(h0:0≤j)(h1:j≤n):
 bu M o [(x,.at (.arr n t) l),(y,.eq (.int k j))] [] (λ_:Unit=>(.rep (.slice t) (l.take j.toNat),[])):=
 .val0 λS w a hN=>by
  obtain⟨b,off,c,T2,fz,e1,hS,hb,hlen,hr⟩:=hN.1
  have e2:a.eval y= .int k j:=hN.2.1
  have e1':a.eval x= .pointer (some ⟨b,off,none⟩):=by simp_all
  have hlt:(l.take j.toNat).length=j.toNat:=by simp_all
  refine⟨.slice (some ⟨b,off,none⟩) j.toNat n,?_,[.slice (some ⟨b,off,none⟩) j.toNat n],.inr ⟨b,off,n,c,T2,fz,by rw [hlt],by omega,hS,hb,?_⟩,rfl⟩
  .
   simp [execOp,ho,e1',e2,Instr.sliceAt,Instr.sureAddr,run_underlying hT,Instr.sliceBounds,Instr.sliceBound,asIntOf,he.size,Addr.add,h0,h1]
  .
   have h3:=wy (λ_ _ h=>aU t h) j.toNat hr
   rw [take_take] at h3
   simp_all
theorem qO{a b:A}{t u:Ty}{x:t.den}{y:u.den}(h1:AE a (.rep t x))(h2:AE b (.rep u y)):AE (.pair a b) (.rep (.pair t u) (x,y)):=λS w cs ⟨c1,c2,e,k1,k2⟩=>⟨c1,c2,e,h1 _ _ _ k1,h2 _ _ _ k2⟩
theorem PY{v:Value}:AE (.eq v) (.rep .ign ()):=λS w cs h=>⟨v,h.1,h.2⟩
theorem Pg{S:FS}{w:World}{t:Ty}{x:t.den}{a:A}{v:Value}(h:AE a (.rep t x))(hv:(A.agg a).holds S w v):(A.rep (.agg t) x).holds S w v:=by
 obtain⟨cs,h1,h2⟩:=hv;exact⟨cs,h S w cs h1,h2⟩
end
section
variable {P:Program}{M:Md P}{o:Oper}{x y z:Operand}{T T' e:TypeId}{t:Ty}
theorem zT{l:List t.den}{k k':IntKind}{j j':Int}{g:Bool}(ho:o.op= .slice T x none (some y) (some z))(hT:P.underlying T=some (.slice e))(he:eE P e t.cells g)(h1:j=l.length)(h2:j'=l.length):
 bu M o [(x,.rep (.slice t) l),(y,.eq (.int k j)),(z,.eq (.int k' j'))] [] (λ_:Unit=>(.full t l,[])):=
 .val0 λS w a hN=>by
  obtain⟨b,cap,e1,hr⟩:=t7 hN.1
  have e2:a.eval y= .int k j:=hN.2.1
  have e3:a.eval z= .int k' j':=hN.2.2.1
  have hel:P.elem T=e:=by simp [Program.elem,hT]
  have hu:P.underlying T=some (.slice (P.elem T)):=by simp_all
  have hcap:l.length≤cap:=by
   rcases Q3 hr with h |h
   .exact h
   simp_all
  have hs:sliced b 0 j.toNat j'.toNat t.cells= .slice (if l.length=0 then b else b.map (·.add (0 * t.cells))) l.length l.length:=by
   simp_all [sliced]
  refine⟨sliced b 0 j.toNat j'.toNat t.cells,?_,⟨⟨[sliced b 0 j.toNat j'.toNat t.cells],?_,rfl⟩,_,hs⟩⟩
  .have:=run_slice_hm (P:=P) w T b l.length cap hu k k' j j' (by omega) (by omega) (by omega);simp [execOp,ho,e1,e2,e3,run_sliceAt_slice w T _ _ _ _ hu,this,hel,he.size]
  .rw [hs];rcases hr with⟨a',cap',e,rfl⟩ |⟨b',off,cap',c,T0,fz,e,hle,hS,hb,hr⟩
   .exact .inl ⟨_,_,rfl,rfl⟩
   .simp only [List.cons.injEq,Value.slice.injEq,true_and,and_true] at e;obtain⟨rfl,rfl⟩:=e;by_cases h0:l.length=0
    .rw [if_pos h0];exact .inr ⟨b',off,_,c,T0,fz,rfl,Nat.le_refl _,hS,hb,hr⟩
    .rw [if_neg h0];refine .inr ⟨b',off,_,c,T0,fz,?_,Nat.le_refl _,hS,hb,hr⟩;simp [Addr.add]
theorem EI{S:FS}{w:World}{v:Value}{l:List t.den}(h:(A.full t l).holds S w v):∃b n c,v= .slice b n c:=by
 obtain⟨_,p,rfl⟩:=h;simp_all
theorem xT{l l2:List t.den}{bytes:Nat}{c:Call}(ho:o.op= .call c)(hc:c={ callee:=.builtin .append,args:= #[x,y],argTypes:= #[T,T] })(hT:pm P T e t.cells bytes)
 (hl:aZ (l.length+l2.length)) (h0:blt 0 l2.length=true):bu M o [(x,.full t l),(y,.rep (.slice t) l2)] [] (λv':Value=>(.eq v',[.sl v' e t (l++l2)])):=by
 have h0:0 < l2.length:=by simp_all
 refine vV.T ⟨by grind [nd],λS w a next hd hN hO k=>?_⟩ (λS w a hN hO=>sd ho hc hT.und (EI hN.1) (t4 hN.2.1)) (λd hd=>by simp at hd)
 obtain⟨⟨cs1,h1,e1⟩,p,ep⟩:=hN.1
 obtain⟨cs2,h2,e2⟩:=hN.2.1
 obtain⟨i,zv,q1,q2,q3,q4,q5⟩:=hT.ex
 unfold aZ at hl
 have hsm:=hT.small
 have hb1:l.length+l2.length≤maxLen:=by grind [maxLen]
 have hb2:(l.length+l2.length) * bytes≤140737488355328:=by
  calc (l.length+l2.length) * bytes≤4294967296 * 32768:=Nat.mul_le_mul hl hsm
   _≤140737488355328:=by decide
 have main:∃v' w' xs news,(Builtin.append_ #[T,T] o.type #[a.eval x,a.eval y]).run P w= .ok v' w'/\w'.ownsRow 0 e t.cells v' (l.length+l2.length) (xs++news)/\w.grownBy w' none/\dy (rd S w t) l xs/\dy (rd S w t) l2 news/\v'.ownBlock=some w.heap.size:=by
  rcases h2 with⟨a0,cap,rfl,rfl⟩ |⟨b,off,cap,cc,T0,fz,rfl,hle,hS,hb,hr⟩
  .simp at h0
  .have ey:a.eval y= .slice (some ⟨b,off,none⟩) l2.length cap:=e2;have hlen:=gJ (λ_ _ h=>aU t h) hr;have hone:=ot (λ_ _ h=>ua t h) hr
   have hcell:∀(j:Nat) (u:Value),((cc.toList.drop off).take (l2.length * t.cells))[j]? =some u->w.cell? ((⟨b,off,none⟩:Addr).add j)=some u:=λj u hu=>by
    grind [eS,World.cell?]
   rw [ey]
   have hnone:p=none->l=[]->∃v' w' xs news,(Builtin.append_ #[T,T] o.type #[.slice none 0 0,.slice (some ⟨b,off,none⟩) l2.length cap]).run P w= .ok v' w'/\w'.ownsRow 0 e t.cells v' (l.length+l2.length) (xs++news)/\w.grownBy w' none/\dy (rd S w t) l xs/\dy (rd S w t) l2 news/\v'.ownBlock=some w.heap.size:=by
    rintro _ rfl;obtain⟨v',w',g1,g2,g3,g4,g5⟩:=run_append_own_at (P:=P) w 0 T o.type e i zv t.cells bytes hT.und q1 q2 q3 q4 q5 hT.pos (.slice none 0 0) 0 [] (World.ownsRow_nil w 0 e t.cells) ⟨b,off,none⟩ l2.length cap _ hlen hcell (λu hu=>by grind [zR]) (by omega) (by omega) (zero_le _);refine⟨v',w',[],_,g1,by omega,g3,rfl,hr,?_⟩;rcases g5 with g5 |g5
    .exfalso;rcases g2.2 with⟨rfl,hn⟩ |⟨g,cap',cur,rfl,_⟩
     .omega
     grind [Value.ownBlock]
    .exact g5
   have hsome:∀(q:Addr) (xs:List Value),xs.length=l.length * t.cells->(∀(j:Nat) (u:Value),xs[j]? =some u->w.cell? (q.add j)=some u)->dy (rd S w t) l xs->∃v' w' xs news,(Builtin.append_ #[T,T] o.type #[.slice (some q) l.length l.length,.slice (some ⟨b,off,none⟩) l2.length cap]).run P w= .ok v' w'/\w'.ownsRow 0 e t.cells v' (l.length+l2.length) (xs++news)/\w.grownBy w' none/\dy (rd S w t) l xs/\dy (rd S w t) l2 news/\v'.ownBlock=some w.heap.size:=by
    intro q xs hxl hxc hxr;have hm63:l.length+l2.length≤9223372036854775807:=by omega
    have hrun:=run_append_grow (P:=P) w T o.type e i zv hT.und q1 q2 q l.length l.length xs (by grind) hxc ⟨b,off,none⟩ l2.length cap _ (by grind) hcell (by omega) (by omega) (by rw [q4];exact growslice_fits (by omega) hb2);have hge:=grownCap_ge w (l.length+l2.length) l.length e;have hcm:grownCap w (l.length+l2.length) l.length e≤maxLen:=grownCap_le_maxLen w (l.length+l2.length) l.length e hb1;refine⟨_,_,xs,_,hrun,⟨by grind,.inr ⟨w.heap.size,_,_,rfl,zero_le _,heap_alloc_new w.drew _,hge,hcm,?_,?_⟩⟩,⟨rfl,rfl,rfl,by simp,λk hk _=>heap_alloc_old w.drew _ hk⟩,hxr,hr,rfl⟩
    .simp only [size_append,size_toArray,size_zeroCells,q5,hxl,hlen,<-Nat.add_mul];grind
    grind [Array.toList_append,List.append_assoc,length_append,Nat.add_mul,List.take_left]
   rcases h1 with⟨a0,cap1,rfl,hl0⟩ |⟨b1,off1,cap1,cc1,T1,fz1,rfl,hle1,hS1,hb1',hr1⟩
   .subst hl0;rw [ep];cases p with
    |none=>grind
    |some q=>exact hsome q [] (by simp) (λj u hu=>by simp at hu) rfl
   .have ex:a.eval x= .slice (some ⟨b1,off1,none⟩) l.length cap1:=e1;rw [ep] at ex;simp only [Value.slice.injEq,true_and] at ex;obtain⟨rfl,rfl⟩:=ex;rw [ep];exact hsome ⟨b1,off1,none⟩ _ (gJ (λ_ _ h=>aU t h) hr1) (λj u hu=>by grind [eS,World.cell?]) hr1
 obtain⟨v',w',xs,news,g1,g2,g3,g0,g4,g5⟩:=main
 have hr:(execOp a.eval o).run P w= .ok (.value v') w':=by
  simp_all [execOp,resolve,invoke,builtin]
 have hX:∀b,(none:Option Nat)=some b->ay [] b:=λb h=>by cases h
 have hK:gf S w w':=λb hb=>g3.block b (hd b hb) (λh=>by cases h)
 rw [hr]
 refine k v' S w' v' (oQ hd hX g3) rfl (fY (wl.2 ⟨xs++news,by simp_all,lR (bS (λ_ _ h=>dp (λ_ h=>h) hK t h) g0) (bS (λ_ _ h=>dp (λ_ h=>h) hK t h) g4)⟩) ?_) ?_
 .
  intro b hb;have hb':v'.ownBlock=some b:=hb;rw [g5] at hb';cases hb';exact⟨λhS=>absurd (hd _ hS) (Nat.lt_irrefl _),(g2.lt _ g5).2⟩
 .
  intro b hb;have hb':v'.ownBlock=some b:=g7.1 hb;simp_all
end
def Br(v v2:Value)(n:Nat):Prop:=∃a m c,v= .slice (some a) n c/\v2= .slice (some a) m c
open Classical in
noncomputable def Fo (v v2:Value) (n:Nat):Value:=if Br v v2 n then .slice none 0 0 else v
open Classical in
noncomputable def Fp {α:Type} (v v2:Value) (l:List α):List α:=if Br v v2 l.length then [] else l
section
variable {P:Program}{M:Md P}{o:Oper}{x y:Operand}{T e:TypeId}{t:Ty}
theorem zV{v:Value}{l l2:List t.den}{bytes:Nat}{c:Call}(ho:o.op= .call c)(hc:c={ callee:=.builtin .append,args:= #[x,y],argTypes:= #[T,T] })(hT:pm P T e t.cells bytes)
 (hl:aZ (l.length+l2.length)) (h0:blt 0 l2.length=true):
 bu M o [(x,.eq v),(y,.rep (.slice t) l2)] [.sl v e t l] (λv':Value=>(.eq v',[.sl v' e t (l++l2),.sl (Fo v v' l.length) e t (Fp v v' l)])):=by
 have h0:0 < l2.length:=by simp_all
 refine vV.T ⟨by grind [nd],λS w a next hdS hN hO k=>?_⟩ (λS w a hN hO=>sd ho hc hT.und (by
  have e1:a.eval x=v:=hN.1;rw [e1];exact yy (hO.holds _ (mem_cons_self ..))) (t4 hN.2.1)) (λd hd=>by simp at hd;subst hd;trivial)
 have e1:a.eval x=v:=hN.1
 obtain⟨cs2,h2,e2⟩:=hN.2.1
 have hown:=hO.holds _ (by simp:D.sl v e t l∈[D.sl v e t l])
 obtain⟨xs,hrow,hrd⟩:=wl.1 hown
 obtain⟨i,zv,q1,q2,q3,q4,q5⟩:=hT.ex
 unfold aZ at hl
 have hsm:=hT.small
 have hb1:l.length+l2.length≤maxLen:=by grind [maxLen]
 have hb2:(l.length+l2.length) * bytes≤140737488355328:=by
  calc (l.length+l2.length) * bytes≤4294967296 * 32768:=Nat.mul_le_mul hl hsm
   _≤140737488355328:=by decide
 have hlen':(l++l2).length=l.length+l2.length:=by simp
 have hX:∀b,v.ownBlock=some b->ay [D.sl v e t l] b:=λb h=>g7.2 h
 have hvb:∀b,v.ownBlock=some b->¬S b/\b < w.heap.size:=λb h=>hO.own b (hX b h)
 have main:∃v' w' news,(Builtin.append_ #[T,T] o.type #[v,a.eval y]).run P w= .ok v' w'/\w'.ownsRow 0 e t.cells v' (l.length+l2.length) (xs++news)/\w.grownBy w' v.ownBlock/\dy (rd S w t) l2 news/\
  ((Br v v' l.length/\v'.ownBlock=v.ownBlock)\/(¬Br v v' l.length/\v'.ownBlock=some w.heap.size/\w.grownBy w' none)):=by
  rcases h2 with⟨a0,cap,rfl,rfl⟩ |⟨b,off,cap,cc,T0,fz,rfl,hle,hS,hb,hr⟩
  .
   simp at h0
  .
   have ey:a.eval y= .slice (some ⟨b,off,none⟩) l2.length cap:=e2;have hlen:=gJ (λ_ _ h=>aU t h) hr;have hone:=ot (λ_ _ h=>ua t h) hr
   have hcell:∀(j:Nat) (u:Value),((cc.toList.drop off).take (l2.length * t.cells))[j]? =some u->w.cell? ((⟨b,off,none⟩:Addr).add j)=some u:=λj u hu=>by
    grind [eS,World.cell?]
   rw [ey];obtain⟨v',w',g1,g2,g3,_,g5⟩:=run_append_own_at (P:=P) w 0 T o.type e i zv t.cells bytes hT.und q1 q2 q3 q4 q5 hT.pos v l.length xs hrow ⟨b,off,none⟩ l2.length cap _ hlen hcell (λu hu=>by grind [zR]) hb1 hb2 (zero_le _);refine⟨v',w',_,g1,g2,g3,hr,?_⟩;rcases hrow.2 with⟨rfl,hn⟩ |⟨g,cap',cur,rfl,_,hg,hnc,hcm,hcs,htk⟩
   .right;refine⟨λ⟨a',m',c',h1,_⟩=>(by cases h1),?_,by grind [Value.ownBlock]⟩;rcases g5 with g5 |g5
    .rcases g2.2 with⟨_,hn'⟩ |⟨g,cap',cur,rfl,_⟩
     .omega
     grind [Value.ownBlock]
    .exact g5
   .by_cases hroom:l.length+l2.length≤cap'
    .left;have hfit:l.length * i.size+((cc.toList.drop off).take (l2.length * t.cells)).length≤cur.size:=by rw [hlen,hcs,q3,<-Nat.add_mul];exact mul_le_mul_right _ hroom
     have hrr:=run_append_room (P:=P) w T o.type e i hT.und q1 g l.length cap' cur hg ⟨b,off,none⟩ l2.length cap _ (by grind) hcell (λu hu=>by grind [zR]) hroom hfit;rw [hrr] at g1;simp only [Result.ok.injEq] at g1;obtain⟨rfl,_⟩:=g1;exact⟨⟨_,_,_,rfl,rfl⟩,rfl⟩
    .right;have hxl:xs.length=l.length * i.size:=by rw [q3];exact hrow.1
     have hold:∀(j:Nat) (u:Value),xs[j]? =some u->w.cell? ((⟨g,0,none⟩:Addr).add j)=some u:=hrow.cells (g:=g) rfl;have hm63:l.length+l2.length≤9223372036854775807:=by omega
     have hrr:=run_append_grow (P:=P) w T o.type e i zv hT.und q1 q2 ⟨g,0,none⟩ l.length cap' xs hxl hold ⟨b,off,none⟩ l2.length cap _ (by grind) hcell (by omega) (by omega) (by rw [q4];exact growslice_fits (by omega) hb2);rw [hrr] at g1;simp only [Result.ok.injEq] at g1;obtain⟨rfl,rfl⟩:=g1;have hgs:=(Array.getElem?_eq_some_iff.1 hg).1;refine⟨λ⟨a',m',c',h1,h2⟩=>?_,rfl,⟨rfl,rfl,rfl,by simp,λk hk _=>heap_alloc_old w.drew _ hk⟩⟩;grind
 obtain⟨v',w',news,g1,g2,g3,g4,g5⟩:=main
 have hr:(execOp a.eval o).run P w= .ok (.value v') w':=by
  simp_all [execOp,resolve,invoke,builtin]
 have hK:gf S w w':=λb hb=>g3.block b (hdS b hb) (λh=>(hvb b h.symm).1 hb)
 have hsl:(D.sl v' e t (l++l2)).holds S w':=wl.2 ⟨xs++news,by simp_all,lR (bS (λ_ _ h=>dp (λ_ h=>h) hK t h) hrd) (bS (λ_ _ h=>dp (λ_ h=>h) hK t h) g4)⟩
 rw [hr]
 rcases g5 with⟨hs,g5⟩ |⟨hs,g5,g6⟩
 .
  have ev:Fo v v' l.length= .slice none 0 0:=if_pos hs;have el:Fp v v' l=[]:=if_pos hs;refine k v' S w' v' (oQ hdS hX g3) rfl ?_ ?_
  .show hH [.sl v' e t (l++l2),.sl (Fo v v' l.length) e t (Fp v v' l)] S w';rw [ev,el];refine⟨λd hd=>?_,λb ⟨d,hd,hb⟩=>?_,?_⟩
   .simp only [mem_cons,not_mem_nil,or_false] at hd;rcases hd with rfl |rfl
    .exact hsl
    .exact .inl ⟨rfl,rfl⟩
   .simp only [mem_cons,not_mem_nil,or_false] at hd;rcases hd with rfl |rfl
    .have hb':v'.ownBlock=some b:=hb;exact⟨(hvb b (g5▸hb')).1,(g2.lt b hb').2⟩
    simp_all [D.foot,Value.ownBlock]
   simp_all [pairwise_cons,pairwise_singleton,mem_cons,not_mem_nil,or_false,D.foot,Value.ownBlock]
  .show∀b,ay [.sl v' e t (l++l2),.sl (Fo v v' l.length) e t (Fp v v' l)] b->_;rw [ev,el];rintro b ⟨d,hd,hb⟩;simp only [mem_cons,not_mem_nil,or_false] at hd;grind [D.foot,Value.ownBlock]
 .
  have ev:Fo v v' l.length=v:=if_neg hs;have el:Fp v v' l=l:=if_neg hs;have hX0:∀b,(none:Option Nat)=some b->ay [D.sl v e t l] b:=λb h=>by cases h
  refine k v' S w' v' (oQ hdS hX0 g6) rfl ?_ ?_
  .show hH [.sl v' e t (l++l2),.sl (Fo v v' l.length) e t (Fp v v' l)] S w';rw [ev,el];refine⟨λd hd=>?_,λb ⟨d,hd,hb⟩=>?_,?_⟩
   .simp only [mem_cons,not_mem_nil,or_false] at hd;rcases hd with rfl |rfl
    .exact hsl
    .exact cu (λ_ h=>h) hK _ (λb hb=>g6.block b (hvb b hb).2 (λh=>by cases h)) hown
   .simp only [mem_cons,not_mem_nil,or_false] at hd;rcases hd with rfl |rfl
    .have hb':v'.ownBlock=some b:=hb;refine⟨λhS=>?_,(g2.lt b hb').2⟩;grind
    .have hb':v.ownBlock=some b:=hb;exact⟨(hvb b hb').1,Nat.lt_of_lt_of_le (hvb b hb').2 g6.size⟩
   .refine pairwise_cons.2 ⟨λd hd b h1 hb=>?_,pairwise_singleton _ _⟩;simp only [mem_cons,not_mem_nil,or_false] at hd;subst hd;have h1:v'.ownBlock=some b:=h1;have hb:v.ownBlock=some b:=hb;simp_all
  .show∀b,ay [.sl v' e t (l++l2),.sl (Fo v v' l.length) e t (Fp v v' l)] b->_;rw [ev,el];rintro b ⟨d,hd,hb⟩;simp only [mem_cons,not_mem_nil,or_false] at hd;rcases hd with rfl |rfl
   .have hb':v'.ownBlock=some b:=hb;simp_all
   .exact .inl (hX b hb)
end
section
variable {c:Cx}{Γ:Ga}{F:List D}{T:TypeId}{t:Ty}
theorem Qu{Δ Δ' junk:List D}(hp:Δ.Perm (Δ'++junk)):SE c Γ Δ Γ Δ':=λa w h=>by
 obtain⟨h1,h2,S,h3,h4,h5,h6⟩:=h.perm hp
 have hm:∀d,d∈Δ'->d∈Δ'++junk:=λd hd=>List.mem_append_left _ hd
 exact⟨h1,h2,S,h3,λb ⟨d,hd,e⟩=>h4 b ⟨d,hm d hd,e⟩,h5.re ⟨λd hd=>h5.holds d (hm d hd),λb ⟨d,hd,e⟩=>h5.own b ⟨d,hm d hd,e⟩,h5.apart.sublist (List.sublist_append_left _ _)⟩ (λb ⟨d,hd,e⟩=>⟨d,hm d hd,e⟩) (λ_ h=>.inl h),h6⟩
theorem E4{v v':Value}{l l2:List t.den}:SE c Γ (.sl v' T t (l++l2):: .sl (Fo v v' l.length) T t (Fp v v' l)::F) Γ (.sl v T t l::F):=λa w h=>by
 by_cases hs:Br v v' l.length
 .
  have hV:Fo v v' l.length= .slice none 0 0:=if_pos hs
  have hL:Fp v v' l=[]:=if_pos hs
  rw [hV,hL] at h
  have h:=Qu (junk:=[.sl (.slice none 0 0) T t []]) (Δ':=.sl v' T t (l++l2)::F) (List.Perm.cons _ (List.perm_append_singleton _ _).symm) a w h
  obtain⟨q,m,cp,rfl,rfl⟩:=hs
  refine St.swap (d:=.sl (.slice (some q) m cp) T t (l++l2)) (d':=.sl (.slice (some q) l.length cp) T t l) (λb=>Iff.rfl) (λS hh=>?_) h
  rcases hh with⟨h1,_⟩ |⟨b,cap,cc,h1,h2,h3,h4,h5,h6⟩
  .
   cases h1
  .
   rw [Value.slice.injEq,Option.some.injEq] at h1
   obtain⟨rfl,rfl,rfl⟩:=h1
   refine .inr ⟨b,_,cc,rfl,by grind,h3,h4,h5,?_⟩
   have h7:=wy (λ_ _ h=>aU t h) l.length h6
   simp_all [List.take_left,take_take,Nat.min_eq_left,length_append,mul_le_mul_right]
 .
  have hV:Fo v v' l.length=v:=if_neg hs
  have hL:Fp v v' l=l:=if_neg hs
  rw [hV,hL] at h
  exact Qu (junk:=[.sl v' T t (l++l2)]) (Δ':=.sl v T t l::F) (List.perm_append_singleton _ _).symm a w h
end
def SC(n:Nat)(es:List DE):Bool:=es.all λe=>match e.u with |some (k,true)=>blt k n |_=>true
theorem MY{n:Nat}{es:List DE}(h:SC n es=true){j:Nat}(hj:n≤j):mj es j=false:=by
 unfold mj;rw [List.any_eq_false];intro e he;have:=List.all_eq_true.1 h e he;unfold tN;split at this <;> rename_i q
 .rw [q];simp at this⊢;omega
 simp_all
theorem CJ{es:List DE}:∀{E:List D} {k:Nat},(∀j,k≤j->mj es j=false)->j8.keepFrom es k E=E
 |[],_,_=>rfl
 |d::E,k,h=>by
  rw [j8.keepFrom,h k (Nat.le_refl _),CJ (λj hj=>h j (by omega))];rfl
theorem CH{es:List DE}{E:List D}:∀{pre:List D} {k:Nat},(∀j,k+pre.length≤j->mj es j=false)->j8.keepFrom es k (pre++E)=j8.keepFrom es k pre++E
 |[],k,h=>CJ (λj hj=>h j (by omega))
 |d::pre,k,h=>by
  have ih:=CH (es:=es) (E:=E) (pre:=pre) (k:=k+1) (λj hj=>h j (by grind))
  grind [j8.keepFrom]
theorem yE{Δ l2:List D}{k2:List Nat}(h2:dF Δ k2=some l2):∀{k1:List Nat} {l1:List D},dF Δ k1=some l1->dF Δ (k1++k2)=some (l1++l2)
 |[],l1,h=>by cases h;exact h2
 |k::k1,l1,h=>by
  simp only [dF] at h
  split at h
  .
   rename_i d l q1 q2
   cases h
   have:=yE h2 q2
   simp_all [cons_append,dF]
  .
   cases h
theorem yD{B:List D}:∀{E K:List D},dF (K++(E++B)) (List.range' K.length E.length)=some E
 |[],_=>rfl
 |d::E,K=>by
  have ih:=yD (B:=B) (E:=E) (K:=K++[d])
  simp_all [length_append,List.append_assoc,length_cons,List.range'_succ,dF]
theorem uV{K E B:List D}:∀{ks:List Nat} {l:List D},dF (K++B) ks=some l->dF (K++(E++B)) (ks.map λi=>if i < K.length then i else i+E.length)=some l
 |[],_,h=>h
 |k::ks,l,h=>by
  simp only [dF] at h
  split at h
  .
   rename_i d l q1 q2
   cases h
   have:(K++(E++B))[if k < K.length then k else k+E.length]? =some d:=by
    grind
   have h3:=uV (E:=E) q2;simp_all [map_cons,dF]
  .cases h
theorem He{pre E Δr Δt:List D}{es:List DE}{vs:List Value}{ks:List Nat}(hu:SC pre.length es=true)(h:dF (j8 pre es vs) ks=some (Δr++Δt))(hn:ks.Nodup):
 ∃ks',dF (j8 (pre++E) es vs) ks'=some (Δr++(Δt++E))/\ks'.Nodup:=by
 have e:j8 (pre++E) es vs=j8.keepFrom es 0 pre++(E++births es vs):=by
  grind [j8,CH,MY,List.append_assoc]
 have h1:=uV (E:=E) h
 have h2:=yE (yD (B:=births es vs) (E:=E) (K:=j8.keepFrom es 0 pre)) h1
 grind
section
variable {c:Cx}{id:Nat}{full l:List Oper}{Q:Exit->Act->VW->Prop}{Γ0 Γ:Ga}{acc:List DE}{pre E:List D}
theorem PS(n:Nat)(must:List Bool)(T:List Nat)(kr:List Nat)(Δr:List D)(hk:dF (pre++E) kr=some Δr)(hck:C4 full acc.reverse must T=true)(hcf:K2 kr acc.reverse must=true)(hn:acc.reverse.length=n)(hm:c.P.follows .mixedOrders=true)
 (hu:SC pre.length acc.reverse=true)
 (h:∀vs:List Value,vs.length=n->BH acc.reverse vs->∃ks Δt,dF (j8 pre acc.reverse vs) ks=some (Δr++Δt)/\ks.Nodup/\JT c full Q Γ0 (pre++E) acc.reverse must T vs Δr 0 l Γ0 (Δt++E)):DW c id full Q Γ0 (pre++E) acc l Γ:=
 nj n must T kr Δr hk hck hcf hn hm λvs hv hB=>by
  obtain⟨ks,Δt,h1,h2,h3⟩:=h vs hv hB
  obtain⟨ks',h4,h5⟩:=He (E:=E) hu h1 h2
  grind
theorem PL{Δ Δr Δt Δ':List D}{must:List Bool}{T:List Nat}{vs:List Value}{k:Nat}{o:Oper}{Γt:Ga}{es:List DE}(hA:SD full (es.length+k)=true)(hΔ:Δr++Δt=Δ')(h:JO c full.toArray (o::l) Q (GB es vs++Γt) Δ'):
 JT c full Q Γ0 Δ es must T vs Δr k (o::l) Γt Δt:=by
 simp_all [xu]
end
theorem au{G G':Prop}(k:G')(h:G'->G:=by
 intro k
 repeat (first
  |refine nt ?_ |refine mq ?_ |refine sr ?_ |refine aq ?_ |refine cq ?_ |refine gn ?_ |refine gm ?_ |refine sk ?_ |with_reducible refine tn ?_ |refine pf ?_ |refine pt ?_ |refine xr ?_ |refine gu ?_
  |refine bp ?_ |with_reducible refine aH ?_ |with_reducible refine mf ?_ |with_reducible refine jH ?_ |with_reducible refine fN ?_ |with_reducible refine kj ?_ |with_reducible refine pr ?_ |refine cC ?_ |refine vW ?_ |refine iU ?_ |refine bC ?_)
 exact k):G:=h k
end K
