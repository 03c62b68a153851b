import Derived.Test.YtddkbkkogpolaaaGreatVEB5
import Derived.Maps.Keyed
open Nat
open List hiding mem_of_getElem?
open Array hiding mem_of_getElem? mk
set_option linter.unusedSimpArgs false
set_option linter.unusedVariables false
namespace Go.Proofs.YtddkbkkogpolaaaGreat
namespace K
open Go
def uw{Y:Type}(P:Program)(k:TypeId)(V:Y->Value)(R:Value->Y->Prop)(o:Obj):Prop:=
 ∃es cl,o= .map es cl/\∀e∈es.toList,(∃lt,keyOf P k e.key=some lt)/\kE e.key=true/\∃n,e.val=V n/\R e.key n
theorem uw.nil{Y:Type}{P:Program}{k:TypeId}{V:Y->Value}{R:Value->Y->Prop}:uw P k V R (.map #[] 0):=⟨#[],0,rfl,by simp⟩
theorem uw.calm{Y:Type}{P:Program}{k:TypeId}{V:Y->Value}{R:Value->Y->Prop}{o:Obj}(h:uw P k V R o):calm o=true:=by
 obtain⟨es,cl,rfl,h⟩:=h;show(es.toList.all λe=>kE e.key)=true;simp_all
section
variable {Y:Type}{P:Program}{M:Md P}{o:Oper}{x y v:Operand}{T T' k e:TypeId}{V:Y->Value}{R:Value->Y->Prop}{kv:Value}
theorem u5{z:Nat}{ob:Obj}(hT:P.underlying T=some (.map k e))(z0:Y)(hz:∀w,(zeroValue e).run P w= .ok (V z0) w)(hk:Maps.Keyed P k)(hkv:∃lt,keyOf P k kv=some lt)
 (hfun:∀n n',R kv n->R kv n'->n=n') (hob:uw P k V R ob):
 ∃n b,(b=true->R kv n)/\(b=false->n=z0)/\∀w,w.heap[z]? =some ob->(Instr.lookup T (.map (some z)) kv true).run P w= .ok (.tuple #[V n,.bool b]) w:=by
 obtain⟨es,cl,rfl,h2⟩:=hob
 obtain⟨lt,hlt⟩:=hkv
 by_cases he:∃en∈es.toList,en.key=kv
 .
  obtain⟨e0,he0,hk0⟩:=he;obtain⟨_,_,n0,_,hR0⟩:=h2 e0 he0;rw [hk0] at hR0;refine⟨n0,true,λ_=>hR0,λh=>Bool.noConfusion h,λw h1=>?_⟩;have hc:=hk.check w es.isEmpty hlt;rcases hk.find w hlt es.toList (λe he=>(h2 e he).1) with⟨h3,h4⟩ |⟨j,en,h3,h4,h5⟩
  .simp_all
  .obtain⟨_,_,n,hn,hR⟩:=h2 en (List.mem_of_getElem? h4);rw [h5] at hR;obtain rfl:=hfun _ _ hR hR0;simp only [Instr.lookup,Sem.run_bind,run_underlying hT,Result.andThen_ok,fM h1,Sem.run_pure,hc,h3,hn,if_true]
 .
  refine⟨z0,false,λh=>Bool.noConfusion h,λ_=>rfl,λw h1=>?_⟩;have hc:=hk.check w es.isEmpty hlt;rcases hk.find w hlt es.toList (λe he=>(h2 e he).1) with⟨h3,h4⟩ |⟨j,en,h3,h4,h5⟩
  .simp only [Instr.lookup,Sem.run_bind,run_underlying hT,Result.andThen_ok,fM h1,Sem.run_pure,hc,h3,hz,if_true]
  grind
theorem DI{z:Nat}{rk:A}{ob:Obj}{n:Y}{b:Bool}(r:Y->A)(hV:∀S w,(r n).holds S w (V n))(hnk:kE kv=true)(hcm:calm ob=true)(ho:o.op= .lookup T x y true)(hy:∀S w u,rk.holds S w u->u=kv)
 (hr:∀w,w.heap[z]? =some ob->(Instr.lookup T (.map (some z)) kv true).run P w= .ok (.tuple #[V n,.bool b]) w):
 bA M o [(x,.eq (.map (some z))),(y,rk)] [.raw z ob] (λ_:Unit=>(.tup (.pair (r n) (.pair (.eq (.bool b)) .any)),[.raw z ob])):=by
 refine uJ.T ⟨by grind [nd],λS w a next hd hN hO kk=>?_⟩ (λS w a hN _=>BR ho (by have e:a.eval y=kv:=hy _ _ _ hN.2.1;simp_all)) (λd hd=>by rw [List.mem_singleton.1 hd];exact hcm)
 have e1:a.eval x= .map (some z):=hN.1
 have e2:a.eval y=kv:=hy S w _ hN.2.1
 have h1:w.heap[z]? =some ob:=hO.holds _ (List.mem_singleton.2 rfl)
 have hrun:(execOp a.eval o).run P w= .ok (.value (.tuple #[V n,.bool b])) w:=by
  simp_all [execOp,Sem.run_bind,Result.andThen_ok,Sem.run_pure]
 rw [hrun]
 exact kk () S w _ (jJ.refl hd) ⟨[_,_],rfl,_,_,rfl,hV _ _,_,_,rfl,rfl,rfl⟩ hO (λb hb=>.inl hb)
theorem wO{z:Nat}{rk:A}{n:Y}{rv:A}(hV:∀S w u,rv.holds S w u->u=V n)(hnk:kE kv=true)(ho:o.op= .mapUpdate T x y v)(hT:P.underlying T=some (.map k e))(hk:Maps.Keyed P k)(hy:∀S w u,rk.holds S w u->u=kv)(hkv:∃lt,keyOf P k kv=some lt)(hR:R kv n):
 bA M o [(x,.eq (.map (some z))),(y,rk),(v,rv)] [.inv z (uw P k V R)] (λ_:Unit=>(.eq undef,[.inv z (uw P k V R)])):=by
 refine uJ.T ⟨by grind [nd],λS w a next hd hN hO kk=>?_⟩ (λS w a hN _=>BN ho (by have e:a.eval y=kv:=hy _ _ _ hN.2.1;simp_all)) (λd hd=>by rw [List.mem_singleton.1 hd];exact λ_ h=>h.calm)
 have e1:a.eval x= .map (some z):=hN.1
 have e2:a.eval y=kv:=hy S w _ hN.2.1
 have e3:a.eval v=V n:=hV _ _ _ hN.2.2.1
 obtain⟨ob,h1,es,cl,rfl,h2⟩:=hO.holds _ (List.mem_singleton.2 rfl)
 have hb:=hO.own z ⟨_,List.mem_singleton.2 rfl,rfl⟩
 obtain⟨lt,hlt⟩:=hkv
 have hc:=hk.check w false hlt
 have hgo:∀ob',(Instr.mapUpdate T (.map (some z)) kv (V n)).run P w= .ok () (w.putObj z ob')->uw P k V R ob'->QC o a next ((execOp a.eval o).run P w):=λob' hr hM=>by
  have hrun:(execOp a.eval o).run P w= .ok .skip (w.putObj z ob'):=by
   simp_all [execOp,Sem.run_bind,Result.andThen_ok,Sem.run_pure]
  rw [hrun];refine kk () S _ _ (nB hd ⟨_,List.mem_singleton.2 rfl,rfl⟩ ob') rfl (fV ⟨ob',wJ hb.2,hM⟩ λb h=>?_) (λb hb=>.inl hb);grind [D.foot,Option.some.injEq,qi]
 rcases hk.find w hlt es.toList (λe he=>(h2 e he).1) with⟨h3,h4⟩ |⟨j,en,h3,h4,h5⟩
 .
  refine hgo (.map (es.push { key:=kv,val:=V n,born:=cl }) (cl+1)) ?_ ⟨_,_,rfl,λe he=>?_⟩
  .simp only [Instr.mapUpdate,Sem.run_bind,run_underlying hT,Result.andThen_ok,fM h1,Sem.run_pure,hc,h3,kQ _ h1]
  grind
 .
  have hst:=hk.stays w hlt;have hj:es[j]? =some en:=by simp_all
  refine hgo (.map (es.modify j λe=>{ e with key:=kv,val:=V n }) cl) ?_ ⟨_,_,rfl,λe he=>?_⟩
  .simp only [Instr.mapUpdate,Sem.run_bind,run_underlying hT,Result.andThen_ok,fM h1,Sem.run_pure,hc,h3,hj,Option.map_some,Option.getD_some,h5,hst,kQ _ h1]
  .obtain⟨i,hi⟩:=List.mem_iff_getElem?.1 he;grind
end
end K
end Go.Proofs.YtddkbkkogpolaaaGreat
set_option linter.unusedVariables false
namespace Go.Proofs.YtddkbkkogpolaaaGreat
namespace K
open Go Go.Conc
def Qu(P:Program)(T:TypeId):Prop:=∀w:World,(Instr.makeChan T (.int .i64 0)).runT P w #[]=(.ok (.chan (some w.heap.size)) (w.alloc (.chan 0 #[] false 0 0 false)), #[])
section
variable {P:Program}{M:Md P}{o:Oper}{T:TypeId}
theorem Az(ho:o.op= .makeChan T (.const (.int .i64 0)))(hT:Qu P T):bA M o [] [] (λz:Nat=>(.eq (.chan (some z)),[.raw z (.chan 0 #[] false 0 0 false)])):=by
 have hnd:nd o.op=true:=by grind [nd]
 refine⟨hnd,λrd S v a next Q hd _ hO k=>M9 λv1 hr=>?_⟩;rw [Oper.semAt_eq _ _ _ (λc e=>by simp_all)];have h1:=hT v1.toWorld;have r1:(Instr.makeChan T (.int .i64 0)).run P v1= .ok (.chan (some v1.heap.size)) (v1.alloc (.chan 0 #[] false 0 0 false)):=by simp_all
 have e1:(Instr.makeChan T (.int .i64 0)).events P v1 #[]= #[]:=by simp_all
 have hx:execOp a.eval o=(do pure (.value (<-Instr.makeChan T (.int .i64 0))):Sem Next):=by unfold execOp;rw [ho];rfl
 have hrun:(execOp a.eval o).run P v1= .ok (.value (.chan (some v1.heap.size))) (v1.alloc (.chan 0 #[] false 0 0 false)):=by simp_all
 have hev:(execOp a.eval o).events P v1 #[]= #[]:=by simp_all
 have hd1:∀b,S b->b < v1.heap.size:=λb hb=>Nat.lt_of_lt_of_le (hd b hb) hr.size;have hO1:=hO.rely hd hr;refine⟨?_,?_⟩
 .unfold Sg;rw [hrun];refine⟨λb hb _=>f7 v1 _ b hb,by simp,.refl _,rfl,rfl,λe he=>by simp_all⟩
 .rw [hrun];refine k v1.heap.size S (v1.upd (v1.alloc (.chan 0 #[] false 0 0 false))) _ ((bB.rely hd hr).trans (bB.of (fF (X:=au []) hd1 _)) λb hb=>.inl hb) rfl (hO1.alloc hd1 _) λb hb=>?_;have:v1.heap.size=b:=by simp_all [D.foot,ib]
  exact .inr (this▸hr.size)
end
end K
end Go.Proofs.YtddkbkkogpolaaaGreat
set_option linter.unusedVariables false
set_option linter.unusedSectionVars false
namespace Go.Proofs.YtddkbkkogpolaaaGreat
namespace K
open Go
section
variable {P:Program}{M:Md P}{o:Oper}{T e:TypeId}
theorem DK{n0 n1 n2:Int}{x0 x1 x2:Operand}(ho:o.op= .build T #[(0,x0),(1,x1),(2,x2)])(hT:P.underlying T=some (.array 3 e))(hs:d5 P e 1 false)(hz:∀w,(zeroValue T).run P w= .ok (.agg #[.int .i64 0,.int .i64 0,.int .i64 0]) w):
 bA M o [(x0,.eq (.int .i64 n0)),(x1,.eq (.int .i64 n1)),(x2,.eq (.int .i64 n2))] [] (λ_:Unit=>(.rep (.arr 3 (.int .i64)) [n0,n1,n2],[])):=
 .val0 λS w a hN=>by
  have e0:a.eval x0= .int .i64 n0:=hN.1
  have e1:a.eval x1= .int .i64 n1:=hN.2.1
  have e2:a.eval x2= .int .i64 n2:=hN.2.2.1
  refine⟨.agg #[.int .i64 n0,.int .i64 n1,.int .i64 n2],?_,[.int .i64 n0,.int .i64 n1,.int .i64 n2],⟨rfl,[_],_,rfl,rfl,[_],_,rfl,rfl,[_],_,rfl,rfl,rfl⟩,rfl⟩
  simp [execOp,ho,Instr.build,Sem.run_bind,hz,run_underlying hT,hs.size,e0,e1,e2,Value.cells,Instr.fill]
end
section
variable {κ β:Type}[DecidableEq κ]
def m9(P:Program)(k:TypeId)(K:κ->Value)(V:β->Value)(l:List (κ×β))(o:Obj):Prop:=
 ∃es cl,o= .map es cl/\es.toList.map (λe=>(e.key,e.val))=l.map (λp=>(K p.1,V p.2))/\(∀p∈l,(∃lt,keyOf P k (K p.1)=some lt)/\kE (K p.1)=true)/\(l.map (·.1)).Nodup
def mT(l:List (κ×β))(t:κ)(d:β):β:=match l.find? (λp=>p.1=t) with
 |some p=>p.2
 |none=>d
def AN(l:List (κ×β))(t:κ)(v:β):List (κ×β):=if t∈l.map (·.1) then l.map (λp=>if p.1=t then(t,v) else p) else l++[(t,v)]
theorem vS{b:Nat}{R R':Obj->Prop}{x:Nat}(h:au [D.inv b R] x):au [D.inv b R'] x:=by
 obtain⟨d,hd,e⟩:=h;rw [List.mem_singleton.1 hd] at e;exact⟨_,List.mem_singleton.2 rfl,e⟩
theorem m9.nil{P:Program}{k:TypeId}{K:κ->Value}{V:β->Value}:m9 P k K V [] (.map #[] 0):=⟨#[],0,rfl,rfl,by simp,nodup_nil⟩
theorem my{K:κ->Value}{V:β->Value}{l:List (κ×β)}{es:Array MapEntry}(h:es.toList.map (λe=>(e.key,e.val))=l.map (λp=>(K p.1,V p.2))):∀{i:Nat} {e:MapEntry},es.toList[i]? =some e->∃p,l[i]? =some p/\e.key=K p.1/\e.val=V p.2:=by
 intro i e he;have h1:=congrArg (·[i]?) h;grind
theorem m9.calm{P:Program}{k:TypeId}{K:κ->Value}{V:β->Value}{l:List (κ×β)}{o:Obj}(h:m9 P k K V l o):calm o=true:=by
 obtain⟨es,cl,rfl,h1,h2,h3⟩:=h;show(es.toList.all λe=>kE e.key)=true;rw [List.all_eq_true];intro e he;obtain⟨i,hi⟩:=List.mem_iff_getElem?.1 he;obtain⟨p,hp,e1,_⟩:=my h1 hi;grind
theorem JE{l:List (κ×β)}(hn:(l.map (·.1)).Nodup){i:Nat}{p:κ×β}(hp:l[i]? =some p)(d:β):mT l p.1 d=p.2:=by
 unfold mT
 have:l.find? (λq=>q.1=p.1)=some p:=by
  induction l generalizing i with
  |nil=>simp at hp
  |cons q l ih=>
   grind
 rw [this]
theorem JB{l:List (κ×β)}{t:κ}(h:t∉l.map (·.1))(d:β):mT l t d=d:=by
 unfold mT;grind
variable {P:Program}{M:Md P}{o:Oper}{x y v:Operand}{T T' k e:TypeId}{K:κ->Value}{V:β->Value}{l:List (κ×β)}{z:Nat}{rk:A}{t:κ}
theorem rm(r:β->A)(hV:∀S w n,(r n).holds S w (V n))(ho:o.op= .lookup T x y false)(hT:P.underlying T=some (.map k e))(d0:β)(hz:∀w,(zeroValue e).run P w= .ok (V d0) w)(hk:Maps.Keyed P k)(hy:∀S w u,rk.holds S w u->u=K t)(hkt:∃lt,keyOf P k (K t)=some lt)(hnk:kE (K t)=true)(hinj:∀a b,K a=K b->a=b):
 bA M o [(x,.eq (.map (some z))),(y,rk)] [.inv z (m9 P k K V l)] (λ_:Unit=>(r (mT l t d0),[.inv z (m9 P k K V l)])):=by
 refine uJ.T ⟨by grind [nd],λS w a next hd hN hO kk=>?_⟩ (λS w a hN _=>BR ho (by have e:a.eval y=K t:=hy _ _ _ hN.2.1;simp_all)) (λd hd=>by rw [List.mem_singleton.1 hd];exact λ_ h=>h.calm)
 have e1:a.eval x= .map (some z):=hN.1
 have e2:a.eval y=K t:=hy S w _ hN.2.1
 obtain⟨ob,h1,es,cl,rfl,h2,h3,h4⟩:=hO.holds _ (List.mem_singleton.2 rfl)
 obtain⟨lt,hlt⟩:=hkt
 have hc:=hk.check w es.isEmpty hlt
 have fin:(Instr.lookup T (.map (some z)) (K t) false).run P w= .ok (V (mT l t d0)) w->QC o a next ((execOp a.eval o).run P w):=λhr=>by
  have hrun:(execOp a.eval o).run P w= .ok (.value (V (mT l t d0))) w:=by
   simp_all [execOp,Sem.run_bind,Result.andThen_ok,Sem.run_pure]
  rw [hrun];exact kk () S w _ (jJ.refl hd) (hV _ _ _) hO (λb hb=>.inl hb)
 refine fin ?_
 rcases hk.find w hlt es.toList (λe he=>by
  obtain⟨i,hi⟩:=List.mem_iff_getElem?.1 he;obtain⟨p,hp,q1,_⟩:=my h2 hi;grind) with⟨g1,g2⟩ |⟨j,en,g1,g2,g3⟩
 .
  have hno:t∉l.map (·.1):=λhm=>by
   obtain⟨p,hp,hpt⟩:=List.mem_map.1 hm;obtain⟨i,hi⟩:=List.mem_iff_getElem?.1 hp;have hi2:=congrArg (·[i]?) h2;grind
  rw [JB hno];simp only [Instr.lookup,Sem.run_bind,run_underlying hT,Result.andThen_ok,fM h1,Sem.run_pure,hc,g1,hz,if_false,Bool.false_eq_true]
 .
  obtain⟨p,hp,q1,q2⟩:=my h2 g2;obtain rfl:p.1=t:=hinj _ _ (q1.symm.trans g3);rw [JE h4 hp];simp only [Instr.lookup,Sem.run_bind,run_underlying hT,Result.andThen_ok,fM h1,Sem.run_pure,hc,g1,q2,if_false,Bool.false_eq_true]
theorem ql{n:β}{rv:A}(hV:∀S w u,rv.holds S w u->u=V n)(ho:o.op= .mapUpdate T x y v)(hT:P.underlying T=some (.map k e))(hk:Maps.Keyed P k)(hy:∀S w u,rk.holds S w u->u=K t)(hkt:∃lt,keyOf P k (K t)=some lt)(hnk:kE (K t)=true)(hinj:∀a b,K a=K b->a=b):
 bA M o [(x,.eq (.map (some z))),(y,rk),(v,rv)] [.inv z (m9 P k K V l)] (λ_:Unit=>(.eq undef,[.inv z (m9 P k K V (AN l t n))])):=by
 refine uJ.T ⟨by grind [nd],λS w a next hd hN hO kk=>?_⟩ (λS w a hN _=>BN ho (by have e:a.eval y=K t:=hy _ _ _ hN.2.1;simp_all)) (λd hd=>by rw [List.mem_singleton.1 hd];exact λ_ h=>h.calm)
 have e1:a.eval x= .map (some z):=hN.1
 have e2:a.eval y=K t:=hy S w _ hN.2.1
 have e3:a.eval v=V n:=hV _ _ _ hN.2.2.1
 obtain⟨ob,h1,es,cl,rfl,h2,h3,h4⟩:=hO.holds _ (List.mem_singleton.2 rfl)
 have hb:=hO.own z ⟨_,List.mem_singleton.2 rfl,rfl⟩
 obtain⟨lt,hlt⟩:=hkt
 have hc:=hk.check w false hlt
 have hgo:∀ob',(Instr.mapUpdate T (.map (some z)) (K t) (V n)).run P w= .ok () (w.putObj z ob')->m9 P k K V (AN l t n) ob'->QC o a next ((execOp a.eval o).run P w):=λob' hr hM=>by
  have hrun:(execOp a.eval o).run P w= .ok .skip (w.putObj z ob'):=by
   grind [execOp,Sem.run_bind,Result.andThen_ok,Sem.run_pure]
  rw [hrun];refine kk () S _ _ (nB hd ⟨_,List.mem_singleton.2 rfl,rfl⟩ ob') rfl (fV ⟨ob',wJ hb.2,hM⟩ λb h=>?_) (λb hb=>.inl (vS hb));grind [D.foot,Option.some.injEq,qi]
 rcases hk.find w hlt es.toList (λe he=>by
  obtain⟨i,hi⟩:=List.mem_iff_getElem?.1 he;obtain⟨p,hp,q1,_⟩:=my h2 hi;grind) with⟨g1,g2⟩ |⟨j,en,g1,g2,g3⟩
 .
  have hno:t∉l.map (·.1):=λhm=>by
   obtain⟨p,hp,hpt⟩:=List.mem_map.1 hm;obtain⟨i,hi⟩:=List.mem_iff_getElem?.1 hp;have hi2:=congrArg (·[i]?) h2;grind
  have hm:AN l t n=l++[(t,n)]:=if_neg hno;refine hgo (.map (es.push { key:=K t,val:=V n,born:=cl }) (cl+1)) ?_ ⟨_,_,rfl,?_,λp hp=>?_,?_⟩
  .simp only [Instr.mapUpdate,Sem.run_bind,run_underlying hT,Result.andThen_ok,fM h1,hc,g1,kQ _ h1]
  .grind
  .grind
  grind
 .
  have hst:=hk.stays w hlt;have hj:es[j]? =some en:=by grind
  obtain⟨p,hp,q1,q2⟩:=my h2 g2;obtain rfl:p.1=t:=hinj _ _ (q1.symm.trans g3);have hmem:p.1∈l.map (·.1):=List.mem_map.2 ⟨p,List.mem_of_getElem? hp,rfl⟩;have hm:AN l p.1 n=l.map (λq=>if q.1=p.1 then(p.1,n) else q):=if_pos hmem;refine hgo (.map (es.modify j λe=>{ e with key:=K p.1,val:=V n }) cl) ?_ ⟨_,_,rfl,?_,λq hq=>?_,?_⟩
  .simp only [Instr.mapUpdate,Sem.run_bind,run_underlying hT,Result.andThen_ok,fM h1,hc,g1,hj,Option.map_some,Option.getD_some,g3,hst,kQ _ h1]
  .rw [hm];apply List.ext_getElem?;intro i;rw [List.getElem?_map,List.getElem?_map,List.getElem?_map];have hi2:=congrArg (·[i]?) h2;simp only [List.getElem?_map] at hi2;have hi3:(es.modify j λe=>{ e with key:=K p.1,val:=V n }).toList[i]? =(es.modify j λe=>{ e with key:=K p.1,val:=V n })[i]? :=by grind
   rw [hi3,Array.getElem?_modify];by_cases hji:j=i
   .grind
   .rw [if_neg hji];have hi4:es[i]? =es.toList[i]? :=by grind
    rw [hi4];cases hq:l[i]? with
    |none=>grind
    |some q=>
     rw [hq] at hi2
     have hne:¬q.1=p.1:=λe=>hji (by
      have hlt:=(List.getElem?_eq_some_iff.1 hp).1;refine(getElem?_inj (l:=l.map (·.1)) (by grind) h4).1 ?_;grind)
     grind
  .grind
  grind
theorem Gh{c:Call}(ho:o.op= .call c)(hc:c={ callee:=.builtin .clear,args:= #[x],argTypes:= #[T] })(hT:P.underlying T=some (.map k e)):
 bA M o [(x,.eq (.map (some z)))] [.inv z (m9 P k K V l)] (λ_:Unit=>(.eq (.tuple #[]),[.inv z (m9 P k K V [])])):=by
 refine uJ.T ⟨by grind [nd],λS w a next hd hN hO kk=>?_⟩ (λS w a hN hO=>ii (by grind [rD]) a.eval) (λd hd=>by rw [List.mem_singleton.1 hd];exact λ_ h=>h.calm)
 have e1:a.eval x= .map (some z):=hN.1
 obtain⟨ob,h1,es,cl,rfl,h2,h3,h4⟩:=hO.holds _ (List.mem_singleton.2 rfl)
 have hb:=hO.own z ⟨_,List.mem_singleton.2 rfl,rfl⟩
 have hrun:(execOp a.eval o).run P w= .ok (.value (.tuple #[])) (w.putObj z (.map #[] cl)):=by
  simp [execOp,ho,hc,resolve,invoke,builtin,e1,Builtin.clear_,run_underlying hT,fM h1,kQ _ h1]
 rw [hrun]
 refine kk () S _ _ (nB hd ⟨_,List.mem_singleton.2 rfl,rfl⟩ (.map #[] cl)) rfl (fV ⟨_,wJ hb.2, #[],cl,rfl,rfl,by simp,nodup_nil⟩ λb h=>?_) (λb hb=>.inl (vS hb))
 simp_all [D.foot,Option.some.injEq,qi]
end
section
variable {P:Program}
theorem yh{vs:Nat->Value}:∀{l:List (List Int)} {j:Nat},(nz vs j l).length=l.length
 |[],_=>rfl
 |_::l,j=>by simp only [nz,length_cons,yh (l:=l)]
theorem Ic{c:Cx}{ops:Array Oper}{o:Oper}{l:List Oper}{Q:Exit->Act->VW->Prop}{Γ:Ga}{pre:List D}{T:TypeId}{z:Value×(Nat->Value)}{ls:List (List Int)}{x:Operand}{d:Nat}{Tx e:TypeId}{cl:Call}(hg:o.guard=none)(hd:o.dst=some d)(hdN:blt d c.N=true)
 (ho:o.op= .call cl) (hc:cl={ callee:=.builtin .len,args:= #[x],argTypes:= #[Tx] }) (hT:c.P.underlying Tx=some (.slice e)) (hh:d4 Γ [(x,.eq z.1)])
 (h:JO c ops l Q ((d,.eq (.int .i64 (ls.length:Int)))::Γ) (pre++wL T z ls)):JO c ops (o::l) Q Γ (pre++wL T z ls):=by
 refine eZ (SE.pp (Δ':=[.sl z.1 T .val (nz z.2 0 ls)]++(pre++nk z.2 0 ls)) perm_middle) ?_
 refine aN (F:=pre++nk z.2 0 ls) (λ_ _ _=>ag hg _) hd hdN (me (M:=c.M) (t:=.val) (l:=nz z.2 0 ls) (TE:=T) ho hc hT) hh λ_=>?_
 have hp:(D.sl z.1 T .val (nz z.2 0 ls)::(pre++nk z.2 0 ls)).Perm (pre++wL T z ls):=perm_middle.symm
 rw [yh]
 exact eZ (SE.pp hp) h
end
end K
end Go.Proofs.YtddkbkkogpolaaaGreat
set_option linter.unusedVariables false
namespace Go.Proofs.YtddkbkkogpolaaaGreat
namespace K
open Go
def Dc(S:FS)(w:VW)(Δ:List D)(pv:Value):Bool->Ending->VW->Prop
 |true=>c7 S w Δ (λ_:Unit=>(bM [],Δ))
 |false=>λe v'=>e= .panicked (gZ pv false)/\∃S',bB (au Δ) S w S' v'/\aP Δ S' v'
def Bw{P:Program}(M:Md P)(f:Nat)(Ss:List A)(Δ:List D)(pv:Value)(r:Bool):Prop:=
 ∀(k:CallKind),k≠.early->∀(S:FS) (w:VW) (vs:List Value),(∀b,S b->b < w.heap.size)->fy S w Ss vs->aP Δ S w->jj M k f vs.toArray w (Dc S w Δ pv r)
theorem Bw.ok{P:Program}{M:Md P}{f:Nat}{Ss:List A}{Δ:List D}{pv:Value}(h:Bw M f Ss Δ pv true):bY M f Ss Δ (λ_:Unit=>(bM [],Δ)):=h
section
variable {P:Program}{M:Md P}{N:Nat}{S:FS}{w0:VW}{X:Nat->Prop}{ops:Array Oper}{o:Oper}{l:List Oper}{Q:Exit->Act->VW->Prop}{Γ:Ga}{Δ F:List D}{fn:Func}{pv:Value}{T e:TypeId}{x:Operand}
theorem Bw.of{f:Nat}{C:Code}{Ss:List A}{r:Bool}(N:Nat)(hf:P.funcs[f]? =some fn)(hb:fn.body=some C)(hN:fn.ntmps=N)(hn:ble Ss.length N=true)
 (h:∀S w0,JC ⟨P,N,S,w0,au Δ,none,[],M⟩ C (bQ P fn (Dc S w0 Δ pv r)) (entry 0 Ss) Δ):Bw M f Ss Δ pv r:=by
 subst hN
 intro kind hkind S w vs hd hall hO T hT cs hc
 have bc:=M.bc T hT
 rw [enter_at hf hb]
 refine h S w _ _ (St.entry hn hd hall hO) T hT _ [] cs rfl λe a' v' q=>?_
 have fin:∀todo,(a'.defers=[]/\∃x,(∀v1,bj v' v1->(results fn a'.tmps).run P v1= .ok x v1/\eD v1 v1 ((results fn a'.tmps).events P v1 #[]))/\Dc S w Δ pv r (.returned x) v')->
  T v' { Frame.atR { (default:Frame) with fn:=f,kind:=kind } a' todo with mode:=.returning } cs:=λtodo ⟨q1,x,q2,q3⟩=>hc _ _ _ q3 rfl rfl ⟨rfl,q1,fn,hf,q2⟩
 cases e with
 |normal=>exact bc.move (λ_ _=>t9 rfl) (fin _ q)
 |ret=>exact⟨λ_ todo=>fin todo q,λh=>by cases h⟩
 |panic chain=>exact λtodo=>hc _ _ _ q.2 rfl rfl ⟨rfl,q.1,fn,hf⟩
 |exit id=>exact q.elim
 |goto l=>exact q.elim
 |outgrown=>exact q.elim
theorem K8:JN ⟨P,N,S,w0,au Δ,none,[],M⟩ (bQ P fn (Dc S w0 Δ pv false) (.panic (gZ pv false))) Γ Δ:=λa w st=>by
 obtain⟨h1,h2,S',h3,h4,h5,h6⟩:=st
 exact⟨h1,rfl,S',h3,h5⟩
theorem If{f:Nat}{Ss:List A}{c:Call}{dfs:List Deferred}(xs:List Operand){ts:Array TypeId}(hg:o.guard=none)(ho:o.op= .call c)(hc:c={ callee:=.value (.func f),args:=xs.toArray,argTypes:=ts })(hlen:xs.length=Ss.length)(hen:ah P f)
 (hh:d4 Γ (xs.zip Ss)) (hC:Bw M f Ss Δ pv false) (h:JN ⟨P,N,S,w0,X,none,dfs,M⟩ (Q (.panic (gZ pv false))) Γ (Δ++F)):JO ⟨P,N,S,w0,X,none,dfs,M⟩ ops (o::l) Q Γ (Δ++F):=by
 intro a w hst
 have hw:Region.wanted o (yielded ops a.tmps)=true:=ag hg _
 obtain⟨h1,h2,S',h3,h4,h5,h6⟩:=hst
 refine kH λK hK=>?_
 rw [if_pos hw]
 have hO:aP Δ S' w:=h5.part
 have hN:=fR (c:=⟨P,N,S,w0,X,none,dfs,M⟩) h6 hh
 have hnd:nd o.op=true:=by grind [nd]
 have e1:a.eval (.func f)= .func (.func f) #[] #[]:=rfl
 refine xw (args:=(xs.map a.eval).toArray) hnd (by simp_all [execOp,resolve,Deferred.ofValue,invoke]) hen λv1 hr=>?_
 refine(hC .normal (λe=>nomatch e) S' v1 _ (λb hb=>Nat.lt_of_lt_of_le (h3.dom b hb) hr.size) (fy.of hlen (bH.rely h3.dom hO.sees hr hN)) (hO.rely h3.dom hr)).mono ?_
 rintro e w' ⟨rfl,S2,g1,g2⟩
 exact h _ _ (sD (v:=undef) h1 h2 h3 h4 h5 h6 ((bB.rely h3.dom hr).trans g1 λb hb=>.inl hb) g2 λb hb=>.inl hb)
theorem Jj{T':TypeId}{z:Value}{r:A}(hz:∀S w,r.holds S w z)(ho:o.op= .typeAssert x T' T true)(h:Oa P T z):bA M o [(x,.eq .nilIface)] [] (λ_:Unit=>(.tup (.pair r (.pair (.eq (.bool false)) .any)),[])):=
 .val0 λS w a hN=>by
  obtain⟨fs,hu⟩:=h.und
  have e1:a.eval x= .nilIface:=hN.1
  refine⟨.tuple #[z,.bool false],?_,[_,_],rfl,_,_,rfl,hz _ _,_,_,rfl,rfl,rfl⟩
  have:(Instr.typeAssert .nilIface T' T true).run P w= .ok (.tuple #[z,.bool false]) w:=by
   unfold Instr.typeAssert;simp only [Sem.run_bind,run_underlying hu,Result.andThen_ok,h.zero,Sem.run_pure,if_true]
  simp_all [execOp,Sem.run_bind,Result.andThen_ok,Sem.run_pure]
theorem Ji{T':TypeId}{z u:Value}{r:A}(hz:∀S w,r.holds S w u)(ho:o.op= .typeAssert x T' T true)(h:Oa P T z):bA M o [(x,.eq (.iface T u))] [] (λ_:Unit=>(.tup (.pair r (.pair (.eq (.bool true)) .any)),[])):=
 .val0 λS w a hN=>by
  obtain⟨fs,hu⟩:=h.und
  have e1:a.eval x= .iface T u:=hN.1
  refine⟨.tuple #[u,.bool true],?_,[_,_],rfl,_,_,rfl,hz _ _,_,_,rfl,rfl,rfl⟩
  have:(Instr.typeAssert (.iface T u) T' T true).run P w= .ok (.tuple #[u,.bool true]) w:=by
   simp_all [Instr.typeAssert,Sem.run_bind,run_underlying,Result.andThen_ok,Sem.run_pure,if_true]
  simp_all [execOp,Sem.run_bind,Result.andThen_ok,Sem.run_pure]
theorem Gi(ho:o.op= .build T #[])(hT:P.underlying T=some (.struct #[]))(hz:∀w,(zeroValue T).run P w= .ok (.agg #[]) w):bA M o [] [] (λ_:Unit=>(.eq (.agg #[]),[])):=
 .val0 λS w a hN=>⟨.agg #[],by simp_all [execOp,Instr.build,Sem.run_bind,run_underlying,Value.cells,Instr.fill],rfl⟩
theorem Gf{v:Value}{fs:Array Field}(ho:o.op= .makeInterface T x)(hu:P.underlying T=some (.struct fs)):bA M o [(x,.eq v)] [] (λ_:Unit=>(.eq (.iface T v),[])):=
 .val0 λS w a hN=>by
  have e1:a.eval x=v:=hN.1
  exact⟨.iface T v,by simp_all [execOp,Instr.makeInterface,run_underlying],rfl⟩
theorem uR{n:Nat}{t:Ty}{l:List t.den}{k:IntKind}{j:Int}{g:Bool}{y:Operand}(ho:o.op= .slice T x none (some y) none)(hT:P.underlying T=some (.array n e))(he:d5 P e t.cells g)(h0:0≤j)(h1:j≤n):
 bA M o [(x,.at (.arr n t) l),(y,.eq (.int k j))] [] (λ_:Unit=>(.rep (.slice t) (l.take j.toNat),[])):=
 .val0 λS w a hN=>by
  obtain⟨b,off,c,T2,fz,e1,hS,hb,hlen,hr⟩:=hN.1
  have e2:a.eval y= .int k j:=hN.2.1
  have e1':a.eval x= .pointer (some ⟨b,off,none⟩):=by simp_all
  have hlt:(l.take j.toNat).length=j.toNat:=by simp_all
  refine⟨.slice (some ⟨b,off,none⟩) j.toNat n,?_,[.slice (some ⟨b,off,none⟩) j.toNat n],.inr ⟨b,off,n,c,T2,fz,by rw [hlt],by omega,hS,hb,?_⟩,rfl⟩
  .
   simp [execOp,ho,e1',e2,Instr.sliceAt,Instr.sureAddr,run_underlying hT,Instr.sliceBounds,Instr.sliceBound,asIntOf,he.size,Addr.add,h0,h1]
  .
   have h3:=Ap (λ_ _ h=>aO t h) j.toNat hr
   rw [take_take] at h3
   simp_all
end
section
variable {P:Program}{M:Md P}{o:Oper}{x y z:Operand}{T T' e:TypeId}{t:Ty}
end
def LD(v v2:Value)(n:Nat):Prop:=∃a m c,v= .slice (some a) n c/\v2= .slice (some a) m c
open Classical in
noncomputable def TG (v v2:Value) (n:Nat):Value:=if LD v v2 n then .slice none 0 0 else v
open Classical in
noncomputable def TJ {α:Type} (v v2:Value) (l:List α):List α:=if LD v v2 l.length then [] else l
section
variable {P:Program}{M:Md P}{o:Oper}{x y:Operand}{T e:TypeId}{t:Ty}
end
section
variable {c:Cx}{Γ:Ga}{F:List D}{T:TypeId}{t:Ty}
end
section
variable {c:Cx}{id:Nat}{full l:List Oper}{Q:Exit->Act->VW->Prop}{Γ0 Γ:Ga}{acc:List DE}{pre E:List D}
end
end K
