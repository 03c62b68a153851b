import Derived.Test.YtlhalkpppmnnmaaGreatVOB5
import Derived.Maps.Keyed
open Nat
open List hiding mem_of_getElem?
open Array hiding mem_of_getElem? mk
set_option linter.unusedSimpArgs false
set_option linter.unusedVariables false
namespace Go.Proofs.YtlhalkpppmnnmaaGreat
namespace K
open Go
def tw{Y:Type}(P:Program)(k:TypeId)(V:Y->Value)(R:Value->Y->Prop)(o:Obj):Prop:=
 ∃es cl,o= .map es cl/\∀e∈es.toList,(∃lt,keyOf P k e.key=some lt)/\jN e.key=true/\∃n,e.val=V n/\R e.key n
theorem tw.nil{Y:Type}{P:Program}{k:TypeId}{V:Y->Value}{R:Value->Y->Prop}:tw P k V R (.map #[] 0):=⟨#[],0,rfl,by simp⟩
theorem tw.calm{Y:Type}{P:Program}{k:TypeId}{V:Y->Value}{R:Value->Y->Prop}{o:Obj}(h:tw P k V R o):calm o=true:=by
 obtain⟨es,cl,rfl,h⟩:=h;show(es.toList.all λe=>jN e.key)=true;simp_all
section
variable {Y:Type}{P:Program}{M:Md P}{o:Oper}{x y v:Operand}{T T' k e:TypeId}{V:Y->Value}{R:Value->Y->Prop}{kv:Value}
theorem t9{z:Nat}{ob:Obj}(hT:P.underlying T=some (.map k e))(z0:Y)(hz:∀w,(zeroValue e).run P w= .ok (V z0) w)(hk:Maps.Keyed P k)(hkv:∃lt,keyOf P k kv=some lt)
 (hfun:∀n n',R kv n->R kv n'->n=n') (hob:tw P k V R ob):
 ∃n b,(b=true->R kv n)/\(b=false->n=z0)/\∀w,w.heap[z]? =some ob->(Instr.lookup T (.map (some z)) kv true).run P w= .ok (.tuple #[V n,.bool b]) w:=by
 obtain⟨es,cl,rfl,h2⟩:=hob
 obtain⟨lt,hlt⟩:=hkv
 by_cases he:∃en∈es.toList,en.key=kv
 .
  obtain⟨e0,he0,hk0⟩:=he;obtain⟨_,_,n0,_,hR0⟩:=h2 e0 he0;rw [hk0] at hR0;refine⟨n0,true,λ_=>hR0,λh=>Bool.noConfusion h,λw h1=>?_⟩;have hc:=hk.check w es.isEmpty hlt;rcases hk.find w hlt es.toList (λe he=>(h2 e he).1) with⟨h3,h4⟩ |⟨j,en,h3,h4,h5⟩
  .simp_all
  .obtain⟨_,_,n,hn,hR⟩:=h2 en (List.mem_of_getElem? h4);rw [h5] at hR;obtain rfl:=hfun _ _ hR hR0;simp only [Instr.lookup,Sem.run_bind,run_underlying hT,Result.andThen_ok,eH h1,Sem.run_pure,hc,h3,hn,if_true]
 .
  refine⟨z0,false,λh=>Bool.noConfusion h,λ_=>rfl,λw h1=>?_⟩;have hc:=hk.check w es.isEmpty hlt;rcases hk.find w hlt es.toList (λe he=>(h2 e he).1) with⟨h3,h4⟩ |⟨j,en,h3,h4,h5⟩
  .simp only [Instr.lookup,Sem.run_bind,run_underlying hT,Result.andThen_ok,eH h1,Sem.run_pure,hc,h3,hz,if_true]
  grind
theorem AQ{z:Nat}{rk:A}{ob:Obj}{n:Y}{b:Bool}(r:Y->A)(hV:∀S w,(r n).holds S w (V n))(hnk:jN kv=true)(hcm:calm ob=true)(ho:o.op= .lookup T x y true)(hy:∀S w u,rk.holds S w u->u=kv)
 (hr:∀w,w.heap[z]? =some ob->(Instr.lookup T (.map (some z)) kv true).run P w= .ok (.tuple #[V n,.bool b]) w):
 be M o [(x,.eq (.map (some z))),(y,rk)] [.raw z ob] (λ_:Unit=>(.tup (.pair (r n) (.pair (.eq (.bool b)) .any)),[.raw z ob])):=by
 refine tq.T ⟨by grind [nd],λS w a next hd hN hO kk=>?_⟩ (λS w a hN _=>zI ho (by have e:a.eval y=kv:=hy _ _ _ hN.2.1;simp_all)) (λd hd=>by rw [List.mem_singleton.1 hd];exact hcm)
 have e1:a.eval x= .map (some z):=hN.1
 have e2:a.eval y=kv:=hy S w _ hN.2.1
 have h1:w.heap[z]? =some ob:=hO.holds _ (List.mem_singleton.2 rfl)
 have hrun:(execOp a.eval o).run P w= .ok (.value (.tuple #[V n,.bool b])) w:=by
  simp_all [execOp,Sem.run_bind,Result.andThen_ok,Sem.run_pure]
 rw [hrun]
 exact kk () S w _ (iY.refl hd) ⟨[_,_],rfl,_,_,rfl,hV _ _,_,_,rfl,rfl,rfl⟩ hO (λb hb=>.inl hb)
theorem vp{z:Nat}{rk:A}{n:Y}{rv:A}(hV:∀S w u,rv.holds S w u->u=V n)(hnk:jN kv=true)(ho:o.op= .mapUpdate T x y v)(hT:P.underlying T=some (.map k e))(hk:Maps.Keyed P k)(hy:∀S w u,rk.holds S w u->u=kv)(hkv:∃lt,keyOf P k kv=some lt)(hR:R kv n):
 be M o [(x,.eq (.map (some z))),(y,rk),(v,rv)] [.inv z (tw P k V R)] (λ_:Unit=>(.eq undef,[.inv z (tw P k V R)])):=by
 refine tq.T ⟨by grind [nd],λS w a next hd hN hO kk=>?_⟩ (λS w a hN _=>zE ho (by have e:a.eval y=kv:=hy _ _ _ hN.2.1;simp_all)) (λd hd=>by rw [List.mem_singleton.1 hd];exact λ_ h=>h.calm)
 have e1:a.eval x= .map (some z):=hN.1
 have e2:a.eval y=kv:=hy S w _ hN.2.1
 have e3:a.eval v=V n:=hV _ _ _ hN.2.2.1
 obtain⟨ob,h1,es,cl,rfl,h2⟩:=hO.holds _ (List.mem_singleton.2 rfl)
 have hb:=hO.own z ⟨_,List.mem_singleton.2 rfl,rfl⟩
 obtain⟨lt,hlt⟩:=hkv
 have hc:=hk.check w false hlt
 have hgo:∀ob',(Instr.mapUpdate T (.map (some z)) kv (V n)).run P w= .ok () (w.putObj z ob')->tw P k V R ob'->Nc o a next ((execOp a.eval o).run P w):=λob' hr hM=>by
  have hrun:(execOp a.eval o).run P w= .ok .skip (w.putObj z ob'):=by
   simp_all [execOp,Sem.run_bind,Result.andThen_ok,Sem.run_pure]
  rw [hrun];refine kk () S _ _ (mL hd ⟨_,List.mem_singleton.2 rfl,rfl⟩ ob') rfl (eV ⟨ob',vi hb.2,hM⟩ λb h=>?_) (λb hb=>.inl hb);grind [D.foot,Option.some.injEq,pG]
 rcases hk.find w hlt es.toList (λe he=>(h2 e he).1) with⟨h3,h4⟩ |⟨j,en,h3,h4,h5⟩
 .
  refine hgo (.map (es.push { key:=kv,val:=V n,born:=cl }) (cl+1)) ?_ ⟨_,_,rfl,λe he=>?_⟩
  .simp only [Instr.mapUpdate,Sem.run_bind,run_underlying hT,Result.andThen_ok,eH h1,Sem.run_pure,hc,h3,jX _ h1]
  grind
 .
  have hst:=hk.stays w hlt;have hj:es[j]? =some en:=by simp_all
  refine hgo (.map (es.modify j λe=>{ e with key:=kv,val:=V n }) cl) ?_ ⟨_,_,rfl,λe he=>?_⟩
  .simp only [Instr.mapUpdate,Sem.run_bind,run_underlying hT,Result.andThen_ok,eH h1,Sem.run_pure,hc,h3,hj,Option.map_some,Option.getD_some,h5,hst,jX _ h1]
  .obtain⟨i,hi⟩:=List.mem_iff_getElem?.1 he;grind
end
end K
end Go.Proofs.YtlhalkpppmnnmaaGreat
set_option linter.unusedVariables false
namespace Go.Proofs.YtlhalkpppmnnmaaGreat
namespace K
open Go Go.Conc
def MY(P:Program)(T:TypeId):Prop:=∀w:World,(Instr.makeChan T (.int .i64 0)).runT P w #[]=(.ok (.chan (some w.heap.size)) (w.alloc (.chan 0 #[] false 0 0 false)), #[])
section
variable {P:Program}{M:Md P}{o:Oper}{T:TypeId}
theorem yx(ho:o.op= .makeChan T (.const (.int .i64 0)))(hT:MY P T):be M o [] [] (λz:Nat=>(.eq (.chan (some z)),[.raw z (.chan 0 #[] false 0 0 false)])):=by
 have hnd:nd o.op=true:=by grind [nd]
 refine⟨hnd,λrd S v a next Q hd _ hO k=>Jh λv1 hr=>?_⟩;rw [Oper.semAt_eq _ _ _ (λc e=>by simp_all)];have h1:=hT v1.toWorld;have r1:(Instr.makeChan T (.int .i64 0)).run P v1= .ok (.chan (some v1.heap.size)) (v1.alloc (.chan 0 #[] false 0 0 false)):=by simp_all
 have e1:(Instr.makeChan T (.int .i64 0)).events P v1 #[]= #[]:=by simp_all
 have hx:execOp a.eval o=(do pure (.value (<-Instr.makeChan T (.int .i64 0))):Sem Next):=by unfold execOp;rw [ho];rfl
 have hrun:(execOp a.eval o).run P v1= .ok (.value (.chan (some v1.heap.size))) (v1.alloc (.chan 0 #[] false 0 0 false)):=by simp_all
 have hev:(execOp a.eval o).events P v1 #[]= #[]:=by simp_all
 have hd1:∀b,S b->b < v1.heap.size:=λb hb=>Nat.lt_of_lt_of_le (hd b hb) hr.size;have hO1:=hO.rely hd hr;refine⟨?_,?_⟩
 .unfold Sg;rw [hrun];refine⟨λb hb _=>fg v1 _ b hb,by simp,.refl _,rfl,rfl,λe he=>by simp_all⟩
 .rw [hrun];refine k v1.heap.size S (v1.upd (v1.alloc (.chan 0 #[] false 0 0 false))) _ ((bC.rely hd hr).trans (bC.of (fx (X:=ao []) hd1 _)) λb hb=>.inl hb) rfl (hO1.alloc hd1 _) λb hb=>?_;have:v1.heap.size=b:=by simp_all [D.foot,fE]
  exact .inr (this▸hr.size)
end
end K
end Go.Proofs.YtlhalkpppmnnmaaGreat
set_option linter.unusedVariables false
set_option linter.unusedSectionVars false
namespace Go.Proofs.YtlhalkpppmnnmaaGreat
namespace K
open Go
section
variable {P:Program}{M:Md P}{o:Oper}{T e:TypeId}
theorem AT{n0 n1 n2:Int}{x0 x1 x2:Operand}(ho:o.op= .build T #[(0,x0),(1,x1),(2,x2)])(hT:P.underlying T=some (.array 3 e))(hs:dk P e 1 false)(hz:∀w,(zeroValue T).run P w= .ok (.agg #[.int .i64 0,.int .i64 0,.int .i64 0]) w):
 be M o [(x0,.eq (.int .i64 n0)),(x1,.eq (.int .i64 n1)),(x2,.eq (.int .i64 n2))] [] (λ_:Unit=>(.rep (.arr 3 (.int .i64)) [n0,n1,n2],[])):=
 .val0 λS w a hN=>by
  have e0:a.eval x0= .int .i64 n0:=hN.1
  have e1:a.eval x1= .int .i64 n1:=hN.2.1
  have e2:a.eval x2= .int .i64 n2:=hN.2.2.1
  refine⟨.agg #[.int .i64 n0,.int .i64 n1,.int .i64 n2],?_,[.int .i64 n0,.int .i64 n1,.int .i64 n2],⟨rfl,[_],_,rfl,rfl,[_],_,rfl,rfl,[_],_,rfl,rfl,rfl⟩,rfl⟩
  simp [execOp,ho,Instr.build,Sem.run_bind,hz,run_underlying hT,hs.size,e0,e1,e2,Value.cells,Instr.fill]
end
section
variable {κ β:Type}[DecidableEq κ]
def mi(P:Program)(k:TypeId)(K:κ->Value)(V:β->Value)(l:List (κ×β))(o:Obj):Prop:=
 ∃es cl,o= .map es cl/\es.toList.map (λe=>(e.key,e.val))=l.map (λp=>(K p.1,V p.2))/\(∀p∈l,(∃lt,keyOf P k (K p.1)=some lt)/\jN (K p.1)=true)/\(l.map (·.1)).Nodup
def l7(l:List (κ×β))(t:κ)(d:β):β:=match l.find? (λp=>p.1=t) with
 |some p=>p.2
 |none=>d
def yH(l:List (κ×β))(t:κ)(v:β):List (κ×β):=if t∈l.map (·.1) then l.map (λp=>if p.1=t then(t,v) else p) else l++[(t,v)]
theorem uN{b:Nat}{R R':Obj->Prop}{x:Nat}(h:ao [D.inv b R] x):ao [D.inv b R'] x:=by
 obtain⟨d,hd,e⟩:=h;rw [List.mem_singleton.1 hd] at e;exact⟨_,List.mem_singleton.2 rfl,e⟩
theorem mi.nil{P:Program}{k:TypeId}{K:κ->Value}{V:β->Value}:mi P k K V [] (.map #[] 0):=⟨#[],0,rfl,rfl,by simp,nodup_nil⟩
theorem lJ{K:κ->Value}{V:β->Value}{l:List (κ×β)}{es:Array MapEntry}(h:es.toList.map (λe=>(e.key,e.val))=l.map (λp=>(K p.1,V p.2))):∀{i:Nat} {e:MapEntry},es.toList[i]? =some e->∃p,l[i]? =some p/\e.key=K p.1/\e.val=V p.2:=by
 intro i e he;have h1:=congrArg (·[i]?) h;grind
theorem mi.calm{P:Program}{k:TypeId}{K:κ->Value}{V:β->Value}{l:List (κ×β)}{o:Obj}(h:mi P k K V l o):calm o=true:=by
 obtain⟨es,cl,rfl,h1,h2,h3⟩:=h;show(es.toList.all λe=>jN e.key)=true;rw [List.all_eq_true];intro e he;obtain⟨i,hi⟩:=List.mem_iff_getElem?.1 he;obtain⟨p,hp,e1,_⟩:=lJ h1 hi;grind
theorem GO{l:List (κ×β)}(hn:(l.map (·.1)).Nodup){i:Nat}{p:κ×β}(hp:l[i]? =some p)(d:β):l7 l p.1 d=p.2:=by
 unfold l7
 have:l.find? (λq=>q.1=p.1)=some p:=by
  induction l generalizing i with
  |nil=>simp at hp
  |cons q l ih=>
   grind
 rw [this]
theorem GN{l:List (κ×β)}{t:κ}(h:t∉l.map (·.1))(d:β):l7 l t d=d:=by
 unfold l7;grind
variable {P:Program}{M:Md P}{o:Oper}{x y v:Operand}{T T' k e:TypeId}{K:κ->Value}{V:β->Value}{l:List (κ×β)}{z:Nat}{rk:A}{t:κ}
theorem qG(r:β->A)(hV:∀S w n,(r n).holds S w (V n))(ho:o.op= .lookup T x y false)(hT:P.underlying T=some (.map k e))(d0:β)(hz:∀w,(zeroValue e).run P w= .ok (V d0) w)(hk:Maps.Keyed P k)(hy:∀S w u,rk.holds S w u->u=K t)(hkt:∃lt,keyOf P k (K t)=some lt)(hnk:jN (K t)=true)(hinj:∀a b,K a=K b->a=b):
 be M o [(x,.eq (.map (some z))),(y,rk)] [.inv z (mi P k K V l)] (λ_:Unit=>(r (l7 l t d0),[.inv z (mi P k K V l)])):=by
 refine tq.T ⟨by grind [nd],λS w a next hd hN hO kk=>?_⟩ (λS w a hN _=>zI ho (by have e:a.eval y=K t:=hy _ _ _ hN.2.1;simp_all)) (λd hd=>by rw [List.mem_singleton.1 hd];exact λ_ h=>h.calm)
 have e1:a.eval x= .map (some z):=hN.1
 have e2:a.eval y=K t:=hy S w _ hN.2.1
 obtain⟨ob,h1,es,cl,rfl,h2,h3,h4⟩:=hO.holds _ (List.mem_singleton.2 rfl)
 obtain⟨lt,hlt⟩:=hkt
 have hc:=hk.check w es.isEmpty hlt
 have fin:(Instr.lookup T (.map (some z)) (K t) false).run P w= .ok (V (l7 l t d0)) w->Nc o a next ((execOp a.eval o).run P w):=λhr=>by
  have hrun:(execOp a.eval o).run P w= .ok (.value (V (l7 l t d0))) w:=by
   simp_all [execOp,Sem.run_bind,Result.andThen_ok,Sem.run_pure]
  rw [hrun];exact kk () S w _ (iY.refl hd) (hV _ _ _) hO (λb hb=>.inl hb)
 refine fin ?_
 rcases hk.find w hlt es.toList (λe he=>by
  obtain⟨i,hi⟩:=List.mem_iff_getElem?.1 he;obtain⟨p,hp,q1,_⟩:=lJ h2 hi;grind) with⟨g1,g2⟩ |⟨j,en,g1,g2,g3⟩
 .
  have hno:t∉l.map (·.1):=λhm=>by
   obtain⟨p,hp,hpt⟩:=List.mem_map.1 hm;obtain⟨i,hi⟩:=List.mem_iff_getElem?.1 hp;have hi2:=congrArg (·[i]?) h2;grind
  rw [GN hno];simp only [Instr.lookup,Sem.run_bind,run_underlying hT,Result.andThen_ok,eH h1,Sem.run_pure,hc,g1,hz,if_false,Bool.false_eq_true]
 .
  obtain⟨p,hp,q1,q2⟩:=lJ h2 g2;obtain rfl:p.1=t:=hinj _ _ (q1.symm.trans g3);rw [GO h4 hp];simp only [Instr.lookup,Sem.run_bind,run_underlying hT,Result.andThen_ok,eH h1,Sem.run_pure,hc,g1,q2,if_false,Bool.false_eq_true]
theorem pI{n:β}{rv:A}(hV:∀S w u,rv.holds S w u->u=V n)(ho:o.op= .mapUpdate T x y v)(hT:P.underlying T=some (.map k e))(hk:Maps.Keyed P k)(hy:∀S w u,rk.holds S w u->u=K t)(hkt:∃lt,keyOf P k (K t)=some lt)(hnk:jN (K t)=true)(hinj:∀a b,K a=K b->a=b):
 be M o [(x,.eq (.map (some z))),(y,rk),(v,rv)] [.inv z (mi P k K V l)] (λ_:Unit=>(.eq undef,[.inv z (mi P k K V (yH l t n))])):=by
 refine tq.T ⟨by grind [nd],λS w a next hd hN hO kk=>?_⟩ (λS w a hN _=>zE ho (by have e:a.eval y=K t:=hy _ _ _ hN.2.1;simp_all)) (λd hd=>by rw [List.mem_singleton.1 hd];exact λ_ h=>h.calm)
 have e1:a.eval x= .map (some z):=hN.1
 have e2:a.eval y=K t:=hy S w _ hN.2.1
 have e3:a.eval v=V n:=hV _ _ _ hN.2.2.1
 obtain⟨ob,h1,es,cl,rfl,h2,h3,h4⟩:=hO.holds _ (List.mem_singleton.2 rfl)
 have hb:=hO.own z ⟨_,List.mem_singleton.2 rfl,rfl⟩
 obtain⟨lt,hlt⟩:=hkt
 have hc:=hk.check w false hlt
 have hgo:∀ob',(Instr.mapUpdate T (.map (some z)) (K t) (V n)).run P w= .ok () (w.putObj z ob')->mi P k K V (yH l t n) ob'->Nc o a next ((execOp a.eval o).run P w):=λob' hr hM=>by
  have hrun:(execOp a.eval o).run P w= .ok .skip (w.putObj z ob'):=by
   grind [execOp,Sem.run_bind,Result.andThen_ok,Sem.run_pure]
  rw [hrun];refine kk () S _ _ (mL hd ⟨_,List.mem_singleton.2 rfl,rfl⟩ ob') rfl (eV ⟨ob',vi hb.2,hM⟩ λb h=>?_) (λb hb=>.inl (uN hb));grind [D.foot,Option.some.injEq,pG]
 rcases hk.find w hlt es.toList (λe he=>by
  obtain⟨i,hi⟩:=List.mem_iff_getElem?.1 he;obtain⟨p,hp,q1,_⟩:=lJ h2 hi;grind) with⟨g1,g2⟩ |⟨j,en,g1,g2,g3⟩
 .
  have hno:t∉l.map (·.1):=λhm=>by
   obtain⟨p,hp,hpt⟩:=List.mem_map.1 hm;obtain⟨i,hi⟩:=List.mem_iff_getElem?.1 hp;have hi2:=congrArg (·[i]?) h2;grind
  have hm:yH l t n=l++[(t,n)]:=if_neg hno;refine hgo (.map (es.push { key:=K t,val:=V n,born:=cl }) (cl+1)) ?_ ⟨_,_,rfl,?_,λp hp=>?_,?_⟩
  .simp only [Instr.mapUpdate,Sem.run_bind,run_underlying hT,Result.andThen_ok,eH h1,hc,g1,jX _ h1]
  .grind
  .grind
  grind
 .
  have hst:=hk.stays w hlt;have hj:es[j]? =some en:=by grind
  obtain⟨p,hp,q1,q2⟩:=lJ h2 g2;obtain rfl:p.1=t:=hinj _ _ (q1.symm.trans g3);have hmem:p.1∈l.map (·.1):=List.mem_map.2 ⟨p,List.mem_of_getElem? hp,rfl⟩;have hm:yH l p.1 n=l.map (λq=>if q.1=p.1 then(p.1,n) else q):=if_pos hmem;refine hgo (.map (es.modify j λe=>{ e with key:=K p.1,val:=V n }) cl) ?_ ⟨_,_,rfl,?_,λq hq=>?_,?_⟩
  .simp only [Instr.mapUpdate,Sem.run_bind,run_underlying hT,Result.andThen_ok,eH h1,hc,g1,hj,Option.map_some,Option.getD_some,g3,hst,jX _ h1]
  .rw [hm];apply List.ext_getElem?;intro i;rw [List.getElem?_map,List.getElem?_map,List.getElem?_map];have hi2:=congrArg (·[i]?) h2;simp only [List.getElem?_map] at hi2;have hi3:(es.modify j λe=>{ e with key:=K p.1,val:=V n }).toList[i]? =(es.modify j λe=>{ e with key:=K p.1,val:=V n })[i]? :=by grind
   rw [hi3,Array.getElem?_modify];by_cases hji:j=i
   .grind
   .rw [if_neg hji];have hi4:es[i]? =es.toList[i]? :=by grind
    rw [hi4];cases hq:l[i]? with
    |none=>grind
    |some q=>
     rw [hq] at hi2
     have hne:¬q.1=p.1:=λe=>hji (by
      have hlt:=(List.getElem?_eq_some_iff.1 hp).1;refine(getElem?_inj (l:=l.map (·.1)) (by grind) h4).1 ?_;grind)
     grind
  .grind
  grind
theorem Dl{c:Call}(ho:o.op= .call c)(hc:c={ callee:=.builtin .clear,args:= #[x],argTypes:= #[T] })(hT:P.underlying T=some (.map k e)):
 be M o [(x,.eq (.map (some z)))] [.inv z (mi P k K V l)] (λ_:Unit=>(.eq (.tuple #[]),[.inv z (mi P k K V [])])):=by
 refine tq.T ⟨by grind [nd],λS w a next hd hN hO kk=>?_⟩ (λS w a hN hO=>gQ (by grind [rL]) a.eval) (λd hd=>by rw [List.mem_singleton.1 hd];exact λ_ h=>h.calm)
 have e1:a.eval x= .map (some z):=hN.1
 obtain⟨ob,h1,es,cl,rfl,h2,h3,h4⟩:=hO.holds _ (List.mem_singleton.2 rfl)
 have hb:=hO.own z ⟨_,List.mem_singleton.2 rfl,rfl⟩
 have hrun:(execOp a.eval o).run P w= .ok (.value (.tuple #[])) (w.putObj z (.map #[] cl)):=by
  simp [execOp,ho,hc,resolve,invoke,builtin,e1,Builtin.clear_,run_underlying hT,eH h1,jX _ h1]
 rw [hrun]
 refine kk () S _ _ (mL hd ⟨_,List.mem_singleton.2 rfl,rfl⟩ (.map #[] cl)) rfl (eV ⟨_,vi hb.2, #[],cl,rfl,rfl,by simp,nodup_nil⟩ λb h=>?_) (λb hb=>.inl (uN hb))
 simp_all [D.foot,Option.some.injEq,pG]
end
section
variable {P:Program}
end
end K
end Go.Proofs.YtlhalkpppmnnmaaGreat
set_option linter.unusedVariables false
namespace Go.Proofs.YtlhalkpppmnnmaaGreat
namespace K
open Go
def Au(S:FS)(w:VW)(Δ:List D)(pv:Value):Bool->Ending->VW->Prop
 |true=>cK S w Δ (λ_:Unit=>(bO [],Δ))
 |false=>λe v'=>e= .panicked (fR pv false)/\∃S',bC (ao Δ) S w S' v'/\aX Δ S' v'
def zk{P:Program}(M:Md P)(f:Nat)(Ss:List A)(Δ:List D)(pv:Value)(r:Bool):Prop:=
 ∀(k:CallKind),k≠.early->∀(S:FS) (w:VW) (vs:List Value),(∀b,S b->b < w.heap.size)->ew S w Ss vs->aX Δ S w->ix M k f vs.toArray w (Au S w Δ pv r)
theorem zk.ok{P:Program}{M:Md P}{f:Nat}{Ss:List A}{Δ:List D}{pv:Value}(h:zk M f Ss Δ pv true):bG M f Ss Δ (λ_:Unit=>(bO [],Δ)):=h
section
variable {P:Program}{M:Md P}{N:Nat}{S:FS}{w0:VW}{X:Nat->Prop}{ops:Array Oper}{o:Oper}{l:List Oper}{Q:Exit->Act->VW->Prop}{Γ:Ga}{Δ F:List D}{fn:Func}{pv:Value}{T e:TypeId}{x:Operand}
theorem zk.of{f:Nat}{C:Code}{Ss:List A}{r:Bool}(N:Nat)(hf:P.funcs[f]? =some fn)(hb:fn.body=some C)(hN:fn.ntmps=N)(hn:ble Ss.length N=true)
 (h:∀S w0,JC ⟨P,N,S,w0,ao Δ,none,[],M⟩ C (bF P fn (Au S w0 Δ pv r)) (entry 0 Ss) Δ):zk M f Ss Δ pv r:=by
 subst hN
 intro kind hkind S w vs hd hall hO T hT cs hc
 have bc:=M.bc T hT
 rw [enter_at hf hb]
 refine h S w _ _ (St.entry hn hd hall hO) T hT _ [] cs rfl λe a' v' q=>?_
 have fin:∀todo,(a'.defers=[]/\∃x,(∀v1,bp v' v1->(results fn a'.tmps).run P v1= .ok x v1/\dH v1 v1 ((results fn a'.tmps).events P v1 #[]))/\Au S w Δ pv r (.returned x) v')->
  T v' { Frame.atR { (default:Frame) with fn:=f,kind:=kind } a' todo with mode:=.returning } cs:=λtodo ⟨q1,x,q2,q3⟩=>hc _ _ _ q3 rfl rfl ⟨rfl,q1,fn,hf,q2⟩
 cases e with
 |normal=>exact bc.move (λ_ _=>sZ rfl) (fin _ q)
 |ret=>exact⟨λ_ todo=>fin todo q,λh=>by cases h⟩
 |panic chain=>exact λtodo=>hc _ _ _ q.2 rfl rfl ⟨rfl,q.1,fn,hf⟩
 |exit id=>exact q.elim
 |goto l=>exact q.elim
 |outgrown=>exact q.elim
theorem HY:JN ⟨P,N,S,w0,ao Δ,none,[],M⟩ (bF P fn (Au S w0 Δ pv false) (.panic (fR pv false))) Γ Δ:=λa w st=>by
 obtain⟨h1,h2,S',h3,h4,h5,h6⟩:=st
 exact⟨h1,rfl,S',h3,h5⟩
theorem E3{f:Nat}{Ss:List A}{c:Call}{dfs:List Deferred}(xs:List Operand){ts:Array TypeId}(hg:o.guard=none)(ho:o.op= .call c)(hc:c={ callee:=.value (.func f),args:=xs.toArray,argTypes:=ts })(hlen:xs.length=Ss.length)(hen:ag P f)
 (hh:gA Γ (xs.zip Ss)) (hC:zk M f Ss Δ pv false) (h:JN ⟨P,N,S,w0,X,none,dfs,M⟩ (Q (.panic (fR pv false))) Γ (Δ++F)):JO ⟨P,N,S,w0,X,none,dfs,M⟩ ops (o::l) Q Γ (Δ++F):=by
 intro a w hst
 have hw:Region.wanted o (yielded ops a.tmps)=true:=ab hg _
 obtain⟨h1,h2,S',h3,h4,h5,h6⟩:=hst
 refine jP λK hK=>?_
 rw [if_pos hw]
 have hO:aX Δ S' w:=h5.part
 have hN:=eS (c:=⟨P,N,S,w0,X,none,dfs,M⟩) h6 hh
 have hnd:nd o.op=true:=by grind [nd]
 have e1:a.eval (.func f)= .func (.func f) #[] #[]:=rfl
 refine vK (args:=(xs.map a.eval).toArray) hnd (by simp_all [execOp,resolve,Deferred.ofValue,invoke]) hen λv1 hr=>?_
 refine(hC .normal (λe=>nomatch e) S' v1 _ (λb hb=>Nat.lt_of_lt_of_le (h3.dom b hb) hr.size) (ew.of hlen (bH.rely h3.dom hO.sees hr hN)) (hO.rely h3.dom hr)).mono ?_
 rintro e w' ⟨rfl,S2,g1,g2⟩
 exact h _ _ (rG (v:=undef) h1 h2 h3 h4 h5 h6 ((bC.rely h3.dom hr).trans g1 λb hb=>.inl hb) g2 λb hb=>.inl hb)
theorem Gq{T':TypeId}{z:Value}{r:A}(hz:∀S w,r.holds S w z)(ho:o.op= .typeAssert x T' T true)(h:Kq P T z):be M o [(x,.eq .nilIface)] [] (λ_:Unit=>(.tup (.pair r (.pair (.eq (.bool false)) .any)),[])):=
 .val0 λS w a hN=>by
  obtain⟨fs,hu⟩:=h.und
  have e1:a.eval x= .nilIface:=hN.1
  refine⟨.tuple #[z,.bool false],?_,[_,_],rfl,_,_,rfl,hz _ _,_,_,rfl,rfl,rfl⟩
  have:(Instr.typeAssert .nilIface T' T true).run P w= .ok (.tuple #[z,.bool false]) w:=by
   unfold Instr.typeAssert;simp only [Sem.run_bind,run_underlying hu,Result.andThen_ok,h.zero,Sem.run_pure,if_true]
  simp_all [execOp,Sem.run_bind,Result.andThen_ok,Sem.run_pure]
theorem Gn{T':TypeId}{z u:Value}{r:A}(hz:∀S w,r.holds S w u)(ho:o.op= .typeAssert x T' T true)(h:Kq P T z):be M o [(x,.eq (.iface T u))] [] (λ_:Unit=>(.tup (.pair r (.pair (.eq (.bool true)) .any)),[])):=
 .val0 λS w a hN=>by
  obtain⟨fs,hu⟩:=h.und
  have e1:a.eval x= .iface T u:=hN.1
  refine⟨.tuple #[u,.bool true],?_,[_,_],rfl,_,_,rfl,hz _ _,_,_,rfl,rfl,rfl⟩
  have:(Instr.typeAssert (.iface T u) T' T true).run P w= .ok (.tuple #[u,.bool true]) w:=by
   simp_all [Instr.typeAssert,Sem.run_bind,run_underlying,Result.andThen_ok,Sem.run_pure,if_true]
  simp_all [execOp,Sem.run_bind,Result.andThen_ok,Sem.run_pure]
theorem Dm(ho:o.op= .build T #[])(hT:P.underlying T=some (.struct #[]))(hz:∀w,(zeroValue T).run P w= .ok (.agg #[]) w):be M o [] [] (λ_:Unit=>(.eq (.agg #[]),[])):=
 .val0 λS w a hN=>⟨.agg #[],by simp_all [execOp,Instr.build,Sem.run_bind,run_underlying,Value.cells,Instr.fill],rfl⟩
theorem Di{v:Value}{fs:Array Field}(ho:o.op= .makeInterface T x)(hu:P.underlying T=some (.struct fs)):be M o [(x,.eq v)] [] (λ_:Unit=>(.eq (.iface T v),[])):=
 .val0 λS w a hN=>by
  have e1:a.eval x=v:=hN.1
  exact⟨.iface T v,by simp_all [execOp,Instr.makeInterface,run_underlying],rfl⟩
theorem tU{n:Nat}{t:Ty}{l:List t.den}{k:IntKind}{j:Int}{g:Bool}{y:Operand}(ho:o.op= .slice T x none (some y) none)(hT:P.underlying T=some (.array n e))(he:dk P e t.cells g)(h0:0≤j)(h1:j≤n):
 be M o [(x,.at (.arr n t) l),(y,.eq (.int k j))] [] (λ_:Unit=>(.rep (.slice t) (l.take j.toNat),[])):=
 .val0 λS w a hN=>by
  obtain⟨b,off,c,T2,fz,e1,hS,hb,hlen,hr⟩:=hN.1
  have e2:a.eval y= .int k j:=hN.2.1
  have e1':a.eval x= .pointer (some ⟨b,off,none⟩):=by simp_all
  have hlt:(l.take j.toNat).length=j.toNat:=by simp_all
  refine⟨.slice (some ⟨b,off,none⟩) j.toNat n,?_,[.slice (some ⟨b,off,none⟩) j.toNat n],.inr ⟨b,off,n,c,T2,fz,by rw [hlt],by omega,hS,hb,?_⟩,rfl⟩
  .
   simp [execOp,ho,e1',e2,Instr.sliceAt,Instr.sureAddr,run_underlying hT,Instr.sliceBounds,Instr.sliceBound,asIntOf,he.size,Addr.add,h0,h1]
  .
   have h3:=sF (λ_ _ h=>aO t h) j.toNat hr
   rw [take_take] at h3
   simp_all
end
section
variable {P:Program}{M:Md P}{o:Oper}{x y z:Operand}{T T' e:TypeId}{t:Ty}
theorem vo{l:List t.den}{k k':IntKind}{j j':Int}{g:Bool}(ho:o.op= .slice T x none (some y) (some z))(hT:P.underlying T=some (.slice e))(he:dk P e t.cells g)(h1:j=l.length)(h2:j'=l.length):
 be M o [(x,.rep (.slice t) l),(y,.eq (.int k j)),(z,.eq (.int k' j'))] [] (λ_:Unit=>(.full t l,[])):=
 .val0 λS w a hN=>by
  obtain⟨b,cap,e1,hr⟩:=qC hN.1
  have e2:a.eval y= .int k j:=hN.2.1
  have e3:a.eval z= .int k' j':=hN.2.2.1
  have hel:P.elem T=e:=by simp [Program.elem,hT]
  have hu:P.underlying T=some (.slice (P.elem T)):=by rw [hel];exact hT
  have hcap:l.length≤cap:=by
   rcases I8 hr with h |h
   .exact h
   .subst h;exact zero_le _
  have hs:sliced b 0 j.toNat j'.toNat t.cells= .slice (if l.length=0 then b else b.map (·.add (0 * t.cells))) l.length l.length:=by
   unfold sliced;rw [show j.toNat=l.length by omega,show j'.toNat=l.length by omega];rfl
  refine⟨sliced b 0 j.toNat j'.toNat t.cells,?_,⟨⟨[sliced b 0 j.toNat j'.toNat t.cells],?_,rfl⟩,_,hs⟩⟩
  .have:=run_slice_hm (P:=P) w T b l.length cap hu k k' j j' (by omega) (by omega) (by omega);simp [execOp,ho,e1,e2,e3,run_sliceAt_slice w T _ _ _ _ hu,this,hel,he.size]
  .rw [hs];rcases hr with⟨a',cap',e,rfl⟩ |⟨b',off,cap',c,T0,fz,e,hle,hS,hb,hr⟩
   .exact .inl ⟨_,_,rfl,rfl⟩
   .simp only [List.cons.injEq,Value.slice.injEq,true_and,and_true] at e;obtain⟨rfl,rfl⟩:=e;by_cases h0:l.length=0
    .rw [if_pos h0];exact .inr ⟨b',off,_,c,T0,fz,rfl,Nat.le_refl _,hS,hb,hr⟩
    .rw [if_neg h0];refine .inr ⟨b',off,_,c,T0,fz,?_,Nat.le_refl _,hS,hb,hr⟩;simp [Addr.add]
theorem yN{S:FS}{w:World}{v:Value}{l:List t.den}(h:(A.full t l).holds S w v):∃b n c,v= .slice b n c:=by
 obtain⟨_,p,rfl⟩:=h;exact⟨_,_,_,rfl⟩
theorem tV{l l2:List t.den}{bytes:Nat}{c:Call}(ho:o.op= .call c)(hc:c={ callee:=.builtin .append,args:= #[x,y],argTypes:= #[T,T] })(hT:nu P T e t.cells bytes)
 (hl:dR (l.length+l2.length)) (h0:blt 0 l2.length=true):be M o [(x,.full t l),(y,.rep (.slice t) l2)] [] (λv':Value=>(.eq v',[.sl v' e t (l++l2)])):=by
 have h0:0 < l2.length:=by simpa using h0
 refine tq.T ⟨by grind [nd],λS w a next hd hN hO k=>?_⟩ (λS w a hN hO=>oQ ho hc hT.und (yN hN.1) (qz hN.2.1)) (λd hd=>by simp at hd)
 obtain⟨⟨cs1,h1,e1⟩,p,ep⟩:=hN.1
 obtain⟨cs2,h2,e2⟩:=hN.2.1
 obtain⟨i,zv,q1,q2,q3,q4,q5⟩:=hT.ex
 unfold dR at hl
 have hsm:=hT.small
 have hb1:l.length+l2.length≤maxLen:=by grind [maxLen]
 have hb2:(l.length+l2.length) * bytes≤140737488355328:=by
  calc (l.length+l2.length) * bytes≤4294967296 * 32768:=Nat.mul_le_mul hl hsm
   _≤140737488355328:=by decide
 have main:∃v' w' xs news,(Builtin.append_ #[T,T] o.type #[a.eval x,a.eval y]).run P w= .ok v' w'/\w'.ownsRow 0 e t.cells v' (l.length+l2.length) (xs++news)/\w.grownBy w' none/\cI (rd S w t) l xs/\cI (rd S w t) l2 news/\v'.ownBlock=some w.heap.size:=by
  rcases h2 with⟨a0,cap,rfl,rfl⟩ |⟨b,off,cap,cc,T0,fz,rfl,hle,hS,hb,hr⟩
  .simp at h0
  .have ey:a.eval y= .slice (some ⟨b,off,none⟩) l2.length cap:=e2;have hlen:=eI (λ_ _ h=>aO t h) hr;have hone:=lz (λ_ _ h=>qE t h) hr
   have hcell:∀(j:Nat) (u:Value),((cc.toList.drop off).take (l2.length * t.cells))[j]? =some u->w.cell? ((⟨b,off,none⟩:Addr).add j)=some u:=λj u hu=>by
    grind [dB,World.cell?]
   rw [ey]
   have hnone:p=none->l=[]->∃v' w' xs news,(Builtin.append_ #[T,T] o.type #[.slice none 0 0,.slice (some ⟨b,off,none⟩) l2.length cap]).run P w= .ok v' w'/\w'.ownsRow 0 e t.cells v' (l.length+l2.length) (xs++news)/\w.grownBy w' none/\cI (rd S w t) l xs/\cI (rd S w t) l2 news/\v'.ownBlock=some w.heap.size:=by
    rintro _ rfl;obtain⟨v',w',g1,g2,g3,g4,g5⟩:=run_append_own_at (P:=P) w 0 T o.type e i zv t.cells bytes hT.und q1 q2 q3 q4 q5 hT.pos (.slice none 0 0) 0 [] (World.ownsRow_nil w 0 e t.cells) ⟨b,off,none⟩ l2.length cap _ hlen hcell (λu hu=>by grind [vm]) (by simpa using hb1) (by simpa using hb2) (zero_le _);refine⟨v',w',[],_,g1,by simpa using g2,g3,rfl,hr,?_⟩;rcases g5 with g5 |g5
    .exfalso;rcases g2.2 with⟨rfl,hn⟩ |⟨g,cap',cur,rfl,_⟩
     .omega
     .simp [Value.ownBlock] at g5
    .exact g5
   have hsome:∀(q:Addr) (xs:List Value),xs.length=l.length * t.cells->(∀(j:Nat) (u:Value),xs[j]? =some u->w.cell? (q.add j)=some u)->cI (rd S w t) l xs->∃v' w' xs news,(Builtin.append_ #[T,T] o.type #[.slice (some q) l.length l.length,.slice (some ⟨b,off,none⟩) l2.length cap]).run P w= .ok v' w'/\w'.ownsRow 0 e t.cells v' (l.length+l2.length) (xs++news)/\w.grownBy w' none/\cI (rd S w t) l xs/\cI (rd S w t) l2 news/\v'.ownBlock=some w.heap.size:=by
    intro q xs hxl hxc hxr;have hm63:l.length+l2.length≤9223372036854775807:=by simp only [maxLen] at hb1;omega
    have hrun:=run_append_grow (P:=P) w T o.type e i zv hT.und q1 q2 q l.length l.length xs (by rw [q3];exact hxl) hxc ⟨b,off,none⟩ l2.length cap _ (by rw [q3];exact hlen) hcell (by omega) (by omega) (by rw [q4];exact growslice_fits (by omega) hb2);have hge:=grownCap_ge w (l.length+l2.length) l.length e;have hcm:grownCap w (l.length+l2.length) l.length e≤maxLen:=grownCap_le_maxLen w (l.length+l2.length) l.length e hb1;refine⟨_,_,xs,_,hrun,⟨by rw [length_append,hxl,hlen,Nat.add_mul],.inr ⟨w.heap.size,_,_,rfl,zero_le _,heap_alloc_new w.drew _,hge,hcm,?_,?_⟩⟩,⟨rfl,rfl,rfl,by simp,λk hk _=>heap_alloc_old w.drew _ hk⟩,hxr,hr,rfl⟩
    .simp only [size_append,size_toArray,size_zeroCells,q5,hxl,hlen,<-Nat.add_mul];congr 1;omega
    .simp only [Array.toList_append,List.append_assoc];rw [<-List.append_assoc,show(l.length+l2.length) * t.cells=(xs++((cc.toList.drop off).take (l2.length * t.cells))).length by rw [length_append,hxl,hlen,Nat.add_mul]];exact List.take_left
   rcases h1 with⟨a0,cap1,rfl,hl0⟩ |⟨b1,off1,cap1,cc1,T1,fz1,rfl,hle1,hS1,hb1',hr1⟩
   .subst hl0;rw [ep];cases p with
    |none=>exact hnone rfl rfl
    |some q=>exact hsome q [] (by simp) (λj u hu=>by simp at hu) rfl
   .have ex:a.eval x= .slice (some ⟨b1,off1,none⟩) l.length cap1:=e1;rw [ep] at ex;simp only [Value.slice.injEq,true_and] at ex;obtain⟨rfl,rfl⟩:=ex;rw [ep];exact hsome ⟨b1,off1,none⟩ _ (eI (λ_ _ h=>aO t h) hr1) (λj u hu=>by grind [dB,World.cell?]) hr1
 obtain⟨v',w',xs,news,g1,g2,g3,g0,g4,g5⟩:=main
 have hr:(execOp a.eval o).run P w= .ok (.value v') w':=by
  simp [execOp,ho,hc,resolve,invoke,builtin,g1]
 have hX:∀b,(none:Option Nat)=some b->ao [] b:=λb h=>by cases h
 have hK:eu S w w':=λb hb=>g3.block b (hd b hb) (λh=>by cases h)
 rw [hr]
 refine k v' S w' v' (lM hd hX g3) rfl (eV (sw.2 ⟨xs++news,by simpa using g2,jv (bN (λ_ _ h=>cM (λ_ h=>h) hK t h) g0) (bN (λ_ _ h=>cM (λ_ h=>h) hK t h) g4)⟩) ?_) ?_
 .
  intro b hb;have hb':v'.ownBlock=some b:=hb;rw [g5] at hb';cases hb';exact⟨λhS=>absurd (hd _ hS) (Nat.lt_irrefl _),(g2.lt _ g5).2⟩
 .
  intro b hb;have hb':v'.ownBlock=some b:=fE.1 hb;rw [g5] at hb';cases hb';exact .inr (Nat.le_refl _)
end
def wH(v v2:Value)(n:Nat):Prop:=∃a m c,v= .slice (some a) n c/\v2= .slice (some a) m c
open Classical in
noncomputable def zr (v v2:Value) (n:Nat):Value:=if wH v v2 n then .slice none 0 0 else v
open Classical in
noncomputable def zt {α:Type} (v v2:Value) (l:List α):List α:=if wH v v2 l.length then [] else l
section
variable {P:Program}{M:Md P}{o:Oper}{x y:Operand}{T e:TypeId}{t:Ty}
theorem vt{v:Value}{l l2:List t.den}{bytes:Nat}{c:Call}(ho:o.op= .call c)(hc:c={ callee:=.builtin .append,args:= #[x,y],argTypes:= #[T,T] })(hT:nu P T e t.cells bytes)
 (hl:dR (l.length+l2.length)) (h0:blt 0 l2.length=true):
 be M o [(x,.eq v),(y,.rep (.slice t) l2)] [.sl v e t l] (λv':Value=>(.eq v',[.sl v' e t (l++l2),.sl (zr v v' l.length) e t (zt v v' l)])):=by
 have h0:0 < l2.length:=by simpa using h0
 refine tq.T ⟨by grind [nd],λS w a next hdS hN hO k=>?_⟩ (λS w a hN hO=>oQ ho hc hT.und (by
  have e1:a.eval x=v:=hN.1;rw [e1];exact uq (hO.holds _ (mem_cons_self ..))) (qz hN.2.1)) (λd hd=>by simp at hd;subst hd;trivial)
 have e1:a.eval x=v:=hN.1
 obtain⟨cs2,h2,e2⟩:=hN.2.1
 have hown:=hO.holds _ (by simp:D.sl v e t l∈[D.sl v e t l])
 obtain⟨xs,hrow,hrd⟩:=sw.1 hown
 obtain⟨i,zv,q1,q2,q3,q4,q5⟩:=hT.ex
 unfold dR at hl
 have hsm:=hT.small
 have hb1:l.length+l2.length≤maxLen:=by grind [maxLen]
 have hb2:(l.length+l2.length) * bytes≤140737488355328:=by
  calc (l.length+l2.length) * bytes≤4294967296 * 32768:=Nat.mul_le_mul hl hsm
   _≤140737488355328:=by decide
 have hlen':(l++l2).length=l.length+l2.length:=by simp
 have hX:∀b,v.ownBlock=some b->ao [D.sl v e t l] b:=λb h=>fE.2 h
 have hvb:∀b,v.ownBlock=some b->¬S b/\b < w.heap.size:=λb h=>hO.own b (hX b h)
 have main:∃v' w' news,(Builtin.append_ #[T,T] o.type #[v,a.eval y]).run P w= .ok v' w'/\w'.ownsRow 0 e t.cells v' (l.length+l2.length) (xs++news)/\w.grownBy w' v.ownBlock/\cI (rd S w t) l2 news/\
  ((wH v v' l.length/\v'.ownBlock=v.ownBlock)\/(¬wH v v' l.length/\v'.ownBlock=some w.heap.size/\w.grownBy w' none)):=by
  rcases h2 with⟨a0,cap,rfl,rfl⟩ |⟨b,off,cap,cc,T0,fz,rfl,hle,hS,hb,hr⟩
  .
   simp at h0
  .
   have ey:a.eval y= .slice (some ⟨b,off,none⟩) l2.length cap:=e2;have hlen:=eI (λ_ _ h=>aO t h) hr;have hone:=lz (λ_ _ h=>qE t h) hr
   have hcell:∀(j:Nat) (u:Value),((cc.toList.drop off).take (l2.length * t.cells))[j]? =some u->w.cell? ((⟨b,off,none⟩:Addr).add j)=some u:=λj u hu=>by
    grind [dB,World.cell?]
   rw [ey];obtain⟨v',w',g1,g2,g3,_,g5⟩:=run_append_own_at (P:=P) w 0 T o.type e i zv t.cells bytes hT.und q1 q2 q3 q4 q5 hT.pos v l.length xs hrow ⟨b,off,none⟩ l2.length cap _ hlen hcell (λu hu=>by grind [vm]) hb1 hb2 (zero_le _);refine⟨v',w',_,g1,g2,g3,hr,?_⟩;rcases hrow.2 with⟨rfl,hn⟩ |⟨g,cap',cur,rfl,_,hg,hnc,hcm,hcs,htk⟩
   .right;refine⟨λ⟨a',m',c',h1,_⟩=>(by cases h1),?_,by simpa [Value.ownBlock] using g3⟩;rcases g5 with g5 |g5
    .rcases g2.2 with⟨_,hn'⟩ |⟨g,cap',cur,rfl,_⟩
     .omega
     .simp [Value.ownBlock] at g5
    .exact g5
   .by_cases hroom:l.length+l2.length≤cap'
    .left;have hfit:l.length * i.size+((cc.toList.drop off).take (l2.length * t.cells)).length≤cur.size:=by rw [hlen,hcs,q3,<-Nat.add_mul];exact mul_le_mul_right _ hroom
     have hrr:=run_append_room (P:=P) w T o.type e i hT.und q1 g l.length cap' cur hg ⟨b,off,none⟩ l2.length cap _ (by rw [q3];exact hlen) hcell (λu hu=>by grind [vm]) hroom hfit;rw [hrr] at g1;simp only [Result.ok.injEq] at g1;obtain⟨rfl,_⟩:=g1;exact⟨⟨_,_,_,rfl,rfl⟩,rfl⟩
    .right;have hxl:xs.length=l.length * i.size:=by rw [q3];exact hrow.1
     have hold:∀(j:Nat) (u:Value),xs[j]? =some u->w.cell? ((⟨g,0,none⟩:Addr).add j)=some u:=hrow.cells (g:=g) rfl;have hm63:l.length+l2.length≤9223372036854775807:=by simp only [maxLen] at hb1;omega
     have hrr:=run_append_grow (P:=P) w T o.type e i zv hT.und q1 q2 ⟨g,0,none⟩ l.length cap' xs hxl hold ⟨b,off,none⟩ l2.length cap _ (by rw [q3];exact hlen) hcell (by omega) (by omega) (by rw [q4];exact growslice_fits (by omega) hb2);rw [hrr] at g1;simp only [Result.ok.injEq] at g1;obtain⟨rfl,rfl⟩:=g1;have hgs:=(Array.getElem?_eq_some_iff.1 hg).1;refine⟨λ⟨a',m',c',h1,h2⟩=>?_,rfl,⟨rfl,rfl,rfl,by simp,λk hk _=>heap_alloc_old w.drew _ hk⟩⟩;simp only [Value.slice.injEq,Option.some.injEq] at h1 h2;have:=h1.1.trans h2.1.symm;simp only [Addr.mk.injEq,and_true] at this;omega
 obtain⟨v',w',news,g1,g2,g3,g4,g5⟩:=main
 have hr:(execOp a.eval o).run P w= .ok (.value v') w':=by
  simp [execOp,ho,hc,resolve,invoke,builtin,e1,g1]
 have hK:eu S w w':=λb hb=>g3.block b (hdS b hb) (λh=>(hvb b h.symm).1 hb)
 have hsl:(D.sl v' e t (l++l2)).holds S w':=sw.2 ⟨xs++news,by rw [hlen'];exact g2,jv (bN (λ_ _ h=>cM (λ_ h=>h) hK t h) hrd) (bN (λ_ _ h=>cM (λ_ h=>h) hK t h) g4)⟩
 rw [hr]
 rcases g5 with⟨hs,g5⟩ |⟨hs,g5,g6⟩
 .
  have ev:zr v v' l.length= .slice none 0 0:=if_pos hs;have el:zt v v' l=[]:=if_pos hs;refine k v' S w' v' (lM hdS hX g3) rfl ?_ ?_
  .show ff [.sl v' e t (l++l2),.sl (zr v v' l.length) e t (zt v v' l)] S w';rw [ev,el];refine⟨λd hd=>?_,λb ⟨d,hd,hb⟩=>?_,?_⟩
   .simp only [mem_cons,not_mem_nil,or_false] at hd;rcases hd with rfl |rfl
    .exact hsl
    .exact .inl ⟨rfl,rfl⟩
   .simp only [mem_cons,not_mem_nil,or_false] at hd;rcases hd with rfl |rfl
    .have hb':v'.ownBlock=some b:=hb;exact⟨(hvb b (g5▸hb')).1,(g2.lt b hb').2⟩
    .simp [D.foot,Value.ownBlock] at hb
   .refine pairwise_cons.2 ⟨λd hd b _ hb=>?_,pairwise_singleton _ _⟩;simp only [mem_cons,not_mem_nil,or_false] at hd;subst hd;simp [D.foot,Value.ownBlock] at hb
  .show∀b,ao [.sl v' e t (l++l2),.sl (zr v v' l.length) e t (zt v v' l)] b->_;rw [ev,el];rintro b ⟨d,hd,hb⟩;simp only [mem_cons,not_mem_nil,or_false] at hd;rcases hd with rfl |rfl
   .exact .inl (hX b (g5▸hb))
   .simp [D.foot,Value.ownBlock] at hb
 .
  have ev:zr v v' l.length=v:=if_neg hs;have el:zt v v' l=l:=if_neg hs;have hX0:∀b,(none:Option Nat)=some b->ao [D.sl v e t l] b:=λb h=>by cases h
  refine k v' S w' v' (lM hdS hX0 g6) rfl ?_ ?_
  .show ff [.sl v' e t (l++l2),.sl (zr v v' l.length) e t (zt v v' l)] S w';rw [ev,el];refine⟨λd hd=>?_,λb ⟨d,hd,hb⟩=>?_,?_⟩
   .simp only [mem_cons,not_mem_nil,or_false] at hd;rcases hd with rfl |rfl
    .exact hsl
    .exact bU (λ_ h=>h) hK _ (λb hb=>g6.block b (hvb b hb).2 (λh=>by cases h)) hown
   .simp only [mem_cons,not_mem_nil,or_false] at hd;rcases hd with rfl |rfl
    .have hb':v'.ownBlock=some b:=hb;refine⟨λhS=>?_,(g2.lt b hb').2⟩;have:=hdS b hS;rw [g5] at hb';cases hb';omega
    .have hb':v.ownBlock=some b:=hb;exact⟨(hvb b hb').1,Nat.lt_of_lt_of_le (hvb b hb').2 g6.size⟩
   .refine pairwise_cons.2 ⟨λd hd b h1 hb=>?_,pairwise_singleton _ _⟩;simp only [mem_cons,not_mem_nil,or_false] at hd;subst hd;have h1:v'.ownBlock=some b:=h1;have hb:v.ownBlock=some b:=hb;have:=(hvb b hb).2;rw [g5] at h1;cases h1;omega
  .show∀b,ao [.sl v' e t (l++l2),.sl (zr v v' l.length) e t (zt v v' l)] b->_;rw [ev,el];rintro b ⟨d,hd,hb⟩;simp only [mem_cons,not_mem_nil,or_false] at hd;rcases hd with rfl |rfl
   .have hb':v'.ownBlock=some b:=hb;rw [g5] at hb';cases hb';exact .inr (Nat.le_refl _)
   .exact .inl (hX b hb)
end
section
variable {c:Cx}{Γ:Ga}{F:List D}{T:TypeId}{t:Ty}
theorem IB{Δ Δ' junk:List D}(hp:Δ.Perm (Δ'++junk)):SE c Γ Δ Γ Δ':=λa w h=>by
 obtain⟨h1,h2,S,h3,h4,h5,h6⟩:=h.perm hp
 have hm:∀d,d∈Δ'->d∈Δ'++junk:=λd hd=>List.mem_append_left _ hd
 exact⟨h1,h2,S,h3,λb ⟨d,hd,e⟩=>h4 b ⟨d,hm d hd,e⟩,h5.re ⟨λd hd=>h5.holds d (hm d hd),λb ⟨d,hd,e⟩=>h5.own b ⟨d,hm d hd,e⟩,h5.apart.sublist (List.sublist_append_left _ _)⟩ (λb ⟨d,hd,e⟩=>⟨d,hm d hd,e⟩) (λ_ h=>.inl h),h6⟩
theorem zd{v v':Value}{l l2:List t.den}:SE c Γ (.sl v' T t (l++l2):: .sl (zr v v' l.length) T t (zt v v' l)::F) Γ (.sl v T t l::F):=λa w h=>by
 by_cases hs:wH v v' l.length
 .
  have hV:zr v v' l.length= .slice none 0 0:=if_pos hs
  have hL:zt v v' l=[]:=if_pos hs
  rw [hV,hL] at h
  have h:=IB (junk:=[.sl (.slice none 0 0) T t []]) (Δ':=.sl v' T t (l++l2)::F) (List.Perm.cons _ (List.perm_append_singleton _ _).symm) a w h
  obtain⟨q,m,cp,rfl,rfl⟩:=hs
  refine St.swap (d:=.sl (.slice (some q) m cp) T t (l++l2)) (d':=.sl (.slice (some q) l.length cp) T t l) (λb=>Iff.rfl) (λS hh=>?_) h
  rcases hh with⟨h1,_⟩ |⟨b,cap,cc,h1,h2,h3,h4,h5,h6⟩
  .
   cases h1
  .
   rw [Value.slice.injEq,Option.some.injEq] at h1
   obtain⟨rfl,rfl,rfl⟩:=h1
   refine .inr ⟨b,_,cc,rfl,by rw [length_append] at h2;omega,h3,h4,h5,?_⟩
   have h7:=sF (λ_ _ h=>aO t h) l.length h6
   rw [List.take_left,take_take,Nat.min_eq_left (by rw [length_append];exact mul_le_mul_right _ (by omega))] at h7
   exact h7
 .
  have hV:zr v v' l.length=v:=if_neg hs
  have hL:zt v v' l=l:=if_neg hs
  rw [hV,hL] at h
  exact IB (junk:=[.sl v' T t (l++l2)]) (Δ':=.sl v T t l::F) (List.perm_append_singleton _ _).symm a w h
end
def JY(n:Nat)(es:List DE):Bool:=es.all λe=>match e.u with |some (k,true)=>blt k n |_=>true
theorem FR{n:Nat}{es:List DE}(h:JY n es=true){j:Nat}(hj:n≤j):jR es j=false:=by
 unfold jR;rw [List.any_eq_false];intro e he;have:=List.all_eq_true.1 h e he;unfold qe;split at this <;> rename_i q
 .rw [q];simp at this⊢;omega
 .split
  .rename_i k q';exact absurd q' (q k)
  .simp
theorem xl{es:List DE}:∀{E:List D} {k:Nat},(∀j,k≤j->jR es j=false)->ic.keepFrom es k E=E
 |[],_,_=>rfl
 |d::E,k,h=>by
  rw [ic.keepFrom,h k (Nat.le_refl _),xl (λj hj=>h j (by omega))];rfl
theorem xk{es:List DE}{E:List D}:∀{pre:List D} {k:Nat},(∀j,k+pre.length≤j->jR es j=false)->ic.keepFrom es k (pre++E)=ic.keepFrom es k pre++E
 |[],k,h=>xl (λj hj=>h j (by simpa using hj))
 |d::pre,k,h=>by
  have ih:=xk (es:=es) (E:=E) (pre:=pre) (k:=k+1) (λj hj=>h j (by simp only [length_cons];omega))
  rw [cons_append,ic.keepFrom,ic.keepFrom,ih]
  split <;> rfl
theorem uw{Δ l2:List D}{k2:List Nat}(h2:cP Δ k2=some l2):∀{k1:List Nat} {l1:List D},cP Δ k1=some l1->cP Δ (k1++k2)=some (l1++l2)
 |[],l1,h=>by cases h;exact h2
 |k::k1,l1,h=>by
  simp only [cP] at h
  split at h
  .
   rename_i d l q1 q2
   cases h
   have:=uw h2 q2
   simp only [cons_append,cP,q1,this]
  .
   cases h
theorem uv{B:List D}:∀{E K:List D},cP (K++(E++B)) (List.range' K.length E.length)=some E
 |[],_=>rfl
 |d::E,K=>by
  have ih:=uv (B:=B) (E:=E) (K:=K++[d])
  rw [length_append,List.append_assoc] at ih
  simp only [length_cons,List.range'_succ,cP]
  rw [show(K++(d::E++B))[K.length]? =some d by simp,show K++(d::E++B)=K++([d]++(E++B)) by simp,show K.length+1=K.length+[d].length from rfl,ih]
theorem ry{K E B:List D}:∀{ks:List Nat} {l:List D},cP (K++B) ks=some l->cP (K++(E++B)) (ks.map λi=>if i < K.length then i else i+E.length)=some l
 |[],_,h=>h
 |k::ks,l,h=>by
  simp only [cP] at h
  split at h
  .
   rename_i d l q1 q2
   cases h
   have:(K++(E++B))[if k < K.length then k else k+E.length]? =some d:=by
    split
    .rename_i hk;rw [List.getElem?_append_left hk] at q1⊢;exact q1
    .rename_i hk;rw [List.getElem?_append_right (by omega)] at q1;rw [List.getElem?_append_right (by omega),List.getElem?_append_right (by omega),<-q1];congr 1;omega
   have h3:=ry (E:=E) q2;simp only [map_cons,cP,this,h3]
  .cases h
theorem AP{pre E Δr Δt:List D}{es:List DE}{vs:List Value}{ks:List Nat}(hu:JY pre.length es=true)(h:cP (ic pre es vs) ks=some (Δr++Δt))(hn:ks.Nodup):
 ∃ks',cP (ic (pre++E) es vs) ks'=some (Δr++(Δt++E))/\ks'.Nodup:=by
 have e:ic (pre++E) es vs=ic.keepFrom es 0 pre++(E++births es vs):=by
  unfold ic;rw [xk (λj hj=>FR hu (by simpa using hj)),List.append_assoc]
 have h1:=ry (E:=E) h
 have h2:=uw (uv (B:=births es vs) (E:=E) (K:=ic.keepFrom es 0 pre)) h1
 refine⟨_,by rw [e,h2,List.append_assoc],?_⟩
 rw [nodup_append]
 refine⟨List.pairwise_map.2 (hn.imp λhab=>?_),List.nodup_range',λa ha b hb=>?_⟩
 .
  split <;> split <;> omega
 .
  simp only [List.mem_map] at ha;obtain⟨x,_,rfl⟩:=ha;rw [List.mem_range'] at hb;obtain⟨i,hi,rfl⟩:=hb;split <;> omega
section
variable {c:Cx}{id:Nat}{full l:List Oper}{Q:Exit->Act->VW->Prop}{Γ0 Γ:Ga}{acc:List DE}{pre E:List D}
theorem H5(n:Nat)(must:List Bool)(T:List Nat)(kr:List Nat)(Δr:List D)(hk:cP (pre++E) kr=some Δr)(hck:xC full acc.reverse must T=true)(hcf:ED kr acc.reverse must=true)(hn:acc.reverse.length=n)(hm:c.P.follows .mixedOrders=true)
 (hu:JY pre.length acc.reverse=true)
 (h:∀vs:List Value,vs.length=n->BH acc.reverse vs->∃ks Δt,cP (ic pre acc.reverse vs) ks=some (Δr++Δt)/\ks.Nodup/\JT c full Q Γ0 (pre++E) acc.reverse must T vs Δr 0 l Γ0 (Δt++E)):DW c id full Q Γ0 (pre++E) acc l Γ:=
 tG n must T kr Δr hk hck hcf hn hm λvs hv hB=>by
  obtain⟨ks,Δt,h1,h2,h3⟩:=h vs hv hB
  obtain⟨ks',h4,h5⟩:=AP (E:=E) hu h1 h2
  exact⟨ks',Δt++E,h4,h5,h3⟩
theorem HU{Δ Δr Δt Δ':List D}{must:List Bool}{T:List Nat}{vs:List Value}{k:Nat}{o:Oper}{Γt:Ga}{es:List DE}(hA:JZ full (es.length+k)=true)(hΔ:Δr++Δt=Δ')(h:JO c full.toArray (o::l) Q (GB es vs++Γt) Δ'):
 JT c full Q Γ0 Δ es must T vs Δr k (o::l) Γt Δt:=by
 subst hΔ;exact E1 hA h
end
end K
