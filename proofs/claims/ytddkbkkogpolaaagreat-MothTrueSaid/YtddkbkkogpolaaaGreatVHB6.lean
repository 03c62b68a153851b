import Derived.Test.YtddkbkkogpolaaaGreatVHB5
import Derived.Maps.Keyed
open Nat
open List hiding mem_of_getElem?
open Array hiding mem_of_getElem? mk
set_option linter.unusedSimpArgs false
set_option linter.unusedVariables false
namespace Go.Proofs.YtddkbkkogpolaaaGreat
namespace K
open Go
def vq{Y:Type}(P:Program)(k:TypeId)(V:Y->Value)(R:Value->Y->Prop)(o:Obj):Prop:=
 ∃es cl,o= .map es cl/\∀e∈es.toList,(∃lt,keyOf P k e.key=some lt)/\kW e.key=true/\∃n,e.val=V n/\R e.key n
theorem vq.nil{Y:Type}{P:Program}{k:TypeId}{V:Y->Value}{R:Value->Y->Prop}:vq P k V R (.map #[] 0):=⟨#[],0,rfl,by simp⟩
theorem vq.calm{Y:Type}{P:Program}{k:TypeId}{V:Y->Value}{R:Value->Y->Prop}{o:Obj}(h:vq P k V R o):calm o=true:=by
 obtain⟨es,cl,rfl,h⟩:=h;show(es.toList.all λe=>kW e.key)=true;simp_all
section
variable {Y:Type}{P:Program}{M:Md P}{o:Oper}{x y v:Operand}{T T' k e:TypeId}{V:Y->Value}{R:Value->Y->Prop}{kv:Value}
theorem vZ{z:Nat}{ob:Obj}(hT:P.underlying T=some (.map k e))(z0:Y)(hz:∀w,(zeroValue e).run P w= .ok (V z0) w)(hk:Maps.Keyed P k)(hkv:∃lt,keyOf P k kv=some lt)
 (hfun:∀n n',R kv n->R kv n'->n=n') (hob:vq P k V R ob):
 ∃n b,(b=true->R kv n)/\(b=false->n=z0)/\∀w,w.heap[z]? =some ob->(Instr.lookup T (.map (some z)) kv true).run P w= .ok (.tuple #[V n,.bool b]) w:=by
 obtain⟨es,cl,rfl,h2⟩:=hob
 obtain⟨lt,hlt⟩:=hkv
 by_cases he:∃en∈es.toList,en.key=kv
 .
  obtain⟨e0,he0,hk0⟩:=he;obtain⟨_,_,n0,_,hR0⟩:=h2 e0 he0;rw [hk0] at hR0;refine⟨n0,true,λ_=>hR0,λh=>Bool.noConfusion h,λw h1=>?_⟩;have hc:=hk.check w es.isEmpty hlt;rcases hk.find w hlt es.toList (λe he=>(h2 e he).1) with⟨h3,h4⟩ |⟨j,en,h3,h4,h5⟩
  .simp_all
  .obtain⟨_,_,n,hn,hR⟩:=h2 en (List.mem_of_getElem? h4);rw [h5] at hR;obtain rfl:=hfun _ _ hR hR0;simp only [Instr.lookup,Sem.run_bind,run_underlying hT,Result.andThen_ok,fS h1,Sem.run_pure,hc,h3,hn,if_true]
 .
  refine⟨z0,false,λh=>Bool.noConfusion h,λ_=>rfl,λw h1=>?_⟩;have hc:=hk.check w es.isEmpty hlt;rcases hk.find w hlt es.toList (λe he=>(h2 e he).1) with⟨h3,h4⟩ |⟨j,en,h3,h4,h5⟩
  .simp only [Instr.lookup,Sem.run_bind,run_underlying hT,Result.andThen_ok,fS h1,Sem.run_pure,hc,h3,hz,if_true]
  grind
theorem E2{z:Nat}{rk:A}{ob:Obj}{n:Y}{b:Bool}(r:Y->A)(hV:∀S w,(r n).holds S w (V n))(hnk:kW kv=true)(hcm:calm ob=true)(ho:o.op= .lookup T x y true)(hy:∀S w u,rk.holds S w u->u=kv)
 (hr:∀w,w.heap[z]? =some ob->(Instr.lookup T (.map (some z)) kv true).run P w= .ok (.tuple #[V n,.bool b]) w):
 bA M o [(x,.eq (.map (some z))),(y,rk)] [.raw z ob] (λ_:Unit=>(.tup (.pair (r n) (.pair (.eq (.bool b)) .any)),[.raw z ob])):=by
 refine vo.T ⟨by grind [nd],λS w a next hd hN hO kk=>?_⟩ (λS w a hN _=>DK ho (by have e:a.eval y=kv:=hy _ _ _ hN.2.1;simp_all)) (λd hd=>by rw [List.mem_singleton.1 hd];exact hcm)
 have e1:a.eval x= .map (some z):=hN.1
 have e2:a.eval y=kv:=hy S w _ hN.2.1
 have h1:w.heap[z]? =some ob:=hO.holds _ (List.mem_singleton.2 rfl)
 have hrun:(execOp a.eval o).run P w= .ok (.value (.tuple #[V n,.bool b])) w:=by
  simp_all [execOp,Sem.run_bind,Result.andThen_ok,Sem.run_pure]
 rw [hrun]
 exact kk () S w _ (kg.refl hd) ⟨[_,_],rfl,_,_,rfl,hV _ _,_,_,rfl,rfl,rfl⟩ hO (λb hb=>.inl hb)
theorem xP{z:Nat}{rk:A}{n:Y}{rv:A}(hV:∀S w u,rv.holds S w u->u=V n)(hnk:kW kv=true)(ho:o.op= .mapUpdate T x y v)(hT:P.underlying T=some (.map k e))(hk:Maps.Keyed P k)(hy:∀S w u,rk.holds S w u->u=kv)(hkv:∃lt,keyOf P k kv=some lt)(hR:R kv n):
 bA M o [(x,.eq (.map (some z))),(y,rk),(v,rv)] [.inv z (vq P k V R)] (λ_:Unit=>(.eq undef,[.inv z (vq P k V R)])):=by
 refine vo.T ⟨by grind [nd],λS w a next hd hN hO kk=>?_⟩ (λS w a hN _=>DF ho (by have e:a.eval y=kv:=hy _ _ _ hN.2.1;simp_all)) (λd hd=>by rw [List.mem_singleton.1 hd];exact λ_ h=>h.calm)
 have e1:a.eval x= .map (some z):=hN.1
 have e2:a.eval y=kv:=hy S w _ hN.2.1
 have e3:a.eval v=V n:=hV _ _ _ hN.2.2.1
 obtain⟨ob,h1,es,cl,rfl,h2⟩:=hO.holds _ (List.mem_singleton.2 rfl)
 have hb:=hO.own z ⟨_,List.mem_singleton.2 rfl,rfl⟩
 obtain⟨lt,hlt⟩:=hkv
 have hc:=hk.check w false hlt
 have hgo:∀ob',(Instr.mapUpdate T (.map (some z)) kv (V n)).run P w= .ok () (w.putObj z ob')->vq P k V R ob'->TG o a next ((execOp a.eval o).run P w):=λob' hr hM=>by
  have hrun:(execOp a.eval o).run P w= .ok .skip (w.putObj z ob'):=by
   simp_all [execOp,Sem.run_bind,Result.andThen_ok,Sem.run_pure]
  rw [hrun];refine kk () S _ _ (om hd ⟨_,List.mem_singleton.2 rfl,rfl⟩ ob') rfl (ge ⟨ob',xJ hb.2,hM⟩ λb h=>?_) (λb hb=>.inl hb);grind [D.foot,Option.some.injEq,qY]
 rcases hk.find w hlt es.toList (λe he=>(h2 e he).1) with⟨h3,h4⟩ |⟨j,en,h3,h4,h5⟩
 .
  refine hgo (.map (es.push { key:=kv,val:=V n,born:=cl }) (cl+1)) ?_ ⟨_,_,rfl,λe he=>?_⟩
  .simp only [Instr.mapUpdate,Sem.run_bind,run_underlying hT,Result.andThen_ok,fS h1,Sem.run_pure,hc,h3,lw _ h1]
  grind
 .
  have hst:=hk.stays w hlt;have hj:es[j]? =some en:=by simp_all
  refine hgo (.map (es.modify j λe=>{ e with key:=kv,val:=V n }) cl) ?_ ⟨_,_,rfl,λe he=>?_⟩
  .simp only [Instr.mapUpdate,Sem.run_bind,run_underlying hT,Result.andThen_ok,fS h1,Sem.run_pure,hc,h3,hj,Option.map_some,Option.getD_some,h5,hst,lw _ h1]
  .obtain⟨i,hi⟩:=List.mem_iff_getElem?.1 he;grind
end
end K
end Go.Proofs.YtddkbkkogpolaaaGreat
set_option linter.unusedVariables false
namespace Go.Proofs.YtddkbkkogpolaaaGreat
namespace K
open Go Go.Conc
def Tt(P:Program)(T:TypeId):Prop:=∀w:World,(Instr.makeChan T (.int .i64 0)).runT P w #[]=(.ok (.chan (some w.heap.size)) (w.alloc (.chan 0 #[] false 0 0 false)), #[])
section
variable {P:Program}{M:Md P}{o:Oper}{T:TypeId}
theorem BU(ho:o.op= .makeChan T (.const (.int .i64 0)))(hT:Tt P T):bA M o [] [] (λz:Nat=>(.eq (.chan (some z)),[.raw z (.chan 0 #[] false 0 0 false)])):=by
 have hnd:nd o.op=true:=by grind [nd]
 refine⟨hnd,λrd S v a next Q hd _ hO k=>Po λv1 hr=>?_⟩;rw [Oper.semAt_eq _ _ _ (λc e=>by simp_all)];have h1:=hT v1.toWorld;have r1:(Instr.makeChan T (.int .i64 0)).run P v1= .ok (.chan (some v1.heap.size)) (v1.alloc (.chan 0 #[] false 0 0 false)):=by simp_all
 have e1:(Instr.makeChan T (.int .i64 0)).events P v1 #[]= #[]:=by simp_all
 have hx:execOp a.eval o=(do pure (.value (<-Instr.makeChan T (.int .i64 0))):Sem Next):=by unfold execOp;rw [ho];rfl
 have hrun:(execOp a.eval o).run P v1= .ok (.value (.chan (some v1.heap.size))) (v1.alloc (.chan 0 #[] false 0 0 false)):=by simp_all
 have hev:(execOp a.eval o).events P v1 #[]= #[]:=by simp_all
 have hd1:∀b,S b->b < v1.heap.size:=λb hb=>Nat.lt_of_lt_of_le (hd b hb) hr.size;have hO1:=hO.rely hd hr;refine⟨?_,?_⟩
 .unfold Sg;rw [hrun];refine⟨λb hb _=>gp v1 _ b hb,by simp,.refl _,rfl,rfl,λe he=>by simp_all⟩
 .rw [hrun];refine k v1.heap.size S (v1.upd (v1.alloc (.chan 0 #[] false 0 0 false))) _ ((bG.rely hd hr).trans (bG.of (fM (X:=ao []) hd1 _)) λb hb=>.inl hb) rfl (hO1.alloc hd1 _) λb hb=>?_;have:v1.heap.size=b:=by simp_all [D.foot,gW]
  exact .inr (this▸hr.size)
end
end K
end Go.Proofs.YtddkbkkogpolaaaGreat
set_option linter.unusedVariables false
set_option linter.unusedSectionVars false
namespace Go.Proofs.YtddkbkkogpolaaaGreat
namespace K
open Go
section
variable {P:Program}{M:Md P}{o:Oper}{T e:TypeId}
theorem E4{n0 n1 n2:Int}{x0 x1 x2:Operand}(ho:o.op= .build T #[(0,x0),(1,x1),(2,x2)])(hT:P.underlying T=some (.array 3 e))(hs:dY P e 1 false)(hz:∀w,(zeroValue T).run P w= .ok (.agg #[.int .i64 0,.int .i64 0,.int .i64 0]) w):
 bA M o [(x0,.eq (.int .i64 n0)),(x1,.eq (.int .i64 n1)),(x2,.eq (.int .i64 n2))] [] (λ_:Unit=>(.rep (.arr 3 (.int .i64)) [n0,n1,n2],[])):=
 .val0 λS w a hN=>by
  have e0:a.eval x0= .int .i64 n0:=hN.1
  have e1:a.eval x1= .int .i64 n1:=hN.2.1
  have e2:a.eval x2= .int .i64 n2:=hN.2.2.1
  refine⟨.agg #[.int .i64 n0,.int .i64 n1,.int .i64 n2],?_,[.int .i64 n0,.int .i64 n1,.int .i64 n2],⟨rfl,[_],_,rfl,rfl,[_],_,rfl,rfl,[_],_,rfl,rfl,rfl⟩,rfl⟩
  simp [execOp,ho,Instr.build,Sem.run_bind,hz,run_underlying hT,hs.size,e0,e1,e2,Value.cells,Instr.fill]
end
section
variable {κ β:Type}[DecidableEq κ]
def nI(P:Program)(k:TypeId)(K:κ->Value)(V:β->Value)(l:List (κ×β))(o:Obj):Prop:=
 ∃es cl,o= .map es cl/\es.toList.map (λe=>(e.key,e.val))=l.map (λp=>(K p.1,V p.2))/\(∀p∈l,(∃lt,keyOf P k (K p.1)=some lt)/\kW (K p.1)=true)/\(l.map (·.1)).Nodup
def nA(l:List (κ×β))(t:κ)(d:β):β:=match l.find? (λp=>p.1=t) with
 |some p=>p.2
 |none=>d
def Ce(l:List (κ×β))(t:κ)(v:β):List (κ×β):=if t∈l.map (·.1) then l.map (λp=>if p.1=t then(t,v) else p) else l++[(t,v)]
theorem xe{b:Nat}{R R':Obj->Prop}{x:Nat}(h:ao [D.inv b R] x):ao [D.inv b R'] x:=by
 obtain⟨d,hd,e⟩:=h;rw [List.mem_singleton.1 hd] at e;exact⟨_,List.mem_singleton.2 rfl,e⟩
theorem nI.nil{P:Program}{k:TypeId}{K:κ->Value}{V:β->Value}:nI P k K V [] (.map #[] 0):=⟨#[],0,rfl,rfl,by simp,nodup_nil⟩
theorem ng{K:κ->Value}{V:β->Value}{l:List (κ×β)}{es:Array MapEntry}(h:es.toList.map (λe=>(e.key,e.val))=l.map (λp=>(K p.1,V p.2))):∀{i:Nat} {e:MapEntry},es.toList[i]? =some e->∃p,l[i]? =some p/\e.key=K p.1/\e.val=V p.2:=by
 intro i e he;have h1:=congrArg (·[i]?) h;grind
theorem nI.calm{P:Program}{k:TypeId}{K:κ->Value}{V:β->Value}{l:List (κ×β)}{o:Obj}(h:nI P k K V l o):calm o=true:=by
 obtain⟨es,cl,rfl,h1,h2,h3⟩:=h;show(es.toList.all λe=>kW e.key)=true;rw [List.all_eq_true];intro e he;obtain⟨i,hi⟩:=List.mem_iff_getElem?.1 he;obtain⟨p,hp,e1,_⟩:=ng h1 hi;grind
theorem LE{l:List (κ×β)}(hn:(l.map (·.1)).Nodup){i:Nat}{p:κ×β}(hp:l[i]? =some p)(d:β):nA l p.1 d=p.2:=by
 unfold nA
 have:l.find? (λq=>q.1=p.1)=some p:=by
  induction l generalizing i with
  |nil=>simp at hp
  |cons q l ih=>
   grind
 rw [this]
theorem LD{l:List (κ×β)}{t:κ}(h:t∉l.map (·.1))(d:β):nA l t d=d:=by
 unfold nA;grind
variable {P:Program}{M:Md P}{o:Oper}{x y v:Operand}{T T' k e:TypeId}{K:κ->Value}{V:β->Value}{l:List (κ×β)}{z:Nat}{rk:A}{t:κ}
theorem so(r:β->A)(hV:∀S w n,(r n).holds S w (V n))(ho:o.op= .lookup T x y false)(hT:P.underlying T=some (.map k e))(d0:β)(hz:∀w,(zeroValue e).run P w= .ok (V d0) w)(hk:Maps.Keyed P k)(hy:∀S w u,rk.holds S w u->u=K t)(hkt:∃lt,keyOf P k (K t)=some lt)(hnk:kW (K t)=true)(hinj:∀a b,K a=K b->a=b):
 bA M o [(x,.eq (.map (some z))),(y,rk)] [.inv z (nI P k K V l)] (λ_:Unit=>(r (nA l t d0),[.inv z (nI P k K V l)])):=by
 refine vo.T ⟨by grind [nd],λS w a next hd hN hO kk=>?_⟩ (λS w a hN _=>DK ho (by have e:a.eval y=K t:=hy _ _ _ hN.2.1;simp_all)) (λd hd=>by rw [List.mem_singleton.1 hd];exact λ_ h=>h.calm)
 have e1:a.eval x= .map (some z):=hN.1
 have e2:a.eval y=K t:=hy S w _ hN.2.1
 obtain⟨ob,h1,es,cl,rfl,h2,h3,h4⟩:=hO.holds _ (List.mem_singleton.2 rfl)
 obtain⟨lt,hlt⟩:=hkt
 have hc:=hk.check w es.isEmpty hlt
 have fin:(Instr.lookup T (.map (some z)) (K t) false).run P w= .ok (V (nA l t d0)) w->TG o a next ((execOp a.eval o).run P w):=λhr=>by
  have hrun:(execOp a.eval o).run P w= .ok (.value (V (nA l t d0))) w:=by
   simp_all [execOp,Sem.run_bind,Result.andThen_ok,Sem.run_pure]
  rw [hrun];exact kk () S w _ (kg.refl hd) (hV _ _ _) hO (λb hb=>.inl hb)
 refine fin ?_
 rcases hk.find w hlt es.toList (λe he=>by
  obtain⟨i,hi⟩:=List.mem_iff_getElem?.1 he;obtain⟨p,hp,q1,_⟩:=ng h2 hi;grind) with⟨g1,g2⟩ |⟨j,en,g1,g2,g3⟩
 .
  have hno:t∉l.map (·.1):=λhm=>by
   obtain⟨p,hp,hpt⟩:=List.mem_map.1 hm;obtain⟨i,hi⟩:=List.mem_iff_getElem?.1 hp;have hi2:=congrArg (·[i]?) h2;grind
  rw [LD hno];simp only [Instr.lookup,Sem.run_bind,run_underlying hT,Result.andThen_ok,fS h1,Sem.run_pure,hc,g1,hz,if_false,Bool.false_eq_true]
 .
  obtain⟨p,hp,q1,q2⟩:=ng h2 g2;obtain rfl:p.1=t:=hinj _ _ (q1.symm.trans g3);rw [LE h4 hp];simp only [Instr.lookup,Sem.run_bind,run_underlying hT,Result.andThen_ok,fS h1,Sem.run_pure,hc,g1,q2,if_false,Bool.false_eq_true]
theorem ri{n:β}{rv:A}(hV:∀S w u,rv.holds S w u->u=V n)(ho:o.op= .mapUpdate T x y v)(hT:P.underlying T=some (.map k e))(hk:Maps.Keyed P k)(hy:∀S w u,rk.holds S w u->u=K t)(hkt:∃lt,keyOf P k (K t)=some lt)(hnk:kW (K t)=true)(hinj:∀a b,K a=K b->a=b):
 bA M o [(x,.eq (.map (some z))),(y,rk),(v,rv)] [.inv z (nI P k K V l)] (λ_:Unit=>(.eq undef,[.inv z (nI P k K V (Ce l t n))])):=by
 refine vo.T ⟨by grind [nd],λS w a next hd hN hO kk=>?_⟩ (λS w a hN _=>DF ho (by have e:a.eval y=K t:=hy _ _ _ hN.2.1;simp_all)) (λd hd=>by rw [List.mem_singleton.1 hd];exact λ_ h=>h.calm)
 have e1:a.eval x= .map (some z):=hN.1
 have e2:a.eval y=K t:=hy S w _ hN.2.1
 have e3:a.eval v=V n:=hV _ _ _ hN.2.2.1
 obtain⟨ob,h1,es,cl,rfl,h2,h3,h4⟩:=hO.holds _ (List.mem_singleton.2 rfl)
 have hb:=hO.own z ⟨_,List.mem_singleton.2 rfl,rfl⟩
 obtain⟨lt,hlt⟩:=hkt
 have hc:=hk.check w false hlt
 have hgo:∀ob',(Instr.mapUpdate T (.map (some z)) (K t) (V n)).run P w= .ok () (w.putObj z ob')->nI P k K V (Ce l t n) ob'->TG o a next ((execOp a.eval o).run P w):=λob' hr hM=>by
  have hrun:(execOp a.eval o).run P w= .ok .skip (w.putObj z ob'):=by
   grind [execOp,Sem.run_bind,Result.andThen_ok,Sem.run_pure]
  rw [hrun];refine kk () S _ _ (om hd ⟨_,List.mem_singleton.2 rfl,rfl⟩ ob') rfl (ge ⟨ob',xJ hb.2,hM⟩ λb h=>?_) (λb hb=>.inl (xe hb));grind [D.foot,Option.some.injEq,qY]
 rcases hk.find w hlt es.toList (λe he=>by
  obtain⟨i,hi⟩:=List.mem_iff_getElem?.1 he;obtain⟨p,hp,q1,_⟩:=ng h2 hi;grind) with⟨g1,g2⟩ |⟨j,en,g1,g2,g3⟩
 .
  have hno:t∉l.map (·.1):=λhm=>by
   obtain⟨p,hp,hpt⟩:=List.mem_map.1 hm;obtain⟨i,hi⟩:=List.mem_iff_getElem?.1 hp;have hi2:=congrArg (·[i]?) h2;grind
  have hm:Ce l t n=l++[(t,n)]:=if_neg hno;refine hgo (.map (es.push { key:=K t,val:=V n,born:=cl }) (cl+1)) ?_ ⟨_,_,rfl,?_,λp hp=>?_,?_⟩
  .simp only [Instr.mapUpdate,Sem.run_bind,run_underlying hT,Result.andThen_ok,fS h1,hc,g1,lw _ h1]
  .grind
  .grind
  grind
 .
  have hst:=hk.stays w hlt;have hj:es[j]? =some en:=by grind
  obtain⟨p,hp,q1,q2⟩:=ng h2 g2;obtain rfl:p.1=t:=hinj _ _ (q1.symm.trans g3);have hmem:p.1∈l.map (·.1):=List.mem_map.2 ⟨p,List.mem_of_getElem? hp,rfl⟩;have hm:Ce l p.1 n=l.map (λq=>if q.1=p.1 then(p.1,n) else q):=if_pos hmem;refine hgo (.map (es.modify j λe=>{ e with key:=K p.1,val:=V n }) cl) ?_ ⟨_,_,rfl,?_,λq hq=>?_,?_⟩
  .simp only [Instr.mapUpdate,Sem.run_bind,run_underlying hT,Result.andThen_ok,fS h1,hc,g1,hj,Option.map_some,Option.getD_some,g3,hst,lw _ h1]
  .rw [hm];apply List.ext_getElem?;intro i;rw [List.getElem?_map,List.getElem?_map,List.getElem?_map];have hi2:=congrArg (·[i]?) h2;simp only [List.getElem?_map] at hi2;have hi3:(es.modify j λe=>{ e with key:=K p.1,val:=V n }).toList[i]? =(es.modify j λe=>{ e with key:=K p.1,val:=V n })[i]? :=by grind
   rw [hi3,Array.getElem?_modify];by_cases hji:j=i
   .grind
   .rw [if_neg hji];have hi4:es[i]? =es.toList[i]? :=by grind
    rw [hi4];cases hq:l[i]? with
    |none=>grind
    |some q=>
     rw [hq] at hi2
     have hne:¬q.1=p.1:=λe=>hji (by
      have hlt:=(List.getElem?_eq_some_iff.1 hp).1;refine(getElem?_inj (l:=l.map (·.1)) (by grind) h4).1 ?_;grind)
     grind
  .grind
  grind
theorem HU{c:Call}(ho:o.op= .call c)(hc:c={ callee:=.builtin .clear,args:= #[x],argTypes:= #[T] })(hT:P.underlying T=some (.map k e)):
 bA M o [(x,.eq (.map (some z)))] [.inv z (nI P k K V l)] (λ_:Unit=>(.eq (.tuple #[]),[.inv z (nI P k K V [])])):=by
 refine vo.T ⟨by grind [nd],λS w a next hd hN hO kk=>?_⟩ (λS w a hN hO=>iw (by grind [sE]) a.eval) (λd hd=>by rw [List.mem_singleton.1 hd];exact λ_ h=>h.calm)
 have e1:a.eval x= .map (some z):=hN.1
 obtain⟨ob,h1,es,cl,rfl,h2,h3,h4⟩:=hO.holds _ (List.mem_singleton.2 rfl)
 have hb:=hO.own z ⟨_,List.mem_singleton.2 rfl,rfl⟩
 have hrun:(execOp a.eval o).run P w= .ok (.value (.tuple #[])) (w.putObj z (.map #[] cl)):=by
  simp [execOp,ho,hc,resolve,invoke,builtin,e1,Builtin.clear_,run_underlying hT,fS h1,lw _ h1]
 rw [hrun]
 refine kk () S _ _ (om hd ⟨_,List.mem_singleton.2 rfl,rfl⟩ (.map #[] cl)) rfl (ge ⟨_,xJ hb.2, #[],cl,rfl,rfl,by simp,nodup_nil⟩ λb h=>?_) (λb hb=>.inl (xe hb))
 simp_all [D.foot,Option.some.injEq,qY]
end
section
variable {P:Program}
theorem zl{vs:Nat->Value}:∀{l:List (List Int)} {j:Nat},(oe vs j l).length=l.length
 |[],_=>rfl
 |_::l,j=>by simp only [oe,length_cons,zl (l:=l)]
theorem JI{c:Cx}{ops:Array Oper}{o:Oper}{l:List Oper}{Q:Exit->Act->VW->Prop}{Γ:Ga}{pre:List D}{T:TypeId}{z:Value×(Nat->Value)}{ls:List (List Int)}{x:Operand}{d:Nat}{Tx e:TypeId}{cl:Call}(hg:o.guard=none)(hd:o.dst=some d)(hdN:blt d c.N=true)
 (ho:o.op= .call cl) (hc:cl={ callee:=.builtin .len,args:= #[x],argTypes:= #[Tx] }) (hT:c.P.underlying Tx=some (.slice e)) (hh:dX Γ [(x,.eq z.1)])
 (h:JO c ops l Q ((d,.eq (.int .i64 (ls.length:Int)))::Γ) (pre++xM T z ls)):JO c ops (o::l) Q Γ (pre++xM T z ls):=by
 refine eF (SE.pp (Δ':=[.sl z.1 T .val (oe z.2 0 ls)]++(pre++nV z.2 0 ls)) perm_middle) ?_
 refine aN (F:=pre++nV z.2 0 ls) (λ_ _ _=>ag hg _) hd hdN (mP (M:=c.M) (t:=.val) (l:=oe z.2 0 ls) (TE:=T) ho hc hT) hh λ_=>?_
 have hp:(D.sl z.1 T .val (oe z.2 0 ls)::(pre++nV z.2 0 ls)).Perm (pre++xM T z ls):=perm_middle.symm
 rw [zl]
 exact eF (SE.pp hp) h
end
end K
end Go.Proofs.YtddkbkkogpolaaaGreat
set_option linter.unusedVariables false
namespace Go.Proofs.YtddkbkkogpolaaaGreat
namespace K
open Go
def EG(S:FS)(w:VW)(Δ:List D)(pv:Value):Bool->Ending->VW->Prop
 |true=>c9 S w Δ (λ_:Unit=>(bM [],Δ))
 |false=>λe v'=>e= .panicked (ij pv false)/\∃S',bG (ao Δ) S w S' v'/\aU Δ S' v'
def Dh{P:Program}(M:Md P)(f:Nat)(Ss:List A)(Δ:List D)(pv:Value)(r:Bool):Prop:=
 ∀(k:CallKind),k≠.early->∀(S:FS) (w:VW) (vs:List Value),(∀b,S b->b < w.heap.size)->fG S w Ss vs->aU Δ S w->jF M k f vs.toArray w (EG S w Δ pv r)
theorem Dh.ok{P:Program}{M:Md P}{f:Nat}{Ss:List A}{Δ:List D}{pv:Value}(h:Dh M f Ss Δ pv true):bR M f Ss Δ (λ_:Unit=>(bM [],Δ)):=h
section
variable {P:Program}{M:Md P}{N:Nat}{S:FS}{w0:VW}{X:Nat->Prop}{ops:Array Oper}{o:Oper}{l:List Oper}{Q:Exit->Act->VW->Prop}{Γ:Ga}{Δ F:List D}{fn:Func}{pv:Value}{T e:TypeId}{x:Operand}
theorem Dh.of{f:Nat}{C:Code}{Ss:List A}{r:Bool}(N:Nat)(hf:P.funcs[f]? =some fn)(hb:fn.body=some C)(hN:fn.ntmps=N)(hn:ble Ss.length N=true)
 (h:∀S w0,JC ⟨P,N,S,w0,ao Δ,none,[],M⟩ C (bI P fn (EG S w0 Δ pv r)) (entry 0 Ss) Δ):Dh M f Ss Δ pv r:=by
 subst hN
 intro kind hkind S w vs hd hall hO T hT cs hc
 have bc:=M.bc T hT
 rw [enter_at hf hb]
 refine h S w _ _ (St.entry hn hd hall hO) T hT _ [] cs rfl λe a' v' q=>?_
 have fin:∀todo,(a'.defers=[]/\∃x,(∀v1,bo v' v1->(results fn a'.tmps).run P v1= .ok x v1/\eI v1 v1 ((results fn a'.tmps).events P v1 #[]))/\EG S w Δ pv r (.returned x) v')->
  T v' { Frame.atR { (default:Frame) with fn:=f,kind:=kind } a' todo with mode:=.returning } cs:=λtodo ⟨q1,x,q2,q3⟩=>hc _ _ _ q3 rfl rfl ⟨rfl,q1,fn,hf,q2⟩
 cases e with
 |normal=>exact bc.move (λ_ _=>uX rfl) (fin _ q)
 |ret=>exact⟨λ_ todo=>fin todo q,λh=>by cases h⟩
 |panic chain=>exact λtodo=>hc _ _ _ q.2 rfl rfl ⟨rfl,q.1,fn,hf⟩
 |exit id=>exact q.elim
 |goto l=>exact q.elim
 |outgrown=>exact q.elim
theorem NE:JN ⟨P,N,S,w0,ao Δ,none,[],M⟩ (bI P fn (EG S w0 Δ pv false) (.panic (ij pv false))) Γ Δ:=λa w st=>by
 obtain⟨h1,h2,S',h3,h4,h5,h6⟩:=st
 exact⟨h1,rfl,S',h3,h5⟩
theorem JK{f:Nat}{Ss:List A}{c:Call}{dfs:List Deferred}(xs:List Operand){ts:Array TypeId}(hg:o.guard=none)(ho:o.op= .call c)(hc:c={ callee:=.value (.func f),args:=xs.toArray,argTypes:=ts })(hlen:xs.length=Ss.length)(hen:ah P f)
 (hh:dX Γ (xs.zip Ss)) (hC:Dh M f Ss Δ pv false) (h:JN ⟨P,N,S,w0,X,none,dfs,M⟩ (Q (.panic (ij pv false))) Γ (Δ++F)):JO ⟨P,N,S,w0,X,none,dfs,M⟩ ops (o::l) Q Γ (Δ++F):=by
 intro a w hst
 have hw:Region.wanted o (yielded ops a.tmps)=true:=ag hg _
 obtain⟨h1,h2,S',h3,h4,h5,h6⟩:=hst
 refine k9 λK hK=>?_
 rw [if_pos hw]
 have hO:aU Δ S' w:=h5.part
 have hN:=f6 (c:=⟨P,N,S,w0,X,none,dfs,M⟩) h6 hh
 have hnd:nd o.op=true:=by grind [nd]
 have e1:a.eval (.func f)= .func (.func f) #[] #[]:=rfl
 refine yz (args:=(xs.map a.eval).toArray) hnd (by simp_all [execOp,resolve,Deferred.ofValue,invoke]) hen λv1 hr=>?_
 refine(hC .normal (λe=>nomatch e) S' v1 _ (λb hb=>Nat.lt_of_lt_of_le (h3.dom b hb) hr.size) (fG.of hlen (bP.rely h3.dom hO.sees hr hN)) (hO.rely h3.dom hr)).mono ?_
 rintro e w' ⟨rfl,S2,g1,g2⟩
 exact h _ _ (tD (v:=undef) h1 h2 h3 h4 h5 h6 ((bG.rely h3.dom hr).trans g1 λb hb=>.inl hb) g2 λb hb=>.inl hb)
theorem Lc{T':TypeId}{z:Value}{r:A}(hz:∀S w,r.holds S w z)(ho:o.op= .typeAssert x T' T true)(h:Qq P T z):bA M o [(x,.eq .nilIface)] [] (λ_:Unit=>(.tup (.pair r (.pair (.eq (.bool false)) .any)),[])):=
 .val0 λS w a hN=>by
  obtain⟨fs,hu⟩:=h.und
  have e1:a.eval x= .nilIface:=hN.1
  refine⟨.tuple #[z,.bool false],?_,[_,_],rfl,_,_,rfl,hz _ _,_,_,rfl,rfl,rfl⟩
  have:(Instr.typeAssert .nilIface T' T true).run P w= .ok (.tuple #[z,.bool false]) w:=by
   unfold Instr.typeAssert;simp only [Sem.run_bind,run_underlying hu,Result.andThen_ok,h.zero,Sem.run_pure,if_true]
  simp_all [execOp,Sem.run_bind,Result.andThen_ok,Sem.run_pure]
theorem La{T':TypeId}{z u:Value}{r:A}(hz:∀S w,r.holds S w u)(ho:o.op= .typeAssert x T' T true)(h:Qq P T z):bA M o [(x,.eq (.iface T u))] [] (λ_:Unit=>(.tup (.pair r (.pair (.eq (.bool true)) .any)),[])):=
 .val0 λS w a hN=>by
  obtain⟨fs,hu⟩:=h.und
  have e1:a.eval x= .iface T u:=hN.1
  refine⟨.tuple #[u,.bool true],?_,[_,_],rfl,_,_,rfl,hz _ _,_,_,rfl,rfl,rfl⟩
  have:(Instr.typeAssert (.iface T u) T' T true).run P w= .ok (.tuple #[u,.bool true]) w:=by
   simp_all [Instr.typeAssert,Sem.run_bind,run_underlying,Result.andThen_ok,Sem.run_pure,if_true]
  simp_all [execOp,Sem.run_bind,Result.andThen_ok,Sem.run_pure]
theorem HV(ho:o.op= .build T #[])(hT:P.underlying T=some (.struct #[]))(hz:∀w,(zeroValue T).run P w= .ok (.agg #[]) w):bA M o [] [] (λ_:Unit=>(.eq (.agg #[]),[])):=
 .val0 λS w a hN=>⟨.agg #[],by simp_all [execOp,Instr.build,Sem.run_bind,run_underlying,Value.cells,Instr.fill],rfl⟩
theorem HS{v:Value}{fs:Array Field}(ho:o.op= .makeInterface T x)(hu:P.underlying T=some (.struct fs)):bA M o [(x,.eq v)] [] (λ_:Unit=>(.eq (.iface T v),[])):=
 .val0 λS w a hN=>by
  have e1:a.eval x=v:=hN.1
  exact⟨.iface T v,by simp_all [execOp,Instr.makeInterface,run_underlying],rfl⟩
theorem vP{n:Nat}{t:Ty}{l:List t.den}{k:IntKind}{j:Int}{g:Bool}{y:Operand}(ho:o.op= .slice T x none (some y) none)(hT:P.underlying T=some (.array n e))(he:dY P e t.cells g)(h0:0≤j)(h1:j≤n):
 bA M o [(x,.at (.arr n t) l),(y,.eq (.int k j))] [] (λ_:Unit=>(.rep (.slice t) (l.take j.toNat),[])):=
 .val0 λS w a hN=>by
  obtain⟨b,off,c,T2,fz,e1,hS,hb,hlen,hr⟩:=hN.1
  have e2:a.eval y= .int k j:=hN.2.1
  have e1':a.eval x= .pointer (some ⟨b,off,none⟩):=by simp_all
  have hlt:(l.take j.toNat).length=j.toNat:=by simp_all
  refine⟨.slice (some ⟨b,off,none⟩) j.toNat n,?_,[.slice (some ⟨b,off,none⟩) j.toNat n],.inr ⟨b,off,n,c,T2,fz,by rw [hlt],by omega,hS,hb,?_⟩,rfl⟩
  .
   simp [execOp,ho,e1',e2,Instr.sliceAt,Instr.sureAddr,run_underlying hT,Instr.sliceBounds,Instr.sliceBound,asIntOf,he.size,Addr.add,h0,h1]
  .
   have h3:=uw (λ_ _ h=>aQ t h) j.toNat hr
   rw [take_take] at h3
   simp_all
theorem o8{a b:A}{t u:Ty}{x:t.den}{y:u.den}(h1:AE a (.rep t x))(h2:AE b (.rep u y)):AE (.pair a b) (.rep (.pair t u) (x,y)):=λS w cs ⟨c1,c2,e,k1,k2⟩=>⟨c1,c2,e,h1 _ _ _ k1,h2 _ _ _ k2⟩
theorem NT{v:Value}:AE (.eq v) (.rep .ign ()):=λS w cs h=>⟨v,h.1,h.2⟩
theorem Nc{S:FS}{w:World}{t:Ty}{x:t.den}{a:A}{v:Value}(h:AE a (.rep t x))(hv:(A.agg a).holds S w v):(A.rep (.agg t) x).holds S w v:=by
 obtain⟨cs,h1,h2⟩:=hv;exact⟨cs,h S w cs h1,h2⟩
end
section
variable {P:Program}{M:Md P}{o:Oper}{x y z:Operand}{T T' e:TypeId}{t:Ty}
end
def zy(v v2:Value)(n:Nat):Prop:=∃a m c,v= .slice (some a) n c/\v2= .slice (some a) m c
open Classical in
noncomputable def Dq (v v2:Value) (n:Nat):Value:=if zy v v2 n then .slice none 0 0 else v
open Classical in
noncomputable def Ds {α:Type} (v v2:Value) (l:List α):List α:=if zy v v2 l.length then [] else l
section
variable {P:Program}{M:Md P}{o:Oper}{x y:Operand}{T e:TypeId}{t:Ty}
theorem xQ{v:Value}{l l2:List t.den}{bytes:Nat}{c:Call}(ho:o.op= .call c)(hc:c={ callee:=.builtin .append,args:= #[x,y],argTypes:= #[T,T] })(hT:oY P T e t.cells bytes)
 (hl:bW (l.length+l2.length)) (h0:blt 0 l2.length=true):
 bA M o [(x,.eq v),(y,.rep (.slice t) l2)] [.sl v e t l] (λv':Value=>(.eq v',[.sl v' e t (l++l2),.sl (Dq v v' l.length) e t (Ds v v' l)])):=by
 have h0:0 < l2.length:=by simp_all
 refine vo.T ⟨by grind [nd],λS w a next hdS hN hO k=>?_⟩ (λS w a hN hO=>uI ho hc hT.und (by
  have e1:a.eval x=v:=hN.1;rw [e1];exact wA (hO.holds _ (mem_cons_self ..))) (wz hN.2.1)) (λd hd=>by simp at hd;subst hd;trivial)
 have e1:a.eval x=v:=hN.1
 obtain⟨cs2,h2,e2⟩:=hN.2.1
 have hown:=hO.holds _ (by simp:D.sl v e t l∈[D.sl v e t l])
 obtain⟨xs,hrow,hrd⟩:=xB.1 hown
 obtain⟨i,zv,q1,q2,q3,q4,q5⟩:=hT.ex
 unfold bW at hl
 have hsm:=hT.small
 have hb1:l.length+l2.length≤maxLen:=by grind [maxLen]
 have hb2:(l.length+l2.length) * bytes≤140737488355328:=by
  calc (l.length+l2.length) * bytes≤4294967296 * 32768:=Nat.mul_le_mul hl hsm
   _≤140737488355328:=by decide
 have hlen':(l++l2).length=l.length+l2.length:=by simp
 have hX:∀b,v.ownBlock=some b->ao [D.sl v e t l] b:=λb h=>gW.2 h
 have hvb:∀b,v.ownBlock=some b->¬S b/\b < w.heap.size:=λb h=>hO.own b (hX b h)
 have main:∃v' w' news,(Builtin.append_ #[T,T] o.type #[v,a.eval y]).run P w= .ok v' w'/\w'.ownsRow 0 e t.cells v' (l.length+l2.length) (xs++news)/\w.grownBy w' v.ownBlock/\dV (rd S w t) l2 news/\
  ((zy v v' l.length/\v'.ownBlock=v.ownBlock)\/(¬zy v v' l.length/\v'.ownBlock=some w.heap.size/\w.grownBy w' none)):=by
  rcases h2 with⟨a0,cap,rfl,rfl⟩ |⟨b,off,cap,cc,T0,fz,rfl,hle,hS,hb,hr⟩
  .
   simp at h0
  .
   have ey:a.eval y= .slice (some ⟨b,off,none⟩) l2.length cap:=e2;have hlen:=iZ (λ_ _ h=>aQ t h) hr;have hone:=pm (λ_ _ h=>uu t h) hr
   have hcell:∀(j:Nat) (u:Value),((cc.toList.drop off).take (l2.length * t.cells))[j]? =some u->w.cell? ((⟨b,off,none⟩:Addr).add j)=some u:=λj u hu=>by
    grind [fK,World.cell?]
   rw [ey];obtain⟨v',w',g1,g2,g3,_,g5⟩:=run_append_own_at (P:=P) w 0 T o.type e i zv t.cells bytes hT.und q1 q2 q3 q4 q5 hT.pos v l.length xs hrow ⟨b,off,none⟩ l2.length cap _ hlen hcell (λu hu=>by grind [BQ]) hb1 hb2 (zero_le _);refine⟨v',w',_,g1,g2,g3,hr,?_⟩;rcases hrow.2 with⟨rfl,hn⟩ |⟨g,cap',cur,rfl,_,hg,hnc,hcm,hcs,htk⟩
   .right;refine⟨λ⟨a',m',c',h1,_⟩=>(by cases h1),?_,by grind [Value.ownBlock]⟩;rcases g5 with g5 |g5
    .rcases g2.2 with⟨_,hn'⟩ |⟨g,cap',cur,rfl,_⟩
     .omega
     grind [Value.ownBlock]
    .exact g5
   .by_cases hroom:l.length+l2.length≤cap'
    .left;have hfit:l.length * i.size+((cc.toList.drop off).take (l2.length * t.cells)).length≤cur.size:=by rw [hlen,hcs,q3,<-Nat.add_mul];exact mul_le_mul_right _ hroom
     have hrr:=run_append_room (P:=P) w T o.type e i hT.und q1 g l.length cap' cur hg ⟨b,off,none⟩ l2.length cap _ (by grind) hcell (λu hu=>by grind [BQ]) hroom hfit;rw [hrr] at g1;simp only [Result.ok.injEq] at g1;obtain⟨rfl,_⟩:=g1;exact⟨⟨_,_,_,rfl,rfl⟩,rfl⟩
    .right;have hxl:xs.length=l.length * i.size:=by rw [q3];exact hrow.1
     have hold:∀(j:Nat) (u:Value),xs[j]? =some u->w.cell? ((⟨g,0,none⟩:Addr).add j)=some u:=hrow.cells (g:=g) rfl;have hm63:l.length+l2.length≤9223372036854775807:=by omega
     have hrr:=run_append_grow (P:=P) w T o.type e i zv hT.und q1 q2 ⟨g,0,none⟩ l.length cap' xs hxl hold ⟨b,off,none⟩ l2.length cap _ (by grind) hcell (by omega) (by omega) (by rw [q4];exact growslice_fits (by omega) hb2);rw [hrr] at g1;simp only [Result.ok.injEq] at g1;obtain⟨rfl,rfl⟩:=g1;have hgs:=(Array.getElem?_eq_some_iff.1 hg).1;refine⟨λ⟨a',m',c',h1,h2⟩=>?_,rfl,⟨rfl,rfl,rfl,by simp,λk hk _=>heap_alloc_old w.drew _ hk⟩⟩;grind
 obtain⟨v',w',news,g1,g2,g3,g4,g5⟩:=main
 have hr:(execOp a.eval o).run P w= .ok (.value v') w':=by
  simp_all [execOp,resolve,invoke,builtin]
 have hK:f7 S w w':=λb hb=>g3.block b (hdS b hb) (λh=>(hvb b h.symm).1 hb)
 have hsl:(D.sl v' e t (l++l2)).holds S w':=xB.2 ⟨xs++news,by simp_all,nk (ce (λ_ _ h=>dz (λ_ h=>h) hK t h) hrd) (ce (λ_ _ h=>dz (λ_ h=>h) hK t h) g4)⟩
 rw [hr]
 rcases g5 with⟨hs,g5⟩ |⟨hs,g5,g6⟩
 .
  have ev:Dq v v' l.length= .slice none 0 0:=if_pos hs;have el:Ds v v' l=[]:=if_pos hs;refine k v' S w' v' (qd hdS hX g3) rfl ?_ ?_
  .show gh [.sl v' e t (l++l2),.sl (Dq v v' l.length) e t (Ds v v' l)] S w';rw [ev,el];refine⟨λd hd=>?_,λb ⟨d,hd,hb⟩=>?_,?_⟩
   .simp only [mem_cons,not_mem_nil,or_false] at hd;rcases hd with rfl |rfl
    .exact hsl
    .exact .inl ⟨rfl,rfl⟩
   .simp only [mem_cons,not_mem_nil,or_false] at hd;rcases hd with rfl |rfl
    .have hb':v'.ownBlock=some b:=hb;exact⟨(hvb b (g5▸hb')).1,(g2.lt b hb').2⟩
    simp_all [D.foot,Value.ownBlock]
   simp_all [pairwise_cons,pairwise_singleton,mem_cons,not_mem_nil,or_false,D.foot,Value.ownBlock]
  .show∀b,ao [.sl v' e t (l++l2),.sl (Dq v v' l.length) e t (Ds v v' l)] b->_;rw [ev,el];rintro b ⟨d,hd,hb⟩;simp only [mem_cons,not_mem_nil,or_false] at hd;grind [D.foot,Value.ownBlock]
 .
  have ev:Dq v v' l.length=v:=if_neg hs;have el:Ds v v' l=l:=if_neg hs;have hX0:∀b,(none:Option Nat)=some b->ao [D.sl v e t l] b:=λb h=>by cases h
  refine k v' S w' v' (qd hdS hX0 g6) rfl ?_ ?_
  .show gh [.sl v' e t (l++l2),.sl (Dq v v' l.length) e t (Ds v v' l)] S w';rw [ev,el];refine⟨λd hd=>?_,λb ⟨d,hd,hb⟩=>?_,?_⟩
   .simp only [mem_cons,not_mem_nil,or_false] at hd;rcases hd with rfl |rfl
    .exact hsl
    .exact bZ (λ_ h=>h) hK _ (λb hb=>g6.block b (hvb b hb).2 (λh=>by cases h)) hown
   .simp only [mem_cons,not_mem_nil,or_false] at hd;rcases hd with rfl |rfl
    .have hb':v'.ownBlock=some b:=hb;refine⟨λhS=>?_,(g2.lt b hb').2⟩;grind
    .have hb':v.ownBlock=some b:=hb;exact⟨(hvb b hb').1,Nat.lt_of_lt_of_le (hvb b hb').2 g6.size⟩
   .refine pairwise_cons.2 ⟨λd hd b h1 hb=>?_,pairwise_singleton _ _⟩;simp only [mem_cons,not_mem_nil,or_false] at hd;subst hd;have h1:v'.ownBlock=some b:=h1;have hb:v.ownBlock=some b:=hb;simp_all
  .show∀b,ao [.sl v' e t (l++l2),.sl (Dq v v' l.length) e t (Ds v v' l)] b->_;rw [ev,el];rintro b ⟨d,hd,hb⟩;simp only [mem_cons,not_mem_nil,or_false] at hd;rcases hd with rfl |rfl
   .have hb':v'.ownBlock=some b:=hb;simp_all
   .exact .inl (hX b hb)
end
section
variable {c:Cx}{Γ:Ga}{F:List D}{T:TypeId}{t:Ty}
theorem OB{Δ Δ' junk:List D}(hp:Δ.Perm (Δ'++junk)):SE c Γ Δ Γ Δ':=λa w h=>by
 obtain⟨h1,h2,S,h3,h4,h5,h6⟩:=h.perm hp
 have hm:∀d,d∈Δ'->d∈Δ'++junk:=λd hd=>List.mem_append_left _ hd
 exact⟨h1,h2,S,h3,λb ⟨d,hd,e⟩=>h4 b ⟨d,hm d hd,e⟩,h5.re ⟨λd hd=>h5.holds d (hm d hd),λb ⟨d,hd,e⟩=>h5.own b ⟨d,hm d hd,e⟩,h5.apart.sublist (List.sublist_append_left _ _)⟩ (λb ⟨d,hd,e⟩=>⟨d,hm d hd,e⟩) (λ_ h=>.inl h),h6⟩
theorem C9{v v':Value}{l l2:List t.den}:SE c Γ (.sl v' T t (l++l2):: .sl (Dq v v' l.length) T t (Ds v v' l)::F) Γ (.sl v T t l::F):=λa w h=>by
 by_cases hs:zy v v' l.length
 .
  have hV:Dq v v' l.length= .slice none 0 0:=if_pos hs
  have hL:Ds v v' l=[]:=if_pos hs
  rw [hV,hL] at h
  have h:=OB (junk:=[.sl (.slice none 0 0) T t []]) (Δ':=.sl v' T t (l++l2)::F) (List.Perm.cons _ (List.perm_append_singleton _ _).symm) a w h
  obtain⟨q,m,cp,rfl,rfl⟩:=hs
  refine St.swap (d:=.sl (.slice (some q) m cp) T t (l++l2)) (d':=.sl (.slice (some q) l.length cp) T t l) (λb=>Iff.rfl) (λS hh=>?_) h
  rcases hh with⟨h1,_⟩ |⟨b,cap,cc,h1,h2,h3,h4,h5,h6⟩
  .
   cases h1
  .
   rw [Value.slice.injEq,Option.some.injEq] at h1
   obtain⟨rfl,rfl,rfl⟩:=h1
   refine .inr ⟨b,_,cc,rfl,by grind,h3,h4,h5,?_⟩
   have h7:=uw (λ_ _ h=>aQ t h) l.length h6
   simp_all [List.take_left,take_take,Nat.min_eq_left,length_append,mul_le_mul_right]
 .
  have hV:Dq v v' l.length=v:=if_neg hs
  have hL:Ds v v' l=l:=if_neg hs
  rw [hV,hL] at h
  exact OB (junk:=[.sl v' T t (l++l2)]) (Δ':=.sl v T t l::F) (List.perm_append_singleton _ _).symm a w h
end
def Qd(n:Nat)(es:List DE):Bool:=es.all λe=>match e.u with |some (k,true)=>blt k n |_=>true
theorem KE{n:Nat}{es:List DE}(h:Qd n es=true){j:Nat}(hj:n≤j):lg es j=false:=by
 unfold lg;rw [List.any_eq_false];intro e he;have:=List.all_eq_true.1 h e he;unfold rN;split at this <;> rename_i q
 .rw [q];simp at this⊢;omega
 simp_all
theorem An{es:List DE}:∀{E:List D} {k:Nat},(∀j,k≤j->lg es j=false)->jj.keepFrom es k E=E
 |[],_,_=>rfl
 |d::E,k,h=>by
  rw [jj.keepFrom,h k (Nat.le_refl _),An (λj hj=>h j (by omega))];rfl
theorem Am{es:List DE}{E:List D}:∀{pre:List D} {k:Nat},(∀j,k+pre.length≤j->lg es j=false)->jj.keepFrom es k (pre++E)=jj.keepFrom es k pre++E
 |[],k,h=>An (λj hj=>h j (by omega))
 |d::pre,k,h=>by
  have ih:=Am (es:=es) (E:=E) (pre:=pre) (k:=k+1) (λj hj=>h j (by grind))
  grind [jj.keepFrom]
theorem wI{Δ l2:List D}{k2:List Nat}(h2:dq Δ k2=some l2):∀{k1:List Nat} {l1:List D},dq Δ k1=some l1->dq Δ (k1++k2)=some (l1++l2)
 |[],l1,h=>by cases h;exact h2
 |k::k1,l1,h=>by
  simp only [dq] at h
  split at h
  .
   rename_i d l q1 q2
   cases h
   have:=wI h2 q2
   simp_all [cons_append,dq]
  .
   cases h
theorem wH{B:List D}:∀{E K:List D},dq (K++(E++B)) (List.range' K.length E.length)=some E
 |[],_=>rfl
 |d::E,K=>by
  have ih:=wH (B:=B) (E:=E) (K:=K++[d])
  simp_all [length_append,List.append_assoc,length_cons,List.range'_succ,dq]
theorem tq{K E B:List D}:∀{ks:List Nat} {l:List D},dq (K++B) ks=some l->dq (K++(E++B)) (ks.map λi=>if i < K.length then i else i+E.length)=some l
 |[],_,h=>h
 |k::ks,l,h=>by
  simp only [dq] at h
  split at h
  .
   rename_i d l q1 q2
   cases h
   have:(K++(E++B))[if k < K.length then k else k+E.length]? =some d:=by
    grind
   have h3:=tq (E:=E) q2;simp_all [map_cons,dq]
  .cases h
theorem E1{pre E Δr Δt:List D}{es:List DE}{vs:List Value}{ks:List Nat}(hu:Qd pre.length es=true)(h:dq (jj pre es vs) ks=some (Δr++Δt))(hn:ks.Nodup):
 ∃ks',dq (jj (pre++E) es vs) ks'=some (Δr++(Δt++E))/\ks'.Nodup:=by
 have e:jj (pre++E) es vs=jj.keepFrom es 0 pre++(E++births es vs):=by
  grind [jj,Am,KE,List.append_assoc]
 have h1:=tq (E:=E) h
 have h2:=wI (wH (B:=births es vs) (E:=E) (K:=jj.keepFrom es 0 pre)) h1
 grind
section
variable {c:Cx}{id:Nat}{full l:List Oper}{Q:Exit->Act->VW->Prop}{Γ0 Γ:Ga}{acc:List DE}{pre E:List D}
theorem NK(n:Nat)(must:List Bool)(T:List Nat)(kr:List Nat)(Δr:List D)(hk:dq (pre++E) kr=some Δr)(hck:AI full acc.reverse must T=true)(hcf:I8 kr acc.reverse must=true)(hn:acc.reverse.length=n)(hm:c.P.follows .mixedOrders=true)
 (hu:Qd pre.length acc.reverse=true)
 (h:∀vs:List Value,vs.length=n->BH acc.reverse vs->∃ks Δt,dq (jj pre acc.reverse vs) ks=some (Δr++Δt)/\ks.Nodup/\JT c full Q Γ0 (pre++E) acc.reverse must T vs Δr 0 l Γ0 (Δt++E)):DW c id full Q Γ0 (pre++E) acc l Γ:=
 tl n must T kr Δr hk hck hcf hn hm λvs hv hB=>by
  obtain⟨ks,Δt,h1,h2,h3⟩:=h vs hv hB
  obtain⟨ks',h4,h5⟩:=E1 (E:=E) hu h1 h2
  grind
theorem NA{Δ Δr Δt Δ':List D}{must:List Bool}{T:List Nat}{vs:List Value}{k:Nat}{o:Oper}{Γt:Ga}{es:List DE}(hA:Qe full (es.length+k)=true)(hΔ:Δr++Δt=Δ')(h:JO c full.toArray (o::l) Q (GB es vs++Γt) Δ'):
 JT c full Q Γ0 Δ es must T vs Δr k (o::l) Γt Δt:=by
 simp_all [JH]
end
end K
