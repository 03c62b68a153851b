import Derived.Test.YtmbkabgllafffaaGreatVLB9
open Nat
open List hiding mem_of_getElem?
open Array hiding mem_of_getElem? mk
set_option linter.unusedSimpArgs false
set_option linter.unusedVariables false
set_option maxRecDepth 4000
set_option maxHeartbeats 1000000
namespace Go.Proofs.YtmbkabgllafffaaGreat
open K Go Go.Proofs Go.Conc
@[reducible] def K.VW.less(v:VW)(bm:Nat):VW:=⟨v.toWorld,λb=>v.A b/\b≠bm,v.Z⟩
@[reducible] def K.VW.more(v:VW)(bm:Nat):VW:=⟨v.toWorld,λb=>v.A b\/b=bm,v.Z⟩
theorem K.VW.less_more{v:VW}{bm:Nat}(h:¬v.A bm):(v.more bm).less bm=v:=by
 have:(λb=>(v.A b\/b=bm)/\b≠bm)=v.A:=by
  grind
 show(⟨v.toWorld,λb=>(v.A b\/b=bm)/\b≠bm,v.Z⟩:VW)=v;rw [this]
def JJ(bm:Nat)(ob:Obj)(T:Tq):Tq:=λv fr cs=>∀v1,bF v v1->v1.A bm->v1.heap[bm]? =some ob->T (v1.less bm) fr cs
section
variable {P:Program}{bm:Nat}{ob:Obj}{T:Tq}
theorem yu(B:BC P T){v1 u:VW}{fr:Frame}{cs:List Frame}(hA:v1.A bm)(hob:v1.heap[bm]? =some ob)(hr:bF (v1.less bm) u):bF v1 (u.more bm)/\u.heap[bm]? =some ob/\¬u.A bm:=by
 have hlt:=(Array.getElem?_eq_some_iff.1 hob).1;have e1:u.heap[bm]? =some ob:=(hr.keep bm hlt λh=>h.2 rfl).trans hob;refine⟨⟨λb hb ha=>hr.keep b hb λh=>ha h.1,hr.size,λb hb=>?_,λb hb=>?_,λhd b hb=>?_,hr.Z,hr.os,hr.tape,hr.output⟩,e1,λh=>?_⟩
 .by_cases e:b=bm
  .omega
  .exact .inl (hr.sub b ⟨hb,e⟩)
 .rcases hb with hb |rfl
  .exact(hr.old b hb).imp (λh=>h.1) id
  simp_all
 .rcases hb with hb |rfl
  .exact hr.dom (λb h=>hd b h.1) b hb
  grind
 .exact(hr.old bm h).elim (λh=>h.2 rfl) λh=>absurd hlt (Nat.not_lt.2 h)
theorem Np(B:BC P T):BC P (JJ bm ob T) where
 rely v v1 fr cs hr h:=λv2 hr2=>h v2 (hr.trans hr2)
 step v fr cs H:=λv1 hr hA hob=>B.step _ _ _ λu hu=>by
  obtain⟨g1,g2,g3⟩:=yu (fr:=fr) (cs:=cs) B hA hob hu
  obtain⟨fr',cs',w',es,k1,k2,k3⟩:=H (u.more bm) (hr.trans g1)
  have e1:w'.heap[bm]? =some ob:=(k2.keep bm ((Array.getElem?_eq_some_iff.1 g2).1) (.inl (.inr rfl))).trans g2
  refine⟨fr',cs',w',es,k1,⟨λb hb h=>k2.keep b hb (h.imp .inl id),k2.size,k2.os,k2.tape,k2.output,λe he=>?_⟩,?_⟩
  .
   have:=k2.evs e he
   unfold mR at this⊢
   split at this
   .
    simp_all
   .
    simp_all
   .
    exact this
   omega
  .
   have:=k3 ((u.more bm).upd w') (bF.refl _) (.inr rfl) e1
   grind [upd,K.VW.less_more]
theorem Nn(B:BC P T):WM P (λw=>w.heap[bm]? =some ob) (λe=>∃o,e=⟨.cell ⟨bm,o,none⟩,false,false⟩) (JJ bm ob T):=λv fr cs H v1 hr hA hob=>B.step _ _ _ λu hu=>by
 obtain⟨g1,g2,g3⟩:=yu (fr:=fr) (cs:=cs) B hA hob hu
 obtain⟨fr',cs',w',es,k1,k2,k3⟩:=H (u.more bm) (hr.trans g1) g2
 have hlt:=(Array.getElem?_eq_some_iff.1 g2).1
 obtain⟨⟨q1,q2,q3,q4,q5,_⟩,q6⟩:=k2
 have e1:w'.heap[bm]? =some ob:=(q1 bm hlt (.inl (.inr rfl))).trans g2
 refine⟨fr',cs',w',es,k1,⟨λb hb h=>q1 b hb (h.imp .inl id),q2,q3,q4,q5,λe he=>?_⟩,?_⟩
 .
  rcases q6 e he with h |⟨o,rfl⟩
  .
   unfold mR at h⊢
   split at h
   .
    simp_all
   .
    simp_all
   .
    exact h
   .
    exact h
  .
   exact⟨rfl,Nat.lt_of_lt_of_le hlt q2,g3,λh=>by cases h⟩
 .
  have:=k3 ((u.more bm).upd w') (bF.refl _) (.inr rfl) e1
  grind [upd,K.VW.less_more]
def ML(M:Md P)(bm:Nat)(ob:Obj):Md P:=⟨λT'=>∃T,M.ok T/\T'=JJ bm ob T,λw=>w.heap[bm]? =some ob,λe=>∃o,e=⟨.cell ⟨bm,o,none⟩,false,false⟩,λT' ⟨T,h,e⟩=>e▸Np (M.bc T h),λT' ⟨T,h,e⟩=>e▸Nn (M.bc T h)⟩
end
section
variable {bm bk:Nat}{a0:ab}
theorem JI{M:Md Tryz.prog}{f:Nat}{uz:List A}{RA:A}(h:∀(M:Md Tryz.prog) (c0 c1 c2 c3 c4 c5:Value),Kn M bm 0 [c0,c1,c2,c3,c4,c5]->cD M f (.rep (.mo (.pointer (some ⟨bm,0,none⟩)) [c0,c1,c2,c3,c4,c5] ak) a0::uz) [] (λ_:Unit=>(RA,[]))):
 cD M f (.eq (.pointer (some ⟨bm,0,none⟩))::uz) [.obj bm 124 (bi a0 bk)] (λ_:Unit=>(RA,[.obj bm 124 (bi a0 bk)])):=by
 intro kd hkd S w vs hd hall hO T hT cs hc
 have fm:ay [D.obj bm 124 (bi a0 bk)] bm:=⟨_,mem_cons_self,rfl⟩
 obtain⟨cells,hcl,hce⟩:=hO.holds _ mem_cons_self
 obtain⟨c0,c1,c2,c3,c4,c5,rfl,hrd⟩:=pX hce
 have hlt:=(Array.getElem?_eq_some_iff.1 hcl).1
 have hKn:Kn (ML M bm (.cells #[c0,c1,c2,c3,c4,c5,.int .i32 0,.int .u32 0,.map (some bk)] 124)) bm 0 [c0,c1,c2,c3,c4,c5]:=⟨λw hw=>⟨_,_,_,hw,rfl⟩,λj _=>⟨0+j,rfl⟩⟩
 have hfe:∀b,ay [D.obj bm 124 (bi a0 bk)] b->b=bm:=λb ⟨d,hd',e⟩=>by
  rw [List.mem_singleton.1 hd'] at e;exact(Option.some.inj e).symm
 have key:=h _ c0 c1 c2 c3 c4 c5 hKn kd hkd S (w.more bm) vs hd (by
  obtain⟨x,vs',e,hx,hx2⟩:=hall;have hx:x= .pointer (some ⟨bm,0,none⟩):=hx;subst hx;exact⟨_,vs',e,wu hrd,hx2⟩) ⟨λd hd=>by simp at hd,λb hb=>(cJ hb).elim,Pairwise.nil,λb hb=>(cJ hb).elim,λb hb hA=>hA.elim (hO.sees b hb) λe=>(hO.own _ fm).1 (e▸hb),λb hb=>hb.elim (hO.domA b) λe=>e▸hlt,hO.domZ⟩ _ ⟨T,hT,rfl⟩ cs λe v' fr hpo hf1 hf2 hlv v2 hr2 hA2 hob2=>?_
 .
  have:=key (w.more bm) (bF.refl _) (.inr rfl) hcl;rwa [K.VW.less_more (hO.far _ fm).1] at this
 .
  obtain⟨x,S',u,rfl,hcs,hres,hOw,_⟩:=hpo;have hAm:v'.A bm:=hcs.subA bm (.inr rfl);have hsz:w.heap.size≤v2.heap.size:=Nat.le_trans hcs.size hr2.size
  have oldw:∀b,v'.A b->b≠bm->w.A b\/w.heap.size≤b:=λb hb h1=>by
   rcases hcs.oldA b hb with(hb |hb) |hb
   .simp_all
   .omega
   simp_all
  have hZ2:v2.Z=w.Z:=by rw [hr2.Z,hcs.Z]
  have keepv:∀b,b < w.heap.size->¬w.A b->b≠bm->v2.heap[b]? =w.heap[b]? :=λb hb ha h1=>by
   have e1:=hcs.keep b hb (λh=>h.elim ha h1) λh=>(cJ h).elim;have e2:=hr2.keep b (Nat.lt_of_lt_of_le hb hcs.size) λh=>(oldw b h h1).elim ha λh=>absurd hb (Nat.not_lt.2 h);simp_all
  have hKs:ie S w v2:=λb hb=>keepv b (hd b hb) (hO.sees b hb) λe=>(hO.own _ fm).1 (e▸hb);refine hc (.returned u) (v2.less bm) fr ⟨(),S',u,rfl,⟨λb hb=>hcs.sub b hb,λb hb=>?_,λb hb=>Nat.lt_of_lt_of_le (hcs.dom b hb) hr2.size,hsz,λb hb ha hx=>keepv b hb ha λe=>hx (e▸fm),hr2.os.trans hcs.os,hr2.tape.trans hcs.tape,hr2.output.trans hcs.output,λb hb=>⟨hr2.sub b (hcs.subA b (.inl hb)),λe=>(hO.far _ fm).1 (e▸hb)⟩,λb hb=>?_,hZ2⟩,A.mono (λ_ h=>h) (ge hcs.dom hOw.sees hr2) _ hres,⟨λd hd'=>?_,λb hb=>?_,hO.apart,λb hb=>⟨λh=>?_,by rw [hZ2];exact(hO.far b hb).2⟩,λb hb h=>?_,λb h=>hr2.dom hOw.domA b h.1,λb h=>by rw [hZ2] at h;exact Nat.lt_of_lt_of_le (hO.domZ b h) hsz⟩,λb hb=>.inl hb⟩ hf1 hf2 ?_
  .rcases hcs.new b hb with h |h |h
   .grind
   .grind
   grind [cJ]
  .rcases hr2.old b hb.1 with h |h
   .grind
   .exact .inr (Nat.le_trans hcs.size h)
  .rw [List.mem_singleton.1 hd'];exact⟨_,hob2,[c0,c1,c2,c3,c4,c5],_,rfl,eD (λb hb=>hcs.sub b hb) hKs ak hrd,[_],_,rfl,⟨rfl,rfl⟩,[_],_,rfl,⟨rfl,rfl⟩,⟨rfl,rfl⟩⟩
  .obtain rfl:=hfe b hb;exact⟨λh=>hOw.sees _ h hAm,Nat.lt_of_lt_of_le hlt hsz⟩
  .grind
  .rcases hr2.old b h.1 with h' |h'
   .exact hOw.sees b hb h'
   .exact absurd (hcs.dom b hb) (Nat.not_lt.2 h')
  .obtain⟨l1,l2,fn,l3,l4⟩:=hlv;refine⟨l1,l2,fn,l3,λv3 hr3=>?_⟩;have hm2:bm < v2.heap.size:=(Array.getElem?_eq_some_iff.1 hob2).1
   have hrel:bF v' (v3.more bm):=by
    refine⟨λb hb ha=>?_,Nat.le_trans hr2.size hr3.size,λb hb=>?_,λb hb=>?_,λhdm b hb=>?_,hr3.Z.trans hr2.Z,hr3.os.trans hr2.os,hr3.tape.trans hr2.tape,hr3.output.trans hr2.output⟩
    .have e1:=hr2.keep b hb ha;have e2:=hr3.keep b (Nat.lt_of_lt_of_le hb hr2.size) λh=>(hr2.old b h.1).elim ha λh=>absurd hb (Nat.not_lt.2 h);grind
    .by_cases e:b=bm
     .omega
     .exact .inl (hr3.sub b ⟨hr2.sub b hb,e⟩)
    .rcases hb with hb |rfl
     .rcases hr3.old b hb with h |h
      .exact hr2.old b h.1
      .exact .inr (Nat.le_trans hr2.size h)
     grind
    .rcases hb with hb |rfl
     .exact hr3.dom (λb h=>hr2.dom hOw.domA b h.1) b hb
     .exact Nat.lt_of_lt_of_le hm2 hr3.size
   obtain⟨q1,q2⟩:=l4 _ hrel;refine⟨q1,⟨λ_ _ _=>rfl,Nat.le_refl _,.refl _,rfl,rfl,λev hev=>?_⟩⟩;have:=q2.evs ev hev;unfold mR at this⊢;split at this
   .grind
   .grind
   .exact this
   omega
end
end Go.Proofs.YtmbkabgllafffaaGreat
set_option linter.unusedVariables false
set_option linter.unusedSectionVars false
namespace Go.Proofs.YtmbkabgllafffaaGreat
namespace K
open Go
section
variable {P:Program}{M:Md P}{o:Oper}{T e:TypeId}
theorem GU{n0 n1 n2:Int}{x0 x1 x2:Operand}(ho:o.op= .build T #[(0,x0),(1,x1),(2,x2)])(hT:P.underlying T=some (.array 3 e))(hs:eV P e 1 false)(hz:∀w,(zeroValue T).run P w= .ok (.agg #[.int .i64 0,.int .i64 0,.int .i64 0]) w):
 bJ M o [(x0,.eq (.int .i64 n0)),(x1,.eq (.int .i64 n1)),(x2,.eq (.int .i64 n2))] [] (λ_:Unit=>(.rep (.arr 3 (.int .i64)) [n0,n1,n2],[])):=
 .val0 λS w a hN=>by
  have e0:a.eval x0= .int .i64 n0:=hN.1
  have e1:a.eval x1= .int .i64 n1:=hN.2.1
  have e2:a.eval x2= .int .i64 n2:=hN.2.2.1
  refine⟨.agg #[.int .i64 n0,.int .i64 n1,.int .i64 n2],?_,[.int .i64 n0,.int .i64 n1,.int .i64 n2],⟨rfl,[_],_,rfl,rfl,[_],_,rfl,rfl,[_],_,rfl,rfl,rfl⟩,rfl⟩
  simp [execOp,ho,Instr.build,Sem.run_bind,hz,run_underlying hT,hs.size,e0,e1,e2,Value.cells,Instr.fill]
end
section
variable {κ β:Type}[DecidableEq κ]
def o9(P:Program)(k:TypeId)(K:κ->Value)(V:β->Value)(l:List (κ×β))(o:Obj):Prop:=
 ∃es cl,o= .map es cl/\es.toList.map (λe=>(e.key,e.val))=l.map (λp=>(K p.1,V p.2))/\(∀p∈l,(∃lt,keyOf P k (K p.1)=some lt)/\l6 (K p.1)=true)/\(l.map (·.1)).Nodup
def oW(l:List (κ×β))(t:κ)(d:β):β:=match l.find? (λp=>p.1=t) with
 |some p=>p.2
 |none=>d
def Ee(l:List (κ×β))(t:κ)(v:β):List (κ×β):=if t∈l.map (·.1) then l.map (λp=>if p.1=t then(t,v) else p) else l++[(t,v)]
theorem yH{b:Nat}{R R':Obj->Prop}{x:Nat}(h:ay [D.inv b R] x):ay [D.inv b R'] x:=by
 obtain⟨d,hd,e⟩:=h;rw [List.mem_singleton.1 hd] at e;exact⟨_,List.mem_singleton.2 rfl,e⟩
theorem o9.nil{P:Program}{k:TypeId}{K:κ->Value}{V:β->Value}:o9 P k K V [] (.map #[] 0):=⟨#[],0,rfl,rfl,by simp,nodup_nil⟩
theorem oD{K:κ->Value}{V:β->Value}{l:List (κ×β)}{es:Array MapEntry}(h:es.toList.map (λe=>(e.key,e.val))=l.map (λp=>(K p.1,V p.2))):∀{i:Nat} {e:MapEntry},es.toList[i]? =some e->∃p,l[i]? =some p/\e.key=K p.1/\e.val=V p.2:=by
 intro i e he;have h1:=congrArg (·[i]?) h;grind
theorem o9.calm{P:Program}{k:TypeId}{K:κ->Value}{V:β->Value}{l:List (κ×β)}{o:Obj}(h:o9 P k K V l o):calm o=true:=by
 obtain⟨es,cl,rfl,h1,h2,h3⟩:=h;show(es.toList.all λe=>l6 e.key)=true;rw [List.all_eq_true];intro e he;obtain⟨i,hi⟩:=List.mem_iff_getElem?.1 he;obtain⟨p,hp,e1,_⟩:=oD h1 hi;grind
theorem Nc{l:List (κ×β)}(hn:(l.map (·.1)).Nodup){i:Nat}{p:κ×β}(hp:l[i]? =some p)(d:β):oW l p.1 d=p.2:=by
 unfold oW
 have:l.find? (λq=>q.1=p.1)=some p:=by
  induction l generalizing i with
  |nil=>simp at hp
  |cons q l ih=>
   grind
 rw [this]
theorem Nb{l:List (κ×β)}{t:κ}(h:t∉l.map (·.1))(d:β):oW l t d=d:=by
 unfold oW;grind
variable {P:Program}{M:Md P}{o:Oper}{x y v:Operand}{T T' k e:TypeId}{K:κ->Value}{V:β->Value}{l:List (κ×β)}{z:Nat}{rk:A}{t:κ}
theorem tQ(r:β->A)(hV:∀S w n,(r n).holds S w (V n))(ho:o.op= .lookup T x y false)(hT:P.underlying T=some (.map k e))(d0:β)(hz:∀w,(zeroValue e).run P w= .ok (V d0) w)(hk:Maps.Keyed P k)(hy:∀S w u,rk.holds S w u->u=K t)(hkt:∃lt,keyOf P k (K t)=some lt)(hnk:l6 (K t)=true)(hinj:∀a b,K a=K b->a=b):
 bJ M o [(x,.eq (.map (some z))),(y,rk)] [.inv z (o9 P k K V l)] (λ_:Unit=>(r (oW l t d0),[.inv z (o9 P k K V l)])):=by
 refine xk.T ⟨by grind [nd],λS w a next hd hN hO kk=>?_⟩ (λS w a hN _=>Fa ho (by have e:a.eval y=K t:=hy _ _ _ hN.2.1;simp_all)) (λd hd=>by rw [List.mem_singleton.1 hd];exact λ_ h=>h.calm)
 have e1:a.eval x= .map (some z):=hN.1
 have e2:a.eval y=K t:=hy S w _ hN.2.1
 obtain⟨ob,h1,es,cl,rfl,h2,h3,h4⟩:=hO.holds _ (List.mem_singleton.2 rfl)
 obtain⟨lt,hlt⟩:=hkt
 have hc:=hk.check w es.isEmpty hlt
 have fin:(Instr.lookup T (.map (some z)) (K t) false).run P w= .ok (V (oW l t d0)) w->UR o a next ((execOp a.eval o).run P w):=λhr=>by
  have hrun:(execOp a.eval o).run P w= .ok (.value (V (oW l t d0))) w:=by
   simp_all [execOp,Sem.run_bind,Result.andThen_ok,Sem.run_pure]
  rw [hrun];exact kk () S w _ (lj.refl hd) (hV _ _ _) hO (λb hb=>.inl hb)
 refine fin ?_
 rcases hk.find w hlt es.toList (λe he=>by
  obtain⟨i,hi⟩:=List.mem_iff_getElem?.1 he;obtain⟨p,hp,q1,_⟩:=oD h2 hi;grind) with⟨g1,g2⟩ |⟨j,en,g1,g2,g3⟩
 .
  have hno:t∉l.map (·.1):=λhm=>by
   obtain⟨p,hp,hpt⟩:=List.mem_map.1 hm;obtain⟨i,hi⟩:=List.mem_iff_getElem?.1 hp;have hi2:=congrArg (·[i]?) h2;grind
  rw [Nb hno];simp only [Instr.lookup,Sem.run_bind,run_underlying hT,Result.andThen_ok,gQ h1,Sem.run_pure,hc,g1,hz,if_false,Bool.false_eq_true]
 .
  obtain⟨p,hp,q1,q2⟩:=oD h2 g2;obtain rfl:p.1=t:=hinj _ _ (q1.symm.trans g3);rw [Nc h4 hp];simp only [Instr.lookup,Sem.run_bind,run_underlying hT,Result.andThen_ok,gQ h1,Sem.run_pure,hc,g1,q2,if_false,Bool.false_eq_true]
theorem sX{n:β}{rv:A}(hV:∀S w u,rv.holds S w u->u=V n)(ho:o.op= .mapUpdate T x y v)(hT:P.underlying T=some (.map k e))(hk:Maps.Keyed P k)(hy:∀S w u,rk.holds S w u->u=K t)(hkt:∃lt,keyOf P k (K t)=some lt)(hnk:l6 (K t)=true)(hinj:∀a b,K a=K b->a=b):
 bJ M o [(x,.eq (.map (some z))),(y,rk),(v,rv)] [.inv z (o9 P k K V l)] (λ_:Unit=>(.eq undef,[.inv z (o9 P k K V (Ee l t n))])):=by
 refine xk.T ⟨by grind [nd],λS w a next hd hN hO kk=>?_⟩ (λS w a hN _=>E6 ho (by have e:a.eval y=K t:=hy _ _ _ hN.2.1;simp_all)) (λd hd=>by rw [List.mem_singleton.1 hd];exact λ_ h=>h.calm)
 have e1:a.eval x= .map (some z):=hN.1
 have e2:a.eval y=K t:=hy S w _ hN.2.1
 have e3:a.eval v=V n:=hV _ _ _ hN.2.2.1
 obtain⟨ob,h1,es,cl,rfl,h2,h3,h4⟩:=hO.holds _ (List.mem_singleton.2 rfl)
 have hb:=hO.own z ⟨_,List.mem_singleton.2 rfl,rfl⟩
 obtain⟨lt,hlt⟩:=hkt
 have hc:=hk.check w false hlt
 have hgo:∀ob',(Instr.mapUpdate T (.map (some z)) (K t) (V n)).run P w= .ok () (w.putObj z ob')->o9 P k K V (Ee l t n) ob'->UR o a next ((execOp a.eval o).run P w):=λob' hr hM=>by
  have hrun:(execOp a.eval o).run P w= .ok .skip (w.putObj z ob'):=by
   grind [execOp,Sem.run_bind,Result.andThen_ok,Sem.run_pure]
  rw [hrun];refine kk () S _ _ (pH hd ⟨_,List.mem_singleton.2 rfl,rfl⟩ ob') rfl (ia ⟨ob',zo hb.2,hM⟩ λb h=>?_) (λb hb=>.inl (yH hb));grind [D.foot,Option.some.injEq,sV]
 rcases hk.find w hlt es.toList (λe he=>by
  obtain⟨i,hi⟩:=List.mem_iff_getElem?.1 he;obtain⟨p,hp,q1,_⟩:=oD h2 hi;grind) with⟨g1,g2⟩ |⟨j,en,g1,g2,g3⟩
 .
  have hno:t∉l.map (·.1):=λhm=>by
   obtain⟨p,hp,hpt⟩:=List.mem_map.1 hm;obtain⟨i,hi⟩:=List.mem_iff_getElem?.1 hp;have hi2:=congrArg (·[i]?) h2;grind
  have hm:Ee l t n=l++[(t,n)]:=if_neg hno;refine hgo (.map (es.push { key:=K t,val:=V n,born:=cl }) (cl+1)) ?_ ⟨_,_,rfl,?_,λp hp=>?_,?_⟩
  .simp only [Instr.mapUpdate,Sem.run_bind,run_underlying hT,Result.andThen_ok,gQ h1,hc,g1,mj _ h1]
  .grind
  .grind
  grind
 .
  have hst:=hk.stays w hlt;have hj:es[j]? =some en:=by grind
  obtain⟨p,hp,q1,q2⟩:=oD h2 g2;obtain rfl:p.1=t:=hinj _ _ (q1.symm.trans g3);have hmem:p.1∈l.map (·.1):=List.mem_map.2 ⟨p,List.mem_of_getElem? hp,rfl⟩;have hm:Ee l p.1 n=l.map (λq=>if q.1=p.1 then(p.1,n) else q):=if_pos hmem;refine hgo (.map (es.modify j λe=>{ e with key:=K p.1,val:=V n }) cl) ?_ ⟨_,_,rfl,?_,λq hq=>?_,?_⟩
  .simp only [Instr.mapUpdate,Sem.run_bind,run_underlying hT,Result.andThen_ok,gQ h1,hc,g1,hj,Option.map_some,Option.getD_some,g3,hst,mj _ h1]
  .rw [hm];apply List.ext_getElem?;intro i;rw [List.getElem?_map,List.getElem?_map,List.getElem?_map];have hi2:=congrArg (·[i]?) h2;simp only [List.getElem?_map] at hi2;have hi3:(es.modify j λe=>{ e with key:=K p.1,val:=V n }).toList[i]? =(es.modify j λe=>{ e with key:=K p.1,val:=V n })[i]? :=by grind
   rw [hi3,Array.getElem?_modify];by_cases hji:j=i
   .grind
   .rw [if_neg hji];have hi4:es[i]? =es.toList[i]? :=by grind
    rw [hi4];cases hq:l[i]? with
    |none=>grind
    |some q=>
     rw [hq] at hi2
     have hne:¬q.1=p.1:=λe=>hji (by
      have hlt:=(List.getElem?_eq_some_iff.1 hp).1;refine(getElem?_inj (l:=l.map (·.1)) (by grind) h4).1 ?_;grind)
     grind
  .grind
  grind
theorem I8{c:Call}(ho:o.op= .call c)(hc:c={ callee:=.builtin .clear,args:= #[x],argTypes:= #[T] })(hT:P.underlying T=some (.map k e)):
 bJ M o [(x,.eq (.map (some z)))] [.inv z (o9 P k K V l)] (λ_:Unit=>(.eq (.tuple #[]),[.inv z (o9 P k K V [])])):=by
 refine xk.T ⟨by grind [nd],λS w a next hd hN hO kk=>?_⟩ (λS w a hN hO=>jq (by grind [t4]) a.eval) (λd hd=>by rw [List.mem_singleton.1 hd];exact λ_ h=>h.calm)
 have e1:a.eval x= .map (some z):=hN.1
 obtain⟨ob,h1,es,cl,rfl,h2,h3,h4⟩:=hO.holds _ (List.mem_singleton.2 rfl)
 have hb:=hO.own z ⟨_,List.mem_singleton.2 rfl,rfl⟩
 have hrun:(execOp a.eval o).run P w= .ok (.value (.tuple #[])) (w.putObj z (.map #[] cl)):=by
  simp [execOp,ho,hc,resolve,invoke,builtin,e1,Builtin.clear_,run_underlying hT,gQ h1,mj _ h1]
 rw [hrun]
 refine kk () S _ _ (pH hd ⟨_,List.mem_singleton.2 rfl,rfl⟩ (.map #[] cl)) rfl (ia ⟨_,zo hb.2, #[],cl,rfl,rfl,by simp,nodup_nil⟩ λb h=>?_) (λb hb=>.inl (yH hb))
 simp_all [D.foot,Option.some.injEq,sV]
end
section
variable {P:Program}
theorem AO{vs:Nat->Value}:∀{l:List (List Int)} {j:Nat},(pD vs j l).length=l.length
 |[],_=>rfl
 |_::l,j=>by simp only [pD,length_cons,AO (l:=l)]
theorem KZ{c:Cx}{ops:Array Oper}{o:Oper}{l:List Oper}{Q:Exit->Act->VW->Prop}{Γ:Ga}{pre:List D}{T:TypeId}{z:Value×(Nat->Value)}{ls:List (List Int)}{x:Operand}{d:Nat}{Tx e:TypeId}{cl:Call}(hg:o.guard=none)(hd:o.dst=some d)(hdN:blt d c.N=true)
 (ho:o.op= .call cl) (hc:cl={ callee:=.builtin .len,args:= #[x],argTypes:= #[Tx] }) (hT:c.P.underlying Tx=some (.slice e)) (hh:eM Γ [(x,.eq z.1)])
 (h:JO c ops l Q ((d,.eq (.int .i64 (ls.length:Int)))::Γ) (pre++zq T z ls)):JO c ops (o::l) Q Γ (pre++zq T z ls):=by
 refine d4 (SE.pp (Δ':=[.sl z.1 T .val (pD z.2 0 ls)]++(pre++pr z.2 0 ls)) perm_middle) ?_
 refine aV (F:=pre++pr z.2 0 ls) (λ_ _ _=>aj hg _) hd hdN (oc (M:=c.M) (t:=.val) (l:=pD z.2 0 ls) (TE:=T) ho hc hT) hh λ_=>?_
 have hp:(D.sl z.1 T .val (pD z.2 0 ls)::(pre++pr z.2 0 ls)).Perm (pre++zq T z ls):=perm_middle.symm
 rw [AO]
 exact d4 (SE.pp hp) h
end
end K
end Go.Proofs.YtmbkabgllafffaaGreat
set_option linter.unusedVariables false
namespace Go.Proofs.YtmbkabgllafffaaGreat
namespace K
open Go
def Gh(S:FS)(w:VW)(Δ:List D)(pv:Value):Bool->Ending->VW->Prop
 |true=>dZ S w Δ (λ_:Unit=>(bA [],Δ))
 |false=>λe v'=>e= .panicked (i8 pv false)/\∃S',bN (ay Δ) S w S' v'/\aZ Δ S' v'
def ER{P:Program}(M:Md P)(f:Nat)(Ss:List A)(Δ:List D)(pv:Value)(r:Bool):Prop:=
 ∀(k:CallKind),k≠.early->∀(S:FS) (w:VW) (vs:List Value),(∀b,S b->b < w.heap.size)->f5 S w Ss vs->aZ Δ S w->kJ M k f vs.toArray w (Gh S w Δ pv r)
theorem ER.ok{P:Program}{M:Md P}{f:Nat}{Ss:List A}{Δ:List D}{pv:Value}(h:ER M f Ss Δ pv true):cD M f Ss Δ (λ_:Unit=>(bA [],Δ)):=h
section
variable {P:Program}{M:Md P}{N:Nat}{S:FS}{w0:VW}{X:Nat->Prop}{ops:Array Oper}{o:Oper}{l:List Oper}{Q:Exit->Act->VW->Prop}{Γ:Ga}{Δ F:List D}{fn:Func}{pv:Value}{T e:TypeId}{x:Operand}
theorem ER.of{f:Nat}{C:Code}{Ss:List A}{r:Bool}(N:Nat)(hf:P.funcs[f]? =some fn)(hb:fn.body=some C)(hN:fn.ntmps=N)(hn:ble Ss.length N=true)
 (h:∀S w0,JC ⟨P,N,S,w0,ay Δ,none,[],M⟩ C (cE P fn (Gh S w0 Δ pv r)) (entry 0 Ss) Δ):ER M f Ss Δ pv r:=by
 subst hN
 intro kind hkind S w vs hd hall hO T hT cs hc
 have bc:=M.bc T hT
 rw [enter_at hf hb]
 refine h S w _ _ (St.entry hn hd hall hO) T hT _ [] cs rfl λe a' v' q=>?_
 have fin:∀todo,(a'.defers=[]/\∃x,(∀v1,bF v' v1->(results fn a'.tmps).run P v1= .ok x v1/\fB v1 v1 ((results fn a'.tmps).events P v1 #[]))/\Gh S w Δ pv r (.returned x) v')->
  T v' { Frame.atR { (default:Frame) with fn:=f,kind:=kind } a' todo with mode:=.returning } cs:=λtodo ⟨q1,x,q2,q3⟩=>hc _ _ _ q3 rfl rfl ⟨rfl,q1,fn,hf,q2⟩
 cases e with
 |normal=>exact bc.move (λ_ _=>yz rfl) (fin _ q)
 |ret=>exact⟨λ_ todo=>fin todo q,λh=>by cases h⟩
 |panic chain=>exact λtodo=>hc _ _ _ q.2 rfl rfl ⟨rfl,q.1,fn,hf⟩
 |exit id=>exact q.elim
 |goto l=>exact q.elim
 |outgrown=>exact q.elim
theorem ON:JN ⟨P,N,S,w0,ay Δ,none,[],M⟩ (cE P fn (Gh S w0 Δ pv false) (.panic (i8 pv false))) Γ Δ:=λa w st=>by
 obtain⟨h1,h2,S',h3,h4,h5,h6⟩:=st
 exact⟨h1,rfl,S',h3,h5⟩
theorem K1{f:Nat}{Ss:List A}{c:Call}{dfs:List Deferred}(xs:List Operand){ts:Array TypeId}(hg:o.guard=none)(ho:o.op= .call c)(hc:c={ callee:=.value (.func f),args:=xs.toArray,argTypes:=ts })(hlen:xs.length=Ss.length)(hen:ag P f)
 (hh:eM Γ (xs.zip Ss)) (hC:ER M f Ss Δ pv false) (h:JN ⟨P,N,S,w0,X,none,dfs,M⟩ (Q (.panic (i8 pv false))) Γ (Δ++F)):JO ⟨P,N,S,w0,X,none,dfs,M⟩ ops (o::l) Q Γ (Δ++F):=by
 intro a w hst
 have hw:Region.wanted o (yielded ops a.tmps)=true:=aj hg _
 obtain⟨h1,h2,S',h3,h4,h5,h6⟩:=hst
 refine l8 λK hK=>?_
 rw [if_pos hw]
 have hO:aZ Δ S' w:=h5.part
 have hN:=g7 (c:=⟨P,N,S,w0,X,none,dfs,M⟩) h6 hh
 have hnd:nd o.op=true:=by grind [nd]
 have e1:a.eval (.func f)= .func (.func f) #[] #[]:=rfl
 refine zX (args:=(xs.map a.eval).toArray) hnd (by simp_all [execOp,resolve,Deferred.ofValue,invoke]) hen λv1 hr=>?_
 refine(hC .normal (λe=>nomatch e) S' v1 _ (λb hb=>Nat.lt_of_lt_of_le (h3.dom b hb) hr.size) (f5.of hlen (bQ.rely h3.dom hO.sees hr hN)) (hO.rely h3.dom hr)).mono ?_
 rintro e w' ⟨rfl,S2,g1,g2⟩
 exact h _ _ (uR (v:=undef) h1 h2 h3 h4 h5 h6 ((bN.rely h3.dom hr).trans g1 λb hb=>.inl hb) g2 λb hb=>.inl hb)
theorem MN{T':TypeId}{z:Value}{r:A}(hz:∀S w,r.holds S w z)(ho:o.op= .typeAssert x T' T true)(h:Rq P T z):bJ M o [(x,.eq .nilIface)] [] (λ_:Unit=>(.tup (.pair r (.pair (.eq (.bool false)) .any)),[])):=
 .val0 λS w a hN=>by
  obtain⟨fs,hu⟩:=h.und
  have e1:a.eval x= .nilIface:=hN.1
  refine⟨.tuple #[z,.bool false],?_,[_,_],rfl,_,_,rfl,hz _ _,_,_,rfl,rfl,rfl⟩
  have:(Instr.typeAssert .nilIface T' T true).run P w= .ok (.tuple #[z,.bool false]) w:=by
   unfold Instr.typeAssert;simp only [Sem.run_bind,run_underlying hu,Result.andThen_ok,h.zero,Sem.run_pure,if_true]
  simp_all [execOp,Sem.run_bind,Result.andThen_ok,Sem.run_pure]
theorem MM{T':TypeId}{z u:Value}{r:A}(hz:∀S w,r.holds S w u)(ho:o.op= .typeAssert x T' T true)(h:Rq P T z):bJ M o [(x,.eq (.iface T u))] [] (λ_:Unit=>(.tup (.pair r (.pair (.eq (.bool true)) .any)),[])):=
 .val0 λS w a hN=>by
  obtain⟨fs,hu⟩:=h.und
  have e1:a.eval x= .iface T u:=hN.1
  refine⟨.tuple #[u,.bool true],?_,[_,_],rfl,_,_,rfl,hz _ _,_,_,rfl,rfl,rfl⟩
  have:(Instr.typeAssert (.iface T u) T' T true).run P w= .ok (.tuple #[u,.bool true]) w:=by
   simp_all [Instr.typeAssert,Sem.run_bind,run_underlying,Result.andThen_ok,Sem.run_pure,if_true]
  simp_all [execOp,Sem.run_bind,Result.andThen_ok,Sem.run_pure]
theorem I9(ho:o.op= .build T #[])(hT:P.underlying T=some (.struct #[]))(hz:∀w,(zeroValue T).run P w= .ok (.agg #[]) w):bJ M o [] [] (λ_:Unit=>(.eq (.agg #[]),[])):=
 .val0 λS w a hN=>⟨.agg #[],by simp_all [execOp,Instr.build,Sem.run_bind,run_underlying,Value.cells,Instr.fill],rfl⟩
theorem I6{v:Value}{fs:Array Field}(ho:o.op= .makeInterface T x)(hu:P.underlying T=some (.struct fs)):bJ M o [(x,.eq v)] [] (λ_:Unit=>(.eq (.iface T v),[])):=
 .val0 λS w a hN=>by
  have e1:a.eval x=v:=hN.1
  exact⟨.iface T v,by simp_all [execOp,Instr.makeInterface,run_underlying],rfl⟩
theorem xz{n:Nat}{t:Ty}{l:List t.den}{k:IntKind}{j:Int}{g:Bool}{y:Operand}(ho:o.op= .slice T x none (some y) none)(hT:P.underlying T=some (.array n e))(he:eV P e t.cells g)(h0:0≤j)(h1:j≤n):
 bJ M o [(x,.at (.arr n t) l),(y,.eq (.int k j))] [] (λ_:Unit=>(.rep (.slice t) (l.take j.toNat),[])):=
 .val0 λS w a hN=>by
  obtain⟨b,off,c,T2,fz,e1,hS,hb,hlen,hr⟩:=hN.1
  have e2:a.eval y= .int k j:=hN.2.1
  have e1':a.eval x= .pointer (some ⟨b,off,none⟩):=by simp_all
  have hlt:(l.take j.toNat).length=j.toNat:=by simp_all
  refine⟨.slice (some ⟨b,off,none⟩) j.toNat n,?_,[.slice (some ⟨b,off,none⟩) j.toNat n],.inr ⟨b,off,n,c,T2,fz,by rw [hlt],by omega,hS,hb,?_⟩,rfl⟩
  .
   simp [execOp,ho,e1',e2,Instr.sliceAt,Instr.sureAddr,run_underlying hT,Instr.sliceBounds,Instr.sliceBound,asIntOf,he.size,Addr.add,h0,h1]
  .
   have h3:=DK (λ_ _ h=>aY t h) j.toNat hr
   rw [take_take] at h3
   simp_all
theorem qA{a b:A}{t u:Ty}{x:t.den}{y:u.den}(h1:AE a (.rep t x))(h2:AE b (.rep u y)):AE (.pair a b) (.rep (.pair t u) (x,y)):=λS w cs ⟨c1,c2,e,k1,k2⟩=>⟨c1,c2,e,h1 _ _ _ k1,h2 _ _ _ k2⟩
theorem OW{v:Value}:AE (.eq v) (.rep .ign ()):=λS w cs h=>⟨v,h.1,h.2⟩
theorem Ot{S:FS}{w:World}{t:Ty}{x:t.den}{a:A}{v:Value}(h:AE a (.rep t x))(hv:(A.agg a).holds S w v):(A.rep (.agg t) x).holds S w v:=by
 obtain⟨cs,h1,h2⟩:=hv;exact⟨cs,h S w cs h1,h2⟩
end
end K
end Go.Proofs.YtmbkabgllafffaaGreat
set_option linter.unusedVariables false
set_option maxRecDepth 4000
set_option maxHeartbeats 1000000
namespace Go.Proofs.YtmbkabgllafffaaGreat
open K Go Go.Proofs
theorem qR(k:Nat)(a0:ab)(b_a0 z_a0:Nat)(a1:Int)(r:List (List Int))(h:mX k a0 a1=some r):cD (eP Tryz.prog) 61 [.eq (.pointer (some ⟨b_a0,0,none⟩)),.eq (.int .u8 a1)] (sL a0 b_a0 z_a0 k) (λ_:Unit=>(bA [.rep (.arr 7 (.arr 5 (.int .i64))) r],sL a0 b_a0 z_a0 k)):=Cj h
theorem rU(k:Nat)(a0:ab)(b_a0 z_a0:Nat)(r:Unit)(h:fp k a0=some r):cD (eP Tryz.prog) 67 [.eq (.pointer (some ⟨b_a0,0,none⟩))] (sL a0 b_a0 z_a0 k) (λ_:Unit=>(bA [],sL a0 b_a0 z_a0 k)):=s6 k r h
theorem pw(k:Nat)(a0:ab)(b_a0 z_a0:Nat)(a1:List Int)(a2 a3:Int)(r:Int)(h:dP k a0 a1 a2 a3=some r):c6 Tryz.prog 100 [.eq (.pointer (some ⟨b_a0,0,none⟩)),.rep (.arr 5 (.int .i64)) a1,.eq (.int .i64 a2),.eq (.int .i64 a3)] [.obj b_a0 124 (bi a0 z_a0)] (λ_:Unit=>(bA [.eq (.int .i64 r)],[.obj b_a0 124 (bi a0 z_a0)])):=λM=>
 JI λM c0 c1 c2 c3 c4 c5 hK=>kV hK k a0 a1 a2 a3 r h
theorem H3:∀w,(zeroValue 124).run Tryz.prog w= .ok (.agg #[(.int .i64 0),(.int .i64 0),(.int .i64 0),(.int .i64 0),(.slice none 0 0),(.slice none 0 0),(.int .i32 0),(.int .u32 0),(.map none)]) w:=by simp_all
theorem H4:Aq Tryz.prog 124 #[(0,6),(6,2),(8,1)]:=⟨_,Tryz.underlying124,λ_=>by kernel_rfl⟩
@[reducible] def W0:A:=.pair (.agg (.pair (.eq (.int .i64 0)) (.pair (.eq (.int .i64 0)) (.pair (.eq (.int .i64 0)) (.pair (.eq (.int .i64 0)) (.pair (.eq (.slice none 0 0)) (.eq (.slice none 0 0)))))))) (.pair (.eq (.int .i32 0)) (.pair (.eq (.int .u32 0)) (.eq (.map none))))
theorem Gy:∀S w,(A.cells S w W0 (Value.cells (.agg #[(.int .i64 0),(.int .i64 0),(.int .i64 0),(.int .i64 0),(.slice none 0 0),(.slice none 0 0),(.int .i32 0),(.int .u32 0),(.map none)])).toList):=λ_ _=>⟨[_,_,_,_,_,_],_,rfl,⟨[_],_,rfl,⟨rfl,rfl⟩,[_],_,rfl,⟨rfl,rfl⟩,[_],_,rfl,⟨rfl,rfl⟩,[_],_,rfl,⟨rfl,rfl⟩,[_],_,rfl,⟨rfl,rfl⟩,rfl,rfl⟩,[_],_,rfl,⟨rfl,rfl⟩,[_],_,rfl,⟨rfl,rfl⟩,rfl,rfl⟩
def jW(k:Nat)(a0:ab):Option (Option ab):=some (some a0)
theorem N7{k:Nat}{a0:ab}:cF k a0 (.map #[] 0):=wW.nil
theorem pm(k:Nat)(a0:ab)(r:Option ab)(h:jW k a0=some r):c6 Tryz.prog 66 [.rep ak a0] [] (λz:Nat×Nat=>(bA [MJ r z.1],MI r λq=>sL q z.1 z.2 k)):=by
 obtain rfl:=Option.some.inj h;refine c6.of 7 Tryz.func66 rfl Tryz.ntmps66 rfl λS w0=>?_;refine ai ?_;refine ae ?_;refine aW rfl rfl rfl (yp rfl rfl) ⟨rfl,trivial⟩ λb1=>?_;refine Ge rfl ?_;refine aH ?_;refine ax ?_;show JC _ _ _ _ _;refine ai ?_;refine ae ?_;refine nI rfl rfl rfl (ao rfl dq (pu) rfl) ⟨rfl,trivial⟩ ?_;refine aW rfl rfl rfl (ym rfl) trivial λz=>?_;refine cG rfl (eU [(0,.tmp 3,_),(2,.tmp 4,_)] rfl H4 H3 Gy (kR ⟨rfl,rfl,trivial⟩) rfl) ⟨rfl,rfl,trivial⟩ ?_;refine aW rfl rfl rfl (yp rfl trivial) ⟨rfl,trivial⟩ λb2=>?_;refine wZ rfl rfl ?_;refine aH ?_;refine ax ?_;show JC _ _ _ _ _;refine aD ?_;refine bD (SE.fin (Γ':=[(2,_)]) [1,0] ⟨rfl,trivial⟩ rfl) ?_;refine bD (uB (cF k a0) N7) ?_;refine bD (SE.fin (Γ':=[(2,_)]) [1,0] ⟨rfl,trivial⟩ rfl) ?_;refine bD (gZ (a:=_) (a':=bi a0 z) (λ_ _ _ h=>h)) ?_;exact aS (b2,z) [_] 2 ⟨rfl,trivial⟩ rfl
def mf(t:fC):Value:=.agg #[.int .i64 t.1,.int .i64 t.2]
def uT(l:List (fC×fC)):Obj->Prop:=o9 Tryz.prog 134 mf mf l
theorem LN:uT [] (.map #[] 0):=o9.nil
def AS(t:fC):Prop:=(-1≤t.1/\t.1 < 1000000)/\ -1≤t.2/\t.2 < 1000000
instance (t:fC):Decidable (AS t):=by unfold AS;infer_instance
theorem sO(t:fC):l6 (mf t)=true:=rfl
theorem sQ:∀a b:fC,mf a=mf b->a=b:=by
 simp_all [mf]
theorem vF:∀(S:FS) (w:World) (n:fC),(A.rep Ip n).holds S w (mf n):=λS w n=>⟨[.int .i64 n.1,.int .i64 n.2],⟨[_],_,rfl,rfl,rfl⟩,rfl⟩
theorem oK{S:FS}{w:World}{u:Value}{t:fC}(h:(A.rep Ip t).holds S w u):u=mf t:=by
 obtain⟨cs,⟨c1,c2,rfl,h1,h2⟩,rfl⟩:=h;have h1:c1=[.int .i64 t.1]:=h1;have h2:c2=[.int .i64 t.2]:=h2;subst h1 h2;rfl
theorem vE:∀w,(zeroValue 134).run Tryz.prog w= .ok (mf ((0:Int),(0:Int))) w:=λw=>by kernel_rfl
theorem PZ:134 < Tryz.prog.types.size:=by simp_all
theorem ND:WideMaps.KeyLaw Tryz.prog 134:=deep_law_gate (by kernel_rfl) Im PZ (by kernel_rfl) (by kernel_rfl)
theorem nO:Maps.Keyed Tryz.prog 134:=Maps.Keyed.of_law ND
theorem sP{t:fC}(h:AS t):∃lt,keyOf Tryz.prog 134 (mf t)=some lt:=by
 obtain⟨a,b⟩:=t;obtain⟨⟨h1,h2⟩,h3,h4⟩:=h;obtain⟨d,hd⟩:∃d,Tryz.prog.types.size+1=d+2:=⟨Tryz.prog.types.size - 1,by simp_all⟩
 have hint:∀(n:Int), -1≤n->n < 1000000->Tryz.prog.keyLits (d+1) 3 [.int .i64 n]=some [.int .i64 n]:=λn h h'=>by
  simp_all [Program.keyLits,Tryz.underlying3,AI,and_self,if_true]
 have hc:Tryz.prog.cellsOf 134=2:=by kernel_rfl
 have hc3:Tryz.prog.cellsOf 3=1:=by kernel_rfl
 have hk:Tryz.prog.keyType 134=true:=by kernel_rfl
 have hL:Tryz.prog.keyLits (Tryz.prog.types.size+1) 134 [.int .i64 a,.int .i64 b]=some [.int .i64 a,.int .i64 b]:=by
  rw [hd];unfold Program.keyLits;simp_all
 refine⟨.string (keyBytes [.int .i64 a,.int .i64 b]),?_⟩;unfold keyOf;rw [Tryz.underlying134];have hf:(mf (a,b)).formed Tryz.prog 134=true:=by simp [mf,Value.formed,Tryz.underlying134,hc]
 have hcs:(mf (a,b)).cells.toList=[.int .i64 a,.int .i64 b]:=rfl;simp_all
