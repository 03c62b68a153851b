import Derived.Test.YtflilincnacbpaaGreatVTB9
open Nat
open List hiding mem_of_getElem?
open Array hiding mem_of_getElem? mk
set_option linter.unusedSimpArgs false
set_option linter.unusedVariables false
set_option maxRecDepth 4000
set_option maxHeartbeats 1000000
namespace Go.Proofs.YtflilincnacbpaaGreat
open K Go Go.Proofs Go.Conc
@[reducible] def K.VW.less(v:VW)(bm:Nat):VW:=⟨v.toWorld,λb=>v.A b/\b≠bm,v.Z⟩
@[reducible] def K.VW.more(v:VW)(bm:Nat):VW:=⟨v.toWorld,λb=>v.A b\/b=bm,v.Z⟩
theorem K.VW.less_more{v:VW}{bm:Nat}(h:¬v.A bm):(v.more bm).less bm=v:=by
 have:(λb=>(v.A b\/b=bm)/\b≠bm)=v.A:=by
  grind
 show(⟨v.toWorld,λb=>(v.A b\/b=bm)/\b≠bm,v.Z⟩:VW)=v;rw [this]
def IM(bm:Nat)(ob:Obj)(T:Tq):Tq:=λv fr cs=>∀v1,bu v v1->v1.A bm->v1.heap[bm]? =some ob->T (v1.less bm) fr cs
section
variable {P:Program}{bm:Nat}{ob:Obj}{T:Tq}
theorem wY(B:BC P T){v1 u:VW}{fr:Frame}{cs:List Frame}(hA:v1.A bm)(hob:v1.heap[bm]? =some ob)(hr:bu (v1.less bm) u):bu v1 (u.more bm)/\u.heap[bm]? =some ob/\¬u.A bm:=by
 have hlt:=(Array.getElem?_eq_some_iff.1 hob).1;have e1:u.heap[bm]? =some ob:=(hr.keep bm hlt λh=>h.2 rfl).trans hob;refine⟨⟨λb hb ha=>hr.keep b hb λh=>ha h.1,hr.size,λb hb=>?_,λb hb=>?_,λhd b hb=>?_,hr.Z,hr.os,hr.tape,hr.output⟩,e1,λh=>?_⟩
 .by_cases e:b=bm
  .omega
  .exact .inl (hr.sub b ⟨hb,e⟩)
 .rcases hb with hb |rfl
  .exact(hr.old b hb).imp (λh=>h.1) id
  simp_all
 .rcases hb with hb |rfl
  .exact hr.dom (λb h=>hd b h.1) b hb
  grind
 .exact(hr.old bm h).elim (λh=>h.2 rfl) λh=>absurd hlt (Nat.not_lt.2 h)
theorem LL(B:BC P T):BC P (IM bm ob T) where
 rely v v1 fr cs hr h:=λv2 hr2=>h v2 (hr.trans hr2)
 step v fr cs H:=λv1 hr hA hob=>B.step _ _ _ λu hu=>by
  obtain⟨g1,g2,g3⟩:=wY (fr:=fr) (cs:=cs) B hA hob hu
  obtain⟨fr',cs',w',es,k1,k2,k3⟩:=H (u.more bm) (hr.trans g1)
  have e1:w'.heap[bm]? =some ob:=(k2.keep bm ((Array.getElem?_eq_some_iff.1 g2).1) (.inl (.inr rfl))).trans g2
  refine⟨fr',cs',w',es,k1,⟨λb hb h=>k2.keep b hb (h.imp .inl id),k2.size,k2.os,k2.tape,k2.output,λe he=>?_⟩,?_⟩
  .
   have:=k2.evs e he
   unfold lL at this⊢
   split at this
   .
    simp_all
   .
    simp_all
   .
    exact this
   omega
  .
   have:=k3 ((u.more bm).upd w') (bu.refl _) (.inr rfl) e1
   grind [upd,K.VW.less_more]
theorem LK(B:BC P T):U2 P (λw=>w.heap[bm]? =some ob) (λe=>∃o,e=⟨.cell ⟨bm,o,none⟩,false,false⟩) (IM bm ob T):=λv fr cs H v1 hr hA hob=>B.step _ _ _ λu hu=>by
 obtain⟨g1,g2,g3⟩:=wY (fr:=fr) (cs:=cs) B hA hob hu
 obtain⟨fr',cs',w',es,k1,k2,k3⟩:=H (u.more bm) (hr.trans g1) g2
 have hlt:=(Array.getElem?_eq_some_iff.1 g2).1
 obtain⟨⟨q1,q2,q3,q4,q5,_⟩,q6⟩:=k2
 have e1:w'.heap[bm]? =some ob:=(q1 bm hlt (.inl (.inr rfl))).trans g2
 refine⟨fr',cs',w',es,k1,⟨λb hb h=>q1 b hb (h.imp .inl id),q2,q3,q4,q5,λe he=>?_⟩,?_⟩
 .
  rcases q6 e he with h |⟨o,rfl⟩
  .
   unfold lL at h⊢
   split at h
   .
    simp_all
   .
    simp_all
   .
    exact h
   .
    exact h
  .
   exact⟨rfl,Nat.lt_of_lt_of_le hlt q2,g3,λh=>by cases h⟩
 .
  have:=k3 ((u.more bm).upd w') (bu.refl _) (.inr rfl) e1
  grind [upd,K.VW.less_more]
def ML(M:Md P)(bm:Nat)(ob:Obj):Md P:=⟨λT'=>∃T,M.ok T/\T'=IM bm ob T,λw=>w.heap[bm]? =some ob,λe=>∃o,e=⟨.cell ⟨bm,o,none⟩,false,false⟩,λT' ⟨T,h,e⟩=>e▸LL (M.bc T h),λT' ⟨T,h,e⟩=>e▸LK (M.bc T h)⟩
end
section
variable {bm bk:Nat}{a0:ae}
theorem IL{M:Md Tryz.prog}{f:Nat}{uz:List A}{RA:A}(h:∀(M:Md Tryz.prog) (c0 c1 c2 c3 c4 c5:Value),Kn M bm 0 [c0,c1,c2,c3,c4,c5]->cz M f (.rep (.mo (.pointer (some ⟨bm,0,none⟩)) [c0,c1,c2,c3,c4,c5] ap) a0::uz) [] (λ_:Unit=>(RA,[]))):
 cz M f (.eq (.pointer (some ⟨bm,0,none⟩))::uz) [.obj bm 94 (aW a0 bk)] (λ_:Unit=>(RA,[.obj bm 94 (aW a0 bk)])):=by
 intro kd hkd S w vs hd hall hO T hT cs hc
 have fm:av [D.obj bm 94 (aW a0 bk)] bm:=⟨_,mem_cons_self,rfl⟩
 obtain⟨cells,hcl,hce⟩:=hO.holds _ mem_cons_self
 obtain⟨c0,c1,c2,c3,c4,c5,rfl,hrd⟩:=oJ hce
 have hlt:=(Array.getElem?_eq_some_iff.1 hcl).1
 have hKn:Kn (ML M bm (.cells #[c0,c1,c2,c3,c4,c5,.int .i32 0,.int .u32 0,.map (some bk)] 94)) bm 0 [c0,c1,c2,c3,c4,c5]:=⟨λw hw=>⟨_,_,_,hw,rfl⟩,λj _=>⟨0+j,rfl⟩⟩
 have hfe:∀b,av [D.obj bm 94 (aW a0 bk)] b->b=bm:=λb ⟨d,hd',e⟩=>by
  rw [List.mem_singleton.1 hd'] at e;exact(Option.some.inj e).symm
 have key:=h _ c0 c1 c2 c3 c4 c5 hKn kd hkd S (w.more bm) vs hd (by
  obtain⟨x,vs',e,hx,hx2⟩:=hall;have hx:x= .pointer (some ⟨bm,0,none⟩):=hx;subst hx;exact⟨_,vs',e,uY hrd,hx2⟩) ⟨λd hd=>by simp at hd,λb hb=>(cx hb).elim,Pairwise.nil,λb hb=>(cx hb).elim,λb hb hA=>hA.elim (hO.sees b hb) λe=>(hO.own _ fm).1 (e▸hb),λb hb=>hb.elim (hO.domA b) λe=>e▸hlt,hO.domZ⟩ _ ⟨T,hT,rfl⟩ cs λe v' fr hpo hf1 hf2 hlv v2 hr2 hA2 hob2=>?_
 .
  have:=key (w.more bm) (bu.refl _) (.inr rfl) hcl;rwa [K.VW.less_more (hO.far _ fm).1] at this
 .
  obtain⟨x,S',u,rfl,hcs,hres,hOw,_⟩:=hpo;have hAm:v'.A bm:=hcs.subA bm (.inr rfl);have hsz:w.heap.size≤v2.heap.size:=Nat.le_trans hcs.size hr2.size
  have oldw:∀b,v'.A b->b≠bm->w.A b\/w.heap.size≤b:=λb hb h1=>by
   rcases hcs.oldA b hb with(hb |hb) |hb
   .simp_all
   .omega
   simp_all
  have hZ2:v2.Z=w.Z:=by rw [hr2.Z,hcs.Z]
  have keepv:∀b,b < w.heap.size->¬w.A b->b≠bm->v2.heap[b]? =w.heap[b]? :=λb hb ha h1=>by
   have e1:=hcs.keep b hb (λh=>h.elim ha h1) λh=>(cx h).elim;have e2:=hr2.keep b (Nat.lt_of_lt_of_le hb hcs.size) λh=>(oldw b h h1).elim ha λh=>absurd hb (Nat.not_lt.2 h);simp_all
  have hKs:gr S w v2:=λb hb=>keepv b (hd b hb) (hO.sees b hb) λe=>(hO.own _ fm).1 (e▸hb);refine hc (.returned u) (v2.less bm) fr ⟨(),S',u,rfl,⟨λb hb=>hcs.sub b hb,λb hb=>?_,λb hb=>Nat.lt_of_lt_of_le (hcs.dom b hb) hr2.size,hsz,λb hb ha hx=>keepv b hb ha λe=>hx (e▸fm),hr2.os.trans hcs.os,hr2.tape.trans hcs.tape,hr2.output.trans hcs.output,λb hb=>⟨hr2.sub b (hcs.subA b (.inl hb)),λe=>(hO.far _ fm).1 (e▸hb)⟩,λb hb=>?_,hZ2⟩,A.mono (λ_ h=>h) (fG hcs.dom hOw.sees hr2) _ hres,⟨λd hd'=>?_,λb hb=>?_,hO.apart,λb hb=>⟨λh=>?_,by rw [hZ2];exact(hO.far b hb).2⟩,λb hb h=>?_,λb h=>hr2.dom hOw.domA b h.1,λb h=>by rw [hZ2] at h;exact Nat.lt_of_lt_of_le (hO.domZ b h) hsz⟩,λb hb=>.inl hb⟩ hf1 hf2 ?_
  .rcases hcs.new b hb with h |h |h
   .grind
   .grind
   grind [cx]
  .rcases hr2.old b hb.1 with h |h
   .grind
   .exact .inr (Nat.le_trans hcs.size h)
  .rw [List.mem_singleton.1 hd'];exact⟨_,hob2,[c0,c1,c2,c3,c4,c5],_,rfl,dS (λb hb=>hcs.sub b hb) hKs ap hrd,[_],_,rfl,⟨rfl,rfl⟩,[_],_,rfl,⟨rfl,rfl⟩,⟨rfl,rfl⟩⟩
  .obtain rfl:=hfe b hb;exact⟨λh=>hOw.sees _ h hAm,Nat.lt_of_lt_of_le hlt hsz⟩
  .grind
  .rcases hr2.old b h.1 with h' |h'
   .exact hOw.sees b hb h'
   .exact absurd (hcs.dom b hb) (Nat.not_lt.2 h')
  .obtain⟨l1,l2,fn,l3,l4⟩:=hlv;refine⟨l1,l2,fn,l3,λv3 hr3=>?_⟩;have hm2:bm < v2.heap.size:=(Array.getElem?_eq_some_iff.1 hob2).1
   have hrel:bu v' (v3.more bm):=by
    refine⟨λb hb ha=>?_,Nat.le_trans hr2.size hr3.size,λb hb=>?_,λb hb=>?_,λhdm b hb=>?_,hr3.Z.trans hr2.Z,hr3.os.trans hr2.os,hr3.tape.trans hr2.tape,hr3.output.trans hr2.output⟩
    .have e1:=hr2.keep b hb ha;have e2:=hr3.keep b (Nat.lt_of_lt_of_le hb hr2.size) λh=>(hr2.old b h.1).elim ha λh=>absurd hb (Nat.not_lt.2 h);grind
    .by_cases e:b=bm
     .omega
     .exact .inl (hr3.sub b ⟨hr2.sub b hb,e⟩)
    .rcases hb with hb |rfl
     .rcases hr3.old b hb with h |h
      .exact hr2.old b h.1
      .exact .inr (Nat.le_trans hr2.size h)
     grind
    .rcases hb with hb |rfl
     .exact hr3.dom (λb h=>hr2.dom hOw.domA b h.1) b hb
     .exact Nat.lt_of_lt_of_le hm2 hr3.size
   obtain⟨q1,q2⟩:=l4 _ hrel;refine⟨q1,⟨λ_ _ _=>rfl,Nat.le_refl _,.refl _,rfl,rfl,λev hev=>?_⟩⟩;have:=q2.evs ev hev;unfold lL at this⊢;split at this
   .grind
   .grind
   .exact this
   omega
end
end Go.Proofs.YtflilincnacbpaaGreat
set_option linter.unusedVariables false
set_option linter.unusedSectionVars false
namespace Go.Proofs.YtflilincnacbpaaGreat
namespace K
open Go
section
variable {P:Program}{M:Md P}{o:Oper}{T e:TypeId}
theorem Fq{n0 n1 n2:Int}{x0 x1 x2:Operand}(ho:o.op= .build T #[(0,x0),(1,x1),(2,x2)])(hT:P.underlying T=some (.array 3 e))(hs:eu P e 1 false)(hz:∀w,(zeroValue T).run P w= .ok (.agg #[.int .i64 0,.int .i64 0,.int .i64 0]) w):
 bB M o [(x0,.eq (.int .i64 n0)),(x1,.eq (.int .i64 n1)),(x2,.eq (.int .i64 n2))] [] (λ_:Unit=>(.rep (.arr 3 (.int .i64)) [n0,n1,n2],[])):=
 .val0 λS w a hN=>by
  have e0:a.eval x0= .int .i64 n0:=hN.1
  have e1:a.eval x1= .int .i64 n1:=hN.2.1
  have e2:a.eval x2= .int .i64 n2:=hN.2.2.1
  refine⟨.agg #[.int .i64 n0,.int .i64 n1,.int .i64 n2],?_,[.int .i64 n0,.int .i64 n1,.int .i64 n2],⟨rfl,[_],_,rfl,rfl,[_],_,rfl,rfl,[_],_,rfl,rfl,rfl⟩,rfl⟩
  simp [execOp,ho,Instr.build,Sem.run_bind,hz,run_underlying hT,hs.size,e0,e1,e2,Value.cells,Instr.fill]
end
section
variable {κ β:Type}[DecidableEq κ]
def nK(P:Program)(k:TypeId)(K:κ->Value)(V:β->Value)(l:List (κ×β))(o:Obj):Prop:=
 ∃es cl,o= .map es cl/\es.toList.map (λe=>(e.key,e.val))=l.map (λp=>(K p.1,V p.2))/\(∀p∈l,(∃lt,keyOf P k (K p.1)=some lt)/\kU (K p.1)=true)/\(l.map (·.1)).Nodup
def nF(l:List (κ×β))(t:κ)(d:β):β:=match l.find? (λp=>p.1=t) with
 |some p=>p.2
 |none=>d
def Cj(l:List (κ×β))(t:κ)(v:β):List (κ×β):=if t∈l.map (·.1) then l.map (λp=>if p.1=t then(t,v) else p) else l++[(t,v)]
theorem xl{b:Nat}{R R':Obj->Prop}{x:Nat}(h:av [D.inv b R] x):av [D.inv b R'] x:=by
 obtain⟨d,hd,e⟩:=h;rw [List.mem_singleton.1 hd] at e;exact⟨_,List.mem_singleton.2 rfl,e⟩
theorem nK.nil{P:Program}{k:TypeId}{K:κ->Value}{V:β->Value}:nK P k K V [] (.map #[] 0):=⟨#[],0,rfl,rfl,by simp,nodup_nil⟩
theorem nf{K:κ->Value}{V:β->Value}{l:List (κ×β)}{es:Array MapEntry}(h:es.toList.map (λe=>(e.key,e.val))=l.map (λp=>(K p.1,V p.2))):∀{i:Nat} {e:MapEntry},es.toList[i]? =some e->∃p,l[i]? =some p/\e.key=K p.1/\e.val=V p.2:=by
 intro i e he;have h1:=congrArg (·[i]?) h;grind
theorem nK.calm{P:Program}{k:TypeId}{K:κ->Value}{V:β->Value}{l:List (κ×β)}{o:Obj}(h:nK P k K V l o):calm o=true:=by
 obtain⟨es,cl,rfl,h1,h2,h3⟩:=h;show(es.toList.all λe=>kU e.key)=true;rw [List.all_eq_true];intro e he;obtain⟨i,hi⟩:=List.mem_iff_getElem?.1 he;obtain⟨p,hp,e1,_⟩:=nf h1 hi;grind
theorem LE{l:List (κ×β)}(hn:(l.map (·.1)).Nodup){i:Nat}{p:κ×β}(hp:l[i]? =some p)(d:β):nF l p.1 d=p.2:=by
 unfold nF
 have:l.find? (λq=>q.1=p.1)=some p:=by
  induction l generalizing i with
  |nil=>simp at hp
  |cons q l ih=>
   grind
 rw [this]
theorem LD{l:List (κ×β)}{t:κ}(h:t∉l.map (·.1))(d:β):nF l t d=d:=by
 unfold nF;grind
variable {P:Program}{M:Md P}{o:Oper}{x y v:Operand}{T T' k e:TypeId}{K:κ->Value}{V:β->Value}{l:List (κ×β)}{z:Nat}{rk:A}{t:κ}
theorem sH(r:β->A)(hV:∀S w n,(r n).holds S w (V n))(ho:o.op= .lookup T x y false)(hT:P.underlying T=some (.map k e))(d0:β)(hz:∀w,(zeroValue e).run P w= .ok (V d0) w)(hk:Maps.Keyed P k)(hy:∀S w u,rk.holds S w u->u=K t)(hkt:∃lt,keyOf P k (K t)=some lt)(hnk:kU (K t)=true)(hinj:∀a b,K a=K b->a=b):
 bB M o [(x,.eq (.map (some z))),(y,rk)] [.inv z (nK P k K V l)] (λ_:Unit=>(r (nF l t d0),[.inv z (nK P k K V l)])):=by
 refine vP.T ⟨by grind [nd],λS w a next hd hN hO kk=>?_⟩ (λS w a hN _=>D2 ho (by have e:a.eval y=K t:=hy _ _ _ hN.2.1;simp_all)) (λd hd=>by rw [List.mem_singleton.1 hd];exact λ_ h=>h.calm)
 have e1:a.eval x= .map (some z):=hN.1
 have e2:a.eval y=K t:=hy S w _ hN.2.1
 obtain⟨ob,h1,es,cl,rfl,h2,h3,h4⟩:=hO.holds _ (List.mem_singleton.2 rfl)
 obtain⟨lt,hlt⟩:=hkt
 have hc:=hk.check w es.isEmpty hlt
 have fin:(Instr.lookup T (.map (some z)) (K t) false).run P w= .ok (V (nF l t d0)) w->Tj o a next ((execOp a.eval o).run P w):=λhr=>by
  have hrun:(execOp a.eval o).run P w= .ok (.value (V (nF l t d0))) w:=by
   simp_all [execOp,Sem.run_bind,Result.andThen_ok,Sem.run_pure]
  rw [hrun];exact kk () S w _ (j6.refl hd) (hV _ _ _) hO (λb hb=>.inl hb)
 refine fin ?_
 rcases hk.find w hlt es.toList (λe he=>by
  obtain⟨i,hi⟩:=List.mem_iff_getElem?.1 he;obtain⟨p,hp,q1,_⟩:=nf h2 hi;grind) with⟨g1,g2⟩ |⟨j,en,g1,g2,g3⟩
 .
  have hno:t∉l.map (·.1):=λhm=>by
   obtain⟨p,hp,hpt⟩:=List.mem_map.1 hm;obtain⟨i,hi⟩:=List.mem_iff_getElem?.1 hp;have hi2:=congrArg (·[i]?) h2;grind
  rw [LD hno];simp only [Instr.lookup,Sem.run_bind,run_underlying hT,Result.andThen_ok,f5 h1,Sem.run_pure,hc,g1,hz,if_false,Bool.false_eq_true]
 .
  obtain⟨p,hp,q1,q2⟩:=nf h2 g2;obtain rfl:p.1=t:=hinj _ _ (q1.symm.trans g3);rw [LE h4 hp];simp only [Instr.lookup,Sem.run_bind,run_underlying hT,Result.andThen_ok,f5 h1,Sem.run_pure,hc,g1,q2,if_false,Bool.false_eq_true]
theorem rm{n:β}{rv:A}(hV:∀S w u,rv.holds S w u->u=V n)(ho:o.op= .mapUpdate T x y v)(hT:P.underlying T=some (.map k e))(hk:Maps.Keyed P k)(hy:∀S w u,rk.holds S w u->u=K t)(hkt:∃lt,keyOf P k (K t)=some lt)(hnk:kU (K t)=true)(hinj:∀a b,K a=K b->a=b):
 bB M o [(x,.eq (.map (some z))),(y,rk),(v,rv)] [.inv z (nK P k K V l)] (λ_:Unit=>(.eq undef,[.inv z (nK P k K V (Cj l t n))])):=by
 refine vP.T ⟨by grind [nd],λS w a next hd hN hO kk=>?_⟩ (λS w a hN _=>DX ho (by have e:a.eval y=K t:=hy _ _ _ hN.2.1;simp_all)) (λd hd=>by rw [List.mem_singleton.1 hd];exact λ_ h=>h.calm)
 have e1:a.eval x= .map (some z):=hN.1
 have e2:a.eval y=K t:=hy S w _ hN.2.1
 have e3:a.eval v=V n:=hV _ _ _ hN.2.2.1
 obtain⟨ob,h1,es,cl,rfl,h2,h3,h4⟩:=hO.holds _ (List.mem_singleton.2 rfl)
 have hb:=hO.own z ⟨_,List.mem_singleton.2 rfl,rfl⟩
 obtain⟨lt,hlt⟩:=hkt
 have hc:=hk.check w false hlt
 have hgo:∀ob',(Instr.mapUpdate T (.map (some z)) (K t) (V n)).run P w= .ok () (w.putObj z ob')->nK P k K V (Cj l t n) ob'->Tj o a next ((execOp a.eval o).run P w):=λob' hr hM=>by
  have hrun:(execOp a.eval o).run P w= .ok .skip (w.putObj z ob'):=by
   grind [execOp,Sem.run_bind,Result.andThen_ok,Sem.run_pure]
  rw [hrun];refine kk () S _ _ (om hd ⟨_,List.mem_singleton.2 rfl,rfl⟩ ob') rfl (gk ⟨ob',ya hb.2,hM⟩ λb h=>?_) (λb hb=>.inl (xl hb));grind [D.foot,Option.some.injEq,rj]
 rcases hk.find w hlt es.toList (λe he=>by
  obtain⟨i,hi⟩:=List.mem_iff_getElem?.1 he;obtain⟨p,hp,q1,_⟩:=nf h2 hi;grind) with⟨g1,g2⟩ |⟨j,en,g1,g2,g3⟩
 .
  have hno:t∉l.map (·.1):=λhm=>by
   obtain⟨p,hp,hpt⟩:=List.mem_map.1 hm;obtain⟨i,hi⟩:=List.mem_iff_getElem?.1 hp;have hi2:=congrArg (·[i]?) h2;grind
  have hm:Cj l t n=l++[(t,n)]:=if_neg hno;refine hgo (.map (es.push { key:=K t,val:=V n,born:=cl }) (cl+1)) ?_ ⟨_,_,rfl,?_,λp hp=>?_,?_⟩
  .simp only [Instr.mapUpdate,Sem.run_bind,run_underlying hT,Result.andThen_ok,f5 h1,hc,g1,lm _ h1]
  .grind
  .grind
  grind
 .
  have hst:=hk.stays w hlt;have hj:es[j]? =some en:=by grind
  obtain⟨p,hp,q1,q2⟩:=nf h2 g2;obtain rfl:p.1=t:=hinj _ _ (q1.symm.trans g3);have hmem:p.1∈l.map (·.1):=List.mem_map.2 ⟨p,List.mem_of_getElem? hp,rfl⟩;have hm:Cj l p.1 n=l.map (λq=>if q.1=p.1 then(p.1,n) else q):=if_pos hmem;refine hgo (.map (es.modify j λe=>{ e with key:=K p.1,val:=V n }) cl) ?_ ⟨_,_,rfl,?_,λq hq=>?_,?_⟩
  .simp only [Instr.mapUpdate,Sem.run_bind,run_underlying hT,Result.andThen_ok,f5 h1,hc,g1,hj,Option.map_some,Option.getD_some,g3,hst,lm _ h1]
  .rw [hm];apply List.ext_getElem?;intro i;rw [List.getElem?_map,List.getElem?_map,List.getElem?_map];have hi2:=congrArg (·[i]?) h2;simp only [List.getElem?_map] at hi2;have hi3:(es.modify j λe=>{ e with key:=K p.1,val:=V n }).toList[i]? =(es.modify j λe=>{ e with key:=K p.1,val:=V n })[i]? :=by grind
   rw [hi3,Array.getElem?_modify];by_cases hji:j=i
   .grind
   .rw [if_neg hji];have hi4:es[i]? =es.toList[i]? :=by grind
    rw [hi4];cases hq:l[i]? with
    |none=>grind
    |some q=>
     rw [hq] at hi2
     have hne:¬q.1=p.1:=λe=>hji (by
      have hlt:=(List.getElem?_eq_some_iff.1 hp).1;refine(getElem?_inj (l:=l.map (·.1)) (by grind) h4).1 ?_;grind)
     grind
  .grind
  grind
theorem Ib{c:Call}(ho:o.op= .call c)(hc:c={ callee:=.builtin .clear,args:= #[x],argTypes:= #[T] })(hT:P.underlying T=some (.map k e)):
 bB M o [(x,.eq (.map (some z)))] [.inv z (nK P k K V l)] (λ_:Unit=>(.eq (.tuple #[]),[.inv z (nK P k K V [])])):=by
 refine vP.T ⟨by grind [nd],λS w a next hd hN hO kk=>?_⟩ (λS w a hN hO=>iC (by grind [sP]) a.eval) (λd hd=>by rw [List.mem_singleton.1 hd];exact λ_ h=>h.calm)
 have e1:a.eval x= .map (some z):=hN.1
 obtain⟨ob,h1,es,cl,rfl,h2,h3,h4⟩:=hO.holds _ (List.mem_singleton.2 rfl)
 have hb:=hO.own z ⟨_,List.mem_singleton.2 rfl,rfl⟩
 have hrun:(execOp a.eval o).run P w= .ok (.value (.tuple #[])) (w.putObj z (.map #[] cl)):=by
  simp [execOp,ho,hc,resolve,invoke,builtin,e1,Builtin.clear_,run_underlying hT,f5 h1,lm _ h1]
 rw [hrun]
 refine kk () S _ _ (om hd ⟨_,List.mem_singleton.2 rfl,rfl⟩ (.map #[] cl)) rfl (gk ⟨_,ya hb.2, #[],cl,rfl,rfl,by simp,nodup_nil⟩ λb h=>?_) (λb hb=>.inl (xl hb))
 simp_all [D.foot,Option.some.injEq,rj]
end
section
variable {P:Program}
theorem ut{vs:Nat->Value}:∀{l:List (List Int)} {j:Nat},(jl vs j l).length=l.length
 |[],_=>rfl
 |_::l,j=>by simp only [jl,length_cons,ut (l:=l)]
theorem JQ{c:Cx}{ops:Array Oper}{o:Oper}{l:List Oper}{Q:Exit->Act->VW->Prop}{Γ:Ga}{pre:List D}{T:TypeId}{z:Value×(Nat->Value)}{ls:List (List Int)}{x:Operand}{d:Nat}{Tx e:TypeId}{cl:Call}(hg:o.guard=none)(hd:o.dst=some d)(hdN:blt d c.N=true)
 (ho:o.op= .call cl) (hc:cl={ callee:=.builtin .len,args:= #[x],argTypes:= #[Tx] }) (hT:c.P.underlying Tx=some (.slice e)) (hh:ek Γ [(x,.eq z.1)])
 (h:JO c ops l Q ((d,.eq (.int .i64 (ls.length:Int)))::Γ) (pre++j9 T z ls)):JO c ops (o::l) Q Γ (pre++j9 T z ls):=by
 refine dM (SE.pp (Δ':=[.sl z.1 T .val (jl z.2 0 ls)]++(pre++kg z.2 0 ls)) perm_middle) ?_
 refine aO (F:=pre++kg z.2 0 ls) (λ_ _ _=>ag hg _) hd hdN (iL (M:=c.M) (t:=.val) (l:=jl z.2 0 ls) (TE:=T) ho hc hT) hh λ_=>?_
 have hp:(D.sl z.1 T .val (jl z.2 0 ls)::(pre++kg z.2 0 ls)).Perm (pre++j9 T z ls):=perm_middle.symm
 rw [ut]
 exact dM (SE.pp hp) h
end
end K
end Go.Proofs.YtflilincnacbpaaGreat
set_option linter.unusedVariables false
namespace Go.Proofs.YtflilincnacbpaaGreat
namespace K
open Go
def ES(S:FS)(w:VW)(Δ:List D)(pv:Value):Bool->Ending->VW->Prop
 |true=>dK S w Δ (λ_:Unit=>(bO [],Δ))
 |false=>λe v'=>e= .panicked (ik pv false)/\∃S',bD (av Δ) S w S' v'/\aS Δ S' v'
def Dt{P:Program}(M:Md P)(f:Nat)(Ss:List A)(Δ:List D)(pv:Value)(r:Bool):Prop:=
 ∀(k:CallKind),k≠.early->∀(S:FS) (w:VW) (vs:List Value),(∀b,S b->b < w.heap.size)->fM S w Ss vs->aS Δ S w->jC M k f vs.toArray w (ES S w Δ pv r)
theorem Dt.ok{P:Program}{M:Md P}{f:Nat}{Ss:List A}{Δ:List D}{pv:Value}(h:Dt M f Ss Δ pv true):cz M f Ss Δ (λ_:Unit=>(bO [],Δ)):=h
section
variable {P:Program}{M:Md P}{N:Nat}{S:FS}{w0:VW}{X:Nat->Prop}{ops:Array Oper}{o:Oper}{l:List Oper}{Q:Exit->Act->VW->Prop}{Γ:Ga}{Δ F:List D}{fn:Func}{pv:Value}{T e:TypeId}{x:Operand}
theorem Dt.of{f:Nat}{C:Code}{Ss:List A}{r:Bool}(N:Nat)(hf:P.funcs[f]? =some fn)(hb:fn.body=some C)(hN:fn.ntmps=N)(hn:ble Ss.length N=true)
 (h:∀S w0,JC ⟨P,N,S,w0,av Δ,none,[],M⟩ C (cg P fn (ES S w0 Δ pv r)) (entry 0 Ss) Δ):Dt M f Ss Δ pv r:=by
 subst hN
 intro kind hkind S w vs hd hall hO T hT cs hc
 have bc:=M.bc T hT
 rw [enter_at hf hb]
 refine h S w _ _ (St.entry hn hd hall hO) T hT _ [] cs rfl λe a' v' q=>?_
 have fin:∀todo,(a'.defers=[]/\∃x,(∀v1,bu v' v1->(results fn a'.tmps).run P v1= .ok x v1/\eP v1 v1 ((results fn a'.tmps).events P v1 #[]))/\ES S w Δ pv r (.returned x) v')->
  T v' { Frame.atR { (default:Frame) with fn:=f,kind:=kind } a' todo with mode:=.returning } cs:=λtodo ⟨q1,x,q2,q3⟩=>hc _ _ _ q3 rfl rfl ⟨rfl,q1,fn,hf,q2⟩
 cases e with
 |normal=>exact bc.move (λ_ _=>xf rfl) (fin _ q)
 |ret=>exact⟨λ_ todo=>fin todo q,λh=>by cases h⟩
 |panic chain=>exact λtodo=>hc _ _ _ q.2 rfl rfl ⟨rfl,q.1,fn,hf⟩
 |exit id=>exact q.elim
 |goto l=>exact q.elim
 |outgrown=>exact q.elim
theorem Nz:JN ⟨P,N,S,w0,av Δ,none,[],M⟩ (cg P fn (ES S w0 Δ pv false) (.panic (ik pv false))) Γ Δ:=λa w st=>by
 obtain⟨h1,h2,S',h3,h4,h5,h6⟩:=st
 exact⟨h1,rfl,S',h3,h5⟩
theorem JS{f:Nat}{Ss:List A}{c:Call}{dfs:List Deferred}(xs:List Operand){ts:Array TypeId}(hg:o.guard=none)(ho:o.op= .call c)(hc:c={ callee:=.value (.func f),args:=xs.toArray,argTypes:=ts })(hlen:xs.length=Ss.length)(hen:ai P f)
 (hh:ek Γ (xs.zip Ss)) (hC:Dt M f Ss Δ pv false) (h:JN ⟨P,N,S,w0,X,none,dfs,M⟩ (Q (.panic (ik pv false))) Γ (Δ++F)):JO ⟨P,N,S,w0,X,none,dfs,M⟩ ops (o::l) Q Γ (Δ++F):=by
 intro a w hst
 have hw:Region.wanted o (yielded ops a.tmps)=true:=ag hg _
 obtain⟨h1,h2,S',h3,h4,h5,h6⟩:=hst
 refine kX λK hK=>?_
 rw [if_pos hw]
 have hO:aS Δ S' w:=h5.part
 have hN:=gg (c:=⟨P,N,S,w0,X,none,dfs,M⟩) h6 hh
 have hnd:nd o.op=true:=by grind [nd]
 have e1:a.eval (.func f)= .func (.func f) #[] #[]:=rfl
 refine yH (args:=(xs.map a.eval).toArray) hnd (by simp_all [execOp,resolve,Deferred.ofValue,invoke]) hen λv1 hr=>?_
 refine(hC .normal (λe=>nomatch e) S' v1 _ (λb hb=>Nat.lt_of_lt_of_le (h3.dom b hb) hr.size) (fM.of hlen (bI.rely h3.dom hO.sees hr hN)) (hO.rely h3.dom hr)).mono ?_
 rintro e w' ⟨rfl,S2,g1,g2⟩
 exact h _ _ (tX (v:=undef) h1 h2 h3 h4 h5 h6 ((bD.rely h3.dom hr).trans g1 λb hb=>.inl hb) g2 λb hb=>.inl hb)
theorem Lc{T':TypeId}{z:Value}{r:A}(hz:∀S w,r.holds S w z)(ho:o.op= .typeAssert x T' T true)(h:Qm P T z):bB M o [(x,.eq .nilIface)] [] (λ_:Unit=>(.tup (.pair r (.pair (.eq (.bool false)) .any)),[])):=
 .val0 λS w a hN=>by
  obtain⟨fs,hu⟩:=h.und
  have e1:a.eval x= .nilIface:=hN.1
  refine⟨.tuple #[z,.bool false],?_,[_,_],rfl,_,_,rfl,hz _ _,_,_,rfl,rfl,rfl⟩
  have:(Instr.typeAssert .nilIface T' T true).run P w= .ok (.tuple #[z,.bool false]) w:=by
   unfold Instr.typeAssert;simp only [Sem.run_bind,run_underlying hu,Result.andThen_ok,h.zero,Sem.run_pure,if_true]
  simp_all [execOp,Sem.run_bind,Result.andThen_ok,Sem.run_pure]
theorem La{T':TypeId}{z u:Value}{r:A}(hz:∀S w,r.holds S w u)(ho:o.op= .typeAssert x T' T true)(h:Qm P T z):bB M o [(x,.eq (.iface T u))] [] (λ_:Unit=>(.tup (.pair r (.pair (.eq (.bool true)) .any)),[])):=
 .val0 λS w a hN=>by
  obtain⟨fs,hu⟩:=h.und
  have e1:a.eval x= .iface T u:=hN.1
  refine⟨.tuple #[u,.bool true],?_,[_,_],rfl,_,_,rfl,hz _ _,_,_,rfl,rfl,rfl⟩
  have:(Instr.typeAssert (.iface T u) T' T true).run P w= .ok (.tuple #[u,.bool true]) w:=by
   simp_all [Instr.typeAssert,Sem.run_bind,run_underlying,Result.andThen_ok,Sem.run_pure,if_true]
  simp_all [execOp,Sem.run_bind,Result.andThen_ok,Sem.run_pure]
theorem Ic(ho:o.op= .build T #[])(hT:P.underlying T=some (.struct #[]))(hz:∀w,(zeroValue T).run P w= .ok (.agg #[]) w):bB M o [] [] (λ_:Unit=>(.eq (.agg #[]),[])):=
 .val0 λS w a hN=>⟨.agg #[],by simp_all [execOp,Instr.build,Sem.run_bind,run_underlying,Value.cells,Instr.fill],rfl⟩
theorem H9{v:Value}{fs:Array Field}(ho:o.op= .makeInterface T x)(hu:P.underlying T=some (.struct fs)):bB M o [(x,.eq v)] [] (λ_:Unit=>(.eq (.iface T v),[])):=
 .val0 λS w a hN=>by
  have e1:a.eval x=v:=hN.1
  exact⟨.iface T v,by simp_all [execOp,Instr.makeInterface,run_underlying],rfl⟩
theorem vX{n:Nat}{t:Ty}{l:List t.den}{k:IntKind}{j:Int}{g:Bool}{y:Operand}(ho:o.op= .slice T x none (some y) none)(hT:P.underlying T=some (.array n e))(he:eu P e t.cells g)(h0:0≤j)(h1:j≤n):
 bB M o [(x,.at (.arr n t) l),(y,.eq (.int k j))] [] (λ_:Unit=>(.rep (.slice t) (l.take j.toNat),[])):=
 .val0 λS w a hN=>by
  obtain⟨b,off,c,T2,fz,e1,hS,hb,hlen,hr⟩:=hN.1
  have e2:a.eval y= .int k j:=hN.2.1
  have e1':a.eval x= .pointer (some ⟨b,off,none⟩):=by simp_all
  have hlt:(l.take j.toNat).length=j.toNat:=by simp_all
  refine⟨.slice (some ⟨b,off,none⟩) j.toNat n,?_,[.slice (some ⟨b,off,none⟩) j.toNat n],.inr ⟨b,off,n,c,T2,fz,by rw [hlt],by omega,hS,hb,?_⟩,rfl⟩
  .
   simp [execOp,ho,e1',e2,Instr.sliceAt,Instr.sureAddr,run_underlying hT,Instr.sliceBounds,Instr.sliceBound,asIntOf,he.size,Addr.add,h0,h1]
  .
   have h3:=BP (λ_ _ h=>aN t h) j.toNat hr
   rw [take_take] at h3
   simp_all
theorem o7{a b:A}{t u:Ty}{x:t.den}{y:u.den}(h1:AE a (.rep t x))(h2:AE b (.rep u y)):AE (.pair a b) (.rep (.pair t u) (x,y)):=λS w cs ⟨c1,c2,e,k1,k2⟩=>⟨c1,c2,e,h1 _ _ _ k1,h2 _ _ _ k2⟩
theorem NK{v:Value}:AE (.eq v) (.rep .ign ()):=λS w cs h=>⟨v,h.1,h.2⟩
theorem Nb{S:FS}{w:World}{t:Ty}{x:t.den}{a:A}{v:Value}(h:AE a (.rep t x))(hv:(A.agg a).holds S w v):(A.rep (.agg t) x).holds S w v:=by
 obtain⟨cs,h1,h2⟩:=hv;exact⟨cs,h S w cs h1,h2⟩
end
end K
end Go.Proofs.YtflilincnacbpaaGreat
set_option linter.unusedVariables false
set_option maxRecDepth 4000
set_option maxHeartbeats 1000000
namespace Go.Proofs.YtflilincnacbpaaGreat
open K Go Go.Proofs
theorem pz(k:Nat)(a0:ae)(b_a0 z_a0:Nat)(a1:Int)(r:List (List Int))(h:lQ k a0 a1=some r):cz (ec Tryz.prog) 20 [.eq (.pointer (some ⟨b_a0,0,none⟩)),.eq (.int .u8 a1)] (qQ a0 b_a0 z_a0 k) (λ_:Unit=>(bO [.rep (.arr 7 (.arr 5 (.int .i64))) r],qQ a0 b_a0 z_a0 k)):=AH h
theorem qq(k:Nat)(a0:ae)(b_a0 z_a0:Nat)(r:Unit)(h:eJ k a0=some r):cz (ec Tryz.prog) 40 [.eq (.pointer (some ⟨b_a0,0,none⟩))] (qQ a0 b_a0 z_a0 k) (λ_:Unit=>(bO [],qQ a0 b_a0 z_a0 k)):=rD k r h
theorem nZ(k:Nat)(a0:ae)(b_a0 z_a0:Nat)(a1:List Int)(a2 a3:Int)(r:Int)(h:dC k a0 a1 a2 a3=some r):dG Tryz.prog 71 [.eq (.pointer (some ⟨b_a0,0,none⟩)),.rep (.arr 5 (.int .i64)) a1,.eq (.int .i64 a2),.eq (.int .i64 a3)] [.obj b_a0 94 (aW a0 z_a0)] (λ_:Unit=>(bO [.eq (.int .i64 r)],[.obj b_a0 94 (aW a0 z_a0)])):=λM=>
 IL λM c0 c1 c2 c3 c4 c5 hK=>jR hK k a0 a1 a2 a3 r h
theorem GT:∀w,(zeroValue 94).run Tryz.prog w= .ok (.agg #[(.int .i64 0),(.int .i64 0),(.int .i64 0),(.int .i64 0),(.slice none 0 0),(.slice none 0 0),(.int .i32 0),(.int .u32 0),(.map none)]) w:=by simp_all
theorem GU:yZ Tryz.prog 94 #[(0,6),(6,2),(8,1)]:=⟨_,Tryz.underlying94,λ_=>by kernel_rfl⟩
@[reducible] def Vo:A:=.pair (.agg (.pair (.eq (.int .i64 0)) (.pair (.eq (.int .i64 0)) (.pair (.eq (.int .i64 0)) (.pair (.eq (.int .i64 0)) (.pair (.eq (.slice none 0 0)) (.eq (.slice none 0 0)))))))) (.pair (.eq (.int .i32 0)) (.pair (.eq (.int .u32 0)) (.eq (.map none))))
theorem E1:∀S w,(A.cells S w Vo (Value.cells (.agg #[(.int .i64 0),(.int .i64 0),(.int .i64 0),(.int .i64 0),(.slice none 0 0),(.slice none 0 0),(.int .i32 0),(.int .u32 0),(.map none)])).toList):=λ_ _=>⟨[_,_,_,_,_,_],_,rfl,⟨[_],_,rfl,⟨rfl,rfl⟩,[_],_,rfl,⟨rfl,rfl⟩,[_],_,rfl,⟨rfl,rfl⟩,[_],_,rfl,⟨rfl,rfl⟩,[_],_,rfl,⟨rfl,rfl⟩,rfl,rfl⟩,[_],_,rfl,⟨rfl,rfl⟩,[_],_,rfl,⟨rfl,rfl⟩,rfl,rfl⟩
def i8(k:Nat)(a0:ae):Option (Option ae):=some (some a0)
theorem MR{k:Nat}{a0:ae}:cj k a0 (.map #[] 0):=vB.nil
theorem nR(k:Nat)(a0:ae)(r:Option ae)(h:i8 k a0=some r):dG Tryz.prog 39 [.rep ap a0] [] (λz:Nat×Nat=>(bO [K8 r z.1],K7 r λq=>qQ q z.1 z.2 k)):=by
 obtain rfl:=Option.some.inj h;refine dG.of 7 Tryz.func39 rfl Tryz.ntmps39 rfl λS w0=>?_;refine am ?_;refine ab ?_;refine aX rfl rfl rfl (uT rfl rfl) ⟨rfl,trivial⟩ λb1=>?_;refine tY rfl ?_;refine aD ?_;refine ao ?_;show JC _ _ _ _ _;refine am ?_;refine ab ?_;refine fu rfl rfl rfl (ax rfl gC (tP) rfl) ⟨rfl,trivial⟩ ?_;refine aX rfl rfl rfl (wR rfl) trivial λz=>?_;refine bh rfl (eo [(0,.tmp 3,_),(2,.tmp 4,_)] rfl GU GT E1 (jM ⟨rfl,rfl,trivial⟩) rfl) ⟨rfl,rfl,trivial⟩ ?_;refine aX rfl rfl rfl (uT rfl trivial) ⟨rfl,trivial⟩ λb2=>?_;refine nU rfl rfl ?_;refine aD ?_;refine ao ?_;show JC _ _ _ _ _;refine aF ?_;refine bK (SE.fin (Γ':=[(2,_)]) [1,0] ⟨rfl,trivial⟩ rfl) ?_;refine bK (tG (cj k a0) MR) ?_;refine bK (SE.fin (Γ':=[(2,_)]) [1,0] ⟨rfl,trivial⟩ rfl) ?_;refine bK (ib (a:=_) (a':=aW a0 z) (λ_ _ _ h=>h)) ?_;exact aQ (b2,z) [_] 2 ⟨rfl,trivial⟩ rfl
def lg(t:eQ):Value:=.agg #[.int .i64 t.1,.int .i64 t.2]
def t3(l:List (eQ×eQ)):Obj->Prop:=nK Tryz.prog 108 lg lg l
theorem KI:t3 [] (.map #[] 0):=nK.nil
def zx(t:eQ):Prop:=(-1≤t.1/\t.1 < 1000000)/\ -1≤t.2/\t.2 < 1000000
instance (t:eQ):Decidable (zx t):=by unfold zx;infer_instance
theorem qU(t:eQ):kU (lg t)=true:=rfl
theorem qW:∀a b:eQ,lg a=lg b->a=b:=by
 simp_all [lg]
theorem uw:∀(S:FS) (w:World) (n:eQ),(A.rep Hk n).holds S w (lg n):=λS w n=>⟨[.int .i64 n.1,.int .i64 n.2],⟨[_],_,rfl,rfl,rfl⟩,rfl⟩
theorem nq{S:FS}{w:World}{u:Value}{t:eQ}(h:(A.rep Hk t).holds S w u):u=lg t:=by
 obtain⟨cs,⟨c1,c2,rfl,h1,h2⟩,rfl⟩:=h;have h1:c1=[.int .i64 t.1]:=h1;have h2:c2=[.int .i64 t.2]:=h2;subst h1 h2;rfl
theorem uv:∀w,(zeroValue 108).run Tryz.prog w= .ok (lg ((0:Int),(0:Int))) w:=λw=>by kernel_rfl
theorem OJ:108 < Tryz.prog.types.size:=by simp_all
theorem LW:WideMaps.KeyLaw Tryz.prog 108:=deep_law_gate (by kernel_rfl) Hi OJ (by kernel_rfl) (by kernel_rfl)
theorem mO:Maps.Keyed Tryz.prog 108:=Maps.Keyed.of_law LW
theorem qV{t:eQ}(h:zx t):∃lt,keyOf Tryz.prog 108 (lg t)=some lt:=by
 obtain⟨a,b⟩:=t;obtain⟨⟨h1,h2⟩,h3,h4⟩:=h;obtain⟨d,hd⟩:∃d,Tryz.prog.types.size+1=d+2:=⟨Tryz.prog.types.size - 1,by simp_all⟩
 have hint:∀(n:Int), -1≤n->n < 1000000->Tryz.prog.keyLits (d+1) 3 [.int .i64 n]=some [.int .i64 n]:=λn h h'=>by
  simp_all [Program.keyLits,Tryz.underlying3,zn,and_self,if_true]
 have hc:Tryz.prog.cellsOf 108=2:=by kernel_rfl
 have hc3:Tryz.prog.cellsOf 3=1:=by kernel_rfl
 have hk:Tryz.prog.keyType 108=true:=by kernel_rfl
 have hL:Tryz.prog.keyLits (Tryz.prog.types.size+1) 108 [.int .i64 a,.int .i64 b]=some [.int .i64 a,.int .i64 b]:=by
  rw [hd];unfold Program.keyLits;simp_all
 refine⟨.string (keyBytes [.int .i64 a,.int .i64 b]),?_⟩;unfold keyOf;rw [Tryz.underlying108];have hf:(lg (a,b)).formed Tryz.prog 108=true:=by simp [lg,Value.formed,Tryz.underlying108,hc]
 have hcs:(lg (a,b)).cells.toList=[.int .i64 a,.int .i64 b]:=rfl;simp_all
end Go.Proofs.YtflilincnacbpaaGreat
set_option linter.unusedVariables false
namespace Go.Proofs.YtflilincnacbpaaGreat
namespace K
open Go
def eU(T:TypeId)(vs:Nat->Value)(ws:Nat->Nat->Value):Nat->List (List (List Int))->List D
 |_,[]=>[]
 |k,x::l=>j9 T (vs k,ws k) x++eU T vs ws (k+1) l
def dc(vs:Nat->Value):Nat->List (List (List Int))->List Value
 |_,[]=>[]
 |k,_::l=>vs k::dc vs (k+1) l
def HB(ws:Nat->Nat->Value)(i:Nat)(w:Nat->Value):Nat->Nat->Value:=λj=>if j=i then w else ws j
section
variable {T T0:TypeId}{vs:Nat->Value}{ws:Nat->Nat->Value}
theorem nn:∀{l:List (List (List Int))} {k:Nat},(dc vs k l).length=l.length
 |[],_=>rfl
 |_::l,_=>by rw [dc,length_cons,nn,length_cons]
theorem pg:∀{l:List (List (List Int))} {k i:Nat},(dc vs k l)[i]? =(l[i]?).map λ_=>vs (k+i)
 |[],_,_=>by simp [dc]
 |_::l,k,0=>by simp [dc]
 |_::l,k,i+1=>by
  rw [dc,getElem?_cons_succ,getElem?_cons_succ,pg,show k+1+i=k+(i+1) by omega]
theorem OF{l l':List (List (List Int))}(h:l.length=l'.length):dc vs 0 l=dc vs 0 l':=by
 apply List.ext_getElem?;intro i;rw [pg,pg];by_cases hi:i < l.length
 .rw [List.getElem?_eq_getElem hi,List.getElem?_eq_getElem (h▸hi)];rfl
 .rw [List.getElem?_eq_none (by omega),List.getElem?_eq_none (by omega)]
theorem He{v:Value}{l:List (List (List Int))}{x:List (List Int)}:dc (jp vs l.length v) 0 (l++[x])=dc vs 0 l++[v]:=by
 apply List.ext_getElem?;intro i;rw [pg,Nat.zero_add];rcases Nat.lt_trichotomy i l.length with h |h |h
 .rw [List.getElem?_append_left h,List.getElem?_append_left (by rw [nn];exact h),pg,Nat.zero_add,List.getElem?_eq_getElem h];simp [jp,show¬i=l.length by omega]
 .subst h;rw [List.getElem?_append_right (Nat.le_refl _),List.getElem?_append_right (by rw [nn];exact Nat.le_refl _),nn,Nat.sub_self];simp [jp]
 .rw [List.getElem?_eq_none (by simp;omega),List.getElem?_eq_none (by simp [nn];omega)];rfl
theorem yB:∀{a b:List (List (List Int))} {k:Nat},eU T vs ws k (a++b)=eU T vs ws k a++eU T vs ws (k+a.length) b
 |[],b,k=>rfl
 |x::a,b,k=>by
  rw [cons_append,eU,eU,yB,List.append_assoc,length_cons,show k+1+a.length=k+(a.length+1) by omega]
theorem xm{vs':Nat->Value}{ws':Nat->Nat->Value}:∀{l:List (List (List Int))} {k:Nat},(∀j,k≤j->j < k+l.length->vs j=vs' j/\ws j=ws' j)->eU T vs ws k l=eU T vs' ws' k l
 |[],_,_=>rfl
 |x::l,k,h=>by
  have h0:=h k (Nat.le_refl _) (by rw [length_cons];omega)
  rw [eU,eU,h0.1,h0.2,xm λj h1 h2=>h j (by omega) (by rw [length_cons];omega)]
theorem Jf{v:Value}{w:Nat->Value}{l:List (List (List Int))}{x:List (List Int)}:eU T (jp vs l.length v) (HB ws l.length w) 0 (l++[x])=eU T vs ws 0 l++j9 T (v,w) x:=by
 rw [yB,xm (vs':=vs) (ws':=ws) (λj _ h=>⟨by simp [jp];omega,by simp [HB];omega⟩),Nat.zero_add,eU,eU,append_nil];simp [jp,HB]
def Je(T:TypeId)(vs:Nat->Value)(ws:Nat->Nat->Value)(d:Nat)(l:List (List (List Int))):List D:=eU T vs ws 0 (l.take d)++eU T vs ws (d+1) (l.drop (d+1))
theorem vk{l:List (List (List Int))}{d:Nat}{x:List (List Int)}(h:l[d]? =some x):(eU T vs ws 0 l).Perm (j9 T (vs d,ws d) x++Je T vs ws d l):=by
 obtain⟨hd,hx⟩:=List.getElem?_eq_some_iff.1 h;have e:l=l.take d++x::l.drop (d+1):=by rw [<-hx,List.getElem_cons_drop,take_append_drop]
 have:eU T vs ws 0 l=eU T vs ws 0 (l.take d)++(j9 T (vs d,ws d) x++eU T vs ws (d+1) (l.drop (d+1))):=by
  conv=>lhs;rw [e]
  rw [yB,eU,length_take,Nat.min_eq_left (by omega),Nat.zero_add]
 rw [this];unfold Je;rw [<-List.append_assoc,<-List.append_assoc];exact List.Perm.append_right _ perm_append_comm
theorem MH{l:List (List (List Int))}{d:Nat}{x:List (List Int)}:Je T vs ws d (l.set d x)=Je T vs ws d l:=by
 unfold Je;rw [List.take_set_of_le (Nat.le_refl d),List.drop_set_of_lt (lt_succ_self d)]
end
section
variable {c:Cx}{Γ:Ga}{pre F:List D}{T T0:TypeId}{vs:Nat->Value}{ws:Nat->Nat->Value}{l:List (List (List Int))}{d i:Nat}{x:List (List Int)}{y y':List Int}
theorem xA(h:l[d]? =some x):SE c Γ (pre++eU T vs ws 0 l) Γ (.sl (vs d) T .val (jl (ws d) 0 x)::(pre++(kg (ws d) 0 x++Je T vs ws d l))):=by
 refine SE.pp ?_;refine(List.Perm.append_left pre (vk h)).trans ?_;exact perm_middle
theorem Dm(h:l[d]? =some x):SE c Γ (.sl (vs d) T .val (jl (ws d) 0 x)::(pre++(kg (ws d) 0 x++Je T vs ws d l))) Γ (pre++eU T vs ws 0 l):=by
 refine SE.pp ?_;refine perm_middle.symm.trans ?_;exact List.Perm.append_left pre (vk h).symm
theorem Dl(h:l[d]? =some x)(h2:x[i]? =some y):SE c Γ (pre++eU T vs ws 0 l) Γ (.sl (ws d i) 3 (.int .i64) y:: .sl (vs d) T .val (jl (ws d) 0 x)::(pre++((kg (ws d) 0 x).eraseIdx i++Je T vs ws d l))):=by
 refine SE.trans (xA h) (SE.pp ?_);have h1:=f6 (Δ:=kg (ws d) 0 x) i (.sl (ws d i) 3 (.int .i64) y) (by rw [nu,h2,Nat.zero_add];rfl);refine List.Perm.trans ?_ (List.Perm.swap _ _ _);refine List.Perm.cons _ ?_;refine(List.Perm.append_left pre (List.Perm.append_right _ h1)).trans ?_;exact perm_middle
theorem A5(h:l[d]? =some x)(h2:x[i]? =some y):SE c Γ (.sl (ws d i) 3 (.int .i64) y':: .sl (vs d) T .val (jl (ws d) 0 x)::(pre++((kg (ws d) 0 x).eraseIdx i++Je T vs ws d l))) Γ (pre++eU T vs ws 0 (l.set d (x.set i y'))):=by
 have hd:=(List.getElem?_eq_some_iff.1 h).1;have hi:=(List.getElem?_eq_some_iff.1 h2).1;have e:=DK (vs:=ws d) (v:=ws d i) (l:=y') hi;rw [Fb] at e;refine SE.pp ?_;have hs:=vk (T:=T) (vs:=vs) (ws:=ws) (l:=l.set d (x.set i y')) (d:=d) (x:=x.set i y') (by rw [List.getElem?_set];simp [hd]);refine List.Perm.trans ?_ (List.Perm.append_left pre hs.symm);rw [MH];unfold j9;rw [Ha,e];refine(List.Perm.swap _ _ _).trans ?_;refine List.Perm.trans ?_ perm_middle.symm;refine List.Perm.cons _ ?_;refine perm_middle.symm.trans ?_;refine List.Perm.append_left pre ?_;exact List.Perm.append_right _ (zD (by rw [lX];exact hi)).symm
theorem Gh{v:Value}{u:Ty}{L:List Value}:SE c Γ (.sl v T0 .val L::F) Γ (.sl v T0 (.alt (.slice u)) (L.map Sum.inr)::F):=λa w h=>
 h.swap (d:=.sl v T0 .val L) (d':=.sl v T0 (.alt (.slice u)) (L.map Sum.inr)) (λ_=>Iff.rfl) λS hs=>by
  rcases hs with⟨h1,rfl⟩ |⟨b,cap,cc,rfl,q1,q1',q2,q3,q4⟩
  .
   exact .inl ⟨h1,rfl⟩
  .
   refine .inr ⟨b,cap,cc,by rw [length_map],by rw [length_map];exact q1,q1',q2,q3,?_⟩
   rw [length_map]
   exact zH (f:=Sum.inr) (R':=rd S w (.alt (.slice u))) (λx cs hx=>hx) q4
theorem uL{α β:Type}{R:α->List Value->Prop}{R':β->List Value->Prop}{f:α->β}(h:∀x cs,R' (f x) cs->R x cs):∀{l:List α} {cs:List Value},dA R' (l.map f) cs->dA R l cs
 |[],_,e=>e
 |_::_,_,⟨c1,c2,e,h1,h2⟩=>⟨c1,c2,e,h _ _ h1,uL h h2⟩
theorem Gi{v:Value}{u:Ty}{L:List (Ty.slice u).den}:SE c Γ (.sl v T0 (.alt (.slice u)) (L.map Sum.inl)::F) Γ (.sl v T0 (.slice u) L::F):=λa w h=>
 h.swap (d:=.sl v T0 (.alt (.slice u)) (L.map Sum.inl)) (d':=.sl v T0 (.slice u) L) (λ_=>Iff.rfl) λS hs=>by
  rcases hs with⟨h1,h2⟩ |⟨b,cap,cc,rfl,q1,q1',q2,q3,q4⟩
  .
   exact .inl ⟨h1,List.map_eq_nil_iff.1 h2⟩
  .
   rw [length_map] at q1 q4
   refine .inr ⟨b,cap,cc,by rw [length_map],q1,q1',q2,q3,?_⟩
   exact uL (f:=Sum.inl) (R':=rd S w (.alt (.slice u))) (λx cs hx=>hx.1) q4
theorem wN{α:Type}{R:α->List Value->Prop}{y z:α}(hy:∀cs,R y cs->R z cs):∀{l:List α} {i:Nat} {cs:List Value},l[i]? =some y->dA R l cs->dA R (l.set i z) cs
 |x::l,0,_,h,⟨c1,c2,e,h1,h2⟩=>⟨c1,c2,e,hy _ (by simp at h;rw [<-h];exact h1),h2⟩
 |x::l,i+1,_,h,⟨c1,c2,e,h1,h2⟩=>⟨c1,c2,e,h1,wN hy (by simpa using h) h2⟩
theorem Gn{nm v:Value}{Tu:TypeId}{u:Ty}{d:List u.den}{L:List (Ty.alt (.slice u)).den}{i:Nat}(hi:L[i]? =some (.inr nm)):
 SE c Γ (.sl nm Tu u d:: .sl v T0 (.alt (.slice u)) L::F) Γ (.sl v T0 (.alt (.slice u)) (L.set i (.inl d))::F):=λa w h=>by
 obtain⟨h1,h2,S,h3,h4,h5,h6,h7⟩:=rP h
 obtain⟨xs,e1,e2⟩:=h7
 have e3:xs=[nm]:=by
  have l1:=aN (.slice u) e1;match xs,l1 with
  |[x],_=>simp [mk] at e2;rw [e2]
 subst e3
 have hd:(D.sl v T0 (.alt (.slice u)) (L.set i (.inl d))).holds S w:=by
  rcases h5.holds _ (mem_cons_self ..) with⟨g1,g2⟩ |⟨b,cap,cc,rfl,q1,q1',q2,q3,q4⟩
  .rw [g2] at hi;simp at hi
  .have hlen:L.length=(L.set i (.inl d)).length:=by simp
   refine .inr ⟨b,cap,cc,by rw [hlen],by rw [<-hlen];exact q1,q1',q2,q3,?_⟩;rw [<-hlen]
   exact wN (R:=rd S w (.alt (.slice u))) (λcs hx=>by
    obtain⟨rfl,_⟩:=hx;exact⟨e1,aN (.slice u) e1⟩) hi q4
 have hp:=pairwise_cons.1 h5.apart
 refine⟨h1,h2,S,h3,λx ⟨e,he,hb⟩=>?_,h5.re ⟨λe he=>?_,λx ⟨e,he,hb⟩=>?_,pairwise_cons.2 ⟨λe he=>hp.1 e he,hp.2⟩⟩ (λx ⟨e,he,hb⟩=>by
  rcases mem_cons.1 he with rfl |he
  .exact⟨_,mem_cons_self ..,hb⟩
  .exact⟨e,mem_cons_of_mem _ he,hb⟩) (λ_ h=>.inl h),h6⟩
 .
  rcases mem_cons.1 he with rfl |he
  .exact h4 x ⟨_,mem_cons_self ..,hb⟩
  .exact h4 x ⟨e,mem_cons_of_mem _ he,hb⟩
 .
  rcases mem_cons.1 he with rfl |he
  .exact hd
  .exact h5.holds e (mem_cons_of_mem _ he)
 .
  rcases mem_cons.1 he with rfl |he
  .exact h5.own x ⟨_,mem_cons_self ..,hb⟩
  .exact h5.own x ⟨e,mem_cons_of_mem _ he,hb⟩
theorem xB{v:Value}:∀(b a:List (List (List Int))),SE c Γ (.sl v T0 (.alt (.slice (.slice (.int .i64)))) (a.map Sum.inl++(dc vs a.length b).map Sum.inr)::(pre++eU T vs ws a.length b)) Γ (.sl v T0 (.slice (.slice (.int .i64))) (a++b)::pre)
 |[],a=>by
  have:=Gi (c:=c) (Γ:=Γ) (v:=v) (T0:=T0) (u:=.slice (.int .i64)) (L:=a) (F:=pre)
  simpa [dc,eU] using this
 |x::b,a=>by
  rw [eU,dc,map_cons]
  refine SE.trans (SE.pp (Δ':=(.sl v T0 (.alt (.slice (.slice (.int .i64)))) (a.map Sum.inl++ .inr (vs a.length)::(dc vs (a.length+1) b).map Sum.inr)::(pre++eU T vs ws (a.length+1) b))++j9 T (vs a.length,ws a.length) x) ?_) ?_
  .
   refine List.Perm.cons _ ?_
   show(pre++(j9 T (vs a.length,ws a.length) x++eU T vs ws (a.length+1) b)).Perm ((pre++eU T vs ws (a.length+1) b)++j9 T (vs a.length,ws a.length) x)
   rw [List.append_assoc]
   exact List.Perm.append_left pre perm_append_comm
  .
   refine SE.trans A4 ?_
   refine SE.trans (Gn (u:=.slice (.int .i64)) (i:=a.length) (nm:=vs a.length) (by rw [List.getElem?_append_right (by simp)];simp)) ?_
   have ih:=xB (v:=v) b (a++[x])
   have e:List.set (List.map Sum.inl a++Sum.inr (vs a.length)::List.map Sum.inr (dc vs (a.length+1) b)) a.length (Sum.inl x)=List.map (Sum.inl (β:=Value)) (a++[x])++List.map Sum.inr (dc vs (a++[x]).length b):=by
    rw [List.set_append_right _ _ (by simp)];simp
   rw [show(a++[x]).length=a.length+1 by simp] at ih e;rw [e];rw [List.append_assoc,singleton_append] at ih;exact ih
theorem JI{v:Value}{l0:List (List (List Int))}(h:l.length=l0.length):SE c Γ (.sl v T0 .val (dc vs 0 l0)::(pre++eU T vs ws 0 l)) Γ (.sl v T0 (.slice (.slice (.int .i64))) l::pre):=by
 rw [<-OF h];exact SE.trans (Gh (u:=.slice (.int .i64))) (xB l [])
theorem qS{l:List (List (List Int))}{d:Int}{x:List (List Int)}(h:aG l d=some x):aG (dc vs 0 l) d=some (vs (Int.toNat d)):=by
 obtain⟨h1,h2,h3⟩:=cP h;unfold aG;rw [if_pos h1,pg,h3,Nat.zero_add];rfl
theorem MG{A F T:List D}:((A++T)++F).Perm ((A++F)++T):=by
 rw [List.append_assoc,List.append_assoc];exact List.Perm.append_left A perm_append_comm
theorem H7{P:Program}{M:Md P}{o:Oper}{x:Operand}{v:Value}{Tx e:TypeId}{cl:Call}(ho:o.op= .call cl)(hc:cl={ callee:=.builtin .len,args:= #[x],argTypes:= #[Tx] })(hT:P.underlying Tx=some (.slice e)):
 bB M o [(x,.eq v)] [.sl v T0 .val (dc vs 0 l)] (λ_:Unit=>(.eq (.int .i64 (l.length:Int)),[.sl v T0 .val (dc vs 0 l)])):=by
 have:=iL (M:=M) (t:=.val) (l:=dc vs 0 l) (TE:=T0) (v:=v) ho hc hT
 rw [nn] at this
 exact this
theorem H8{P:Program}{M:Md P}{o:Oper}{x:Operand}{v:Value}{w:Nat->Value}{y:List (List Int)}{Tx e:TypeId}{cl:Call}(ho:o.op= .call cl)(hc:cl={ callee:=.builtin .len,args:= #[x],argTypes:= #[Tx] })(hT:P.underlying Tx=some (.slice e)):
 bB M o [(x,.eq v)] [.sl v T0 .val (jl w 0 y)] (λ_:Unit=>(.eq (.int .i64 (y.length:Int)),[.sl v T0 .val (jl w 0 y)])):=by
 have:=iL (M:=M) (t:=.val) (l:=jl w 0 y) (TE:=T0) (v:=v) ho hc hT
 rw [iS] at this
 exact this
end
end K
end Go.Proofs.YtflilincnacbpaaGreat
set_option linter.unusedVariables false
set_option maxRecDepth 4000
namespace Go.Proofs.YtflilincnacbpaaGreat
open K Go Go.Proofs
theorem K.SE.finE{c:Cx}{Γ Γ':Ga}(E:List D)(hs:GH Γ' Γ):SE c Γ E Γ' E:=dL [] E [] hs rfl
theorem IN{vs:Nat->Value}{l:List (List Int)}{x:List Int}{v:Value}(h:bN (length l+length [x])):bN (length (jl vs 0 l)+length [v]):=by
 rw [ut];exact h
theorem rM(k:Nat)(a0:(List (List Int)))(r:(List (List Int)))(h:eE k a0=some r):
 dG Tryz.prog 18 [.rep (.slice (.slice (.int .i64))) a0] [] (λz:Value×(Nat->Value)=>(bO [.eq z.1],j9 22 z r)):=by
 unfold eE at h
 replace h:=bp h
 refine dG.of 20 Tryz.func18 rfl Tryz.ntmps18 rfl λS w0=>?_
 refine am ?_
 refine ab ?_
 refine tY rfl ?_
 refine aD ?_
 refine ao ?_
 show JC _ _ _ _ _
 refine am ?_
 refine ab ?_
 refine tY rfl ?_
 refine aD ?_
 refine ao ?_
 show JC _ _ _ _ _
 refine aJ (Z:=Value×(Nat->Value)) (α:=(List (List Int))) (λz2 x1=>[(3,.eq z2.1)]) (λz2 x1=>j9 22 z2 x1) h (λK h=>?_) (λz2 x1 h=>?_)
 .
  refine am ?_;refine ab ?_;refine tY rfl ?_;refine aD ?_;refine ao ?_;show JC _ _ _ _ _;refine ak ?_;refine fL (SE.nil 22 .val) ?_;refine fL (A3 (n:=0) (F:=[])) ?_;refine aH (Z:=Value×(Nat->Value)) (α:=(List (List Int))×Int) (λz4 y3=>[(0,.rep (.slice (.slice (.int .i64))) a0),(3,.eq z4.1),(4,.eq (.int .i64 y3.2))]) (λz4 y3=>j9 22 z4 y3.1) (c7 k a0) k (.slice none 0 0,λ_=>.slice none 0 0) (([]:(List (List Int))),(0:Int)) (λ_=>rfl) h (SE.finE (j9 22 (.slice none 0 0,λ_=>.slice none 0 0) []) ⟨rfl,rfl,rfl,trivial⟩) (λn z4 y3 h=>?_);unfold c7 at h;refine am ?_;refine am ?_;refine ab ?_;refine dh rfl rfl ?_;refine dh rfl rfl ?_;refine bh rfl (nP rfl rfl Tryz.underlying33) ⟨rfl,trivial⟩ ?_;refine bh rfl (bG rfl) ⟨rfl,rfl,trivial⟩ ?_;refine aD ?_;refine ao ?_;show JC _ _ _ _ _;refine ie rfl (λhb=>?_) (λhb=>?_)
  .replace h:=fo (vI hb) h;refine bj ?_;refine ao ?_;show JC _ _ _ _ _;refine am ?_;refine ak ?_;refine ab ?_;refine dh rfl rfl ?_;refine dh rfl rfl ?_;refine dh rfl rfl ?_;obtain⟨x5,ex5,h⟩:=aa h;refine bh rfl (aU (t:=(.slice (.int .i64))) rfl Tryz.underlying33 ii ex5) ⟨rfl,rfl,trivial⟩ ?_;refine bh rfl (ay (t:=(.slice (.int .i64))) rfl ii rfl) ⟨rfl,trivial⟩ ?_;obtain⟨r6,er6,h⟩:=aa h;have cr6:=nT k x5 r6 er6;refine aX rfl rfl rfl (aC [.tmp 15] rfl rfl Si rfl cr6) ⟨rfl,trivial⟩ λv7=>?_;refine rY λhv=>?_;refine bh rfl (bf (t:=.val) [(.tmp 16,_)] [v7] rfl rfl nX (.cons hv (.val hv) .nil) rfl rfl) ⟨rfl,trivial⟩ ?_;obtain⟨u8,eu8,h⟩:=aa h;refine dM (SE.pp (Δ':=.sl z4.1 22 .val (jl z4.2 0 y3.1):: .sl v7 3 (.int .i64) r6::kg z4.2 0 y3.1) (List.Perm.swap _ _ _)) ?_;refine dZ rfl rfl rfl (cu rfl rfl nX (IN (au eu8))) ⟨rfl,rfl,trivial⟩ λv9=>?_;refine nU rfl rfl ?_;refine aD ?_;refine aR ?_;refine ao ?_;refine bK (SE.pp (Δ':=.sl v7 3 (.int .i64) r6:: .sl v9 22 .val (jl z4.2 0 y3.1++[v7])::([]++kg z4.2 0 y3.1)) (List.Perm.swap _ _ _)) ?_;refine bK (Gj (pre:=[])) ?_;show JC _ _ _ _ _;refine ab ?_;refine dh rfl rfl ?_;obtain⟨x10,ex10,h⟩:=aa h;refine bh rfl (bA rfl ex10) ⟨rfl,rfl,trivial⟩ ?_;refine nU rfl rfl ?_;refine aD ?_;refine ao ?_;exact mJ ((v9,jp z4.2 y3.1.length v7),(y3.1++[r6],x10)) h (SE.finE (j9 22 (v9,jp z4.2 y3.1.length v7) (y3.1++[r6])) ⟨rfl,rfl,rfl,trivial⟩)
  .replace h:=di (vJ hb) h;refine eO ?_;refine bi ?_;refine bi ?_;refine cT ?_;refine ao ?_;exact mJ (z4,y3.1) h (SE.finE (j9 22 z4 y3.1) ⟨rfl,trivial⟩)
 .
  refine am ?_;refine ab ?_;refine dh rfl rfl ?_;refine nU rfl rfl ?_;refine aD ?_;refine ao ?_;show JC _ _ _ _ _;refine aF ?_;obtain rfl:=Option.some.inj h;exact aQ z2 [.eq z2.1] (j9 22 z2 x1).length ⟨rfl,trivial⟩ (by rw [take_length])
end Go.Proofs.YtflilincnacbpaaGreat
set_option linter.unusedVariables false
set_option maxRecDepth 4000
set_option maxHeartbeats 1000000
namespace Go.Proofs.YtflilincnacbpaaGreat
open K Go Go.Proofs
theorem K.JO.goT{c:Cx}{ops:Array Oper}{Q:Exit->Act->VW->Prop}{n:Nat}{L:List Bool}{M:Exit->Act->VW->Prop}{Γ Γ':Ga}{pre pre' E:List D}(ks:List Nat)(j:JD c ops Q n L Γ' (pre'++E))(hs:GH Γ' Γ)(hk:fx pre ks=some pre':=by rfl)(hn:ks.Nodup:=by decide):JO c ops [] (bQ (λa w=>fN c.M c.rd .any ops Q n L.toArray a w) M) Γ (pre++E):=aD (bK (dL pre E ks hs hk hn) j.to)
theorem K.JO.goJ{c:Cx}{ops:Array Oper}{Q:Exit->Act->VW->Prop}{n:Nat}{L:List Bool}{M:Exit->Act->VW->Prop}{Γ Γ':Ga}{pre pre' E:List D}{J:Nat->List Bool->Ga->List D->Prop}(hJ:J=JD c ops Q)(ks:List Nat)(j:J n L Γ' (pre'++E))(hs:GH Γ' Γ)(hk:fx pre ks=some pre':=by rfl)(hn:ks.Nodup:=by decide):JO c ops [] (bQ (λa w=>fN c.M c.rd .any ops Q n L.toArray a w) M) Γ (pre++E):=by
 subst hJ;exact JO.goT ks j hs hk hn
theorem K.JD.stepJ{c:Cx}{ops:Array Oper}{Q:Exit->Act->VW->Prop}{n:Nat}{L:List Bool}{Γ:Ga}{Δ:List D}{J:Nat->List Bool->Ga->List D->Prop}(hJ:J=JD c ops Q)(rdy:List Nat)(hr:Region.ready .any ops L.toArray=rdy)(hne:rdy.isEmpty=false)(h:On c ops Q n L Γ Δ rdy):J (n+1) L Γ Δ:=by
 subst hJ;exact JD.step rdy hr hne h
theorem K.JO.stepN{c:Cx}{ops:Array Oper}{o:Oper}{l:List Oper}{Q:Exit->Act->VW->Prop}{Γ:Ga}{Δ:List D}{N:List (Operand×A)}{X:Type}{R:X->A×List D}{d:Nat}(hg:o.guard=none)(hd:o.dst=some d)(hdN:blt d c.N=true)(ht:bB c.M o N [] R)(hh:ek Γ N)
 (k:∀x,JO c ops l Q ((d,(R x).1)::Γ) ((R x).2++Δ)):JO c ops (o::l) Q Γ Δ:=aO (Δ:=[]) (F:=Δ) (λ_ _ _=>ag hg _) hd hdN ht hh k
theorem CV{A P T:List D}:(A++(P++T)).Perm (P++(A++T)):=by
 rw [<-List.append_assoc,<-List.append_assoc];exact List.Perm.append_right _ perm_append_comm
theorem E5{vs:Nat->Value}{l:List (List (List Int))}{x:List (List Int)}{v:Value}(h:bN (length l+length [x])):bN (length (dc vs 0 l)+length [v]):=by
 rw [nn];exact h
theorem rL(k:Nat)(a0:ae)(r:ae)(h:ir k a0=some r):
 dG Tryz.prog 8 [.rep ap a0] [] (λz:Value×Value×(Nat->Value)×(Nat->Nat->Value)=>(bO [.agg (.pair (.eq (.int .i64 r.1)) (.pair (.eq (.int .i64 r.2.1)) (.pair (.eq (.int .i64 r.2.2.1)) (.pair (.eq (.int .i64 r.2.2.2.1)) (.pair (.eq z.1) (.eq z.2.1))))))],[.sl z.1 33 .val (dc z.2.2.1 0 r.2.2.2.2.1),.sl z.2.1 35 ah r.2.2.2.2.2]++eU 22 z.2.2.1 z.2.2.2 0 r.2.2.2.2.1)):=by
 unfold ir at h
 replace h:=bp h
 refine dG.of 30 Tryz.func8 rfl Tryz.ntmps8 rfl λS w0=>?_
 refine am ?_
 refine ab ?_
 refine aX rfl rfl rfl (uT rfl rfl) ⟨rfl,trivial⟩ λb1=>?_
 refine aX rfl rfl rfl (bo rfl vS AW) trivial λb2=>?_
 refine aD ?_
 refine ao ?_
 show JC _ _ _ _ _
 refine am ?_
 refine ab ?_
 refine bh rfl (aA rfl cS) ⟨rfl,trivial⟩ ?_
 refine dN 1 rfl ?_
 refine fu rfl rfl rfl (ax rfl gG (λ_=>rfl) rfl) ⟨rfl,trivial⟩ ?_
 refine nU rfl rfl ?_
 refine aD ?_
 refine ao ?_
 show JC _ _ _ _ _
 refine am ?_
 refine ab ?_
 refine aX rfl rfl rfl (lu (t:=ah) [] ([]:(List an)) rfl rfl Fa .nil rfl rfl) trivial λv3=>?_
 refine bh rfl (aA rfl mE) ⟨rfl,trivial⟩ ?_
 refine dN 1 rfl ?_
 refine fu rfl rfl rfl (ax rfl vW (λ_=>rfl) rfl) ⟨rfl,trivial⟩ ?_
 obtain⟨u4,eu4,h⟩:=aa h
 refine dN 1 rfl ?_
 refine dZ rfl rfl rfl (cu rfl rfl Fa (au eu4)) ⟨rfl,rfl,trivial⟩ λv5=>?_
 refine bh rfl (aA rfl cS) ⟨rfl,trivial⟩ ?_
 refine dN 1 rfl ?_
 refine aP rfl rfl (aM rfl gG rfl rfl rfl) ⟨rfl,rfl,trivial⟩ ?_
 refine bh rfl (aA rfl mE) ⟨rfl,trivial⟩ ?_
 refine dN 1 rfl ?_
 refine o0 λo6=>?_
 refine dN 1 rfl ?_
 refine aP rfl rfl (aM rfl vW o6 rfl rfl) ⟨rfl,rfl,trivial⟩ ?_
 refine aD ?_
 refine ao ?_
 show JC _ _ _ _ _
 refine aJ (Z:=Value×(Nat->Value)×(Nat->Nat->Value)) (α:=(List (List (List Int)))) (λz8 x7=>[(1,.eq (.pointer (some ⟨b1,0,none⟩))),(2,.eq (.pointer (some ⟨b2,0,none⟩)))]) (λz8 x7=>[.obj b1 28 (.agg (.pair (.eq (.int .i64 a0.1)) (.pair (.eq (.int .i64 a0.2.1)) (.pair (.eq (.int .i64 a0.2.2.1)) (.pair (.eq (.int .i64 a0.2.2.2.1)) (.pair (.eq z8.1) (.eq v5))))))),.sl z8.1 33 .val (dc z8.2.1 0 x7),.sl v5 35 ah (([]:(List an))++a0.2.2.2.2.2),.obj b2 28 (.agg (.pair (.eq (.int .i64 (0:Int))) (.pair (.eq (.int .i64 (0:Int))) (.pair (.eq (.int .i64 (0:Int))) (.pair (.eq (.int .i64 (0:Int))) (.pair (.eq (.slice none 0 0)) (.eq (.slice none 0 0))))))))]++eU 22 z8.2.1 z8.2.2 0 x7) h (λK h=>?_) (λz8 x7 h=>?_)
 .
  refine am ?_;refine ab ?_;refine tY rfl ?_;refine aD ?_;refine ao ?_;show JC _ _ _ _ _;refine ak ?_;refine fL (SE.nil 33 .val) ?_;refine dE 1 rfl ?_;refine fL (ib (a:=.agg (.pair (.rep (.int .i64) a0.1) (.pair (.rep (.int .i64) a0.2.1) (.pair (.rep (.int .i64) a0.2.2.1) (.pair (.rep (.int .i64) a0.2.2.2.1) (.pair (.eq (.slice none 0 0)) (.eq v5))))))) (a':=.agg (.pair (.eq (.int .i64 a0.1)) (.pair (.eq (.int .i64 a0.2.1)) (.pair (.eq (.int .i64 a0.2.2.1)) (.pair (.eq (.int .i64 a0.2.2.2.1)) (.pair (.eq (.slice none 0 0)) (.eq v5))))))) (AE.agg (AE.pair AE.int (AE.pair AE.int (AE.pair AE.int (AE.pair AE.int AE.rfl)))))) ?_;refine aH (Z:=Value×(Nat->Value)×(Nat->Nat->Value)) (α:=(List (List (List Int)))×Int) (λz10 y9=>[(1,.eq (.pointer (some ⟨b1,0,none⟩))),(2,.eq (.pointer (some ⟨b2,0,none⟩))),(3,.rep (.slice (.slice (.slice (.int .i64)))) a0.2.2.2.2.1),(4,.eq (.int .i64 y9.2))]) (λz10 y9=>[.obj b1 28 (.agg (.pair (.eq (.int .i64 a0.1)) (.pair (.eq (.int .i64 a0.2.1)) (.pair (.eq (.int .i64 a0.2.2.1)) (.pair (.eq (.int .i64 a0.2.2.2.1)) (.pair (.eq z10.1) (.eq v5))))))),.sl z10.1 33 .val (dc z10.2.1 0 y9.1),.sl v5 35 ah (([]:(List an))++a0.2.2.2.2.2),.obj b2 28 (.agg (.pair (.eq (.int .i64 (0:Int))) (.pair (.eq (.int .i64 (0:Int))) (.pair (.eq (.int .i64 (0:Int))) (.pair (.eq (.int .i64 (0:Int))) (.pair (.eq (.slice none 0 0)) (.eq (.slice none 0 0))))))))]++eU 22 z10.2.1 z10.2.2 0 y9.1) (dQ k a0) k (.slice none 0 0,(λ_=>.slice none 0 0),λ_ _=>.slice none 0 0) (([]:(List (List (List Int)))),(0:Int)) (λ_=>rfl) h (SE.fin [0,1,2,3] ⟨rfl,rfl,rfl,rfl,trivial⟩ rfl) (λn z10 y9 h=>?_);unfold dQ at h;refine am ?_;refine am ?_;refine ab ?_;refine dh rfl rfl ?_;refine dh rfl rfl ?_;refine bh rfl (nP rfl rfl Tryz.underlying25) ⟨rfl,trivial⟩ ?_;refine bh rfl (bG rfl) ⟨rfl,rfl,trivial⟩ ?_;refine aD ?_;refine ao ?_;show JC _ _ _ _ _;refine ie rfl (λhb=>?_) (λhb=>?_)
  .replace h:=fo (vI hb) h;refine bj ?_;refine ao ?_;show JC _ _ _ _ _;refine am ?_;refine ak ?_;obtain⟨x11,ex11,h⟩:=aa h;obtain⟨r12,er12,h⟩:=aa h;obtain⟨u13,eu13,h⟩:=aa h;have cr12:=rM k x11 r12 er12;refine fL (dL (Γ':=[(1,.eq (.pointer (some ⟨b1,0,none⟩))),(2,.eq (.pointer (some ⟨b2,0,none⟩))),(3,.rep (.slice (.slice (.slice (.int .i64)))) a0.2.2.2.2.1),(4,.eq (.int .i64 y9.2))]) [.obj b1 28 (.agg (.pair (.eq (.int .i64 a0.1)) (.pair (.eq (.int .i64 a0.2.1)) (.pair (.eq (.int .i64 a0.2.2.1)) (.pair (.eq (.int .i64 a0.2.2.2.1)) (.pair (.eq z10.1) (.eq v5))))))),.sl z10.1 33 .val (dc z10.2.1 0 y9.1),.sl v5 35 ah (([]:(List an))++a0.2.2.2.2.2),.obj b2 28 (.agg (.pair (.eq (.int .i64 (0:Int))) (.pair (.eq (.int .i64 (0:Int))) (.pair (.eq (.int .i64 (0:Int))) (.pair (.eq (.int .i64 (0:Int))) (.pair (.eq (.slice none 0 0)) (.eq (.slice none 0 0))))))))] (eU 22 z10.2.1 z10.2.2 0 y9.1) [0,1,2,3] ⟨rfl,rfl,rfl,rfl,trivial⟩ rfl) ?_;refine JW (I:=Value×Value×(Nat->Value)) (Ge:=λi=>[(1,.eq (.pointer (some ⟨b1,0,none⟩))),(2,.eq (.pointer (some ⟨b2,0,none⟩))),(3,.rep (.slice (.slice (.slice (.int .i64)))) a0.2.2.2.2.1),(4,.eq (.int .i64 y9.2))]) (De:=λi=>[.obj b1 28 (.agg (.pair (.eq (.int .i64 a0.1)) (.pair (.eq (.int .i64 a0.2.1)) (.pair (.eq (.int .i64 a0.2.2.1)) (.pair (.eq (.int .i64 a0.2.2.2.1)) (.pair (.eq i.1) (.eq v5))))))),.sl i.1 33 .val (dc z10.2.1 0 y9.1++[i.2.1]),.sl v5 35 ah (([]:(List an))++a0.2.2.2.2.2),.obj b2 28 (.agg (.pair (.eq (.int .i64 (0:Int))) (.pair (.eq (.int .i64 (0:Int))) (.pair (.eq (.int .i64 (0:Int))) (.pair (.eq (.int .i64 (0:Int))) (.pair (.eq (.slice none 0 0)) (.eq (.slice none 0 0))))))))]++(j9 22 i.2 r12++eU 22 z10.2.1 z10.2.2 0 y9.1)) (L:=[true,true,true,true,true,true,true,true,true,true,true]) d4 rfl (λJ hJ hE=>?_) (by kernel_rfl) ?_
   .have s1023:∀(v14:Value) (q:Value×(Nat->Value)) (hq:be q.1=true),J 1 [true,true,true,true,true,true,true,true,true,true,false] [(1,.eq (.pointer (some ⟨b1,0,none⟩))),(2,.eq (.pointer (some ⟨b2,0,none⟩))),(3,.rep (.slice (.slice (.slice (.int .i64)))) a0.2.2.2.2.1),(4,.eq (.int .i64 y9.2)),(27,.eq v14),(28,.eq (.pointer (some ⟨b1,0+4,none⟩)))] ([.obj b1 28 (.agg (.pair (.eq (.int .i64 a0.1)) (.pair (.eq (.int .i64 a0.2.1)) (.pair (.eq (.int .i64 a0.2.2.1)) (.pair (.eq (.int .i64 a0.2.2.2.1)) (.pair (.eq z10.1) (.eq v5))))))),.sl v14 33 .val (dc z10.2.1 0 y9.1++[q.1]),.sl v5 35 ah (([]:(List an))++a0.2.2.2.2.2),.obj b2 28 (.agg (.pair (.eq (.int .i64 (0:Int))) (.pair (.eq (.int .i64 (0:Int))) (.pair (.eq (.int .i64 (0:Int))) (.pair (.eq (.int .i64 (0:Int))) (.pair (.eq (.slice none 0 0)) (.eq (.slice none 0 0))))))))]++(j9 22 q r12++eU 22 z10.2.1 z10.2.2 0 y9.1)):=λv14 q hq=>by
     refine JD.stepJ hJ [10] (by kernel_rfl) rfl ⟨⟨_,rfl,?_⟩,trivial⟩;refine dN 1 rfl ?_;refine o0 λo15=>?_;refine dN 1 rfl ?_;refine aP rfl rfl (aM rfl gG o15 rfl rfl) ⟨rfl,rfl,trivial⟩ ?_;exact JO.goJ hJ (pre:=[.obj b1 28 (.agg (.pair (.eq (.int .i64 a0.1)) (.pair (.eq (.int .i64 a0.2.1)) (.pair (.eq (.int .i64 a0.2.2.1)) (.pair (.eq (.int .i64 a0.2.2.2.1)) (.pair (.eq v14) (.eq v5))))))),.sl v14 33 .val (dc z10.2.1 0 y9.1++[q.1]),.sl v5 35 ah (([]:(List an))++a0.2.2.2.2.2),.obj b2 28 (.agg (.pair (.eq (.int .i64 (0:Int))) (.pair (.eq (.int .i64 (0:Int))) (.pair (.eq (.int .i64 (0:Int))) (.pair (.eq (.int .i64 (0:Int))) (.pair (.eq (.slice none 0 0)) (.eq (.slice none 0 0))))))))]) [0,1,2,3] (hE (v14,q)) ⟨rfl,rfl,rfl,rfl,trivial⟩
    have s511:∀(v14:Value) (q:Value×(Nat->Value)) (hq:be q.1=true),J 2 [true,true,true,true,true,true,true,true,true,false,false] [(1,.eq (.pointer (some ⟨b1,0,none⟩))),(2,.eq (.pointer (some ⟨b2,0,none⟩))),(3,.rep (.slice (.slice (.slice (.int .i64)))) a0.2.2.2.2.1),(4,.eq (.int .i64 y9.2)),(27,.eq v14)] ([.obj b1 28 (.agg (.pair (.eq (.int .i64 a0.1)) (.pair (.eq (.int .i64 a0.2.1)) (.pair (.eq (.int .i64 a0.2.2.1)) (.pair (.eq (.int .i64 a0.2.2.2.1)) (.pair (.eq z10.1) (.eq v5))))))),.sl v14 33 .val (dc z10.2.1 0 y9.1++[q.1]),.sl v5 35 ah (([]:(List an))++a0.2.2.2.2.2),.obj b2 28 (.agg (.pair (.eq (.int .i64 (0:Int))) (.pair (.eq (.int .i64 (0:Int))) (.pair (.eq (.int .i64 (0:Int))) (.pair (.eq (.int .i64 (0:Int))) (.pair (.eq (.slice none 0 0)) (.eq (.slice none 0 0))))))))]++(j9 22 q r12++eU 22 z10.2.1 z10.2.2 0 y9.1)):=λv14 q hq=>by
     refine JD.stepJ hJ [9] (by kernel_rfl) rfl ⟨⟨_,rfl,?_⟩,trivial⟩;refine bh rfl (aA rfl cS) ⟨rfl,trivial⟩ ?_;exact JO.goJ hJ (pre:=[.obj b1 28 (.agg (.pair (.eq (.int .i64 a0.1)) (.pair (.eq (.int .i64 a0.2.1)) (.pair (.eq (.int .i64 a0.2.2.1)) (.pair (.eq (.int .i64 a0.2.2.2.1)) (.pair (.eq z10.1) (.eq v5))))))),.sl v14 33 .val (dc z10.2.1 0 y9.1++[q.1]),.sl v5 35 ah (([]:(List an))++a0.2.2.2.2.2),.obj b2 28 (.agg (.pair (.eq (.int .i64 (0:Int))) (.pair (.eq (.int .i64 (0:Int))) (.pair (.eq (.int .i64 (0:Int))) (.pair (.eq (.int .i64 (0:Int))) (.pair (.eq (.slice none 0 0)) (.eq (.slice none 0 0))))))))]) [0,1,2,3] (s1023 v14 q hq) ⟨rfl,rfl,rfl,rfl,rfl,rfl,trivial⟩
    have s255:∀(q:Value×(Nat->Value)) (hq:be q.1=true),J 3 [true,true,true,true,true,true,true,true,false,false,false] [(1,.eq (.pointer (some ⟨b1,0,none⟩))),(2,.eq (.pointer (some ⟨b2,0,none⟩))),(3,.rep (.slice (.slice (.slice (.int .i64)))) a0.2.2.2.2.1),(4,.eq (.int .i64 y9.2)),(20,.eq z10.1),(26,.rep (.slice .val) [q.1])] ([.obj b1 28 (.agg (.pair (.eq (.int .i64 a0.1)) (.pair (.eq (.int .i64 a0.2.1)) (.pair (.eq (.int .i64 a0.2.2.1)) (.pair (.eq (.int .i64 a0.2.2.2.1)) (.pair (.eq z10.1) (.eq v5))))))),.sl z10.1 33 .val (dc z10.2.1 0 y9.1),.sl v5 35 ah (([]:(List an))++a0.2.2.2.2.2),.obj b2 28 (.agg (.pair (.eq (.int .i64 (0:Int))) (.pair (.eq (.int .i64 (0:Int))) (.pair (.eq (.int .i64 (0:Int))) (.pair (.eq (.int .i64 (0:Int))) (.pair (.eq (.slice none 0 0)) (.eq (.slice none 0 0))))))))]++(j9 22 q r12++eU 22 z10.2.1 z10.2.2 0 y9.1)):=λq hq=>by
     refine JD.stepJ hJ [8] (by kernel_rfl) rfl ⟨⟨_,rfl,?_⟩,trivial⟩;refine dN 1 rfl ?_;refine dZ rfl rfl rfl (cu rfl rfl uD (E5 (au eu13))) ⟨rfl,rfl,trivial⟩ λv14=>?_;exact JO.goJ hJ (pre:=[.sl v14 33 .val (dc z10.2.1 0 y9.1++[q.1]),.obj b1 28 (.agg (.pair (.eq (.int .i64 a0.1)) (.pair (.eq (.int .i64 a0.2.1)) (.pair (.eq (.int .i64 a0.2.2.1)) (.pair (.eq (.int .i64 a0.2.2.2.1)) (.pair (.eq z10.1) (.eq v5))))))),.sl v5 35 ah (([]:(List an))++a0.2.2.2.2.2),.obj b2 28 (.agg (.pair (.eq (.int .i64 (0:Int))) (.pair (.eq (.int .i64 (0:Int))) (.pair (.eq (.int .i64 (0:Int))) (.pair (.eq (.int .i64 (0:Int))) (.pair (.eq (.slice none 0 0)) (.eq (.slice none 0 0))))))))]) [1,0,2,3] (s511 v14 q hq) ⟨rfl,rfl,rfl,rfl,rfl,trivial⟩
    have s253:∀(q:Value×(Nat->Value)) (hq:be q.1=true),J 4 [true,false,true,true,true,true,true,true,false,false,false] [(1,.eq (.pointer (some ⟨b1,0,none⟩))),(2,.eq (.pointer (some ⟨b2,0,none⟩))),(3,.rep (.slice (.slice (.slice (.int .i64)))) a0.2.2.2.2.1),(4,.eq (.int .i64 y9.2)),(19,.eq (.pointer (some ⟨b1,0+4,none⟩))),(26,.rep (.slice .val) [q.1])] ([.obj b1 28 (.agg (.pair (.eq (.int .i64 a0.1)) (.pair (.eq (.int .i64 a0.2.1)) (.pair (.eq (.int .i64 a0.2.2.1)) (.pair (.eq (.int .i64 a0.2.2.2.1)) (.pair (.eq z10.1) (.eq v5))))))),.sl z10.1 33 .val (dc z10.2.1 0 y9.1),.sl v5 35 ah (([]:(List an))++a0.2.2.2.2.2),.obj b2 28 (.agg (.pair (.eq (.int .i64 (0:Int))) (.pair (.eq (.int .i64 (0:Int))) (.pair (.eq (.int .i64 (0:Int))) (.pair (.eq (.int .i64 (0:Int))) (.pair (.eq (.slice none 0 0)) (.eq (.slice none 0 0))))))))]++(j9 22 q r12++eU 22 z10.2.1 z10.2.2 0 y9.1)):=λq hq=>by
     refine JD.stepJ hJ [1] (by kernel_rfl) rfl ⟨⟨_,rfl,?_⟩,trivial⟩;refine fu rfl rfl rfl (ax rfl gG (λ_=>rfl) rfl) ⟨rfl,trivial⟩ ?_;exact JO.goJ hJ (pre:=[.obj b1 28 (.agg (.pair (.eq (.int .i64 a0.1)) (.pair (.eq (.int .i64 a0.2.1)) (.pair (.eq (.int .i64 a0.2.2.1)) (.pair (.eq (.int .i64 a0.2.2.2.1)) (.pair (.eq z10.1) (.eq v5))))))),.sl z10.1 33 .val (dc z10.2.1 0 y9.1),.sl v5 35 ah (([]:(List an))++a0.2.2.2.2.2),.obj b2 28 (.agg (.pair (.eq (.int .i64 (0:Int))) (.pair (.eq (.int .i64 (0:Int))) (.pair (.eq (.int .i64 (0:Int))) (.pair (.eq (.int .i64 (0:Int))) (.pair (.eq (.slice none 0 0)) (.eq (.slice none 0 0))))))))]) [0,1,2,3] (s255 q hq) ⟨rfl,rfl,rfl,rfl,rfl,rfl,trivial⟩
    have s127:∀(q:Value×(Nat->Value)) (hq:be q.1=true),J 4 [true,true,true,true,true,true,true,false,false,false,false] [(1,.eq (.pointer (some ⟨b1,0,none⟩))),(2,.eq (.pointer (some ⟨b2,0,none⟩))),(3,.rep (.slice (.slice (.slice (.int .i64)))) a0.2.2.2.2.1),(4,.eq (.int .i64 y9.2)),(20,.eq z10.1),(25,.eq q.1)] ([.obj b1 28 (.agg (.pair (.eq (.int .i64 a0.1)) (.pair (.eq (.int .i64 a0.2.1)) (.pair (.eq (.int .i64 a0.2.2.1)) (.pair (.eq (.int .i64 a0.2.2.2.1)) (.pair (.eq z10.1) (.eq v5))))))),.sl z10.1 33 .val (dc z10.2.1 0 y9.1),.sl v5 35 ah (([]:(List an))++a0.2.2.2.2.2),.obj b2 28 (.agg (.pair (.eq (.int .i64 (0:Int))) (.pair (.eq (.int .i64 (0:Int))) (.pair (.eq (.int .i64 (0:Int))) (.pair (.eq (.int .i64 (0:Int))) (.pair (.eq (.slice none 0 0)) (.eq (.slice none 0 0))))))))]++(j9 22 q r12++eU 22 z10.2.1 z10.2.2 0 y9.1)):=λq hq=>by
     refine JD.stepJ hJ [7] (by kernel_rfl) rfl ⟨⟨_,rfl,?_⟩,trivial⟩;refine bh rfl (bf (t:=.val) [(.tmp 25,_)] [q.1] rfl rfl uD (.cons hq (.val hq) .nil) rfl rfl) ⟨rfl,trivial⟩ ?_;exact JO.goJ hJ (pre:=[.obj b1 28 (.agg (.pair (.eq (.int .i64 a0.1)) (.pair (.eq (.int .i64 a0.2.1)) (.pair (.eq (.int .i64 a0.2.2.1)) (.pair (.eq (.int .i64 a0.2.2.2.1)) (.pair (.eq z10.1) (.eq v5))))))),.sl z10.1 33 .val (dc z10.2.1 0 y9.1),.sl v5 35 ah (([]:(List an))++a0.2.2.2.2.2),.obj b2 28 (.agg (.pair (.eq (.int .i64 (0:Int))) (.pair (.eq (.int .i64 (0:Int))) (.pair (.eq (.int .i64 (0:Int))) (.pair (.eq (.int .i64 (0:Int))) (.pair (.eq (.slice none 0 0)) (.eq (.slice none 0 0))))))))]) [0,1,2,3] (s255 q hq) ⟨rfl,rfl,rfl,rfl,rfl,rfl,trivial⟩
    have s63:J 5 [true,true,true,true,true,true,false,false,false,false,false] [(1,.eq (.pointer (some ⟨b1,0,none⟩))),(2,.eq (.pointer (some ⟨b2,0,none⟩))),(3,.rep (.slice (.slice (.slice (.int .i64)))) a0.2.2.2.2.1),(4,.eq (.int .i64 y9.2)),(20,.eq z10.1),(24,.rep (.slice (.slice (.int .i64))) x11)] ([.obj b1 28 (.agg (.pair (.eq (.int .i64 a0.1)) (.pair (.eq (.int .i64 a0.2.1)) (.pair (.eq (.int .i64 a0.2.2.1)) (.pair (.eq (.int .i64 a0.2.2.2.1)) (.pair (.eq z10.1) (.eq v5))))))),.sl z10.1 33 .val (dc z10.2.1 0 y9.1),.sl v5 35 ah (([]:(List an))++a0.2.2.2.2.2),.obj b2 28 (.agg (.pair (.eq (.int .i64 (0:Int))) (.pair (.eq (.int .i64 (0:Int))) (.pair (.eq (.int .i64 (0:Int))) (.pair (.eq (.int .i64 (0:Int))) (.pair (.eq (.slice none 0 0)) (.eq (.slice none 0 0))))))))]++eU 22 z10.2.1 z10.2.2 0 y9.1):=by
     refine JD.stepJ hJ [6] (by kernel_rfl) rfl ⟨⟨_,rfl,?_⟩,trivial⟩;refine JO.stepN rfl rfl rfl (aC [.tmp 24] rfl rfl ME rfl cr12) ⟨rfl,trivial⟩ λq=>?_;refine rY (v:=q.1) (T:=22) (t:=.val) (d:=jl q.2 0 r12) (F:=kg q.2 0 r12++([.obj b1 28 (.agg (.pair (.eq (.int .i64 a0.1)) (.pair (.eq (.int .i64 a0.2.1)) (.pair (.eq (.int .i64 a0.2.2.1)) (.pair (.eq (.int .i64 a0.2.2.2.1)) (.pair (.eq z10.1) (.eq v5))))))),.sl z10.1 33 .val (dc z10.2.1 0 y9.1),.sl v5 35 ah (([]:(List an))++a0.2.2.2.2.2),.obj b2 28 (.agg (.pair (.eq (.int .i64 (0:Int))) (.pair (.eq (.int .i64 (0:Int))) (.pair (.eq (.int .i64 (0:Int))) (.pair (.eq (.int .i64 (0:Int))) (.pair (.eq (.slice none 0 0)) (.eq (.slice none 0 0))))))))]++eU 22 z10.2.1 z10.2.2 0 y9.1)) λhq=>?_;refine dM (SE.pp (Δ':=[.obj b1 28 (.agg (.pair (.eq (.int .i64 a0.1)) (.pair (.eq (.int .i64 a0.2.1)) (.pair (.eq (.int .i64 a0.2.2.1)) (.pair (.eq (.int .i64 a0.2.2.2.1)) (.pair (.eq z10.1) (.eq v5))))))),.sl z10.1 33 .val (dc z10.2.1 0 y9.1),.sl v5 35 ah (([]:(List an))++a0.2.2.2.2.2),.obj b2 28 (.agg (.pair (.eq (.int .i64 (0:Int))) (.pair (.eq (.int .i64 (0:Int))) (.pair (.eq (.int .i64 (0:Int))) (.pair (.eq (.int .i64 (0:Int))) (.pair (.eq (.slice none 0 0)) (.eq (.slice none 0 0))))))))]++(j9 22 q r12++eU 22 z10.2.1 z10.2.2 0 y9.1)) (CV (A:=j9 22 q r12))) ?_;exact JO.goJ hJ (pre:=[.obj b1 28 (.agg (.pair (.eq (.int .i64 a0.1)) (.pair (.eq (.int .i64 a0.2.1)) (.pair (.eq (.int .i64 a0.2.2.1)) (.pair (.eq (.int .i64 a0.2.2.2.1)) (.pair (.eq z10.1) (.eq v5))))))),.sl z10.1 33 .val (dc z10.2.1 0 y9.1),.sl v5 35 ah (([]:(List an))++a0.2.2.2.2.2),.obj b2 28 (.agg (.pair (.eq (.int .i64 (0:Int))) (.pair (.eq (.int .i64 (0:Int))) (.pair (.eq (.int .i64 (0:Int))) (.pair (.eq (.int .i64 (0:Int))) (.pair (.eq (.slice none 0 0)) (.eq (.slice none 0 0))))))))]) [0,1,2,3] (s127 q hq) ⟨rfl,rfl,rfl,rfl,rfl,rfl,trivial⟩
    have s252:∀(q:Value×(Nat->Value)) (hq:be q.1=true),J 5 [false,false,true,true,true,true,true,true,false,false,false] [(1,.eq (.pointer (some ⟨b1,0,none⟩))),(2,.eq (.pointer (some ⟨b2,0,none⟩))),(3,.rep (.slice (.slice (.slice (.int .i64)))) a0.2.2.2.2.1),(4,.eq (.int .i64 y9.2)),(26,.rep (.slice .val) [q.1])] ([.obj b1 28 (.agg (.pair (.eq (.int .i64 a0.1)) (.pair (.eq (.int .i64 a0.2.1)) (.pair (.eq (.int .i64 a0.2.2.1)) (.pair (.eq (.int .i64 a0.2.2.2.1)) (.pair (.eq z10.1) (.eq v5))))))),.sl z10.1 33 .val (dc z10.2.1 0 y9.1),.sl v5 35 ah (([]:(List an))++a0.2.2.2.2.2),.obj b2 28 (.agg (.pair (.eq (.int .i64 (0:Int))) (.pair (.eq (.int .i64 (0:Int))) (.pair (.eq (.int .i64 (0:Int))) (.pair (.eq (.int .i64 (0:Int))) (.pair (.eq (.slice none 0 0)) (.eq (.slice none 0 0))))))))]++(j9 22 q r12++eU 22 z10.2.1 z10.2.2 0 y9.1)):=λq hq=>by
     refine JD.stepJ hJ [0] (by kernel_rfl) rfl ⟨⟨_,rfl,?_⟩,trivial⟩;refine bh rfl (aA rfl cS) ⟨rfl,trivial⟩ ?_;exact JO.goJ hJ (pre:=[.obj b1 28 (.agg (.pair (.eq (.int .i64 a0.1)) (.pair (.eq (.int .i64 a0.2.1)) (.pair (.eq (.int .i64 a0.2.2.1)) (.pair (.eq (.int .i64 a0.2.2.2.1)) (.pair (.eq z10.1) (.eq v5))))))),.sl z10.1 33 .val (dc z10.2.1 0 y9.1),.sl v5 35 ah (([]:(List an))++a0.2.2.2.2.2),.obj b2 28 (.agg (.pair (.eq (.int .i64 (0:Int))) (.pair (.eq (.int .i64 (0:Int))) (.pair (.eq (.int .i64 (0:Int))) (.pair (.eq (.int .i64 (0:Int))) (.pair (.eq (.slice none 0 0)) (.eq (.slice none 0 0))))))))]) [0,1,2,3] (s253 q hq) ⟨rfl,rfl,rfl,rfl,rfl,rfl,trivial⟩
    have s125:∀(q:Value×(Nat->Value)) (hq:be q.1=true),J 5 [true,false,true,true,true,true,true,false,false,false,false] [(1,.eq (.pointer (some ⟨b1,0,none⟩))),(2,.eq (.pointer (some ⟨b2,0,none⟩))),(3,.rep (.slice (.slice (.slice (.int .i64)))) a0.2.2.2.2.1),(4,.eq (.int .i64 y9.2)),(19,.eq (.pointer (some ⟨b1,0+4,none⟩))),(25,.eq q.1)] ([.obj b1 28 (.agg (.pair (.eq (.int .i64 a0.1)) (.pair (.eq (.int .i64 a0.2.1)) (.pair (.eq (.int .i64 a0.2.2.1)) (.pair (.eq (.int .i64 a0.2.2.2.1)) (.pair (.eq z10.1) (.eq v5))))))),.sl z10.1 33 .val (dc z10.2.1 0 y9.1),.sl v5 35 ah (([]:(List an))++a0.2.2.2.2.2),.obj b2 28 (.agg (.pair (.eq (.int .i64 (0:Int))) (.pair (.eq (.int .i64 (0:Int))) (.pair (.eq (.int .i64 (0:Int))) (.pair (.eq (.int .i64 (0:Int))) (.pair (.eq (.slice none 0 0)) (.eq (.slice none 0 0))))))))]++(j9 22 q r12++eU 22 z10.2.1 z10.2.2 0 y9.1)):=λq hq=>by
     refine JD.stepJ hJ [1,7] (by kernel_rfl) rfl ⟨⟨_,rfl,?_⟩,⟨_,rfl,?_⟩,trivial⟩
     .refine fu rfl rfl rfl (ax rfl gG (λ_=>rfl) rfl) ⟨rfl,trivial⟩ ?_;exact JO.goJ hJ (pre:=[.obj b1 28 (.agg (.pair (.eq (.int .i64 a0.1)) (.pair (.eq (.int .i64 a0.2.1)) (.pair (.eq (.int .i64 a0.2.2.1)) (.pair (.eq (.int .i64 a0.2.2.2.1)) (.pair (.eq z10.1) (.eq v5))))))),.sl z10.1 33 .val (dc z10.2.1 0 y9.1),.sl v5 35 ah (([]:(List an))++a0.2.2.2.2.2),.obj b2 28 (.agg (.pair (.eq (.int .i64 (0:Int))) (.pair (.eq (.int .i64 (0:Int))) (.pair (.eq (.int .i64 (0:Int))) (.pair (.eq (.int .i64 (0:Int))) (.pair (.eq (.slice none 0 0)) (.eq (.slice none 0 0))))))))]) [0,1,2,3] (s127 q hq) ⟨rfl,rfl,rfl,rfl,rfl,rfl,trivial⟩
     .refine bh rfl (bf (t:=.val) [(.tmp 25,_)] [q.1] rfl rfl uD (.cons hq (.val hq) .nil) rfl rfl) ⟨rfl,trivial⟩ ?_;exact JO.goJ hJ (pre:=[.obj b1 28 (.agg (.pair (.eq (.int .i64 a0.1)) (.pair (.eq (.int .i64 a0.2.1)) (.pair (.eq (.int .i64 a0.2.2.1)) (.pair (.eq (.int .i64 a0.2.2.2.1)) (.pair (.eq z10.1) (.eq v5))))))),.sl z10.1 33 .val (dc z10.2.1 0 y9.1),.sl v5 35 ah (([]:(List an))++a0.2.2.2.2.2),.obj b2 28 (.agg (.pair (.eq (.int .i64 (0:Int))) (.pair (.eq (.int .i64 (0:Int))) (.pair (.eq (.int .i64 (0:Int))) (.pair (.eq (.int .i64 (0:Int))) (.pair (.eq (.slice none 0 0)) (.eq (.slice none 0 0))))))))]) [0,1,2,3] (s253 q hq) ⟨rfl,rfl,rfl,rfl,rfl,rfl,trivial⟩
    have s31:J 6 [true,true,true,true,true,false,false,false,false,false,false] [(1,.eq (.pointer (some ⟨b1,0,none⟩))),(2,.eq (.pointer (some ⟨b2,0,none⟩))),(3,.rep (.slice (.slice (.slice (.int .i64)))) a0.2.2.2.2.1),(4,.eq (.int .i64 y9.2)),(20,.eq z10.1),(23,.at (.slice (.slice (.int .i64))) x11)] ([.obj b1 28 (.agg (.pair (.eq (.int .i64 a0.1)) (.pair (.eq (.int .i64 a0.2.1)) (.pair (.eq (.int .i64 a0.2.2.1)) (.pair (.eq (.int .i64 a0.2.2.2.1)) (.pair (.eq z10.1) (.eq v5))))))),.sl z10.1 33 .val (dc z10.2.1 0 y9.1),.sl v5 35 ah (([]:(List an))++a0.2.2.2.2.2),.obj b2 28 (.agg (.pair (.eq (.int .i64 (0:Int))) (.pair (.eq (.int .i64 (0:Int))) (.pair (.eq (.int .i64 (0:Int))) (.pair (.eq (.int .i64 (0:Int))) (.pair (.eq (.slice none 0 0)) (.eq (.slice none 0 0))))))))]++eU 22 z10.2.1 z10.2.2 0 y9.1):=by
     refine JD.stepJ hJ [5] (by kernel_rfl) rfl ⟨⟨_,rfl,?_⟩,trivial⟩;refine bh rfl (ay (t:=(.slice (.slice (.int .i64)))) rfl mP rfl) ⟨rfl,trivial⟩ ?_;exact JO.goJ hJ (pre:=[.obj b1 28 (.agg (.pair (.eq (.int .i64 a0.1)) (.pair (.eq (.int .i64 a0.2.1)) (.pair (.eq (.int .i64 a0.2.2.1)) (.pair (.eq (.int .i64 a0.2.2.2.1)) (.pair (.eq z10.1) (.eq v5))))))),.sl z10.1 33 .val (dc z10.2.1 0 y9.1),.sl v5 35 ah (([]:(List an))++a0.2.2.2.2.2),.obj b2 28 (.agg (.pair (.eq (.int .i64 (0:Int))) (.pair (.eq (.int .i64 (0:Int))) (.pair (.eq (.int .i64 (0:Int))) (.pair (.eq (.int .i64 (0:Int))) (.pair (.eq (.slice none 0 0)) (.eq (.slice none 0 0))))))))]) [0,1,2,3] (s63) ⟨rfl,rfl,rfl,rfl,rfl,rfl,trivial⟩
    have s61:J 6 [true,false,true,true,true,true,false,false,false,false,false] [(1,.eq (.pointer (some ⟨b1,0,none⟩))),(2,.eq (.pointer (some ⟨b2,0,none⟩))),(3,.rep (.slice (.slice (.slice (.int .i64)))) a0.2.2.2.2.1),(4,.eq (.int .i64 y9.2)),(19,.eq (.pointer (some ⟨b1,0+4,none⟩))),(24,.rep (.slice (.slice (.int .i64))) x11)] ([.obj b1 28 (.agg (.pair (.eq (.int .i64 a0.1)) (.pair (.eq (.int .i64 a0.2.1)) (.pair (.eq (.int .i64 a0.2.2.1)) (.pair (.eq (.int .i64 a0.2.2.2.1)) (.pair (.eq z10.1) (.eq v5))))))),.sl z10.1 33 .val (dc z10.2.1 0 y9.1),.sl v5 35 ah (([]:(List an))++a0.2.2.2.2.2),.obj b2 28 (.agg (.pair (.eq (.int .i64 (0:Int))) (.pair (.eq (.int .i64 (0:Int))) (.pair (.eq (.int .i64 (0:Int))) (.pair (.eq (.int .i64 (0:Int))) (.pair (.eq (.slice none 0 0)) (.eq (.slice none 0 0))))))))]++eU 22 z10.2.1 z10.2.2 0 y9.1):=by
     refine JD.stepJ hJ [1,6] (by kernel_rfl) rfl ⟨⟨_,rfl,?_⟩,⟨_,rfl,?_⟩,trivial⟩
     .refine fu rfl rfl rfl (ax rfl gG (λ_=>rfl) rfl) ⟨rfl,trivial⟩ ?_;exact JO.goJ hJ (pre:=[.obj b1 28 (.agg (.pair (.eq (.int .i64 a0.1)) (.pair (.eq (.int .i64 a0.2.1)) (.pair (.eq (.int .i64 a0.2.2.1)) (.pair (.eq (.int .i64 a0.2.2.2.1)) (.pair (.eq z10.1) (.eq v5))))))),.sl z10.1 33 .val (dc z10.2.1 0 y9.1),.sl v5 35 ah (([]:(List an))++a0.2.2.2.2.2),.obj b2 28 (.agg (.pair (.eq (.int .i64 (0:Int))) (.pair (.eq (.int .i64 (0:Int))) (.pair (.eq (.int .i64 (0:Int))) (.pair (.eq (.int .i64 (0:Int))) (.pair (.eq (.slice none 0 0)) (.eq (.slice none 0 0))))))))]) [0,1,2,3] (s63) ⟨rfl,rfl,rfl,rfl,rfl,rfl,trivial⟩
     .refine JO.stepN rfl rfl rfl (aC [.tmp 24] rfl rfl ME rfl cr12) ⟨rfl,trivial⟩ λq=>?_;refine rY (v:=q.1) (T:=22) (t:=.val) (d:=jl q.2 0 r12) (F:=kg q.2 0 r12++([.obj b1 28 (.agg (.pair (.eq (.int .i64 a0.1)) (.pair (.eq (.int .i64 a0.2.1)) (.pair (.eq (.int .i64 a0.2.2.1)) (.pair (.eq (.int .i64 a0.2.2.2.1)) (.pair (.eq z10.1) (.eq v5))))))),.sl z10.1 33 .val (dc z10.2.1 0 y9.1),.sl v5 35 ah (([]:(List an))++a0.2.2.2.2.2),.obj b2 28 (.agg (.pair (.eq (.int .i64 (0:Int))) (.pair (.eq (.int .i64 (0:Int))) (.pair (.eq (.int .i64 (0:Int))) (.pair (.eq (.int .i64 (0:Int))) (.pair (.eq (.slice none 0 0)) (.eq (.slice none 0 0))))))))]++eU 22 z10.2.1 z10.2.2 0 y9.1)) λhq=>?_;refine dM (SE.pp (Δ':=[.obj b1 28 (.agg (.pair (.eq (.int .i64 a0.1)) (.pair (.eq (.int .i64 a0.2.1)) (.pair (.eq (.int .i64 a0.2.2.1)) (.pair (.eq (.int .i64 a0.2.2.2.1)) (.pair (.eq z10.1) (.eq v5))))))),.sl z10.1 33 .val (dc z10.2.1 0 y9.1),.sl v5 35 ah (([]:(List an))++a0.2.2.2.2.2),.obj b2 28 (.agg (.pair (.eq (.int .i64 (0:Int))) (.pair (.eq (.int .i64 (0:Int))) (.pair (.eq (.int .i64 (0:Int))) (.pair (.eq (.int .i64 (0:Int))) (.pair (.eq (.slice none 0 0)) (.eq (.slice none 0 0))))))))]++(j9 22 q r12++eU 22 z10.2.1 z10.2.2 0 y9.1)) (CV (A:=j9 22 q r12))) ?_;exact JO.goJ hJ (pre:=[.obj b1 28 (.agg (.pair (.eq (.int .i64 a0.1)) (.pair (.eq (.int .i64 a0.2.1)) (.pair (.eq (.int .i64 a0.2.2.1)) (.pair (.eq (.int .i64 a0.2.2.2.1)) (.pair (.eq z10.1) (.eq v5))))))),.sl z10.1 33 .val (dc z10.2.1 0 y9.1),.sl v5 35 ah (([]:(List an))++a0.2.2.2.2.2),.obj b2 28 (.agg (.pair (.eq (.int .i64 (0:Int))) (.pair (.eq (.int .i64 (0:Int))) (.pair (.eq (.int .i64 (0:Int))) (.pair (.eq (.int .i64 (0:Int))) (.pair (.eq (.slice none 0 0)) (.eq (.slice none 0 0))))))))]) [0,1,2,3] (s125 q hq) ⟨rfl,rfl,rfl,rfl,rfl,rfl,trivial⟩
    have s124:∀(q:Value×(Nat->Value)) (hq:be q.1=true),J 6 [false,false,true,true,true,true,true,false,false,false,false] [(1,.eq (.pointer (some ⟨b1,0,none⟩))),(2,.eq (.pointer (some ⟨b2,0,none⟩))),(3,.rep (.slice (.slice (.slice (.int .i64)))) a0.2.2.2.2.1),(4,.eq (.int .i64 y9.2)),(25,.eq q.1)] ([.obj b1 28 (.agg (.pair (.eq (.int .i64 a0.1)) (.pair (.eq (.int .i64 a0.2.1)) (.pair (.eq (.int .i64 a0.2.2.1)) (.pair (.eq (.int .i64 a0.2.2.2.1)) (.pair (.eq z10.1) (.eq v5))))))),.sl z10.1 33 .val (dc z10.2.1 0 y9.1),.sl v5 35 ah (([]:(List an))++a0.2.2.2.2.2),.obj b2 28 (.agg (.pair (.eq (.int .i64 (0:Int))) (.pair (.eq (.int .i64 (0:Int))) (.pair (.eq (.int .i64 (0:Int))) (.pair (.eq (.int .i64 (0:Int))) (.pair (.eq (.slice none 0 0)) (.eq (.slice none 0 0))))))))]++(j9 22 q r12++eU 22 z10.2.1 z10.2.2 0 y9.1)):=λq hq=>by
     refine JD.stepJ hJ [0,7] (by kernel_rfl) rfl ⟨⟨_,rfl,?_⟩,⟨_,rfl,?_⟩,trivial⟩
     .refine bh rfl (aA rfl cS) ⟨rfl,trivial⟩ ?_;exact JO.goJ hJ (pre:=[.obj b1 28 (.agg (.pair (.eq (.int .i64 a0.1)) (.pair (.eq (.int .i64 a0.2.1)) (.pair (.eq (.int .i64 a0.2.2.1)) (.pair (.eq (.int .i64 a0.2.2.2.1)) (.pair (.eq z10.1) (.eq v5))))))),.sl z10.1 33 .val (dc z10.2.1 0 y9.1),.sl v5 35 ah (([]:(List an))++a0.2.2.2.2.2),.obj b2 28 (.agg (.pair (.eq (.int .i64 (0:Int))) (.pair (.eq (.int .i64 (0:Int))) (.pair (.eq (.int .i64 (0:Int))) (.pair (.eq (.int .i64 (0:Int))) (.pair (.eq (.slice none 0 0)) (.eq (.slice none 0 0))))))))]) [0,1,2,3] (s125 q hq) ⟨rfl,rfl,rfl,rfl,rfl,rfl,trivial⟩
     .refine bh rfl (bf (t:=.val) [(.tmp 25,_)] [q.1] rfl rfl uD (.cons hq (.val hq) .nil) rfl rfl) ⟨rfl,trivial⟩ ?_;exact JO.goJ hJ (pre:=[.obj b1 28 (.agg (.pair (.eq (.int .i64 a0.1)) (.pair (.eq (.int .i64 a0.2.1)) (.pair (.eq (.int .i64 a0.2.2.1)) (.pair (.eq (.int .i64 a0.2.2.2.1)) (.pair (.eq z10.1) (.eq v5))))))),.sl z10.1 33 .val (dc z10.2.1 0 y9.1),.sl v5 35 ah (([]:(List an))++a0.2.2.2.2.2),.obj b2 28 (.agg (.pair (.eq (.int .i64 (0:Int))) (.pair (.eq (.int .i64 (0:Int))) (.pair (.eq (.int .i64 (0:Int))) (.pair (.eq (.int .i64 (0:Int))) (.pair (.eq (.slice none 0 0)) (.eq (.slice none 0 0))))))))]) [0,1,2,3] (s252 q hq) ⟨rfl,rfl,rfl,rfl,rfl,trivial⟩
    have s15:J 7 [true,true,true,true,false,false,false,false,false,false,false] [(1,.eq (.pointer (some ⟨b1,0,none⟩))),(2,.eq (.pointer (some ⟨b2,0,none⟩))),(3,.rep (.slice (.slice (.slice (.int .i64)))) a0.2.2.2.2.1),(4,.eq (.int .i64 y9.2)),(20,.eq z10.1),(21,.rep (.slice (.slice (.slice (.int .i64)))) a0.2.2.2.2.1),(22,.eq (.int .i64 y9.2))] ([.obj b1 28 (.agg (.pair (.eq (.int .i64 a0.1)) (.pair (.eq (.int .i64 a0.2.1)) (.pair (.eq (.int .i64 a0.2.2.1)) (.pair (.eq (.int .i64 a0.2.2.2.1)) (.pair (.eq z10.1) (.eq v5))))))),.sl z10.1 33 .val (dc z10.2.1 0 y9.1),.sl v5 35 ah (([]:(List an))++a0.2.2.2.2.2),.obj b2 28 (.agg (.pair (.eq (.int .i64 (0:Int))) (.pair (.eq (.int .i64 (0:Int))) (.pair (.eq (.int .i64 (0:Int))) (.pair (.eq (.int .i64 (0:Int))) (.pair (.eq (.slice none 0 0)) (.eq (.slice none 0 0))))))))]++eU 22 z10.2.1 z10.2.2 0 y9.1):=by
     refine JD.stepJ hJ [4] (by kernel_rfl) rfl ⟨⟨_,rfl,?_⟩,trivial⟩;refine bh rfl (aU (t:=(.slice (.slice (.int .i64)))) rfl Tryz.underlying25 mP ex11) ⟨rfl,rfl,trivial⟩ ?_;exact JO.goJ hJ (pre:=[.obj b1 28 (.agg (.pair (.eq (.int .i64 a0.1)) (.pair (.eq (.int .i64 a0.2.1)) (.pair (.eq (.int .i64 a0.2.2.1)) (.pair (.eq (.int .i64 a0.2.2.2.1)) (.pair (.eq z10.1) (.eq v5))))))),.sl z10.1 33 .val (dc z10.2.1 0 y9.1),.sl v5 35 ah (([]:(List an))++a0.2.2.2.2.2),.obj b2 28 (.agg (.pair (.eq (.int .i64 (0:Int))) (.pair (.eq (.int .i64 (0:Int))) (.pair (.eq (.int .i64 (0:Int))) (.pair (.eq (.int .i64 (0:Int))) (.pair (.eq (.slice none 0 0)) (.eq (.slice none 0 0))))))))]) [0,1,2,3] (s31) ⟨rfl,rfl,rfl,rfl,rfl,rfl,trivial⟩
    have s29:J 7 [true,false,true,true,true,false,false,false,false,false,false] [(1,.eq (.pointer (some ⟨b1,0,none⟩))),(2,.eq (.pointer (some ⟨b2,0,none⟩))),(3,.rep (.slice (.slice (.slice (.int .i64)))) a0.2.2.2.2.1),(4,.eq (.int .i64 y9.2)),(19,.eq (.pointer (some ⟨b1,0+4,none⟩))),(23,.at (.slice (.slice (.int .i64))) x11)] ([.obj b1 28 (.agg (.pair (.eq (.int .i64 a0.1)) (.pair (.eq (.int .i64 a0.2.1)) (.pair (.eq (.int .i64 a0.2.2.1)) (.pair (.eq (.int .i64 a0.2.2.2.1)) (.pair (.eq z10.1) (.eq v5))))))),.sl z10.1 33 .val (dc z10.2.1 0 y9.1),.sl v5 35 ah (([]:(List an))++a0.2.2.2.2.2),.obj b2 28 (.agg (.pair (.eq (.int .i64 (0:Int))) (.pair (.eq (.int .i64 (0:Int))) (.pair (.eq (.int .i64 (0:Int))) (.pair (.eq (.int .i64 (0:Int))) (.pair (.eq (.slice none 0 0)) (.eq (.slice none 0 0))))))))]++eU 22 z10.2.1 z10.2.2 0 y9.1):=by
     refine JD.stepJ hJ [1,5] (by kernel_rfl) rfl ⟨⟨_,rfl,?_⟩,⟨_,rfl,?_⟩,trivial⟩
     .refine fu rfl rfl rfl (ax rfl gG (λ_=>rfl) rfl) ⟨rfl,trivial⟩ ?_;exact JO.goJ hJ (pre:=[.obj b1 28 (.agg (.pair (.eq (.int .i64 a0.1)) (.pair (.eq (.int .i64 a0.2.1)) (.pair (.eq (.int .i64 a0.2.2.1)) (.pair (.eq (.int .i64 a0.2.2.2.1)) (.pair (.eq z10.1) (.eq v5))))))),.sl z10.1 33 .val (dc z10.2.1 0 y9.1),.sl v5 35 ah (([]:(List an))++a0.2.2.2.2.2),.obj b2 28 (.agg (.pair (.eq (.int .i64 (0:Int))) (.pair (.eq (.int .i64 (0:Int))) (.pair (.eq (.int .i64 (0:Int))) (.pair (.eq (.int .i64 (0:Int))) (.pair (.eq (.slice none 0 0)) (.eq (.slice none 0 0))))))))]) [0,1,2,3] (s31) ⟨rfl,rfl,rfl,rfl,rfl,rfl,trivial⟩
     .refine bh rfl (ay (t:=(.slice (.slice (.int .i64)))) rfl mP rfl) ⟨rfl,trivial⟩ ?_;exact JO.goJ hJ (pre:=[.obj b1 28 (.agg (.pair (.eq (.int .i64 a0.1)) (.pair (.eq (.int .i64 a0.2.1)) (.pair (.eq (.int .i64 a0.2.2.1)) (.pair (.eq (.int .i64 a0.2.2.2.1)) (.pair (.eq z10.1) (.eq v5))))))),.sl z10.1 33 .val (dc z10.2.1 0 y9.1),.sl v5 35 ah (([]:(List an))++a0.2.2.2.2.2),.obj b2 28 (.agg (.pair (.eq (.int .i64 (0:Int))) (.pair (.eq (.int .i64 (0:Int))) (.pair (.eq (.int .i64 (0:Int))) (.pair (.eq (.int .i64 (0:Int))) (.pair (.eq (.slice none 0 0)) (.eq (.slice none 0 0))))))))]) [0,1,2,3] (s61) ⟨rfl,rfl,rfl,rfl,rfl,rfl,trivial⟩
    have s60:J 7 [false,false,true,true,true,true,false,false,false,false,false] [(1,.eq (.pointer (some ⟨b1,0,none⟩))),(2,.eq (.pointer (some ⟨b2,0,none⟩))),(3,.rep (.slice (.slice (.slice (.int .i64)))) a0.2.2.2.2.1),(4,.eq (.int .i64 y9.2)),(24,.rep (.slice (.slice (.int .i64))) x11)] ([.obj b1 28 (.agg (.pair (.eq (.int .i64 a0.1)) (.pair (.eq (.int .i64 a0.2.1)) (.pair (.eq (.int .i64 a0.2.2.1)) (.pair (.eq (.int .i64 a0.2.2.2.1)) (.pair (.eq z10.1) (.eq v5))))))),.sl z10.1 33 .val (dc z10.2.1 0 y9.1),.sl v5 35 ah (([]:(List an))++a0.2.2.2.2.2),.obj b2 28 (.agg (.pair (.eq (.int .i64 (0:Int))) (.pair (.eq (.int .i64 (0:Int))) (.pair (.eq (.int .i64 (0:Int))) (.pair (.eq (.int .i64 (0:Int))) (.pair (.eq (.slice none 0 0)) (.eq (.slice none 0 0))))))))]++eU 22 z10.2.1 z10.2.2 0 y9.1):=by
     refine JD.stepJ hJ [0,6] (by kernel_rfl) rfl ⟨⟨_,rfl,?_⟩,⟨_,rfl,?_⟩,trivial⟩
     .refine bh rfl (aA rfl cS) ⟨rfl,trivial⟩ ?_;exact JO.goJ hJ (pre:=[.obj b1 28 (.agg (.pair (.eq (.int .i64 a0.1)) (.pair (.eq (.int .i64 a0.2.1)) (.pair (.eq (.int .i64 a0.2.2.1)) (.pair (.eq (.int .i64 a0.2.2.2.1)) (.pair (.eq z10.1) (.eq v5))))))),.sl z10.1 33 .val (dc z10.2.1 0 y9.1),.sl v5 35 ah (([]:(List an))++a0.2.2.2.2.2),.obj b2 28 (.agg (.pair (.eq (.int .i64 (0:Int))) (.pair (.eq (.int .i64 (0:Int))) (.pair (.eq (.int .i64 (0:Int))) (.pair (.eq (.int .i64 (0:Int))) (.pair (.eq (.slice none 0 0)) (.eq (.slice none 0 0))))))))]) [0,1,2,3] (s61) ⟨rfl,rfl,rfl,rfl,rfl,rfl,trivial⟩
     .refine JO.stepN rfl rfl rfl (aC [.tmp 24] rfl rfl ME rfl cr12) ⟨rfl,trivial⟩ λq=>?_;refine rY (v:=q.1) (T:=22) (t:=.val) (d:=jl q.2 0 r12) (F:=kg q.2 0 r12++([.obj b1 28 (.agg (.pair (.eq (.int .i64 a0.1)) (.pair (.eq (.int .i64 a0.2.1)) (.pair (.eq (.int .i64 a0.2.2.1)) (.pair (.eq (.int .i64 a0.2.2.2.1)) (.pair (.eq z10.1) (.eq v5))))))),.sl z10.1 33 .val (dc z10.2.1 0 y9.1),.sl v5 35 ah (([]:(List an))++a0.2.2.2.2.2),.obj b2 28 (.agg (.pair (.eq (.int .i64 (0:Int))) (.pair (.eq (.int .i64 (0:Int))) (.pair (.eq (.int .i64 (0:Int))) (.pair (.eq (.int .i64 (0:Int))) (.pair (.eq (.slice none 0 0)) (.eq (.slice none 0 0))))))))]++eU 22 z10.2.1 z10.2.2 0 y9.1)) λhq=>?_;refine dM (SE.pp (Δ':=[.obj b1 28 (.agg (.pair (.eq (.int .i64 a0.1)) (.pair (.eq (.int .i64 a0.2.1)) (.pair (.eq (.int .i64 a0.2.2.1)) (.pair (.eq (.int .i64 a0.2.2.2.1)) (.pair (.eq z10.1) (.eq v5))))))),.sl z10.1 33 .val (dc z10.2.1 0 y9.1),.sl v5 35 ah (([]:(List an))++a0.2.2.2.2.2),.obj b2 28 (.agg (.pair (.eq (.int .i64 (0:Int))) (.pair (.eq (.int .i64 (0:Int))) (.pair (.eq (.int .i64 (0:Int))) (.pair (.eq (.int .i64 (0:Int))) (.pair (.eq (.slice none 0 0)) (.eq (.slice none 0 0))))))))]++(j9 22 q r12++eU 22 z10.2.1 z10.2.2 0 y9.1)) (CV (A:=j9 22 q r12))) ?_;exact JO.goJ hJ (pre:=[.obj b1 28 (.agg (.pair (.eq (.int .i64 a0.1)) (.pair (.eq (.int .i64 a0.2.1)) (.pair (.eq (.int .i64 a0.2.2.1)) (.pair (.eq (.int .i64 a0.2.2.2.1)) (.pair (.eq z10.1) (.eq v5))))))),.sl z10.1 33 .val (dc z10.2.1 0 y9.1),.sl v5 35 ah (([]:(List an))++a0.2.2.2.2.2),.obj b2 28 (.agg (.pair (.eq (.int .i64 (0:Int))) (.pair (.eq (.int .i64 (0:Int))) (.pair (.eq (.int .i64 (0:Int))) (.pair (.eq (.int .i64 (0:Int))) (.pair (.eq (.slice none 0 0)) (.eq (.slice none 0 0))))))))]) [0,1,2,3] (s124 q hq) ⟨rfl,rfl,rfl,rfl,rfl,trivial⟩
    have s7:J 8 [true,true,true,false,false,false,false,false,false,false,false] [(1,.eq (.pointer (some ⟨b1,0,none⟩))),(2,.eq (.pointer (some ⟨b2,0,none⟩))),(3,.rep (.slice (.slice (.slice (.int .i64)))) a0.2.2.2.2.1),(4,.eq (.int .i64 y9.2)),(20,.eq z10.1),(21,.rep (.slice (.slice (.slice (.int .i64)))) a0.2.2.2.2.1)] ([.obj b1 28 (.agg (.pair (.eq (.int .i64 a0.1)) (.pair (.eq (.int .i64 a0.2.1)) (.pair (.eq (.int .i64 a0.2.2.1)) (.pair (.eq (.int .i64 a0.2.2.2.1)) (.pair (.eq z10.1) (.eq v5))))))),.sl z10.1 33 .val (dc z10.2.1 0 y9.1),.sl v5 35 ah (([]:(List an))++a0.2.2.2.2.2),.obj b2 28 (.agg (.pair (.eq (.int .i64 (0:Int))) (.pair (.eq (.int .i64 (0:Int))) (.pair (.eq (.int .i64 (0:Int))) (.pair (.eq (.int .i64 (0:Int))) (.pair (.eq (.slice none 0 0)) (.eq (.slice none 0 0))))))))]++eU 22 z10.2.1 z10.2.2 0 y9.1):=by
     refine JD.stepJ hJ [3] (by kernel_rfl) rfl ⟨⟨_,rfl,?_⟩,trivial⟩;refine dh rfl rfl ?_;exact JO.goJ hJ (pre:=[.obj b1 28 (.agg (.pair (.eq (.int .i64 a0.1)) (.pair (.eq (.int .i64 a0.2.1)) (.pair (.eq (.int .i64 a0.2.2.1)) (.pair (.eq (.int .i64 a0.2.2.2.1)) (.pair (.eq z10.1) (.eq v5))))))),.sl z10.1 33 .val (dc z10.2.1 0 y9.1),.sl v5 35 ah (([]:(List an))++a0.2.2.2.2.2),.obj b2 28 (.agg (.pair (.eq (.int .i64 (0:Int))) (.pair (.eq (.int .i64 (0:Int))) (.pair (.eq (.int .i64 (0:Int))) (.pair (.eq (.int .i64 (0:Int))) (.pair (.eq (.slice none 0 0)) (.eq (.slice none 0 0))))))))]) [0,1,2,3] (s15) ⟨rfl,rfl,rfl,rfl,rfl,rfl,rfl,trivial⟩
    have s11:J 8 [true,true,false,true,false,false,false,false,false,false,false] [(1,.eq (.pointer (some ⟨b1,0,none⟩))),(2,.eq (.pointer (some ⟨b2,0,none⟩))),(3,.rep (.slice (.slice (.slice (.int .i64)))) a0.2.2.2.2.1),(4,.eq (.int .i64 y9.2)),(20,.eq z10.1),(22,.eq (.int .i64 y9.2))] ([.obj b1 28 (.agg (.pair (.eq (.int .i64 a0.1)) (.pair (.eq (.int .i64 a0.2.1)) (.pair (.eq (.int .i64 a0.2.2.1)) (.pair (.eq (.int .i64 a0.2.2.2.1)) (.pair (.eq z10.1) (.eq v5))))))),.sl z10.1 33 .val (dc z10.2.1 0 y9.1),.sl v5 35 ah (([]:(List an))++a0.2.2.2.2.2),.obj b2 28 (.agg (.pair (.eq (.int .i64 (0:Int))) (.pair (.eq (.int .i64 (0:Int))) (.pair (.eq (.int .i64 (0:Int))) (.pair (.eq (.int .i64 (0:Int))) (.pair (.eq (.slice none 0 0)) (.eq (.slice none 0 0))))))))]++eU 22 z10.2.1 z10.2.2 0 y9.1):=by
     refine JD.stepJ hJ [2] (by kernel_rfl) rfl ⟨⟨_,rfl,?_⟩,trivial⟩;refine dh rfl rfl ?_;exact JO.goJ hJ (pre:=[.obj b1 28 (.agg (.pair (.eq (.int .i64 a0.1)) (.pair (.eq (.int .i64 a0.2.1)) (.pair (.eq (.int .i64 a0.2.2.1)) (.pair (.eq (.int .i64 a0.2.2.2.1)) (.pair (.eq z10.1) (.eq v5))))))),.sl z10.1 33 .val (dc z10.2.1 0 y9.1),.sl v5 35 ah (([]:(List an))++a0.2.2.2.2.2),.obj b2 28 (.agg (.pair (.eq (.int .i64 (0:Int))) (.pair (.eq (.int .i64 (0:Int))) (.pair (.eq (.int .i64 (0:Int))) (.pair (.eq (.int .i64 (0:Int))) (.pair (.eq (.slice none 0 0)) (.eq (.slice none 0 0))))))))]) [0,1,2,3] (s15) ⟨rfl,rfl,rfl,rfl,rfl,rfl,rfl,trivial⟩
    have s13:J 8 [true,false,true,true,false,false,false,false,false,false,false] [(1,.eq (.pointer (some ⟨b1,0,none⟩))),(2,.eq (.pointer (some ⟨b2,0,none⟩))),(3,.rep (.slice (.slice (.slice (.int .i64)))) a0.2.2.2.2.1),(4,.eq (.int .i64 y9.2)),(19,.eq (.pointer (some ⟨b1,0+4,none⟩))),(21,.rep (.slice (.slice (.slice (.int .i64)))) a0.2.2.2.2.1),(22,.eq (.int .i64 y9.2))] ([.obj b1 28 (.agg (.pair (.eq (.int .i64 a0.1)) (.pair (.eq (.int .i64 a0.2.1)) (.pair (.eq (.int .i64 a0.2.2.1)) (.pair (.eq (.int .i64 a0.2.2.2.1)) (.pair (.eq z10.1) (.eq v5))))))),.sl z10.1 33 .val (dc z10.2.1 0 y9.1),.sl v5 35 ah (([]:(List an))++a0.2.2.2.2.2),.obj b2 28 (.agg (.pair (.eq (.int .i64 (0:Int))) (.pair (.eq (.int .i64 (0:Int))) (.pair (.eq (.int .i64 (0:Int))) (.pair (.eq (.int .i64 (0:Int))) (.pair (.eq (.slice none 0 0)) (.eq (.slice none 0 0))))))))]++eU 22 z10.2.1 z10.2.2 0 y9.1):=by
     refine JD.stepJ hJ [1,4] (by kernel_rfl) rfl ⟨⟨_,rfl,?_⟩,⟨_,rfl,?_⟩,trivial⟩
     .refine fu rfl rfl rfl (ax rfl gG (λ_=>rfl) rfl) ⟨rfl,trivial⟩ ?_;exact JO.goJ hJ (pre:=[.obj b1 28 (.agg (.pair (.eq (.int .i64 a0.1)) (.pair (.eq (.int .i64 a0.2.1)) (.pair (.eq (.int .i64 a0.2.2.1)) (.pair (.eq (.int .i64 a0.2.2.2.1)) (.pair (.eq z10.1) (.eq v5))))))),.sl z10.1 33 .val (dc z10.2.1 0 y9.1),.sl v5 35 ah (([]:(List an))++a0.2.2.2.2.2),.obj b2 28 (.agg (.pair (.eq (.int .i64 (0:Int))) (.pair (.eq (.int .i64 (0:Int))) (.pair (.eq (.int .i64 (0:Int))) (.pair (.eq (.int .i64 (0:Int))) (.pair (.eq (.slice none 0 0)) (.eq (.slice none 0 0))))))))]) [0,1,2,3] (s15) ⟨rfl,rfl,rfl,rfl,rfl,rfl,rfl,trivial⟩
     .refine bh rfl (aU (t:=(.slice (.slice (.int .i64)))) rfl Tryz.underlying25 mP ex11) ⟨rfl,rfl,trivial⟩ ?_;exact JO.goJ hJ (pre:=[.obj b1 28 (.agg (.pair (.eq (.int .i64 a0.1)) (.pair (.eq (.int .i64 a0.2.1)) (.pair (.eq (.int .i64 a0.2.2.1)) (.pair (.eq (.int .i64 a0.2.2.2.1)) (.pair (.eq z10.1) (.eq v5))))))),.sl z10.1 33 .val (dc z10.2.1 0 y9.1),.sl v5 35 ah (([]:(List an))++a0.2.2.2.2.2),.obj b2 28 (.agg (.pair (.eq (.int .i64 (0:Int))) (.pair (.eq (.int .i64 (0:Int))) (.pair (.eq (.int .i64 (0:Int))) (.pair (.eq (.int .i64 (0:Int))) (.pair (.eq (.slice none 0 0)) (.eq (.slice none 0 0))))))))]) [0,1,2,3] (s29) ⟨rfl,rfl,rfl,rfl,rfl,rfl,trivial⟩
    have s28:J 8 [false,false,true,true,true,false,false,false,false,false,false] [(1,.eq (.pointer (some ⟨b1,0,none⟩))),(2,.eq (.pointer (some ⟨b2,0,none⟩))),(3,.rep (.slice (.slice (.slice (.int .i64)))) a0.2.2.2.2.1),(4,.eq (.int .i64 y9.2)),(23,.at (.slice (.slice (.int .i64))) x11)] ([.obj b1 28 (.agg (.pair (.eq (.int .i64 a0.1)) (.pair (.eq (.int .i64 a0.2.1)) (.pair (.eq (.int .i64 a0.2.2.1)) (.pair (.eq (.int .i64 a0.2.2.2.1)) (.pair (.eq z10.1) (.eq v5))))))),.sl z10.1 33 .val (dc z10.2.1 0 y9.1),.sl v5 35 ah (([]:(List an))++a0.2.2.2.2.2),.obj b2 28 (.agg (.pair (.eq (.int .i64 (0:Int))) (.pair (.eq (.int .i64 (0:Int))) (.pair (.eq (.int .i64 (0:Int))) (.pair (.eq (.int .i64 (0:Int))) (.pair (.eq (.slice none 0 0)) (.eq (.slice none 0 0))))))))]++eU 22 z10.2.1 z10.2.2 0 y9.1):=by
     refine JD.stepJ hJ [0,5] (by kernel_rfl) rfl ⟨⟨_,rfl,?_⟩,⟨_,rfl,?_⟩,trivial⟩
     .refine bh rfl (aA rfl cS) ⟨rfl,trivial⟩ ?_;exact JO.goJ hJ (pre:=[.obj b1 28 (.agg (.pair (.eq (.int .i64 a0.1)) (.pair (.eq (.int .i64 a0.2.1)) (.pair (.eq (.int .i64 a0.2.2.1)) (.pair (.eq (.int .i64 a0.2.2.2.1)) (.pair (.eq z10.1) (.eq v5))))))),.sl z10.1 33 .val (dc z10.2.1 0 y9.1),.sl v5 35 ah (([]:(List an))++a0.2.2.2.2.2),.obj b2 28 (.agg (.pair (.eq (.int .i64 (0:Int))) (.pair (.eq (.int .i64 (0:Int))) (.pair (.eq (.int .i64 (0:Int))) (.pair (.eq (.int .i64 (0:Int))) (.pair (.eq (.slice none 0 0)) (.eq (.slice none 0 0))))))))]) [0,1,2,3] (s29) ⟨rfl,rfl,rfl,rfl,rfl,rfl,trivial⟩
     .refine bh rfl (ay (t:=(.slice (.slice (.int .i64)))) rfl mP rfl) ⟨rfl,trivial⟩ ?_;exact JO.goJ hJ (pre:=[.obj b1 28 (.agg (.pair (.eq (.int .i64 a0.1)) (.pair (.eq (.int .i64 a0.2.1)) (.pair (.eq (.int .i64 a0.2.2.1)) (.pair (.eq (.int .i64 a0.2.2.2.1)) (.pair (.eq z10.1) (.eq v5))))))),.sl z10.1 33 .val (dc z10.2.1 0 y9.1),.sl v5 35 ah (([]:(List an))++a0.2.2.2.2.2),.obj b2 28 (.agg (.pair (.eq (.int .i64 (0:Int))) (.pair (.eq (.int .i64 (0:Int))) (.pair (.eq (.int .i64 (0:Int))) (.pair (.eq (.int .i64 (0:Int))) (.pair (.eq (.slice none 0 0)) (.eq (.slice none 0 0))))))))]) [0,1,2,3] (s60) ⟨rfl,rfl,rfl,rfl,rfl,trivial⟩
    have s3:J 9 [true,true,false,false,false,false,false,false,false,false,false] [(1,.eq (.pointer (some ⟨b1,0,none⟩))),(2,.eq (.pointer (some ⟨b2,0,none⟩))),(3,.rep (.slice (.slice (.slice (.int .i64)))) a0.2.2.2.2.1),(4,.eq (.int .i64 y9.2)),(20,.eq z10.1)] ([.obj b1 28 (.agg (.pair (.eq (.int .i64 a0.1)) (.pair (.eq (.int .i64 a0.2.1)) (.pair (.eq (.int .i64 a0.2.2.1)) (.pair (.eq (.int .i64 a0.2.2.2.1)) (.pair (.eq z10.1) (.eq v5))))))),.sl z10.1 33 .val (dc z10.2.1 0 y9.1),.sl v5 35 ah (([]:(List an))++a0.2.2.2.2.2),.obj b2 28 (.agg (.pair (.eq (.int .i64 (0:Int))) (.pair (.eq (.int .i64 (0:Int))) (.pair (.eq (.int .i64 (0:Int))) (.pair (.eq (.int .i64 (0:Int))) (.pair (.eq (.slice none 0 0)) (.eq (.slice none 0 0))))))))]++eU 22 z10.2.1 z10.2.2 0 y9.1):=by
     refine JD.stepJ hJ [2,3] (by kernel_rfl) rfl ⟨⟨_,rfl,?_⟩,⟨_,rfl,?_⟩,trivial⟩
     .refine dh rfl rfl ?_;exact JO.goJ hJ (pre:=[.obj b1 28 (.agg (.pair (.eq (.int .i64 a0.1)) (.pair (.eq (.int .i64 a0.2.1)) (.pair (.eq (.int .i64 a0.2.2.1)) (.pair (.eq (.int .i64 a0.2.2.2.1)) (.pair (.eq z10.1) (.eq v5))))))),.sl z10.1 33 .val (dc z10.2.1 0 y9.1),.sl v5 35 ah (([]:(List an))++a0.2.2.2.2.2),.obj b2 28 (.agg (.pair (.eq (.int .i64 (0:Int))) (.pair (.eq (.int .i64 (0:Int))) (.pair (.eq (.int .i64 (0:Int))) (.pair (.eq (.int .i64 (0:Int))) (.pair (.eq (.slice none 0 0)) (.eq (.slice none 0 0))))))))]) [0,1,2,3] (s7) ⟨rfl,rfl,rfl,rfl,rfl,rfl,trivial⟩
     .refine dh rfl rfl ?_;exact JO.goJ hJ (pre:=[.obj b1 28 (.agg (.pair (.eq (.int .i64 a0.1)) (.pair (.eq (.int .i64 a0.2.1)) (.pair (.eq (.int .i64 a0.2.2.1)) (.pair (.eq (.int .i64 a0.2.2.2.1)) (.pair (.eq z10.1) (.eq v5))))))),.sl z10.1 33 .val (dc z10.2.1 0 y9.1),.sl v5 35 ah (([]:(List an))++a0.2.2.2.2.2),.obj b2 28 (.agg (.pair (.eq (.int .i64 (0:Int))) (.pair (.eq (.int .i64 (0:Int))) (.pair (.eq (.int .i64 (0:Int))) (.pair (.eq (.int .i64 (0:Int))) (.pair (.eq (.slice none 0 0)) (.eq (.slice none 0 0))))))))]) [0,1,2,3] (s11) ⟨rfl,rfl,rfl,rfl,rfl,rfl,trivial⟩
    have s5:J 9 [true,false,true,false,false,false,false,false,false,false,false] [(1,.eq (.pointer (some ⟨b1,0,none⟩))),(2,.eq (.pointer (some ⟨b2,0,none⟩))),(3,.rep (.slice (.slice (.slice (.int .i64)))) a0.2.2.2.2.1),(4,.eq (.int .i64 y9.2)),(19,.eq (.pointer (some ⟨b1,0+4,none⟩))),(21,.rep (.slice (.slice (.slice (.int .i64)))) a0.2.2.2.2.1)] ([.obj b1 28 (.agg (.pair (.eq (.int .i64 a0.1)) (.pair (.eq (.int .i64 a0.2.1)) (.pair (.eq (.int .i64 a0.2.2.1)) (.pair (.eq (.int .i64 a0.2.2.2.1)) (.pair (.eq z10.1) (.eq v5))))))),.sl z10.1 33 .val (dc z10.2.1 0 y9.1),.sl v5 35 ah (([]:(List an))++a0.2.2.2.2.2),.obj b2 28 (.agg (.pair (.eq (.int .i64 (0:Int))) (.pair (.eq (.int .i64 (0:Int))) (.pair (.eq (.int .i64 (0:Int))) (.pair (.eq (.int .i64 (0:Int))) (.pair (.eq (.slice none 0 0)) (.eq (.slice none 0 0))))))))]++eU 22 z10.2.1 z10.2.2 0 y9.1):=by
     refine JD.stepJ hJ [1,3] (by kernel_rfl) rfl ⟨⟨_,rfl,?_⟩,⟨_,rfl,?_⟩,trivial⟩
     .refine fu rfl rfl rfl (ax rfl gG (λ_=>rfl) rfl) ⟨rfl,trivial⟩ ?_;exact JO.goJ hJ (pre:=[.obj b1 28 (.agg (.pair (.eq (.int .i64 a0.1)) (.pair (.eq (.int .i64 a0.2.1)) (.pair (.eq (.int .i64 a0.2.2.1)) (.pair (.eq (.int .i64 a0.2.2.2.1)) (.pair (.eq z10.1) (.eq v5))))))),.sl z10.1 33 .val (dc z10.2.1 0 y9.1),.sl v5 35 ah (([]:(List an))++a0.2.2.2.2.2),.obj b2 28 (.agg (.pair (.eq (.int .i64 (0:Int))) (.pair (.eq (.int .i64 (0:Int))) (.pair (.eq (.int .i64 (0:Int))) (.pair (.eq (.int .i64 (0:Int))) (.pair (.eq (.slice none 0 0)) (.eq (.slice none 0 0))))))))]) [0,1,2,3] (s7) ⟨rfl,rfl,rfl,rfl,rfl,rfl,trivial⟩
     .refine dh rfl rfl ?_;exact JO.goJ hJ (pre:=[.obj b1 28 (.agg (.pair (.eq (.int .i64 a0.1)) (.pair (.eq (.int .i64 a0.2.1)) (.pair (.eq (.int .i64 a0.2.2.1)) (.pair (.eq (.int .i64 a0.2.2.2.1)) (.pair (.eq z10.1) (.eq v5))))))),.sl z10.1 33 .val (dc z10.2.1 0 y9.1),.sl v5 35 ah (([]:(List an))++a0.2.2.2.2.2),.obj b2 28 (.agg (.pair (.eq (.int .i64 (0:Int))) (.pair (.eq (.int .i64 (0:Int))) (.pair (.eq (.int .i64 (0:Int))) (.pair (.eq (.int .i64 (0:Int))) (.pair (.eq (.slice none 0 0)) (.eq (.slice none 0 0))))))))]) [0,1,2,3] (s13) ⟨rfl,rfl,rfl,rfl,rfl,rfl,rfl,trivial⟩
    have s9:J 9 [true,false,false,true,false,false,false,false,false,false,false] [(1,.eq (.pointer (some ⟨b1,0,none⟩))),(2,.eq (.pointer (some ⟨b2,0,none⟩))),(3,.rep (.slice (.slice (.slice (.int .i64)))) a0.2.2.2.2.1),(4,.eq (.int .i64 y9.2)),(19,.eq (.pointer (some ⟨b1,0+4,none⟩))),(22,.eq (.int .i64 y9.2))] ([.obj b1 28 (.agg (.pair (.eq (.int .i64 a0.1)) (.pair (.eq (.int .i64 a0.2.1)) (.pair (.eq (.int .i64 a0.2.2.1)) (.pair (.eq (.int .i64 a0.2.2.2.1)) (.pair (.eq z10.1) (.eq v5))))))),.sl z10.1 33 .val (dc z10.2.1 0 y9.1),.sl v5 35 ah (([]:(List an))++a0.2.2.2.2.2),.obj b2 28 (.agg (.pair (.eq (.int .i64 (0:Int))) (.pair (.eq (.int .i64 (0:Int))) (.pair (.eq (.int .i64 (0:Int))) (.pair (.eq (.int .i64 (0:Int))) (.pair (.eq (.slice none 0 0)) (.eq (.slice none 0 0))))))))]++eU 22 z10.2.1 z10.2.2 0 y9.1):=by
     refine JD.stepJ hJ [1,2] (by kernel_rfl) rfl ⟨⟨_,rfl,?_⟩,⟨_,rfl,?_⟩,trivial⟩
     .refine fu rfl rfl rfl (ax rfl gG (λ_=>rfl) rfl) ⟨rfl,trivial⟩ ?_;exact JO.goJ hJ (pre:=[.obj b1 28 (.agg (.pair (.eq (.int .i64 a0.1)) (.pair (.eq (.int .i64 a0.2.1)) (.pair (.eq (.int .i64 a0.2.2.1)) (.pair (.eq (.int .i64 a0.2.2.2.1)) (.pair (.eq z10.1) (.eq v5))))))),.sl z10.1 33 .val (dc z10.2.1 0 y9.1),.sl v5 35 ah (([]:(List an))++a0.2.2.2.2.2),.obj b2 28 (.agg (.pair (.eq (.int .i64 (0:Int))) (.pair (.eq (.int .i64 (0:Int))) (.pair (.eq (.int .i64 (0:Int))) (.pair (.eq (.int .i64 (0:Int))) (.pair (.eq (.slice none 0 0)) (.eq (.slice none 0 0))))))))]) [0,1,2,3] (s11) ⟨rfl,rfl,rfl,rfl,rfl,rfl,trivial⟩
     .refine dh rfl rfl ?_;exact JO.goJ hJ (pre:=[.obj b1 28 (.agg (.pair (.eq (.int .i64 a0.1)) (.pair (.eq (.int .i64 a0.2.1)) (.pair (.eq (.int .i64 a0.2.2.1)) (.pair (.eq (.int .i64 a0.2.2.2.1)) (.pair (.eq z10.1) (.eq v5))))))),.sl z10.1 33 .val (dc z10.2.1 0 y9.1),.sl v5 35 ah (([]:(List an))++a0.2.2.2.2.2),.obj b2 28 (.agg (.pair (.eq (.int .i64 (0:Int))) (.pair (.eq (.int .i64 (0:Int))) (.pair (.eq (.int .i64 (0:Int))) (.pair (.eq (.int .i64 (0:Int))) (.pair (.eq (.slice none 0 0)) (.eq (.slice none 0 0))))))))]) [0,1,2,3] (s13) ⟨rfl,rfl,rfl,rfl,rfl,rfl,rfl,trivial⟩
    have s12:J 9 [false,false,true,true,false,false,false,false,false,false,false] [(1,.eq (.pointer (some ⟨b1,0,none⟩))),(2,.eq (.pointer (some ⟨b2,0,none⟩))),(3,.rep (.slice (.slice (.slice (.int .i64)))) a0.2.2.2.2.1),(4,.eq (.int .i64 y9.2)),(21,.rep (.slice (.slice (.slice (.int .i64)))) a0.2.2.2.2.1),(22,.eq (.int .i64 y9.2))] ([.obj b1 28 (.agg (.pair (.eq (.int .i64 a0.1)) (.pair (.eq (.int .i64 a0.2.1)) (.pair (.eq (.int .i64 a0.2.2.1)) (.pair (.eq (.int .i64 a0.2.2.2.1)) (.pair (.eq z10.1) (.eq v5))))))),.sl z10.1 33 .val (dc z10.2.1 0 y9.1),.sl v5 35 ah (([]:(List an))++a0.2.2.2.2.2),.obj b2 28 (.agg (.pair (.eq (.int .i64 (0:Int))) (.pair (.eq (.int .i64 (0:Int))) (.pair (.eq (.int .i64 (0:Int))) (.pair (.eq (.int .i64 (0:Int))) (.pair (.eq (.slice none 0 0)) (.eq (.slice none 0 0))))))))]++eU 22 z10.2.1 z10.2.2 0 y9.1):=by
     refine JD.stepJ hJ [0,4] (by kernel_rfl) rfl ⟨⟨_,rfl,?_⟩,⟨_,rfl,?_⟩,trivial⟩
     .refine bh rfl (aA rfl cS) ⟨rfl,trivial⟩ ?_;exact JO.goJ hJ (pre:=[.obj b1 28 (.agg (.pair (.eq (.int .i64 a0.1)) (.pair (.eq (.int .i64 a0.2.1)) (.pair (.eq (.int .i64 a0.2.2.1)) (.pair (.eq (.int .i64 a0.2.2.2.1)) (.pair (.eq z10.1) (.eq v5))))))),.sl z10.1 33 .val (dc z10.2.1 0 y9.1),.sl v5 35 ah (([]:(List an))++a0.2.2.2.2.2),.obj b2 28 (.agg (.pair (.eq (.int .i64 (0:Int))) (.pair (.eq (.int .i64 (0:Int))) (.pair (.eq (.int .i64 (0:Int))) (.pair (.eq (.int .i64 (0:Int))) (.pair (.eq (.slice none 0 0)) (.eq (.slice none 0 0))))))))]) [0,1,2,3] (s13) ⟨rfl,rfl,rfl,rfl,rfl,rfl,rfl,trivial⟩
     .refine bh rfl (aU (t:=(.slice (.slice (.int .i64)))) rfl Tryz.underlying25 mP ex11) ⟨rfl,rfl,trivial⟩ ?_;exact JO.goJ hJ (pre:=[.obj b1 28 (.agg (.pair (.eq (.int .i64 a0.1)) (.pair (.eq (.int .i64 a0.2.1)) (.pair (.eq (.int .i64 a0.2.2.1)) (.pair (.eq (.int .i64 a0.2.2.2.1)) (.pair (.eq z10.1) (.eq v5))))))),.sl z10.1 33 .val (dc z10.2.1 0 y9.1),.sl v5 35 ah (([]:(List an))++a0.2.2.2.2.2),.obj b2 28 (.agg (.pair (.eq (.int .i64 (0:Int))) (.pair (.eq (.int .i64 (0:Int))) (.pair (.eq (.int .i64 (0:Int))) (.pair (.eq (.int .i64 (0:Int))) (.pair (.eq (.slice none 0 0)) (.eq (.slice none 0 0))))))))]) [0,1,2,3] (s28) ⟨rfl,rfl,rfl,rfl,rfl,trivial⟩
    have s1:J 10 [true,false,false,false,false,false,false,false,false,false,false] [(1,.eq (.pointer (some ⟨b1,0,none⟩))),(2,.eq (.pointer (some ⟨b2,0,none⟩))),(3,.rep (.slice (.slice (.slice (.int .i64)))) a0.2.2.2.2.1),(4,.eq (.int .i64 y9.2)),(19,.eq (.pointer (some ⟨b1,0+4,none⟩)))] ([.obj b1 28 (.agg (.pair (.eq (.int .i64 a0.1)) (.pair (.eq (.int .i64 a0.2.1)) (.pair (.eq (.int .i64 a0.2.2.1)) (.pair (.eq (.int .i64 a0.2.2.2.1)) (.pair (.eq z10.1) (.eq v5))))))),.sl z10.1 33 .val (dc z10.2.1 0 y9.1),.sl v5 35 ah (([]:(List an))++a0.2.2.2.2.2),.obj b2 28 (.agg (.pair (.eq (.int .i64 (0:Int))) (.pair (.eq (.int .i64 (0:Int))) (.pair (.eq (.int .i64 (0:Int))) (.pair (.eq (.int .i64 (0:Int))) (.pair (.eq (.slice none 0 0)) (.eq (.slice none 0 0))))))))]++eU 22 z10.2.1 z10.2.2 0 y9.1):=by
     refine JD.stepJ hJ [1,2,3] (by kernel_rfl) rfl ⟨⟨_,rfl,?_⟩,⟨_,rfl,?_⟩,⟨_,rfl,?_⟩,trivial⟩
     .refine fu rfl rfl rfl (ax rfl gG (λ_=>rfl) rfl) ⟨rfl,trivial⟩ ?_;exact JO.goJ hJ (pre:=[.obj b1 28 (.agg (.pair (.eq (.int .i64 a0.1)) (.pair (.eq (.int .i64 a0.2.1)) (.pair (.eq (.int .i64 a0.2.2.1)) (.pair (.eq (.int .i64 a0.2.2.2.1)) (.pair (.eq z10.1) (.eq v5))))))),.sl z10.1 33 .val (dc z10.2.1 0 y9.1),.sl v5 35 ah (([]:(List an))++a0.2.2.2.2.2),.obj b2 28 (.agg (.pair (.eq (.int .i64 (0:Int))) (.pair (.eq (.int .i64 (0:Int))) (.pair (.eq (.int .i64 (0:Int))) (.pair (.eq (.int .i64 (0:Int))) (.pair (.eq (.slice none 0 0)) (.eq (.slice none 0 0))))))))]) [0,1,2,3] (s3) ⟨rfl,rfl,rfl,rfl,rfl,trivial⟩
     .refine dh rfl rfl ?_;exact JO.goJ hJ (pre:=[.obj b1 28 (.agg (.pair (.eq (.int .i64 a0.1)) (.pair (.eq (.int .i64 a0.2.1)) (.pair (.eq (.int .i64 a0.2.2.1)) (.pair (.eq (.int .i64 a0.2.2.2.1)) (.pair (.eq z10.1) (.eq v5))))))),.sl z10.1 33 .val (dc z10.2.1 0 y9.1),.sl v5 35 ah (([]:(List an))++a0.2.2.2.2.2),.obj b2 28 (.agg (.pair (.eq (.int .i64 (0:Int))) (.pair (.eq (.int .i64 (0:Int))) (.pair (.eq (.int .i64 (0:Int))) (.pair (.eq (.int .i64 (0:Int))) (.pair (.eq (.slice none 0 0)) (.eq (.slice none 0 0))))))))]) [0,1,2,3] (s5) ⟨rfl,rfl,rfl,rfl,rfl,rfl,trivial⟩
     .refine dh rfl rfl ?_;exact JO.goJ hJ (pre:=[.obj b1 28 (.agg (.pair (.eq (.int .i64 a0.1)) (.pair (.eq (.int .i64 a0.2.1)) (.pair (.eq (.int .i64 a0.2.2.1)) (.pair (.eq (.int .i64 a0.2.2.2.1)) (.pair (.eq z10.1) (.eq v5))))))),.sl z10.1 33 .val (dc z10.2.1 0 y9.1),.sl v5 35 ah (([]:(List an))++a0.2.2.2.2.2),.obj b2 28 (.agg (.pair (.eq (.int .i64 (0:Int))) (.pair (.eq (.int .i64 (0:Int))) (.pair (.eq (.int .i64 (0:Int))) (.pair (.eq (.int .i64 (0:Int))) (.pair (.eq (.slice none 0 0)) (.eq (.slice none 0 0))))))))]) [0,1,2,3] (s9) ⟨rfl,rfl,rfl,rfl,rfl,rfl,trivial⟩
    have s4:J 10 [false,false,true,false,false,false,false,false,false,false,false] [(1,.eq (.pointer (some ⟨b1,0,none⟩))),(2,.eq (.pointer (some ⟨b2,0,none⟩))),(3,.rep (.slice (.slice (.slice (.int .i64)))) a0.2.2.2.2.1),(4,.eq (.int .i64 y9.2)),(21,.rep (.slice (.slice (.slice (.int .i64)))) a0.2.2.2.2.1)] ([.obj b1 28 (.agg (.pair (.eq (.int .i64 a0.1)) (.pair (.eq (.int .i64 a0.2.1)) (.pair (.eq (.int .i64 a0.2.2.1)) (.pair (.eq (.int .i64 a0.2.2.2.1)) (.pair (.eq z10.1) (.eq v5))))))),.sl z10.1 33 .val (dc z10.2.1 0 y9.1),.sl v5 35 ah (([]:(List an))++a0.2.2.2.2.2),.obj b2 28 (.agg (.pair (.eq (.int .i64 (0:Int))) (.pair (.eq (.int .i64 (0:Int))) (.pair (.eq (.int .i64 (0:Int))) (.pair (.eq (.int .i64 (0:Int))) (.pair (.eq (.slice none 0 0)) (.eq (.slice none 0 0))))))))]++eU 22 z10.2.1 z10.2.2 0 y9.1):=by
     refine JD.stepJ hJ [0,3] (by kernel_rfl) rfl ⟨⟨_,rfl,?_⟩,⟨_,rfl,?_⟩,trivial⟩
     .refine bh rfl (aA rfl cS) ⟨rfl,trivial⟩ ?_;exact JO.goJ hJ (pre:=[.obj b1 28 (.agg (.pair (.eq (.int .i64 a0.1)) (.pair (.eq (.int .i64 a0.2.1)) (.pair (.eq (.int .i64 a0.2.2.1)) (.pair (.eq (.int .i64 a0.2.2.2.1)) (.pair (.eq z10.1) (.eq v5))))))),.sl z10.1 33 .val (dc z10.2.1 0 y9.1),.sl v5 35 ah (([]:(List an))++a0.2.2.2.2.2),.obj b2 28 (.agg (.pair (.eq (.int .i64 (0:Int))) (.pair (.eq (.int .i64 (0:Int))) (.pair (.eq (.int .i64 (0:Int))) (.pair (.eq (.int .i64 (0:Int))) (.pair (.eq (.slice none 0 0)) (.eq (.slice none 0 0))))))))]) [0,1,2,3] (s5) ⟨rfl,rfl,rfl,rfl,rfl,rfl,trivial⟩
     .refine dh rfl rfl ?_;exact JO.goJ hJ (pre:=[.obj b1 28 (.agg (.pair (.eq (.int .i64 a0.1)) (.pair (.eq (.int .i64 a0.2.1)) (.pair (.eq (.int .i64 a0.2.2.1)) (.pair (.eq (.int .i64 a0.2.2.2.1)) (.pair (.eq z10.1) (.eq v5))))))),.sl z10.1 33 .val (dc z10.2.1 0 y9.1),.sl v5 35 ah (([]:(List an))++a0.2.2.2.2.2),.obj b2 28 (.agg (.pair (.eq (.int .i64 (0:Int))) (.pair (.eq (.int .i64 (0:Int))) (.pair (.eq (.int .i64 (0:Int))) (.pair (.eq (.int .i64 (0:Int))) (.pair (.eq (.slice none 0 0)) (.eq (.slice none 0 0))))))))]) [0,1,2,3] (s12) ⟨rfl,rfl,rfl,rfl,rfl,rfl,trivial⟩
    have s8:J 10 [false,false,false,true,false,false,false,false,false,false,false] [(1,.eq (.pointer (some ⟨b1,0,none⟩))),(2,.eq (.pointer (some ⟨b2,0,none⟩))),(3,.rep (.slice (.slice (.slice (.int .i64)))) a0.2.2.2.2.1),(4,.eq (.int .i64 y9.2)),(22,.eq (.int .i64 y9.2))] ([.obj b1 28 (.agg (.pair (.eq (.int .i64 a0.1)) (.pair (.eq (.int .i64 a0.2.1)) (.pair (.eq (.int .i64 a0.2.2.1)) (.pair (.eq (.int .i64 a0.2.2.2.1)) (.pair (.eq z10.1) (.eq v5))))))),.sl z10.1 33 .val (dc z10.2.1 0 y9.1),.sl v5 35 ah (([]:(List an))++a0.2.2.2.2.2),.obj b2 28 (.agg (.pair (.eq (.int .i64 (0:Int))) (.pair (.eq (.int .i64 (0:Int))) (.pair (.eq (.int .i64 (0:Int))) (.pair (.eq (.int .i64 (0:Int))) (.pair (.eq (.slice none 0 0)) (.eq (.slice none 0 0))))))))]++eU 22 z10.2.1 z10.2.2 0 y9.1):=by
     refine JD.stepJ hJ [0,2] (by kernel_rfl) rfl ⟨⟨_,rfl,?_⟩,⟨_,rfl,?_⟩,trivial⟩
     .refine bh rfl (aA rfl cS) ⟨rfl,trivial⟩ ?_;exact JO.goJ hJ (pre:=[.obj b1 28 (.agg (.pair (.eq (.int .i64 a0.1)) (.pair (.eq (.int .i64 a0.2.1)) (.pair (.eq (.int .i64 a0.2.2.1)) (.pair (.eq (.int .i64 a0.2.2.2.1)) (.pair (.eq z10.1) (.eq v5))))))),.sl z10.1 33 .val (dc z10.2.1 0 y9.1),.sl v5 35 ah (([]:(List an))++a0.2.2.2.2.2),.obj b2 28 (.agg (.pair (.eq (.int .i64 (0:Int))) (.pair (.eq (.int .i64 (0:Int))) (.pair (.eq (.int .i64 (0:Int))) (.pair (.eq (.int .i64 (0:Int))) (.pair (.eq (.slice none 0 0)) (.eq (.slice none 0 0))))))))]) [0,1,2,3] (s9) ⟨rfl,rfl,rfl,rfl,rfl,rfl,trivial⟩
     .refine dh rfl rfl ?_;exact JO.goJ hJ (pre:=[.obj b1 28 (.agg (.pair (.eq (.int .i64 a0.1)) (.pair (.eq (.int .i64 a0.2.1)) (.pair (.eq (.int .i64 a0.2.2.1)) (.pair (.eq (.int .i64 a0.2.2.2.1)) (.pair (.eq z10.1) (.eq v5))))))),.sl z10.1 33 .val (dc z10.2.1 0 y9.1),.sl v5 35 ah (([]:(List an))++a0.2.2.2.2.2),.obj b2 28 (.agg (.pair (.eq (.int .i64 (0:Int))) (.pair (.eq (.int .i64 (0:Int))) (.pair (.eq (.int .i64 (0:Int))) (.pair (.eq (.int .i64 (0:Int))) (.pair (.eq (.slice none 0 0)) (.eq (.slice none 0 0))))))))]) [0,1,2,3] (s12) ⟨rfl,rfl,rfl,rfl,rfl,rfl,trivial⟩
    have s0:J 11 [false,false,false,false,false,false,false,false,false,false,false] [(1,.eq (.pointer (some ⟨b1,0,none⟩))),(2,.eq (.pointer (some ⟨b2,0,none⟩))),(3,.rep (.slice (.slice (.slice (.int .i64)))) a0.2.2.2.2.1),(4,.eq (.int .i64 y9.2))] ([.obj b1 28 (.agg (.pair (.eq (.int .i64 a0.1)) (.pair (.eq (.int .i64 a0.2.1)) (.pair (.eq (.int .i64 a0.2.2.1)) (.pair (.eq (.int .i64 a0.2.2.2.1)) (.pair (.eq z10.1) (.eq v5))))))),.sl z10.1 33 .val (dc z10.2.1 0 y9.1),.sl v5 35 ah (([]:(List an))++a0.2.2.2.2.2),.obj b2 28 (.agg (.pair (.eq (.int .i64 (0:Int))) (.pair (.eq (.int .i64 (0:Int))) (.pair (.eq (.int .i64 (0:Int))) (.pair (.eq (.int .i64 (0:Int))) (.pair (.eq (.slice none 0 0)) (.eq (.slice none 0 0))))))))]++eU 22 z10.2.1 z10.2.2 0 y9.1):=by
     refine JD.stepJ hJ [0,2,3] (by kernel_rfl) rfl ⟨⟨_,rfl,?_⟩,⟨_,rfl,?_⟩,⟨_,rfl,?_⟩,trivial⟩
     .refine bh rfl (aA rfl cS) ⟨rfl,trivial⟩ ?_;exact JO.goJ hJ (pre:=[.obj b1 28 (.agg (.pair (.eq (.int .i64 a0.1)) (.pair (.eq (.int .i64 a0.2.1)) (.pair (.eq (.int .i64 a0.2.2.1)) (.pair (.eq (.int .i64 a0.2.2.2.1)) (.pair (.eq z10.1) (.eq v5))))))),.sl z10.1 33 .val (dc z10.2.1 0 y9.1),.sl v5 35 ah (([]:(List an))++a0.2.2.2.2.2),.obj b2 28 (.agg (.pair (.eq (.int .i64 (0:Int))) (.pair (.eq (.int .i64 (0:Int))) (.pair (.eq (.int .i64 (0:Int))) (.pair (.eq (.int .i64 (0:Int))) (.pair (.eq (.slice none 0 0)) (.eq (.slice none 0 0))))))))]) [0,1,2,3] (s1) ⟨rfl,rfl,rfl,rfl,rfl,trivial⟩
     .refine dh rfl rfl ?_;exact JO.goJ hJ (pre:=[.obj b1 28 (.agg (.pair (.eq (.int .i64 a0.1)) (.pair (.eq (.int .i64 a0.2.1)) (.pair (.eq (.int .i64 a0.2.2.1)) (.pair (.eq (.int .i64 a0.2.2.2.1)) (.pair (.eq z10.1) (.eq v5))))))),.sl z10.1 33 .val (dc z10.2.1 0 y9.1),.sl v5 35 ah (([]:(List an))++a0.2.2.2.2.2),.obj b2 28 (.agg (.pair (.eq (.int .i64 (0:Int))) (.pair (.eq (.int .i64 (0:Int))) (.pair (.eq (.int .i64 (0:Int))) (.pair (.eq (.int .i64 (0:Int))) (.pair (.eq (.slice none 0 0)) (.eq (.slice none 0 0))))))))]) [0,1,2,3] (s4) ⟨rfl,rfl,rfl,rfl,rfl,trivial⟩
     .refine dh rfl rfl ?_;exact JO.goJ hJ (pre:=[.obj b1 28 (.agg (.pair (.eq (.int .i64 a0.1)) (.pair (.eq (.int .i64 a0.2.1)) (.pair (.eq (.int .i64 a0.2.2.1)) (.pair (.eq (.int .i64 a0.2.2.2.1)) (.pair (.eq z10.1) (.eq v5))))))),.sl z10.1 33 .val (dc z10.2.1 0 y9.1),.sl v5 35 ah (([]:(List an))++a0.2.2.2.2.2),.obj b2 28 (.agg (.pair (.eq (.int .i64 (0:Int))) (.pair (.eq (.int .i64 (0:Int))) (.pair (.eq (.int .i64 (0:Int))) (.pair (.eq (.int .i64 (0:Int))) (.pair (.eq (.slice none 0 0)) (.eq (.slice none 0 0))))))))]) [0,1,2,3] (s8) ⟨rfl,rfl,rfl,rfl,rfl,trivial⟩
    exact s0
   rintro⟨v14,q⟩;show JN _ _ [(1,.eq (.pointer (some ⟨b1,0,none⟩))),(2,.eq (.pointer (some ⟨b2,0,none⟩))),(3,.rep (.slice (.slice (.slice (.int .i64)))) a0.2.2.2.2.1),(4,.eq (.int .i64 y9.2))] ([.obj b1 28 (.agg (.pair (.eq (.int .i64 a0.1)) (.pair (.eq (.int .i64 a0.2.1)) (.pair (.eq (.int .i64 a0.2.2.1)) (.pair (.eq (.int .i64 a0.2.2.2.1)) (.pair (.eq v14) (.eq v5))))))),.sl v14 33 .val (dc z10.2.1 0 y9.1++[q.1]),.sl v5 35 ah (([]:(List an))++a0.2.2.2.2.2),.obj b2 28 (.agg (.pair (.eq (.int .i64 (0:Int))) (.pair (.eq (.int .i64 (0:Int))) (.pair (.eq (.int .i64 (0:Int))) (.pair (.eq (.int .i64 (0:Int))) (.pair (.eq (.slice none 0 0)) (.eq (.slice none 0 0))))))))]++(j9 22 q r12++eU 22 z10.2.1 z10.2.2 0 y9.1));refine bK (SE.pp (Δ':=[.obj b1 28 (.agg (.pair (.eq (.int .i64 a0.1)) (.pair (.eq (.int .i64 a0.2.1)) (.pair (.eq (.int .i64 a0.2.2.1)) (.pair (.eq (.int .i64 a0.2.2.2.1)) (.pair (.eq v14) (.eq v5))))))),.sl v14 33 .val (dc (jp z10.2.1 y9.1.length q.1) 0 (y9.1++[r12])),.sl v5 35 ah (([]:(List an))++a0.2.2.2.2.2),.obj b2 28 (.agg (.pair (.eq (.int .i64 (0:Int))) (.pair (.eq (.int .i64 (0:Int))) (.pair (.eq (.int .i64 (0:Int))) (.pair (.eq (.int .i64 (0:Int))) (.pair (.eq (.slice none 0 0)) (.eq (.slice none 0 0))))))))]++eU 22 (jp z10.2.1 y9.1.length q.1) (HB z10.2.2 y9.1.length q.2) 0 (y9.1++[r12])) (by rw [He,Jf];exact List.Perm.append_left _ perm_append_comm)) ?_;refine aR ?_;refine ao ?_;show JC _ _ _ _ _;refine ab ?_;refine dh rfl rfl ?_;obtain⟨x16,ex16,h⟩:=aa h;refine bh rfl (bA rfl ex16) ⟨rfl,rfl,trivial⟩ ?_;refine nU rfl rfl ?_;refine aD ?_;refine ao ?_;exact mJ ((v14,jp z10.2.1 y9.1.length q.1,HB z10.2.2 y9.1.length q.2),(y9.1++[r12],x16)) h (SE.finE _ ⟨rfl,rfl,rfl,rfl,trivial⟩)
  .replace h:=di (vJ hb) h;refine eO ?_;refine bi ?_;refine bi ?_;refine cT ?_;refine ao ?_;exact mJ (z10,y9.1) h (SE.finE _ ⟨rfl,rfl,trivial⟩)
 .
  refine am ?_;refine ab ?_;refine fu rfl rfl rfl (ax rfl gC (tP) rfl) ⟨rfl,trivial⟩ ?_;refine dN 3 rfl ?_;refine aP rfl rfl (aM rfl gC trivial rfl rfl) ⟨rfl,rfl,trivial⟩ ?_;refine aD ?_;refine ao ?_;show JC _ _ _ _ _;refine aF ?_;refine bK (dL (Γ':=[(2,_)]) [.obj b2 28 (.agg (.pair (.eq (.int .i64 a0.1)) (.pair (.eq (.int .i64 a0.2.1)) (.pair (.eq (.int .i64 a0.2.2.1)) (.pair (.eq (.int .i64 a0.2.2.2.1)) (.pair (.eq z8.1) (.eq v5))))))),.obj b1 28 (.agg (.pair (.eq (.int .i64 a0.1)) (.pair (.eq (.int .i64 a0.2.1)) (.pair (.eq (.int .i64 a0.2.2.1)) (.pair (.eq (.int .i64 a0.2.2.2.1)) (.pair (.eq z8.1) (.eq v5))))))),.sl z8.1 33 .val (dc z8.2.1 0 x7),.sl v5 35 ah (([]:(List an))++a0.2.2.2.2.2)] (eU 22 z8.2.1 z8.2.2 0 x7) [2,3,0] ⟨rfl,trivial⟩ rfl) ?_;refine bK (SE.pp (Δ':=([.sl z8.1 33 .val (dc z8.2.1 0 x7),.sl v5 35 ah (([]:(List an))++a0.2.2.2.2.2)]++eU 22 z8.2.1 z8.2.2 0 x7)++[.obj b2 28 (.agg (.pair (.eq (.int .i64 a0.1)) (.pair (.eq (.int .i64 a0.2.1)) (.pair (.eq (.int .i64 a0.2.2.1)) (.pair (.eq (.int .i64 a0.2.2.2.1)) (.pair (.eq z8.1) (.eq v5)))))))]) (List.Perm.append_left ([.sl z8.1 33 .val (dc z8.2.1 0 x7),.sl v5 35 ah (([]:(List an))++a0.2.2.2.2.2)]:List D) (perm_append_comm (l₁:=([.obj b2 28 (.agg (.pair (.eq (.int .i64 a0.1)) (.pair (.eq (.int .i64 a0.2.1)) (.pair (.eq (.int .i64 a0.2.2.1)) (.pair (.eq (.int .i64 a0.2.2.2.1)) (.pair (.eq z8.1) (.eq v5)))))))]:List D))))) ?_;obtain rfl:=Option.some.inj h;exact aQ (z8.1,v5,z8.2.1,z8.2.2) [.agg (.pair (.eq (.int .i64 a0.1)) (.pair (.eq (.int .i64 a0.2.1)) (.pair (.eq (.int .i64 a0.2.2.1)) (.pair (.eq (.int .i64 a0.2.2.2.1)) (.pair (.eq z8.1) (.eq v5))))))] (([.sl z8.1 33 .val (dc z8.2.1 0 x7),.sl v5 35 ah (([]:(List an))++a0.2.2.2.2.2)]:List D)++eU 22 z8.2.1 z8.2.2 0 x7).length ⟨⟨_,_,_,_,_,rfl,List.mem_append_right _ (.head _),gC,(tP),rfl⟩,trivial⟩ (by rw [List.take_left])
