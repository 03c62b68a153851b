import Derived.Test.YtddneonghpmidaaGreatDoorSBB13
set_option linter.unusedSimpArgs false
set_option linter.unusedVariables false
namespace Go.Proofs.YtddneonghpmidaaGreatDoor
open K Go Go.Proofs
theorem HN:((List.range 4).all fun N=>(List.range (N+1)).all fun m=>decide (kD 3000 3000 (0:Int) (N:Int) (m:Int)=some (K2 N m)) && decide ((K2 N m).Pairwise fun a b=>rk a < rk b))=true:=by decide+kernel
theorem FR{k:Nat}(hk:k=3000){N m:Nat}(hN:N≤3)(hm:m≤N):kD k k (0:Int) (N:Int) (m:Int)=some (K2 N m)∧(K2 N m).Pairwise fun a b=>rk a < rk b:=by
 subst hk;have h:=HN;rw [List.all_eq_true] at h;have h:=h N (List.mem_range.2 (by omega));rw [List.all_eq_true] at h;have h:=h m (List.mem_range.2 (by omega));rw [Bool.and_eq_true] at h;exact⟨of_decide_eq_true h.1,of_decide_eq_true h.2⟩
theorem yQ{N m:Nat}{l:List Int}(h:l∈K2 N m):l∈P8∧l.length=m:=by
 obtain⟨h1,h2⟩:=List.mem_filter.1 h;rw [Bool.and_eq_true] at h2;exact⟨h1,of_decide_eq_true h2.1⟩
theorem BS:∀l∈P8,l.length≤8:=by decide
theorem K1{N m:Nat}:(K2 N m).length≤8:=Nat.le_trans (List.length_filter_le _ _) (by decide)
theorem Eh{l:List Int}{q:List (List Int)}:q8 l q=true↔∀x∈fq q,x∈l:=by
 rw [so];constructor
 ·intro h x hx;unfold fq at hx;obtain⟨i,hi,rfl⟩:=List.mem_map.1 hx;obtain⟨h1,h2⟩:=List.mem_filter.1 hi;exact(h i (List.mem_range.1 h1)).resolve_left (of_decide_eq_true h2)
 ·intro h i hi;by_cases c:q[i]?.getD []=[]
  ·exact .inl c
  ·exact .inr (h _ (IC.2 c))
section
variable {k:Nat}{t:aU}
abbrev SO:=Except ((List Int)×(List (List Int))×Int) Unit
theorem Ud(h:nz k t)(g:ji t){r9:List (List Int)}{y10:Int}{l:List Int}(hl:aP r9 y10=some l){r:List (List (List Int))}(hr:r.length < k)(hg:∀q∈r,dU t q):
 W (iS k t r9 y10 r k 0) fun o=>(∃p x s,r=p++x::s∧(∀y∈p,gl t y≠0)∧gl t x=0∧o= .error (l,x,0))∨(o= .ok ()∧∀x∈r,gl t x≠0):=by
 have hk1:=h.k1
 have h6:=g.days
 exact W.loop (f:=iS k t r9 y10 r) (fun m y=>∃j:Nat,y=(j:Int)∧j≤r.length∧m=r.length - j∧∀x∈r.take j,gl t x≠0) (by
  rintro aS m y ⟨j,hj,hle,hm,ha⟩ ih;subst hj;unfold iS;refine W.ite (fun hlt=>?_) (fun hge=>W.ret (.inr ⟨rfl,?_⟩))
  ·have hj:j < r.length:=by omega
   have hgj:=hg _ (List.getElem_mem hj);have hlf:lX k t r[j] 0=some (gl t r[j]:Int):=by rw [F9 h hgj (by omega),Int.sub_zero];rfl
   rw [cD hj,bs,hlf,bs];by_cases c:gl t r[j]=0
   ·rw [if_pos (by omega),hl,bs,bs];exact W.ret (.inl ⟨r.take j,r[j],r.drop (j+1),by rw [←List.drop_eq_getElem_cons hj,List.take_append_drop],ha,c,rfl⟩)
   ·rw [if_neg (by omega),bv (by omega) (by omega),bs];refine ih (m - 1) _ (by omega) ⟨j+1,by omega,by omega,by omega,fun x hx=>?_⟩;rw [List.take_add_one,List.getElem?_eq_getElem hj] at hx;rcases List.mem_append.1 hx with hx |hx
    ·exact ha x hx
    ·rw [Option.toList_some,List.mem_singleton] at hx;rw [hx];exact c
  ·rw [List.take_of_length_le (by omega)] at ha;exact ha) r.length k 0 hr ⟨0,rfl,by omega,by omega,fun x hx=>by simp at hx⟩
theorem wG(g:ji t){q:List (List Int)}{u:List Int}(e:nq t=some (q,u)):u=fq q∧u∈P8∧dU t q∧u∈K2 t.2.2.length u.length:=by
 have hf:=zt (t:=t);rw [e] at hf;obtain⟨h1,_,_,p,s,h4,_⟩:=hf;have hq:=qX g (q:=q) (by rw [h4];simp);have h3:=hq.fit.len;refine⟨h1,by rw [h1];exact(pz h3).1,hq,?_⟩;have:=KI h3;rw [hq.len] at this;rw [h1];exact this
theorem LZ(hk:3000≤k)(h:nz k t)(g:ji t){r9:List (List Int)}{y10:Int}{l:List Int}(hl:aP r9 y10=some l)(hl8:l∈P8):
 W ((qI k t l).bind fun r15=>iS k t r9 y10 r15 k (0:Int)) fun o=>(nq t=none→o= .ok ())∧∀q u,nq t=some (q,u)→(rk l < rk u→o= .ok ())∧(l=u→o= .error (u,q,0)):=by
 have hlen:=JK g
 have hlf:=List.length_filter_le (q8 l) (qn t)
 rw [Nq h g (by have:=BS l hl8;have:=h.k0;omega),bs]
 refine(Ud h g hl (by omega) (fun q hq=>qX g (List.mem_filter.1 hq).1)).mono fun o ho=>?_
 have hf:=zt (t:=t)
 refine⟨fun e=>?_,fun q u e=>?_⟩
 ·
  rw [e] at hf;rcases ho with⟨p,x,s,h1,_,h3,_⟩ |⟨rfl,_⟩
  ·exact absurd h3 (hf x (List.mem_filter.1 (show x∈(qn t).filter (q8 l) by rw [h1];simp)).1)
  ·rfl
 ·
  obtain⟨u1,u2,u3,_⟩:=wG g e;rw [e] at hf;obtain⟨_,f2,f3,p0,s0,f4,f5⟩:=hf
  have hsub:∀x∈(qn t).filter (q8 l),rk (fq x)≤rk l:=fun x hx=>by
   obtain⟨hx1,hx2⟩:=List.mem_filter.1 hx;exact(yL (pz (qX g hx1).fit.len).1 hl8).2 (Eh.1 hx2)
  refine⟨fun hr=>?_,fun hlu=>?_⟩
  ·rcases ho with⟨p,x,s,h1,_,h3,_⟩ |⟨rfl,_⟩
   ·have hx:x∈(qn t).filter (q8 l):=by rw [h1];simp
    have:=f3 x (List.mem_filter.1 hx).1 h3;have:=hsub x hx;omega
   ·rfl
  ·subst hlu;have hqu:q8 l q=true:=Eh.2 fun x hx=>by rw [u1];exact hx
   have hfil:(qn t).filter (q8 l)=p0.filter (q8 l)++q::s0.filter (q8 l):=by rw [f4,List.filter_append,List.filter_cons_of_pos hqu]
   have hp0:∀y∈p0.filter (q8 l),gl t y≠0:=fun y hy hz=>by
    have h1:=f5 y (List.mem_filter.1 hy).1 hz;have h2:=hsub y (by rw [hfil];exact List.mem_append_left _ hy);omega
   rcases ho with⟨p,x,s,h1,h2,h3,rfl⟩ |⟨rfl,h2⟩
   ·have hfst:∀(a b a' b':List (List (List Int))) (x y:List (List Int)),a++x::b=a'++y::b'→(∀z∈a,gl t z≠0)→(∀z∈a',gl t z≠0)→gl t x=0→gl t y=0→x=y:=by
     intro a
     induction a with
     |nil=>
      intro b a' b' x y e _ ha' hx hy;cases a' with
      |nil=>exact(List.cons.inj e).1
      |cons z a'=>
       have:=(List.cons.inj e).1;subst this;exact absurd hx (ha' _ (by simp))
     |cons z a ih=>
      intro b a' b' x y e ha ha' hx hy;cases a' with
      |nil=>
       have:=(List.cons.inj e).1;subst this;exact absurd hy (ha _ (by simp))
      |cons w a'=>exact ih b a' b' x y (List.cons.inj e).2 (fun z hz=>ha z (by simp [hz])) (fun z hz=>ha' z (by simp [hz])) hx hy
    rw [hfst p s _ _ x q (h1.symm.trans hfil) h2 hp0 h3 f2]
   ·exact absurd f2 (h2 q (by rw [hfil];simp))
theorem Ue(hk:3000≤k)(h:nz k t)(g:ji t){r9:List (List Int)}(hr:r9.length≤8)(h8:∀l∈r9,l∈P8)(hp:r9.Pairwise fun a b=>rk a < rk b):
 W (iU k t r9 k 0) fun o=>(nq t=none→o= .ok ())∧∀q u,nq t=some (q,u)→((∀l∈r9,rk l < rk u)→o= .ok ())∧(u∈r9→o= .error (u,q,0)):=by
 have hk1:=h.k1
 exact W.loop (f:=iU k t r9) (fun m y=>∃j:Nat,y=(j:Int)∧j≤r9.length∧m=r9.length - j∧∀q u,nq t=some (q,u)→¬u∈r9.take j) (by
  rintro aS m y ⟨j,hj,hle,hm,ha⟩ ih;subst hj;unfold iU;refine W.ite (fun hlt=>?_) (fun hge=>W.ret ⟨fun _=>rfl,fun q u e=>⟨fun _=>rfl,fun hu=>?_⟩⟩)
  ·have hj:j < r9.length:=by omega
   obtain⟨o,eo,o1,o2⟩:=LZ hk h g (cD hj) (h8 _ (List.getElem_mem hj));rw [cD hj,bs,eo]
   have next:(∀q u,nq t=some (q,u)→r9[j]≠u)→W ((ck ((j:Int)+1)).bind fun x23=>iU k t r9 aS x23) fun o=>(nq t=none→o= .ok ())∧∀q u,nq t=some (q,u)→((∀l∈r9,rk l < rk u)→o= .ok ())∧(u∈r9→o= .error (u,q,0)):=fun hne=>by
    rw [bv (by omega) (by omega),bs];refine ih (m - 1) _ (by omega) ⟨j+1,by omega,by omega,by omega,fun q u e hu=>?_⟩;rw [List.take_add_one,List.getElem?_eq_getElem hj] at hu;rcases List.mem_append.1 hu with hu |hu
    ·exact ha q u e hu
    ·rw [Option.toList_some,List.mem_singleton] at hu;exact hne q u e hu.symm
   cases e:nq t with
   |none=>
    rw [o1 e,kQ];rw [e] at next;exact next fun q u h=>by cases h
   |some b=>
    obtain⟨q,u⟩:=b;obtain⟨p1,p2⟩:=o2 q u e;rw [e] at next;by_cases c:r9[j]=u
    ·rw [p2 c,qj];refine W.ret ⟨fun h=>(by cases h),fun q' u' e'=>?_⟩;cases e';exact⟨fun hh=>by have:=hh _ (List.getElem_mem hj);rw [c] at this;omega,fun _=>rfl⟩
    ·by_cases c2:rk r9[j] < rk u
     ·rw [p1 c2,kQ];exact next fun q' u' e'=>by cases e';exact c
     ·obtain⟨_,u2,_,_⟩:=wG g e
      have hnu:¬u∈r9:=fun hu=>by
       obtain⟨i,hi,rfl⟩:=List.getElem_of_mem hu;have hij:¬i < j:=fun hij=>ha q _ e (by rw [List.mem_take_iff_getElem];exact⟨i,by omega,rfl⟩);have hji:j≠i:=fun e=>c (by subst e;rfl);have:=List.pairwise_iff_getElem.1 hp j i hj hi (by omega);exact c2 this
      have hno:¬∀l∈r9,rk l < rk u:=fun hh=>c2 (hh _ (List.getElem_mem hj));cases o with
      |error x=>
       rw [qj];refine W.ret ⟨fun h=>(by cases h),fun q' u' e'=>?_⟩;cases e';exact⟨fun hh=>absurd hh hno,fun hh=>absurd hh hnu⟩
      |ok x=>
       rw [kQ];exact next fun q' u' e'=>by cases e';exact c
  ·rw [List.take_of_length_le (by omega)] at ha;exact absurd hu (ha q u e)) r9.length k 0 (by omega) ⟨0,rfl,by omega,by omega,fun q u _ h=>by simp at h⟩
theorem Ko(hk:k=3000)(hs:fG k t):∃r,mW k t=some r∧qH k t=some r∧r.1.length < k∧uy k r.2.1:=by
 have hk50:50≤k:=by omega
 have hk30:3000≤k:=by omega
 by_cases c:jY t=0
 ·have g:=s8 c;have h3:=g.trunks;have hk1:=hs.k1;have h:nz k t:=⟨hk50,hs.k1,by have:=g.things;omega,hs.worn⟩;refine⟨_,PS hk h hs c,?_,?_⟩
  ·unfold qH
   have hb:=W.loop (f:=jN k t) (Q:=fun o=>o=match nq t with |none=>(.ok ():SO) |some (q,u)=>.error (u,q,0)) (fun m y=>∃j:Nat,y=(j:Int)∧j≤t.2.2.length+1∧m=t.2.2.length+1 - j∧∀q u,nq t=some (q,u)→j≤u.length) (by
    rintro aS m y ⟨j,hj,hle,hm,ha⟩ ih;subst hj;unfold jN;refine W.ite (fun hlt=>?_) (fun hge=>W.ret ?_)
    ·obtain⟨p1,p2⟩:=FR hk (N:=t.2.2.length) (m:=j) (by omega) (by omega);obtain⟨o,eo,o1,o2⟩:=Ue hk30 h g (r9:=K2 t.2.2.length j) K1 (fun l hl=>(yQ hl).1) p2;rw [p1,bs,eo]
     have next:(∀q u,nq t=some (q,u)→j+1≤u.length)→W ((ck ((j:Int)+1)).bind fun x24=>jN k t aS x24) fun o=>o=match nq t with |none=>(.ok ():SO) |some (q,u)=>.error (u,q,0):=fun hn=>by
      rw [bv (by omega) (by omega),bs];exact ih (m - 1) _ (by omega) ⟨j+1,by omega,by omega,by omega,hn⟩
     cases e:nq t with
     |none=>
      rw [o1 e,kQ];rw [e] at next;exact next fun q u h=>by cases h
     |some b=>
      obtain⟨q,u⟩:=b;obtain⟨q1,q2⟩:=o2 q u e;obtain⟨_,u2,_,u4⟩:=wG g e;have haj:=ha q u e;rw [e] at next;by_cases cj:u.length=j
      ·rw [q2 (by rw [←cj];exact u4),qj];exact W.ret rfl
      ·rw [q1 fun l hl=>(yL (yQ hl).1 u2).1 (by have:=(yQ hl).2;omega),kQ];exact next fun q' u' e'=>by cases e';omega
    ·cases e:nq t with
     |none=>rfl
     |some b=>
      obtain⟨q,u⟩:=b;obtain⟨u1,_,u3,_⟩:=wG g e;have h1:=ha q u e
      have h2:u.length≤t.2.2.length:=by
       rw [u1];unfold fq;rw [List.length_map];refine Nat.le_trans (List.length_filter_le _ _) ?_;rw [List.length_range,u3.len];omega
      omega) (t.2.2.length+1) k 0 (by omega) ⟨0,rfl,by omega,by omega,fun q u _=>by omega⟩
   obtain⟨o,eo,rfl⟩:=hb;rw [yl hs,bs,if_neg (not_not_intro c),eo];cases e:nq t with
   |none=>rfl
   |some b=>obtain⟨q,u⟩:=b;rfl
  ·cases e:nq t with
   |none=>exact⟨by show 0 < k;omega,.nil hk50⟩
   |some b=>
    obtain⟨q,u⟩:=b;obtain⟨_,u2,u3,_⟩:=wG g e;exact⟨by have:=BS u u2;show u.length < k;omega,u3.short hk50⟩
 ·refine⟨([],[],jY t),?_,?_,by show 0 < k;omega,.nil hk50⟩
  ·unfold mW;rw [uv hs,bs,if_pos c]
  ·unfold qH;rw [yl hs,bs,if_pos c]
theorem Gw(hk:k=3000){r9:(List aQ)×(List (List (List Int)))×bW}(h:P2 k r9.1 r9.2.1):dy k r9 k 0=some (.ok ()):=by
 have hk50:50≤k:=by omega
 have hk1:k≤1000000:=by omega
 have hb:=W.loop (f:=dy k r9) (Q:=fun o=>o= .ok ()) (fun q y=>∃j:Nat,y=(j:Int)∧j≤4∧q=4 - j) (by
  rintro aS q y ⟨j,hj,hle,hq⟩ ih;subst hj;unfold dy;rw [h.l1];refine W.ite (fun hlt=>?_) (fun hge=>W.ret rfl)
  have next:W ((ck ((j:Int)+1)).bind fun x33=>dy k r9 aS x33) fun o=>o= .ok ():=by
   rw [bv (by omega) (by omega),bs];exact ih (q - 1) _ (by omega) ⟨j+1,by omega,by omega,by omega⟩
  by_cases c:(j:Int)=2
  ·rw [if_pos c,bs,iT,kQ];exact next
  ·obtain⟨t,p,e1,_,hs⟩:=h.at_ j (by omega);obtain⟨b,eb,_⟩:=Eg (t:=t) hk50;rw [if_neg c,e1,bs,eb,bs,bs];cases b with
   |true=>rw [iT,kQ];exact next
   |false=>
    obtain⟨r,f1,f2,f3,f4⟩:=Ko hk hs.hs;rw [iF,bs,uQ hs.hs,bs,show mW k (t.1,t.2.1,t.2.2)=some r from f1,bs,bs,f2,bs,if_neg (not_not_intro rfl),mZ f3 hk1,bs,nT,yI f4 hk1,bs,nT,bs,show iw k (t.1,t.2.1,t.2.2) t=some true from yH hs.hs,bs,bs,Bool.not_true,iF,kQ];exact next) 4 k 0 (by omega) ⟨0,rfl,by omega,by omega⟩
 obtain⟨o,eo,rfl⟩:=hb;exact eo
theorem vB(hk:k=3000)(hp:kH k=some true)(a0:aQ)(a1:gq)(a2:List Int):k7 k a0 a1 a2=some true:=by
 have hk50:50≤k:=by omega
 have hk1:k≤1000000:=by omega
 unfold k7;obtain⟨b,eb,hb⟩:=Gj (t:=a0) (x:=a1) hk50;rw [eb,bs];cases b with
 |true=>rw [iT,hp,bs]
 |false=>
  obtain⟨g1,g4⟩:=hb rfl;obtain⟨r,er,h1,h2⟩:=CZ hk50 hk1 (g1.small hk50 hk1) (p:=[]) (by simp) (fun l h=>by cases h) g4 (Vr (a:=a2)) (by omega);rw [iF,show m7 k a2=some (a2,0,1) from rfl,bs,er,bs,Gw hk h1,kQ,hp,bs]
end
