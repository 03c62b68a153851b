import Derived.Test.YtcnpijmfgfnpiaaGreatDoorVB11
set_option linter.unusedVariables false
set_option linter.unusedSimpArgs false
namespace Go.Proofs.YtcnpijmfgfnpiaaGreatDoor
open K Go Go.Proofs
def FM(n:Nat):Nat→List (List Int)
 |0=>[[]]
 |m+1=>(FM n m).flatMap fun l=>(List.range n).map fun(i:Nat)=>(i:Int)::l
theorem zE{n:Nat}:∀{l:List Int},(∀x∈l,0≤x∧x < (n:Int))→l∈FM n l.length
 |[],_=>by simp [FM]
 |x::l,h=>by
  have hx:=h x (by simp)
  rw [List.length_cons,FM]
  refine List.mem_flatMap.2 ⟨l,zE fun y hy=>h y (by simp [hy]),List.mem_map.2 ⟨x.toNat,List.mem_range.2 (by omega),?_⟩⟩
  rw [Int.toNat_of_nonneg hx.1]
def LD(n:Nat)(l:List Int):Bool:=match ix 50 l with
 |some s=>match jr 50 50 s with
  |some o=>decide (jw 50 50 l [] (n:Int)=some o) && decide (l∈o) && decide (o.length≤24) && o.all fun x=>x.isPerm l
  |none=>false
 |none=>false
theorem JF:((List.range 5).all fun n=>(List.range (n+1)).all fun m=>(FM n m).all fun l=> !decide l.Nodup || LD n l)=true:=by decide+kernel
theorem Ef{k:Nat}(hk:k=50){n:Nat}(hn:n≤4){l:List Int}(hd:l.Nodup)(hr:∀x∈l,0≤x∧x < (n:Int)):
 ∃s o,ix k l=some s∧jr k k s=some o∧jw k k l [] (n:Int)=some o∧l∈o∧o.length≤24∧∀x∈o,x.Perm l:=by
 subst hk
 have h:=JF
 rw [List.all_eq_true] at h
 have h:=h n (List.mem_range.2 (by omega))
 rw [List.all_eq_true] at h
 have h:=h l.length (List.mem_range.2 (by have:=sK n l hd hr;omega))
 rw [List.all_eq_true] at h
 have h:=h l (zE hr)
 rw [decide_eq_true hd,Bool.not_true,Bool.false_or] at h
 unfold LD at h
 split at h
 ·
  rename_i s hs;split at h
  ·rename_i o ho;simp only [Bool.and_eq_true,decide_eq_true_eq,List.all_eq_true] at h;obtain⟨⟨⟨h1,h2⟩,h3⟩,h4⟩:=h;exact⟨s,o,hs,ho,h1,h2,h3,fun x hx=>List.isPerm_iff.1 (h4 x hx)⟩
  ·cases h
 ·
  cases h
section
variable {k:Nat}
theorem At.next{t:bf}{q:List (List Int)}(h:At k t q){d:Int}:At k t (tf t d q):=⟨h.small,h.dayT,h.good.next.chk (rW h.chk)⟩
def aftF(t:bf)(d:Int)(q:List (List Int)):Nat→List (List Int)
 |0=>q
 |n+1=>tf t (d+n) (aftF t d q n)
theorem At.aftF{t:bf}{q:List (List Int)}(h:At k t q){d:Int}:∀n,At k t (aftF t d q n)
 |0=>h
 |n+1=>(h.aftF n).next
theorem Ai{t:bf}{q:List (List Int)}{d:Int}:∀n,(aftF t d q n).length=q.length
 |0=>rfl
 |n+1=>by rw [Go.Proofs.YtcnpijmfgfnpiaaGreatDoor.aftF,tf,List.length_map,Ai n]
theorem D1{t:bf}{d:Int}{q:List (List Int)}:iW t 0 d q=0:=by
 unfold iW
 induction q with
 |nil=>rfl
 |cons l q ih=>simp only [List.map_cons,List.sum_cons,tU,Nat.zero_add];exact ih
theorem EA{t:bf}{q:List (List Int)}{d:Int}:(pJ t q d).length≤t.2.1.length:=by
 rw [pJ,List.length_map];refine Nat.le_trans (List.length_filter_le _ _) ?_;rw [List.length_range];exact Nat.le_refl _
theorem CC{t:bf}{q:List (List Int)}(h:At k t q){d:Int}(hd:0≤d∧d≤t.1):nb k t q d=some (((iW t (t.1 - d).toNat d q:Nat):Int),true):=by
 have h6:=h.good.g.days;have h5:=h.good.g.things;have hk:=h.dayT.k0;unfold nb
 have hb:=W.loop (f:=jC k t q) (Q:=fun o=>o= .ok ((iW t (t.1 - d).toNat d q:Nat):Int)) (fun m y=>∃(j s:Nat),y.2.2=d+(j:Int)∧d+(j:Int)≤t.1∧m=(t.1 - d).toNat - j∧y.1=(s:Int)∧y.2.1=aftF t d q j∧s+iW t ((t.1 - d).toNat - j) (d+j) (aftF t d q j)=iW t (t.1 - d).toNat d q∧s≤100 * j) (by
  rintro aR m ⟨s',p,y⟩ ⟨j,s,hj,hle,hm,hs,hp,hsum,hsb⟩ ih;simp only at hj hs hp;subst hj hs hp;have ha:=h.aftF (d:=d) j;unfold jC;dsimp only;refine W.ite (fun hlt=>?_) (fun hge=>W.ret ?_)
  ·have hlen:=EA (t:=t) (q:=aftF t d q j) (d:=d+(j:Int));rw [Ol h.dayT h.small ha.chk (d:=d+(j:Int)) ⟨by omega,hlt⟩,bs];dsimp only;rw [if_neg (not_not_intro rfl),List.length_map,Ai,decide_eq_true rfl,Bool.not_true,bs,iF,bj (by omega) (by omega),bs,bj (by omega) (by omega),bs];refine ih (m - 1) _ (by omega) ⟨j+1,s+(pJ t (aftF t d q j) (d+(j:Int))).length,by show d+(j:Int)+1=d+((j+1:Nat):Int);omega,by omega,by omega,by show(s:Int)+_=_;omega,rfl,?_,by omega⟩;have e1:(t.1 - d).toNat - j=((t.1 - d).toNat - (j+1))+1:=by omega
   have e2:d+(j:Int)+1=d+((j+1:Nat):Int):=by omega
   rw [e1,D2,←zH ha.good,e2] at hsum;rw [←hsum,Nat.add_assoc];rfl
  ·have e2:(t.1 - d).toNat - j=0:=by omega
   rw [e2,D1] at hsum;rw [←hsum];rfl) (t.1 - d).toNat k (0,q,d) (by omega) ⟨0,0,by simp,by omega,by omega,rfl,rfl,by simp [aftF],by omega⟩
 obtain⟨o,eo,rfl⟩:=hb;rw [eo,k7]
theorem zR{p:List (List Int)}{w:Nat}(hw:w < p.length){o:List Int}(ho:o.Perm p[w]):(p.set w o).flatten.Perm p.flatten:=by
 induction p generalizing w with
 |nil=>simp at hw
 |cons l p ih=>
  cases w with
  |zero=>simp only [List.set_cons_zero,List.flatten_cons];exact ho.append (List.Perm.refl _)
  |succ w=>simp only [List.set_cons_succ,List.flatten_cons];exact(List.Perm.refl _).append (ih (by simpa using hw) (by simpa using ho))
theorem iJ.set{t:bf}{p:List (List Int)}(h:iJ t p){w:Nat}(hw:w < p.length){o:List Int}(ho:o.Perm p[w]):iJ t (p.set w o):=by
 have hp:=zR hw ho;refine⟨h.g,by rw [List.length_set];exact h.len,hp.nodup_iff.2 h.nd,fun x hx=>h.rng x (hp.mem_iff.1 hx),fun i hi=>hp.mem_iff.2 (h.all i hi),fun i hi=>?_⟩;rw [List.length_set] at hi;rw [List.getElem_set];split
 ·rename_i e;subst e;rw [uw ho];exact h.room w hi
 ·exact h.room i hi
theorem At.set{t:bf}{p:List (List Int)}(h:At k t p){w:Nat}(hw:w < p.length){o:List Int}(ho:o.Perm p[w]):At k t (p.set w o):=⟨h.small,h.dayT,(h.good.set hw ho).chk (rW h.chk)⟩
theorem wO{α:Type}(f:α→Nat):∀l:List α,∃B,∀x∈l,f x≤B
 |[]=>⟨0,fun x hx=>by cases hx⟩
 |y::l=>by
  obtain⟨B,h⟩:=wO f l
  refine⟨B+f y,fun x hx=>?_⟩
  rcases List.mem_cons.1 hx with rfl |hx
  ·
   omega
  ·
   have:=h x hx;omega
def nq(f:List Int→Nat)(b:Option (List Int×Nat))(o:List Int):Option (List Int×Nat):=match b with
 |none=>some (o,f o)
 |some (x,n)=>if f o < n then some (o,f o) else some (x,n)
theorem Ad{f:List Int→Nat}{B:Nat}:∀(l:List (List Int)) (j:Nat) (b:Option (List Int×Nat)),(∀q,b=some q→q.2≤B)→(∀o∈l,f o≤B)→(∀q,nn (fun b _ o=>nq f b o) j l b=some q→q.2≤B∧(∀o∈l,q.2≤f o)∧∀q',b=some q'→q.2≤q'.2)∧(l≠[]∨b≠none→nn (fun b _ o=>nq f b o) j l b≠none)
 |[],j,b,hb,_=>⟨fun q e=>⟨hb q e,by simp,fun q' e'=>by have:=e.symm.trans e';cases this;exact Nat.le_refl _⟩,fun h=>h.elim (fun h=>absurd rfl h) id⟩
 |o::l,j,b,hb,hf=>by
  have ho:=hf o (by simp)
  have hl:∀x∈l,f x≤B:=fun x hx=>hf x (by simp [hx])
  obtain⟨b1,e1,h1,h2,h3⟩:∃b1,nq f b o=some b1∧b1.2≤B∧b1.2≤f o∧∀q',b=some q'→b1.2≤q'.2:=by
   unfold nq;cases b with
   |none=>exact⟨_,rfl,ho,Nat.le_refl _,fun _ e=>by cases e⟩
   |some q=>
    obtain⟨x,n⟩:=q;have hn:=hb _ rfl;dsimp only;by_cases c:f o < n
    ·rw [if_pos c];exact⟨_,rfl,ho,Nat.le_refl _,fun q' e=>by cases e;simp only;omega⟩
    ·rw [if_neg c];exact⟨_,rfl,hn,by simp only;omega,fun q' e=>by cases e;exact Nat.le_refl _⟩
  rw [nn,e1];obtain⟨h4,h5⟩:=Ad l (j+1) (some b1) (fun q e=>by cases e;exact h1) hl;refine⟨fun q e=>?_,fun _=>h5 (.inr (by simp))⟩;obtain⟨a,b',c⟩:=h4 q e;have:=c b1 rfl;refine⟨a,fun x hx=>?_,fun q' e'=>Nat.le_trans this (h3 q' e')⟩;rcases List.mem_cons.1 hx with rfl |hx
  ·exact Nat.le_trans this h2
  ·exact b' x hx
theorem CH{t:bf}{q:List (List Int)}(h:At k t q){d:Int}(hd:0≤d∧d≤t.1){w:Nat}(hw:w < q.length){o:List Int}(ho:o.Perm q[w]):jK k o (t,()) (fR q) (w:Int) d=some ((iW t (t.1 - d).toNat d (q.set w o):Nat):Int):=by
 unfold jK;rw [uY h.dayT.k0 h.good.fit h.good.len,bs,bG hw,bs];show((dn k (q.set w o)).bind _:Option Int)=_;rw [jA h.dayT.k0,bs,xW h (h.good.set hw ho) hd,bs]
theorem Hk{t:bf}{q:List (List Int)}(h:At k t q){d:Int}(hd:0≤d∧d≤t.1){w:Nat}(hw:w < q.length){l:List (List Int)}(hlen:l.length≤24)(hl:∀o∈l,o.Perm q[w]){x:List Int}{n:Nat}
 (hb:nn (fun b _ o=>nq (fun o=>iW t (t.1 - d).toNat d (q.set w o)) b o) 0 l none=some (x,n)):ir k (t,()) (fR q) (w:Int) d l=some (x,(n:Int),true):=by
 have hk:=h.dayT.k0
 unfold ir
 have:=rQ (f:=co k (t,()) (fR q) (w:Int) d l) l (fun(b:Option (List Int×Nat)) j=>match b with |none=>([],0,false,j) |some (x,n)=>(x,(n:Int),true,j))
  (fun b _ o=>nq (fun o=>iW t (t.1 - d).toNat d (q.set w o)) b o) (fun _ _=>True) (fun b=>match b with |none=>some ([],0,false) |some (x,n)=>some (x,(n:Int),true))
  (fun m b j hj _=>by
   refine⟨?_,trivial⟩;cases b with
   |none=>
    dsimp only;rw [co];dsimp only;rw [if_pos (Int.ofNat_lt.2 hj),bG hj,bs,CH h hd hw (hl _ (List.getElem_mem hj)),bs,nF,bs,iT,bs,bj (by omega) (by omega),bs];rfl
   |some b=>
    obtain⟨x,n⟩:=b;dsimp only;rw [co];dsimp only;rw [if_pos (Int.ofNat_lt.2 hj),bG hj,bs,CH h hd hw (hl _ (List.getElem_mem hj)),bs,nT,bs];unfold nq;by_cases c:iW t (t.1 - d).toNat d (q.set w l[j]) < n
    ·rw [decide_eq_true (Int.ofNat_lt.2 c),iT,bs,bj (by omega) (by omega),bs];simp only [c,if_true]
    ·rw [decide_eq_false (fun h=>c (Int.ofNat_lt.1 h)),iF,bs,bj (by omega) (by omega),bs];simp only [c,if_false])
  (fun m b _=>by
   cases b with
   |none=>dsimp only;rw [co];dsimp only;rw [if_neg (by omega)]
   |some b=>obtain⟨x,n⟩:=b;dsimp only;rw [co];dsimp only;rw [if_neg (by omega)]) (s0:=none) (n:=k) (by omega) trivial
 obtain⟨h1,_⟩:=this
 rw [hb] at h1
 rw [show co k (t,()) (fR q) (w:Int) d l k ([],0,false,0)=_ from h1,bs]
theorem EB{r3:a8×(List (List Int))×Bool×bB}{r10 r11:Int×bB}{r12:(List (List Int))×Int}{q:List (List Int)}(hq:r12.1=q)(h:At k r3.1 q)(hd:0≤r11.1∧r11.1≤r3.1.1){w:Nat}(hw:w < q.length)(e10:r10.1=(w:Int)){l:List (List Int)}(hlen:l.length≤24)(hl:∀o∈l,o.Perm q[w]){x:List Int}{n:Nat}
 (hb:nn (fun b _ o=>nq (fun o=>iW r3.1 (r3.1.1 - r11.1).toNat r11.1 (q.set w o)) b o) 0 l none=some (x,n)):bY k r3 r10 r11 r12 l k ([], -1,0)=some (.ok (x,(n:Int))):=by
 have hk:=h.dayT.k0
 have hcp:dD k q=some q:=by
  unfold dD
  have hb:=W.loop (f:=cC k q) (Q:=fun o=>o=q) (fun m y=>∃j:Nat,y.2=(j:Int)∧j≤q.length∧m=q.length - j∧y.1=q.take j) (by
   rintro aR m ⟨o,y⟩ ⟨j,hj,hle,hm,ho⟩ ih;simp only at hj ho;subst hj ho;have h3:=h.good.fit.len;unfold cC;dsimp only;refine W.ite (fun hlt=>?_) (fun hge=>W.ret ?_)
   ·have hj:j < q.length:=by omega
    have hf:=(h.good.fit.fit _ (List.getElem_mem hj)).1
    have hc:g7 k q[j]=some q[j]:=by
     unfold g7;rw [dc (LE (by simp only [List.length_nil];omega)),bs];rfl
    rw [bG hj,bs,hc,bs,dc (LE (by simp only [List.length_take,List.length_cons,List.length_nil];omega)),bs,bj (by omega) (by omega),bs];refine ih (m - 1) (_,(j:Int)+1) (by omega) ⟨j+1,by show(j:Int)+1=((j+1:Nat):Int);omega,by omega,by omega,?_⟩;rw [List.take_add_one,List.getElem?_eq_getElem hj];rfl
   ·rw [List.take_of_length_le (by omega)]) q.length k ([],0) (by have:=h.good.fit.len;omega) ⟨0,rfl,by omega,by omega,by simp⟩
  obtain⟨o,eo,rfl⟩:=hb;rw [eo,bs]
 have:=rQ (f:=bY k r3 r10 r11 r12 l) l (fun(b:Option (List Int×Nat)) j=>match b with |none=>([], -1,j) |some (x,n)=>(x,(n:Int),j))
  (fun b _ o=>nq (fun o=>iW r3.1 (r3.1.1 - r11.1).toNat r11.1 (q.set w o)) b o) (fun _ _=>True) (fun b=>match b with |none=>some (.ok ([], -1)) |some (x,n)=>some (.ok (x,(n:Int))))
  (fun m b j hj _=>by
   refine⟨?_,trivial⟩;have hr:=CC (h.set hw (hl _ (List.getElem_mem hj))) hd;have ew:Int.toNat (w:Int)=w:=rfl;cases b with
   |none=>
    dsimp only;rw [bY];dsimp only;rw [if_pos (Int.ofNat_lt.2 hj),hq,hcp,bs,bG hj,bs,e10,bG hw,bs,ew,hr,bs,nT,if_pos (show(-1:Int) < 0 by decide),bs,iT,bs,k7,bj (by omega) (by omega),bs];rfl
   |some b=>
    obtain⟨x,n⟩:=b;dsimp only;rw [bY];dsimp only;rw [if_pos (Int.ofNat_lt.2 hj),hq,hcp,bs,bG hj,bs,e10,bG hw,bs,ew,hr,bs,nT,if_neg (show¬(n:Int) < 0 by omega),bs];unfold nq;by_cases c:iW r3.1 (r3.1.1 - r11.1).toNat r11.1 (q.set w l[j]) < n
    ·rw [decide_eq_true (Int.ofNat_lt.2 c),iT,bs,k7,bj (by omega) (by omega),bs];simp only [c,if_true]
    ·rw [decide_eq_false (fun h=>c (Int.ofNat_lt.1 h)),iF,k7,bj (by omega) (by omega),bs];simp only [c,if_false])
  (fun m b _=>by
   cases b with
   |none=>dsimp only;rw [bY];dsimp only;rw [if_neg (by omega)]
   |some b=>obtain⟨x,n⟩:=b;dsimp only;rw [bY];dsimp only;rw [if_neg (by omega)]) (s0:=none) (n:=k) (by omega) trivial
 obtain⟨h1,_⟩:=this
 rw [hb] at h1
 exact h1
theorem sq(hk:k=50)(hp:fp k=some true)(a0:List Int):jo k a0=some true:=by
 have hk50:50≤k:=by omega
 have hk1:k≤1000000:=by omega
 unfold jo;rw [show jD k a0=some (a0,0,1) from rfl,bs];obtain⟨r3,e3,hg,his,hlo⟩:=Ci hk50 hk1 (l:=(a0,0,1)) (m:=0) ⟨by simp,by simp⟩ (by decide) (a:=4) (by decide);rw [show kK k (a0,0,1) 4=some r3 from e3,bs,his];by_cases c:iQ r3.1 r3.2.1=0
 ·rw [decide_eq_true c,nT];have h:At k r3.1 r3.2.1:=hg.at hk50 hk1 (by decide) c;have h6:=h.good.g.days;have h3:=h.good.g.trunks;have h4:=hg.kit.things;obtain⟨r10,e10,a1,a2,a3⟩:=nz (k:=k) (n:=(r3.1.2.2.length:Int) - 1) hlo (by omega) (by omega);have a2:=a2 (by omega);obtain⟨r11,e11,b1,b2,_⟩:=nz (k:=k) (n:=r3.1.1) a3 (by omega) (by omega);have b2:=b2 (by omega);obtain⟨w,hw⟩:=Int.eq_ofNat_of_zero_le a1;obtain⟨D,hD⟩:=Int.eq_ofNat_of_zero_le b1;have hA:=h.aft D;have hql:=hA.good.len;have hwq:w < (nU r3.1 r3.2.1 D).length:=by omega
  rw [bj (by omega) (by omega),bs,show cz k (r3.2.2.2.1,r3.2.2.2.2.1,r3.2.2.2.2.2) ((r3.1.2.2.length:Int) - 1)=some r10 from e10,bs,
   show cz k (r10.2.1,r10.2.2.1,r10.2.2.2) r3.1.1=some r11 from e11,bs,hD,I9 h (by omega),bs]
  dsimp only;rw [if_neg (not_not_intro rfl),hA.okR,bs,decide_eq_true rfl,Bool.not_true,bs,iF,CC hA (d:=(D:Int)) (by omega),bs];have hnd:(nU r3.1 r3.2.1 D)[w].Nodup:=(List.pairwise_flatten.1 hA.good.nd).1 _ (List.getElem_mem hwq);have hrg:∀x∈(nU r3.1 r3.2.1 D)[w],0≤x∧x < (r3.1.2.1.length:Int):=fun x hx=>hA.good.rng x (List.mem_flatten.2 ⟨_,List.getElem_mem hwq,hx⟩);obtain⟨s,o,s1,s2,s3,s4,s5,s6⟩:=Ef hk (n:=r3.1.2.1.length) (by omega) hnd hrg
  obtain⟨B,hB⟩:∃B,∀x∈o,iW r3.1 (r3.1.1 - (D:Int)).toNat D ((nU r3.1 r3.2.1 D).set w x)≤B:=
   wO _ _
  obtain⟨f1,f2⟩:=Ad (f:=fun x=>iW r3.1 (r3.1.1 - (D:Int)).toNat D ((nU r3.1 r3.2.1 D).set w x)) o 0 none (fun q e=>by cases e) hB;have f2:=f2 (.inl (List.ne_nil_of_mem s4));cases eb:nn (fun b _ x=>nq (fun x=>iW r3.1 (r3.1.1 - (D:Int)).toNat D ((nU r3.1 r3.2.1 D).set w x)) b x) 0 o none with
  |none=>exact absurd eb f2
  |some b=>
   obtain⟨x,n⟩:=b;obtain⟨_,g2,_⟩:=f1 _ eb;have g3:=g2 _ s4;rw [List.set_getElem_self] at g3
   have hR:j8 k r3.1 r3.2.1 (w:Int) (D:Int)=some (x,(n:Int),0):=by
    unfold j8;have eg:(nU r3.1 r3.2.1 D)[w]?.getD []=(nU r3.1 r3.2.1 D)[w]:=by rw [List.getElem?_eq_getElem hwq];rfl
    have hl:=t8 hk50 (p:=nU r3.1 r3.2.1 D) (i:=w) (by omega) (hA.good.fit.fitL w);rw [eg] at hl
    rw [h.ok,bs,if_neg (not_not_intro rfl),bj (by omega) (by omega),bs,iK,bs,decide_eq_true (show 0≤(w:Int)∧(w:Int)≤(r3.1.2.2.length:Int) - 1 by omega),nT,iK,bs,decide_eq_true (show 0≤(D:Int)∧(D:Int)≤r3.1.1 by omega),Bool.not_true,bs,iF,
     jA hk50,bs,vq h.dayT h.good (by omega),bs,hl,bs,s1,bs,s2,bs,Hk hA (d:=(D:Int)) (by omega) hwq s5 s6 eb,bs]
   rw [hw,hR,bs];dsimp only;have hll:=EB (k:=k) (r3:=r3) (r10:=r10) (r11:=r11) (r12:=(nU r3.1 r3.2.1 D,0)) rfl hA (by omega) hwq hw s5 s6 (by rw [hD];exact eb);rw [nT,if_neg (not_not_intro rfl),bs,decide_eq_false (show¬(((iW r3.1 (r3.1.1 - (D:Int)).toNat D (nU r3.1 r3.2.1 D):Nat):Int) < (n:Int)) by simp only at g3;omega),iF,bG hwq,bs,s3,bs,hll,k7];dsimp only
   have hx:x.length < k:=by
    have hm:∀(l:List (List Int)) (j:Nat) (b:Option (List Int×Nat)),(∀q,b=some q→q.1.length≤8)→(∀y∈l,y.length≤8)→∀q,nn (fun b _ x=>nq (fun x=>iW r3.1 (r3.1.1 - (D:Int)).toNat D ((nU r3.1 r3.2.1 D).set w x)) b x) j l b=some q→q.1.length≤8:=by
     intro l
     induction l with
     |nil=>intro j b hb _ q e;exact hb q e
     |cons y l ih=>
      intro j b hb hl q e;rw [nn] at e;refine ih (j+1) _ (fun q' e'=>?_) (fun z hz=>hl z (by simp [hz])) q e;unfold nq at e';cases b with
      |none=>cases e';exact hl y (by simp)
      |some b'=>
       obtain⟨bx,bn⟩:=b';dsimp only at e';split at e'
       ·cases e';exact hl y (by simp)
       ·cases e';exact hb _ rfl
    have:=hm o 0 none (fun q e=>by cases e) (fun y hy=>by have:=(s6 y hy).length_eq;have:=(hA.good.fit.fit _ (List.getElem_mem hwq)).1;omega) _ eb;simp only at this;omega
   rw [if_pos rfl,yX hx (by omega),bs,decide_eq_true rfl,iT,hp,bs,bs]
 ·rw [decide_eq_false c,nF,hg.checkP hk50 hk1 (by decide),bs,if_pos c,hp,bs,bs]
end
end Go.Proofs.YtcnpijmfgfnpiaaGreatDoor
