import Derived.Test.YtcnpijmfgfnpiaaGreatDoorXZNumberedL
set_option linter.unusedSimpArgs false
set_option linter.unusedVariables false
namespace Go.Proofs.YtcnpijmfgfnpiaaGreatDoor
open K Go Go.Proofs
theorem GR{t:aL}{q:List (List Int)}(h:dH t q):q∈ow t:=by
 have h5:=h.g.things;have h3:=h.g.trunks;have hm:pK t.2.1.length q.flatten:=⟨h.nd,h.rng⟩;refine List.mem_filter.2 ⟨(zf (by omega)).2 ⟨h.len,hm,hm.full.2 h.all⟩,ib.2 fun i hi=>?_⟩;rw [List.getElem?_eq_getElem hi,Option.getD_some];exact h.room i hi
def vu(t:aL):Int×Bool×Bool:=match uM t with
 |none=>(0,false,true)
 |some (_,n)=>((n:Int),true,true)
theorem xE{t t':aL}(g:iE t)(f:∀q,dH t q→∃q',dH t' q'∧dN t' q'≤dN t q):(vu t').2.2=true∧((vu t).2.1=true→(vu t').2.1=true∧¬(vu t).1 < (vu t').1):=by
 have b:=uL (t:=t);have b':=uL (t:=t');unfold vu;constructor
 ·split <;> rfl
 cases e:uM t with
 |none=>intro h;cases h
 |some x=>
  obtain⟨q,n⟩:=x;rw [e] at b;obtain⟨b1,b2,p,s,b3,_⟩:=b;obtain⟨q',h1,h2⟩:=f q (sJ g (by rw [b3];simp));have hm:=GR h1;cases e':uM t' with
  |none=>
   rw [e'] at b';have b'':ow t'=[]:=b';rw [b''] at hm;cases hm
  |some y=>
   obtain⟨z,m⟩:=y;rw [e'] at b';have:=b'.2.1 q' hm;intro _;exact⟨rfl,by show¬(n:Int) < (m:Int);omega⟩
theorem EI{t t':aL}(h:t'.2.1=t.2.1){d:Int}:mK t' d=mK t d:=by
 funext n;unfold mK;rw [h]
theorem vI{t t':aL}(h:t'.2.1=t.2.1):∀(n:Nat) (d:Int) (l:List Int),iZ t' n d l=iZ t n d l
 |0,_,_=>rfl
 |n+1,d,l=>by rw [iZ,iZ,EI h,vI h n]
theorem yy{t t':aL}(h:t'.2.1=t.2.1){x:Int}:bV t' x=bV t x:=by unfold bV;rw [h]
theorem pW{t t':aL}(h:t'.2.1=t.2.1):∀{l:List Int},bK t' l=bK t l
 |[]=>rfl
 |x::l=>by rw [bK,bK,yy h,pW h]
theorem vB{t t':aL}(h:t'.2.1=t.2.1){n:Nat}{d:Int}{q:List (List Int)}:nJ t' n d q=nJ t n d q:=by
 unfold nJ;congr 1;exact List.map_congr_left fun l _=>vI h n d l
theorem yA{t:aL}:∀(n:Nat) (d:Int),iZ t n d []=0
 |0,_=>rfl
 |n+1,d=>by rw [iZ,IB,yA n];rfl
theorem IO{t:aL}{c:Int}(hc:0≤c)(g':iE (t.1,t.2.1,t.2.2++[c])){q:List (List Int)}(h:dH t q):dH (t.1,t.2.1,t.2.2++[c]) (q++[[]])∧dN (t.1,t.2.1,t.2.2++[c]) (q++[[]])≤dN t q:=by
 have hf:(q++[[]]).flatten=q.flatten:=by simp
 have hl:=h.len;refine⟨⟨g',by show(q++[[]]).length=(t.2.2++[c]).length;rw [List.length_append,List.length_append,hl];rfl,by rw [hf];exact h.nd,by rw [hf];exact h.rng,by rw [hf];exact h.all,fun i hi=>?_⟩,?_⟩
 ·rw [pW (t:=t) (t':=(t.1,t.2.1,t.2.2++[c])) rfl];show _≤(t.2.2++[c])[i]?.getD 0;rcases Nat.lt_or_ge i q.length with hq |hq
  ·rw [List.getElem_append_left hq,List.getElem?_append_left (by omega)];exact h.room i hq
  ·have e:i=q.length:=by simp only [List.length_append,List.length_cons,List.length_nil] at hi;omega
   subst e;simp [hl,bK,hc]
 ·unfold dN;rw [vB (t:=t) (t':=(t.1,t.2.1,t.2.2++[c])) rfl];unfold nJ;rw [List.map_append,List.sum_append,List.map_cons,yA];exact Nat.le_refl _
theorem EM{t:aL}{i:Nat}{c:Int}(hi:i < t.2.2.length)(hc:t.2.2[i]≤c)(g':iE (t.1,t.2.1,t.2.2.set i c)){q:List (List Int)}(h:dH t q):dH (t.1,t.2.1,t.2.2.set i c) q∧dN (t.1,t.2.1,t.2.2.set i c) q≤dN t q:=by
 refine⟨⟨g',by show q.length=(t.2.2.set i c).length;rw [List.length_set,h.len],h.nd,h.rng,h.all,fun j hj=>?_⟩,Nat.le_of_eq (vB (t:=t) (t':=(t.1,t.2.1,t.2.2.set i c)) rfl)⟩;rw [pW (t:=t) (t':=(t.1,t.2.1,t.2.2.set i c)) rfl];show _≤(t.2.2.set i c)[j]?.getD 0;have:=h.room j hj;by_cases e:i=j
 ·subst e;rw [List.getElem?_set_self hi,Option.getD_some];rw [List.getElem?_eq_getElem hi,Option.getD_some] at this;omega
 ·rw [List.getElem?_set_ne e];exact this
section
variable {w w':Int→Bool}{p:Int→Bool}{f:Int→Int}
def uU(p:Int→Bool)(f:Int→Int)(l:List Int):List Int:=(l.filter p).map f
theorem nY{x:Int}{l:List Int}:uU p f (x::l)=if p x then f x::uU p f l else uU p f l:=by
 unfold uU;rw [List.filter_cons];split <;> rfl
theorem sj{v v':Int→Bool}:∀{l:List Int},(∀x∈l,p x=true→v' (f x)=v x)→(uU p f l).filter v'=uU p f (l.filter v)
 |[],_=>rfl
 |x::l,h=>by
  have ih:=sj (l:=l) fun y hy=>h y (by simp [hy])
  rw [nY]
  by_cases c:p x=true
  ·
   rw [if_pos c,List.filter_cons,h x (by simp) c,ih,List.filter_cons]
   split
   ·
    rw [nY,if_pos c]
   ·
    rfl
  ·
   rw [if_neg c,ih,List.filter_cons]
   split
   ·
    rw [nY,if_neg c]
   ·
    rfl
theorem Gt{a b:List Int}:uU p f (a++b)=uU p f a++uU p f b:=by unfold uU;rw [List.filter_append,List.map_append]
theorem N8{l:List Int}(h:∀x∈l,p x=true→w' (f x)=w x):ya w' (uU p f l)=uU p f (ya w l):=by
 unfold ya;rw [Gt,sj (v:=fun n=> !w n) (v':=fun n=> !w' n) (fun x hx hp=>by rw [h x hx hp]),sj h]
theorem BP:∀{l:List Int} {u u':Bool},(u=true→u'=true)→(∀x∈l,p x=true→w' (f x)=w x)→(fi w' u (uU p f l)).length≤(fi w u' l).length
 |[],_,_,_,_=>Nat.le_refl _
 |x::l,u,u',hu,h=>by
  have hl:∀y∈l,p y=true→w' (f y)=w y:=fun y hy=>h y (by simp [hy])
  have mono:∀{v v':Bool},(v=true→v'=true)→(fi w' v (uU p f l)).length≤(fi w v' l).length:=fun hv=>BP hv hl
  rw [nY,fi]
  by_cases c:p x=true
  ·
   rw [if_pos c,fi,h x (by simp) c]
   by_cases cw:w x=true
   ·
    rw [if_pos cw,if_pos cw];exact mono fun _=>rfl
   ·
    rw [if_neg cw,if_neg cw]
    cases u with
    |true=>rw [hu rfl,if_pos rfl,if_pos rfl];simp only [List.length_cons];have:=mono (v:=true) (v':=true) (fun _=>rfl);omega
    |false=>
     rw [if_neg (by simp)]
     have:=mono (v:=false) (v':=u') (fun h=>nomatch h)
     split
     ·
      simp only [List.length_cons];omega
     ·
      exact this
  ·
   rw [if_neg c]
   split
   ·
    exact mono fun _=>rfl
   ·
    split
    ·
     simp only [List.length_cons];have:=mono hu;omega
    ·
     exact mono hu
end
theorem Gs{t t':aL}{p:Int→Bool}{f:Int→Int}(hw:∀x,0≤x∧x < (t.2.1.length:Int)→p x=true→∀d,mK t' d (f x)=mK t d x):∀(n:Nat) (d:Int) (l:List Int),(∀x∈l,0≤x∧x < (t.2.1.length:Int))→iZ t' n d (uU p f l)≤iZ t n d l
 |0,_,_,_=>Nat.le_refl _
 |n+1,d,l,hl=>by
  have h:∀x∈l,p x=true→mK t' d (f x)=mK t d x:=fun x hx hp=>hw x (hl x hx) hp d
  rw [iZ,iZ,N8 h]
  have h1:=BP (w:=mK t d) (w':=mK t' d) (l:=l) (u:=false) (u':=false) (fun h=>h) h
  have h2:=Gs hw n (d+1) (ya (mK t d) l) fun x hx=>hl x (ji.mem_iff.1 hx)
  omega
theorem tB{p:Int→Bool}{f:Int→Int}:∀{q:List (List Int)},(q.map (uU p f)).flatten=uU p f q.flatten
 |[]=>rfl
 |l::q=>by rw [List.map_cons,List.flatten_cons,List.flatten_cons,Gt,tB]
def lK(t:aL)(j:Nat):aL:=(t.1,(t.2.1.set j (t.2.1[t.2.1.length - 1]?.getD (0,[]))).take (t.2.1.length - 1),t.2.2)
def nZ(m j:Nat)(x:Int):Int:=if x=(m:Int) - 1 then(j:Int) else x
theorem xk{t:aL}{j:Nat}(hj:j < t.2.1.length){x:Int}(hx:0≤x∧x < (t.2.1.length:Int))(hn:x≠(j:Int)):(lK t j).2.1[(nZ t.2.1.length j x).toNat]? =t.2.1[x.toNat]? ∧0≤nZ t.2.1.length j x∧nZ t.2.1.length j x < (t.2.1.length:Int) - 1:=by
 unfold nZ lK;dsimp only;by_cases e:x=(t.2.1.length:Int) - 1
 ·have hj':j < t.2.1.length - 1:=by omega
  rw [if_pos e,Int.toNat_natCast,List.getElem?_take_of_lt hj',List.getElem?_set_self hj,show x.toNat=t.2.1.length - 1 by omega];rw [List.getElem?_eq_getElem (by omega),Option.getD_some];exact⟨rfl,by omega,by omega⟩
 ·rw [if_neg e,List.getElem?_take_of_lt (by omega),List.getElem?_set_ne (by omega)];exact⟨rfl,by omega,by omega⟩
theorem ut{t:aL}{j:Nat}:(lK t j).2.1.length=t.2.1.length - 1:=by
 unfold lK;dsimp only;rw [List.length_take,List.length_set];omega
theorem IR{t:aL}{j:Nat}(hj:j < t.2.1.length)(g':iE (lK t j)){q:List (List Int)}(h:dH t q):∃q',dH (lK t j) q'∧dN (lK t j) q'≤dN t q:=by
 have hp:∀{x:Int},(decide (x≠(j:Int)))=true→x≠(j:Int):=fun h=>of_decide_eq_true h
 have hwn:∀x,0≤x∧x < (t.2.1.length:Int)→(fun y=>decide (y≠(j:Int))) x=true→∀d,mK (lK t j) d (nZ t.2.1.length j x)=mK t d x:=fun x hx hpx d=>by
  unfold mK;rw [(xk hj hx (hp hpx)).1]
 have hsz:∀x,0≤x∧x < (t.2.1.length:Int)→x≠(j:Int)→bV (lK t j) (nZ t.2.1.length j x)=bV t x:=fun x hx hpx=>by
  unfold bV;rw [(xk hj hx hpx).1]
 refine⟨q.map (uU (fun x=>decide (x≠(j:Int))) (nZ t.2.1.length j)),⟨g',by rw [List.length_map];exact h.len,?_,?_,?_,?_⟩,?_⟩
 ·rw [tB];unfold uU;refine List.Pairwise.map _ (R:=fun a b=>a≠b∧(a≠(j:Int)∧0≤a∧a < (t.2.1.length:Int))∧b≠(j:Int)∧0≤b∧b < (t.2.1.length:Int)) (fun a b hab e=>?_) ?_
  ·obtain⟨h1,⟨h2,h3⟩,h4,h5⟩:=hab;unfold nZ at e;split at e <;> split at e <;> omega
  ·have hq:∀x∈q.flatten.filter (fun x=>decide (x≠(j:Int))),x≠(j:Int)∧0≤x∧x < (t.2.1.length:Int):=fun x hx=>by
    obtain⟨a,b⟩:=List.mem_filter.1 hx;exact⟨hp b,h.rng x a⟩
   have hnd:=h.nd.filter (fun x=>decide (x≠(j:Int)));generalize q.flatten.filter (fun x=>decide (x≠(j:Int)))=L at hq hnd
   induction L with
   |nil=>exact List.Pairwise.nil
   |cons a L ih=>
    obtain⟨n1,n2⟩:=List.nodup_cons.1 hnd;refine List.Pairwise.cons (fun b hb=>⟨fun e=>n1 (e▸hb),hq a (by simp),hq b (by simp [hb])⟩) (ih (fun x hx=>hq x (by simp [hx])) n2)
 ·rw [tB];intro x hx;unfold uU at hx;obtain⟨y,hy,rfl⟩:=List.mem_map.1 hx;obtain⟨a,b⟩:=List.mem_filter.1 hy;have:=(xk hj (h.rng y a) (hp b)).2;rw [ut];omega
 ·rw [tB,ut];intro i hi;unfold uU;by_cases e:i=j
  ·refine List.mem_map.2 ⟨((t.2.1.length - 1:Nat):Int),List.mem_filter.2 ⟨h.all _ (by omega),decide_eq_true (by omega)⟩,?_⟩;unfold nZ;rw [if_pos (by omega),e]
  ·refine List.mem_map.2 ⟨(i:Int),List.mem_filter.2 ⟨h.all _ (by omega),decide_eq_true (by omega)⟩,?_⟩;unfold nZ;rw [if_neg (by omega)]
 ·intro i hi;rw [List.length_map] at hi;rw [List.getElem_map];have hr:=h.room i hi;have hx:∀x∈q[i],0≤x∧x < (t.2.1.length:Int):=fun x hx=>h.rng x (List.mem_flatten.2 ⟨_,List.getElem_mem hi,hx⟩)
  have:∀(l:List Int),(∀x∈l,0≤x∧x < (t.2.1.length:Int))→bK (lK t j) (uU (fun x=>decide (x≠(j:Int))) (nZ t.2.1.length j) l)≤bK t l:=by
   intro l
   induction l with
   |nil=>intro _;exact Int.le_refl _
   |cons x l ih=>
    intro hl;have h1:=ih fun y hy=>hl y (by simp [hy]);have h2:=mU h.g (x:=x);rw [nY,bK];split
    ·rename_i hpx;rw [bK,hsz x (hl x (by simp)) (hp hpx)];omega
    ·omega
  exact Int.le_trans (this _ hx) hr
 ·unfold dN nJ;show(List.map (iZ (lK t j) t.1.toNat 0) _).sum≤_;have hq:∀l∈q,∀x∈l,0≤x∧x < (t.2.1.length:Int):=fun l hl x hx=>h.rng x (List.mem_flatten.2 ⟨l,hl,hx⟩);clear h
  induction q with
  |nil=>exact Nat.le_refl _
  |cons l q ih=>
   simp only [List.map_cons,List.sum_cons];have h1:=Gs hwn t.1.toNat 0 l (hq l (by simp));have h2:=ih fun l hl=>hq l (by simp [hl]);omega
def eH(t:aL)(D:Int):aL:=(D,t.2.1.map (fun x=>(x.1,x.2.filter fun d=>decide (d < D))),t.2.2)
theorem E9{t:aL}{D d x:Int}(hd:d < D):mK (eH t D) d x=mK t d x:=by
 unfold mK eH;dsimp only;rw [List.getElem?_map];cases t.2.1[x.toNat]? with
 |none=>rfl
 |some y=>simp [List.mem_filter,hd]
theorem vG{t:aL}{D:Int}:∀(n m:Nat) (d:Int) (l:List Int),d+(n:Int)≤D→n≤m→iZ (eH t D) n d l≤iZ t m d l
 |0,_,_,_,_,_=>Nat.zero_le _
 |n+1,0,_,_,_,h=>by omega
 |n+1,m+1,d,l,hd,h=>by
  have e:mK (eH t D) d=mK t d:=funext fun x=>E9 (t:=t) (D:=D) (d:=d) (x:=x) (by omega)
  rw [iZ,iZ,e]
  have:=vG (t:=t) (D:=D) n m (d+1) (ya (mK t d) l) (by omega) (by omega)
  omega
theorem Fa{t:aL}{D:Int}(hD:1≤D∧D≤t.1)(g':iE (eH t D)){q:List (List Int)}(h:dH t q):dH (eH t D) q∧dN (eH t D) q≤dN t q:=by
 have hl:(eH t D).2.1.length=t.2.1.length:=by unfold eH;dsimp only;rw [List.length_map]
 have hs:∀(l:List Int),bK (eH t D) l=bK t l:=by
  intro l
  induction l with
  |nil=>rfl
  |cons x l ih=>
   have e:bV (eH t D) x=bV t x:=by
    unfold bV eH;dsimp only;rw [List.getElem?_map];cases t.2.1[x.toNat]? <;> rfl
   rw [bK,bK,e,ih]
 refine⟨⟨g',h.len,h.nd,fun x hx=>by rw [hl];exact h.rng x hx,fun i hi=>h.all i (by rw [hl] at hi;exact hi),fun i hi=>by rw [hs];exact h.room i hi⟩,?_⟩;unfold dN nJ;show(List.map (iZ (eH t D) D.toNat 0) q).sum≤_;clear h
 induction q with
 |nil=>exact Nat.le_refl _
 |cons l q ih=>
  simp only [List.map_cons,List.sum_cons];have e1:(0:Int)+(D.toNat:Int)≤D:=by omega
  have e2:D.toNat≤t.1.toNat:=by omega
  have:=vG (t:=t) (D:=D) D.toNat t.1.toNat 0 l e1 e2;have h2:=ih;omega
section
variable {k:Nat}
theorem lg{t:aL}{a b:Int}(hk:3000≤k)(hk1:k≤1000000)(ht:sL t a b)(ha:a≤5)(hb:b≤3):iP k t=some (vu t):=by
 have hT:=ht.chk ha hb;have hs:lj k t:=⟨hk1,by have:=ht.things;omega,fun x hx=>by have:=ht.item x hx;omega,by have:=ht.trunks;omega⟩;have hd:vy k t:=⟨by omega,hk1,by have:=ht.things;omega,hs.worn⟩;unfold iP vu;rw [J7 hd hs hk hT,bs];cases uM t with
 |none=>rfl
 |some x=>rfl
theorem Dm(hk1:k≤1000000)(hk:50≤k){r5:Int×Bool×Bool}{r6 r9 r12 r15:bh}{r30 r35 r37:Int×cd}{x39:List dF}{x50:Int}{x51:List dF}
 (h:∀x∈[(r6.1,r6.2.1,r6.2.2++[r30.1]),(r9.1,r9.2.1,List.set r9.2.2 (Int.toNat r35.1) r37.1),(r12.1,x39,r12.2.2),(gw (1:Int) x50,x51,r15.2.2)],∃v,iP k x=some v∧v.2.2=true∧(r5.2.1=true→v.2.1=true∧¬r5.1 < v.1)):
 dq k r5 r6 r9 r12 r15 r30 r35 r37 x39 x50 x51 k 0=some (.ok ()):=by
 have hb:=W.loop (f:=dq k r5 r6 r9 r12 r15 r30 r35 r37 x39 x50 x51) (Q:=fun o=>o= .ok ()) (fun q y=>∃j:Nat,y=(j:Int)∧j≤4∧q=4 - j) (by
  rintro aM q y ⟨j,hj,hle,hq⟩ ih;subst hj;unfold dq;have hL:[(r6.1,r6.2.1,r6.2.2++[r30.1]),(r9.1,r9.2.1,List.set r9.2.2 (Int.toNat r35.1) r37.1),(r12.1,x39,r12.2.2),(gw (1:Int) x50,x51,r15.2.2)].length=4:=rfl;generalize [(r6.1,r6.2.1,r6.2.2++[r30.1]),(r9.1,r9.2.1,List.set r9.2.2 (Int.toNat r35.1) r37.1),(r12.1,x39,r12.2.2),(gw (1:Int) x50,x51,r15.2.2)]=L at h hL;refine W.ite (fun hlt=>?_) (fun hge=>W.ret rfl);have hj:j < L.length:=by omega
  obtain⟨v,e1,e2,e3⟩:=h _ (List.getElem_mem hj)
  have ec:(if¬(v.2.2=true) then some true else(if r5.2.1=true then(if¬(v.2.1=true) then some true else some (decide (r5.1 < v.1))) else some false):Option Bool)=some false:=by
   rw [if_neg (not_not_intro e2)];by_cases c:r5.2.1=true
   ·obtain⟨a1,a2⟩:=e3 c;rw [if_pos c,if_neg (not_not_intro a1),decide_eq_false a2]
   ·rw [if_neg c]
  rw [dT hj,bs,e1,bs,ec,bs,iF,cT (by omega) (by omega),bs];exact ih (q - 1) _ (by omega) ⟨j+1,by omega,by omega,by omega⟩) 4 k 0 (by omega) ⟨0,rfl,by omega,by omega⟩
 obtain⟨o,eo,h⟩:=hb
 rw [eo,h]
theorem C0(hk1:k≤1000000){r3:bh×cd}{x50:Int}{y:(List dF)×Int}{x:dF}(hg:bv r3.1.2.1 y.2=some x)(hx:x.2.length < k)(hx1:x.2.length≤1000):
 cX k r3 x50 y k ([],0)=some (x.2.filter fun d=>decide (d < gw 1 x50)):=by
 have hb:=W.loop (f:=cX k r3 x50 y) (Q:=fun o=>o=x.2.filter fun d=>decide (d < gw 1 x50)) (fun q z=>∃j:Nat,z.2=(j:Int)∧j≤x.2.length∧q=x.2.length - j∧z.1=(x.2.take j).filter fun d=>decide (d < gw 1 x50)) (by
  rintro aM q ⟨o,z⟩ ⟨j,hj,hle,hq,ho⟩ ih;simp only at hj ho;subst hj;unfold cX;rw [hg,bs];dsimp only;refine W.ite (fun hlt=>?_) (fun hge=>W.ret ?_)
  ·have hj:j < x.2.length:=by omega
   have hlen:o.length≤1000:=by
    rw [ho];refine Nat.le_trans (List.length_filter_le _ _) ?_;rw [List.length_take];omega
   have step:∀o':List Int,o'=(x.2.take (j+1)).filter (fun d=>decide (d < gw 1 x50))→W ((K.ck ((j:Int)+1)).bind fun x70=>cX k r3 x50 y aM (o',x70)) (fun o=>o=x.2.filter fun d=>decide (d < gw 1 x50)):=fun o' ho'=>by
    rw [cT (by omega) (by omega),bs];exact ih (q - 1) (o',(j:Int)+1) (by omega) ⟨j+1,by show(j:Int)+1=((j+1:Nat):Int);omega,by omega,by omega,ho'⟩
   have et:(x.2.take (j+1)).filter (fun d=>decide (d < gw 1 x50))=o++if x.2[j] < gw 1 x50 then [x.2[j]] else []:=by
    rw [List.take_add_one,List.getElem?_eq_getElem hj,List.filter_append,←ho];congr 1;by_cases c:x.2[j] < gw 1 x50
    ·simp [c]
    ·simp [c]
   rw [bs,dT hj,bs];by_cases c:x.2[j] < gw 1 x50
   ·rw [if_pos c,bs,dT hj,bs,dk (Nc (by simp only [List.length_cons,List.length_nil];omega)),bs,bs];exact step _ (by rw [et,if_pos c])
   ·rw [if_neg c,bs];exact step _ (by rw [et,if_neg c,List.append_nil])
  ·rw [ho,List.take_of_length_le (by omega)]) x.2.length k ([],0) hx ⟨0,rfl,by omega,by omega,by simp⟩
 obtain⟨o,eo,h⟩:=hb
 rw [eo,h]
theorem Ao(hk1:k≤1000000){r3:bh×cd}{x50:Int}(hl:r3.1.2.1.length < k)(hx:∀x∈r3.1.2.1,x.2.length < k∧x.2.length≤1000):
 dr k r3 x50 k (r3.1.2.1,0)=some (eH r3.1 (gw 1 x50)).2.1:=by
 have hb:=W.loop (f:=dr k r3 x50) (Q:=fun o=>o=(eH r3.1 (gw 1 x50)).2.1) (fun q y=>∃j:Nat,y.2=(j:Int)∧j≤r3.1.2.1.length∧q=r3.1.2.1.length - j∧y.1=(eH r3.1 (gw 1 x50)).2.1.take j++r3.1.2.1.drop j) (by
  rintro aM q ⟨o,y⟩ ⟨j,hj,hle,hq,ho⟩ ih;simp only at hj ho;subst hj;have hsl:(eH r3.1 (gw 1 x50)).2.1.length=r3.1.2.1.length:=by unfold eH;dsimp only;rw [List.length_map]
  have hol:o.length=r3.1.2.1.length:=by rw [ho,List.length_append,List.length_take,List.length_drop,hsl];omega
  unfold dr;dsimp only;refine W.ite (fun hlt=>?_) (fun hge=>W.ret ?_)
  ·have hj:j < r3.1.2.1.length:=by omega
   have hgj:=dT hj
   have ho':o[j]'(by omega)=r3.1.2.1[j]:=by
    have:o[j]? =some r3.1.2.1[j]:=by
     rw [ho,List.getElem?_append_right (by rw [List.length_take,hsl];omega),List.length_take,hsl,List.getElem?_drop,show j+(j - min j r3.1.2.1.length)=j by omega,List.getElem?_eq_getElem hj]
    rw [List.getElem?_eq_getElem (by omega)] at this;exact Option.some.inj this
   rw [C0 hk1 (y:=(o,(j:Int))) hgj (hx _ (List.getElem_mem hj)).1 (hx _ (List.getElem_mem hj)).2,bs,dT (show j < o.length by omega),bs,ho',bs,cT (by omega) (by omega),bs];refine ih (q - 1) (_,(j:Int)+1) (by omega) ⟨j+1,by show(j:Int)+1=((j+1:Nat):Int);omega,by omega,by omega,?_⟩;simp only [Int.toNat_natCast];rw [ho]
   have hs:(eH r3.1 (gw 1 x50)).2.1[j]'(by omega)=(r3.1.2.1[j].1,r3.1.2.1[j].2.filter fun d=>decide (d < gw 1 x50)):=by
    unfold eH;dsimp only;rw [List.getElem_map]
   rw [List.take_add_one,List.getElem?_eq_getElem (show j < (eH r3.1 (gw 1 x50)).2.1.length by omega),hs,List.drop_eq_getElem_cons hj,List.set_append_right _ _ (by rw [List.length_take,hsl];omega),List.length_take,hsl,show j - min j r3.1.2.1.length=0 by omega,List.set_cons_zero];simp
  ·have:j=r3.1.2.1.length:=by omega
   rw [ho,List.take_of_length_le (by omega),List.drop_eq_nil_of_le (by omega),List.append_nil]) r3.1.2.1.length k (r3.1.2.1,0) hl ⟨0,rfl,by omega,by omega,by simp⟩
 obtain⟨o,eo,h⟩:=hb
 rw [eo,h]
theorem Dh{t:aL}{a b:Int}(h:sL t a b){D:Int}(hD:1≤D∧D≤t.1):sL (eH t D) a b:=by
 refine⟨⟨hD.1,by have:=h.days;show D≤4;omega⟩,by unfold eH;dsimp only;rw [List.length_map];exact h.things,fun x hx=>?_,h.trunks,h.rooms⟩;obtain⟨y,hy,rfl⟩:=List.mem_map.1 hx;have hi:=h.item y hy;refine⟨hi.1,hi.2.1,Nat.le_trans (List.length_filter_le _ _) hi.2.2.1,fun d hd=>?_,hi.2.2.2.2.filter _⟩;obtain⟨h1,h2⟩:=List.mem_filter.1 hd;exact⟨(hi.2.2.2.1 d h1).1,of_decide_eq_true h2⟩
theorem GF{t:aL}{a b:Int}(h:sL t a b){j:Nat}(hj:j < t.2.1.length):sL (lK t j) a b:=by
 refine⟨h.days,by rw [ut];have:=h.things;omega,fun x hx=>h.item x ?_,h.trunks,h.rooms⟩;have hx:=List.mem_of_mem_take (show x∈(t.2.1.set j (t.2.1[t.2.1.length - 1]?.getD (0,[]))).take (t.2.1.length - 1) from hx);rcases List.mem_or_eq_of_mem_set hx with hx |hx
 ·exact hx
 ·rw [List.getElem?_eq_getElem (by omega),Option.getD_some] at hx;rw [hx];exact List.getElem_mem _
theorem PN{α β:Type}{X:Option α}{F:α→Option β}{r:β}(P:α→Prop)(h:∃x,X=some x∧P x)(hf:∀x,P x→F x=some r):X.bind F=some r:=by
 obtain⟨x,rfl,hx⟩:=h;rw [bs];exact hf x hx
theorem tN(hk:3000≤k)(hk1:k≤1000000)(hp:k7 k=some true)(a0:List Int):jI k a0=some true:=by
 unfold jI;rw [show lL k a0=some (a0,0,1) from rfl,bs];obtain⟨r3,e3,ht,hl⟩:=Ie (k:=k) (by omega) (l:=(a0,0,1)) (m:=0) ⟨by simp,by simp⟩ (by decide) (a:=4) (b:=2) (by decide) (by decide);rw [show jy k (a0,0,1) 4 2=some r3 from e3,bs,lg hk hk1 ht (by decide) (by decide),bs];have hT:=ht.chk (by decide) (by decide);have g:=o4 hT;have h1:=ht.days;have h2:=ht.things;have h3:=ht.trunks;have hcopy:d3 k r3.1=some r3.1:=zB hk1 (by omega) (by omega) (fun x hx=>by have:=ht.item x hx;omega);have f0:(vu r3.1).2.2=true:=by unfold vu;split <;> rfl
 rw [if_neg (not_not_intro f0),hcopy,bs,bs,bs,bs];obtain⟨r30,e30,u1,u2,u3⟩:=oM (k:=k) (l:=r3.2) (m:=100) (n:=4) hl (by decide) (by decide);rw [show bW k (r3.2.1,r3.2.2.1,r3.2.2.2) 4=some r30 from e30,bs,dk (Nc (by simp only [List.length_cons,List.length_nil];omega)),bs,cT (by omega) (by omega),bs];obtain⟨r35,e35,v1,v2,v3⟩:=oM (k:=k) (l:=r30.2) (m:=101) (n:=(r3.1.2.2.length:Int) - 1) u3 (by decide) (by omega);rw [show bW k (r30.2.1,r30.2.2.1,r30.2.2.2) ((r3.1.2.2.length:Int) - 1)=some r35 from e35,bs];have v4:=v2 (by omega);have hi:r35.1.toNat < r3.1.2.2.length:=by omega
 rw [xt v1 hi,bs];have hroom:=ht.rooms _ (List.getElem_mem hi);obtain⟨r37,e37,w1,w2,w3⟩:=BS (k:=k) (l:=r35.2) (m:=102) (a:=r3.1.2.2[r35.1.toNat]) (b:=9) v3 (by decide) hroom.1 hroom.2 (by decide);rw [show di k (r35.2.1,r35.2.2.1,r35.2.2.2) r3.1.2.2[r35.1.toNat] 9=some r37 from e37,bs,bs];refine PN (fun x39=>sL (r3.1.1,x39,r3.1.2.2) 4 2∧∀q,dH r3.1 q→∃q',dH (r3.1.1,x39,r3.1.2.2) q'∧dN (r3.1.1,x39,r3.1.2.2) q'≤dN r3.1 q) ?_ fun x39 hx=>?_
 ·by_cases c0:(0:Int) < (r3.1.2.1.length:Int)
  ·obtain⟨r42,e42,y1,y2,y3⟩:=oM (k:=k) (l:=r37.2) (m:=103) (n:=(r3.1.2.1.length:Int) - 1) w3 (by decide) (by omega);have y4:=y2 (by omega);have hj:r42.1.toNat < r3.1.2.1.length:=by omega
   have hlast:bv r3.1.2.1 ((r3.1.2.1.length:Int) - 1)=some r3.1.2.1[r3.1.2.1.length - 1]:=by
    rw [show(r3.1.2.1.length:Int) - 1=((r3.1.2.1.length - 1:Nat):Int) by omega];exact dT (by omega)
   have e0:(lK r3.1 r42.1.toNat)=(r3.1.1,List.take (Int.toNat ((r3.1.2.1.length:Int) - 1)) (List.set r3.1.2.1 (Int.toNat r42.1) r3.1.2.1[r3.1.2.1.length - 1]),r3.1.2.2):=by
    unfold lK;rw [List.getElem?_eq_getElem (show r3.1.2.1.length - 1 < r3.1.2.1.length by omega),Option.getD_some,show Int.toNat ((r3.1.2.1.length:Int) - 1)=r3.1.2.1.length - 1 by omega]
   have hkl:=GF ht hj;have hgl:=o4 (hkl.chk (by decide) (by decide))
   refine⟨_,by
    rw [if_pos c0,cT (by omega) (by omega),bs,show bW k (r37.2.1,r37.2.2.1,r37.2.2.2) ((r3.1.2.1.length:Int) - 1)=some r42 from e42,bs,bs,hlast,bs,xt y1 hj,bs,bs,dk (by rw [List.length_set];omega),bs],?_⟩
   rw [←e0];exact⟨hkl,fun q hq=>IR hj hgl hq⟩
  ·exact⟨_,by rw [if_neg c0],ht,fun q hq=>⟨q,hq,Nat.le_refl _⟩⟩
 ·rw [cT (by omega) (by omega),bs,Ao hk1 (by omega) (fun x hx=>by have:=ht.item x hx;omega),bs];have hD:1≤gw 1 (r3.1.1 - 1)∧gw 1 (r3.1.1 - 1)≤r3.1.1:=by unfold gw;split <;> omega
  have kmore:sL (r3.1.1,r3.1.2.1,r3.1.2.2++[r30.1]) 4 3:=⟨ht.days,ht.things,ht.item,by show 1≤(r3.1.2.2++[r30.1]).length∧((r3.1.2.2++[r30.1]).length:Int)≤3;rw [List.length_append];simp only [List.length_cons,List.length_nil];omega,fun n hn=>by
   rcases List.mem_append.1 hn with hn |hn
   ·exact ht.rooms n hn
   ·rw [List.mem_singleton] at hn;have:=u2 (by decide);omega⟩
  have kwide:sL (r3.1.1,r3.1.2.1,List.set r3.1.2.2 (Int.toNat r35.1) r37.1) 4 2:=⟨ht.days,ht.things,ht.item,by show 1≤(List.set r3.1.2.2 (Int.toNat r35.1) r37.1).length∧((List.set r3.1.2.2 (Int.toNat r35.1) r37.1).length:Int)≤2;rw [List.length_set];exact ht.trunks,fun n hn=>by
   rcases List.mem_or_eq_of_mem_set hn with hn |hn
   ·exact ht.rooms n hn
   ·omega⟩
  have kshort:=Dh ht hD;have gd:∀{s:aL} {b:Int},sL s 4 b→b≤3→iE s:=fun h hb=>o4 (h.chk (by decide) hb);rw [Dm hk1 (by omega) (fun x hx'=>?_),tp,hp,bs];simp only [List.mem_cons,List.not_mem_nil,or_false] at hx';rcases hx' with rfl |rfl |rfl |rfl
  ·exact⟨_,lg hk hk1 kmore (by decide) (by decide),xE g fun q hq=>⟨_,IO u1 (gd kmore (by decide)) hq⟩⟩
  ·exact⟨_,lg hk hk1 kwide (by decide) (by decide),xE g fun q hq=>⟨_,EM hi w1 (gd kwide (by decide)) hq⟩⟩
  ·exact⟨_,lg hk hk1 hx.1 (by decide) (by decide),xE g fun q hq=>hx.2 q hq⟩
  ·exact⟨_,lg hk hk1 kshort (by decide) (by decide),xE g fun q hq=>⟨_,Fa hD (gd kshort (by decide)) hq⟩⟩
end
end Go.Proofs.YtcnpijmfgfnpiaaGreatDoor
