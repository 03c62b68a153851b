import Derived.Test.YtcnpijmfgfnpiaaGreatDoorWB11
set_option linter.unusedVariables false
set_option linter.unusedSimpArgs false
namespace Go.Proofs.YtcnpijmfgfnpiaaGreatDoor
open K Go Go.Proofs
theorem vY{n N:Nat}:∀{m:Nat} {q:List (List Int)} {tr:Nat},q.length=N→rK n q.flatten→tr≤N→∀x∈mg n N m q tr,x.length=N∧rK n x.flatten∧¬x.flatten.length < n
 |0,_,_,_,_,_,x,hx=>by cases hx
 |m+1,q,tr,hq,hm,ht,x,hx=>by
  rw [mg] at hx
  by_cases c:tr=N
  ·
   rw [if_pos c] at hx
   split at hx
   ·
    cases hx
   ·
    rename_i hl
    rw [List.mem_singleton] at hx;subst hx
    exact⟨hq,hm,hl⟩
  ·
   rw [if_neg c] at hx
   rcases List.mem_append.1 hx with hx |hx
   ·
    exact vY hq hm (by omega) x hx
   ·
    obtain⟨i,hi,hx⟩:=List.mem_flatMap.1 hx
    split at hx
    ·
     cases hx
    ·
     rename_i c1
     have htr:tr < q.length:=by omega
     have hp:=nu (i:=i) htr
     have hi':=List.mem_range.1 hi
     have hm':rK n (iP q tr i).flatten:=⟨hp.nodup_iff.2 (by
      rw [List.nodup_append]
      exact⟨hm.nd,by simp,fun a ha b hb=>by rw [List.mem_singleton] at hb;subst hb;exact fun e=>c1 (e▸ha)⟩),fun x hx=>by
      rcases List.mem_append.1 (hp.mem_iff.1 hx) with hx |hx
      ·
       exact hm.rng x hx
      ·
       rw [List.mem_singleton] at hx;omega⟩
     exact vY (by unfold iP;rw [List.length_set,hq]) hm' ht x hx
theorem mR{n N:Nat}{x:List (List Int)}(h:x∈sO n N):x.length=N∧rK n x.flatten∧¬x.flatten.length < n:=
 vY (by simp) (by simp only [List.flatten_replicate_nil];exact⟨by simp,by simp⟩) (by omega) x h
theorem jN{t:aU}(g:j7 t){q:List (List Int)}(h:q∈jl t):ik t q:=by
 obtain⟨h1,h2⟩:=List.mem_filter.1 h;obtain⟨a,b,c⟩:=mR h1
 exact⟨g,a,b.nd,b.rng,b.full.1 c,fun i hi=>by
  have:=ij.1 h2 i hi;rw [List.getElem?_eq_getElem hi,Option.getD_some] at this;exact this⟩
theorem Jk{t:aU}(g:j7 t):(jl t).length≤2520:=by
 have h5:=g.things;have h3:=g.trunks;refine Nat.le_trans (List.length_filter_le _ _) ?_;have:=A7;rw [List.all_eq_true] at this;have:=this t.2.1.length (List.mem_range.2 (by omega));rw [List.all_eq_true] at this;exact of_decide_eq_true (this t.2.2.length (List.mem_range.2 (by omega)))
theorem At.of{k:Nat}{t:aU}(h:t7 k t)(hs:jZ k t)(ht:jk t=0){q:List (List Int)}(hq:ik t q):At k t q:=⟨hs,h,hq.chk ht⟩
def cm(t:aU)(q:List (List Int)):Nat:=uw t t.1.toNat 0 q
def qP{α:Type}(f:α→Nat)(b:Option (α×Nat))(o:α):Option (α×Nat):=match b with
 |none=>some (o,f o)
 |some (x,n)=>if f o < n then some (o,f o) else some (x,n)
def oD{α:Type}(f:α→Nat)(l:List α):Option (α×Nat)→Prop
 |none=>l=[]
 |some (x,n)=>n=f x∧(∀y∈l,n≤f y)∧∃p s,l=p++x::s∧∀y∈p,n < f y
theorem A6{α:Type}{f:α→Nat}:∀(l pre:List α) (b:Option (α×Nat)),oD f pre b→oD f (pre++l) (l.foldl (qP f) b)
 |[],pre,b,h=>by simpa using h
 |o::l,pre,b,h=>by
  have h1:oD f (pre++[o]) (qP f b o):=by
   cases b with
   |none=>
    have h:pre=[]:=h;subst h;exact⟨rfl,fun y hy=>by simp only [List.nil_append,List.mem_singleton] at hy;subst hy;exact Nat.le_refl _,[],[],rfl,by simp⟩
   |some b=>
    obtain⟨x,n⟩:=b;obtain⟨h1,h2,p,s,h3,h4⟩:=h;unfold qP;dsimp only;by_cases c:f o < n
    ·rw [if_pos c];refine⟨rfl,fun y hy=>?_,pre,[],rfl,fun y hy=>Nat.lt_of_lt_of_le c (h2 y hy)⟩;rcases List.mem_append.1 hy with hy |hy
     ·exact Nat.le_of_lt (Nat.lt_of_lt_of_le c (h2 y hy))
     ·rw [List.mem_singleton] at hy;subst hy;exact Nat.le_refl _
    ·rw [if_neg c];refine⟨h1,fun y hy=>?_,p,s++[o],by rw [h3];simp,h4⟩;rcases List.mem_append.1 hy with hy |hy
     ·exact h2 y hy
     ·rw [List.mem_singleton] at hy;subst hy;omega
  have:=A6 l (pre++[o]) _ h1;rwa [List.append_assoc] at this
theorem LK{α:Type}{f:α→Nat}(l:List α):oD f l (l.foldl (qP f) none):=by
 have:=A6 (f:=f) l [] none rfl;simpa using this
section
variable {k:Nat}
theorem vO{t:aU}(h:t7 k t)(hs:jZ k t)(ht:jk t=0){q:List (List Int)}(hq:ik t q):a8 k t (cC q)=some (cm t q:Int):=by
 have hA:=At.of h hs ht hq;have h6:=hq.g.days;unfold a8;rw [dk (NP hq.fit),bs,Le hA hq (by omega),bs,Int.sub_zero];rfl
theorem Db{t:aU}(h:t7 k t)(g:j7 t):gg k (t,())=some ((jl t).map cC):=by
 unfold gg g7
 have:=pm (k:=k) h g (Y:=jS (fun(y2:(List (List (List Int)))) (p4:(List (List Int)))=>(eM (bY (List.length y2+List.length [p4]))).bind fun _=>some (y2++[p4],true))) (f:=fun s q=>(s.1++[cC q],false)) (P:=fun pre s=>s=(pre.map cC,false)) (by
  rintro pre s q hq hl rfl;refine⟨?_,by simp⟩;show(((eM (bY _)).bind fun _=>some (_,true)).bind fun r=>some ((r.1, !r.2),r.2):Option _)=_;rw [dk (O7 (by simp only [List.length_map,List.length_cons,List.length_nil];omega)),bs,bs];rfl) (s:=([],false)) rfl
 obtain⟨h1,h2⟩:=this;rw [h1,bs,h2,iF,bs]
theorem CS{t:aU}(h:t7 k t)(hs:jZ k t)(ht:jk t=0)(hk:3000≤k){l:List (List (List Int))}(hl:∀q∈l,ik t q)(hlen:l.length≤2520):
 iN k t (l.map cC)=some (match l.foldl (qP (cm t)) none with |none=>([[0,0,0,0,0],[0,0,0,0,0],[0,0,0,0,0]],0,false) |some (q,n)=>(cC q,(n:Int),true)):=by
 have hk1:=h.k1
 unfold iN
 have key:∀(d j n:Nat) (b:Option (List (List Int)×Nat)),j+d=l.length→d < n→
  cY k t (l.map cC) n (match b with |none=>([[0,0,0,0,0],[0,0,0,0,0],[0,0,0,0,0]],0,false,(j:Int)) |some (q,m)=>(cC q,(m:Int),true,(j:Int)))=
  some (match (l.drop j).foldl (qP (cm t)) b with |none=>([[0,0,0,0,0],[0,0,0,0,0],[0,0,0,0,0]],0,false) |some (q,n)=>(cC q,(n:Int),true)):=by
  intro d
  induction d with
  |zero=>
   intro j n b hj hn;obtain⟨n,rfl⟩:∃n',n=n'+1:=⟨n - 1,by omega⟩;rw [List.drop_of_length_le (by omega),cY];cases b with
   |none=>dsimp only;rw [if_neg (by rw [List.length_map];omega)];rfl
   |some b=>obtain⟨q,m⟩:=b;dsimp only;rw [if_neg (by rw [List.length_map];omega)];rfl
  |succ d ih=>
   intro j n b hj hn;obtain⟨n,rfl⟩:∃n',n=n'+1:=⟨n - 1,by omega⟩;have hjl:j < l.length:=by omega
   have hg:=vO h hs ht (hl _ (List.getElem_mem hjl));have hgi:bf (l.map cC) (j:Int)=some (cC l[j]):=by rw [cX (by rw [List.length_map];exact hjl),List.getElem_map]
   have:=ih (j+1) n (qP (cm t) b l[j]) (by omega) (by omega);rw [List.drop_eq_getElem_cons hjl,List.foldl_cons,←this,cY];cases b with
   |none=>
    dsimp only;rw [if_pos (by rw [List.length_map];omega),hgi,bs,hg,bs,nF,bs,iT,bs,cp (by omega) (by omega),bs];rfl
   |some b=>
    obtain⟨q,m⟩:=b;dsimp only;rw [if_pos (by rw [List.length_map];omega),hgi,bs,hg,bs,nT,bs];unfold qP;by_cases c:cm t l[j] < m
    ·rw [decide_eq_true (Int.ofNat_lt.2 c),iT,bs,cp (by omega) (by omega),bs];simp only [c,if_true];rfl
    ·rw [decide_eq_false (fun h=>c (Int.ofNat_lt.1 h)),iF,bs,cp (by omega) (by omega),bs];simp only [c,if_false];rfl
 have:=key l.length 0 k none (by omega) (by omega)
 rw [List.drop_zero] at this
 rw [show cY k t (l.map cC) k ([[0,0,0,0,0],[0,0,0,0,0],[0,0,0,0,0]],0,false,0)=_ from this,bs]
def pP(t:aU):Option (List (List Int)×Nat):=(jl t).foldl (qP (cm t)) none
theorem nP{t:aU}:oD (cm t) (jl t) (pP t):=LK _
theorem uQ{t:aU}(h:t7 k t)(hs:jZ k t)(hk:3000≤k)(ht:jk t=0):ic k t=some (match pP t with |none=>([],0,11) |some (q,n)=>(q,(n:Int),0)):=by
 have g:=mN ht;unfold ic;rw [tZ hs,bs,ht,if_neg (not_not_intro rfl),Db h g,bs,CS h hs ht hk (fun q hq=>jN g hq) (Jk g),bs];have hb:=nP (t:=t);unfold pP at *;cases e:(jl t).foldl (qP (cm t)) none with
 |none=>dsimp only;rw [nF]
 |some b=>
  obtain⟨q,n⟩:=b;rw [e] at hb;obtain⟨_,_,p,s,h3,_⟩:=hb;have hq:=jN g (q:=q) (by rw [h3];simp);dsimp only;rw [nT,Av h.k0 hq.fit hq.len,bs]
theorem Br{t:aU}(h:t7 k t)(hs:jZ k t)(hk:3000≤k)(ht:jk t=0):lB k t=some (match pP t with |none=>(0,11) |some (_,n)=>(((jl t).countP fun q=>decide (cm t q=n):Nat),0)):=by
 have g:=mN ht;unfold lB;rw [uQ h hs hk ht,bs];cases e:pP t with
 |none=>dsimp only;rw [if_pos (by decide)]
 |some b=>
  obtain⟨q,n⟩:=b;dsimp only;rw [if_neg (not_not_intro rfl)]
  have:=pm (k:=k) h g (Y:=jS (fun(y8:Int) (p10:(List (List Int)))=>(a8 k t p10).bind fun r13=>if r13=(n:Int) then((ck (y8+(1:Int))).bind fun x14=>some (x14,true)) else(some (y8,true)))) (f:=fun s q=>(if cm t q=n then s.1+1 else s.1,false)) (P:=fun pre s=>s=(((pre.countP fun q=>decide (cm t q=n):Nat):Int),false)) (by
   rintro pre s q hq hl rfl;have hc:(pre.countP fun q=>decide (cm t q=n))≤pre.length:=List.countP_le_length;have hst:jS (fun(y8:Int) (p10:(List (List Int)))=>(a8 k t p10).bind fun r13=>if r13=(n:Int) then((ck (y8+(1:Int))).bind fun x14=>some (x14,true)) else(some (y8,true))) (((pre.countP fun q=>decide (cm t q=n):Nat):Int),false) (cC q)=((a8 k t (cC q)).bind fun r13=>if r13=(n:Int) then((ck (((pre.countP fun q=>decide (cm t q=n):Nat):Int)+(1:Int))).bind fun x14=>some (x14,true)) else(some (((pre.countP fun q=>decide (cm t q=n):Nat):Int),true))).bind fun r=>some ((r.1, !r.2),r.2):=rfl;rw [hst,vO h hs ht hq,bs];by_cases c:cm t q=n
   ·rw [if_pos (show(cm t q:Int)=(n:Int) by omega),cp (by omega) (by omega),bs,bs];refine⟨by simp only [c,if_true];rfl,?_⟩;rw [List.countP_append];simp [c]
   ·rw [if_neg (show¬(cm t q:Int)=(n:Int) by omega),bs];refine⟨by simp only [c,if_false];rfl,?_⟩;rw [List.countP_append];simp [c]) (s:=(0,false)) rfl
  obtain⟨h1,h2⟩:=this;rw [h1,bs,h2,iF]
end
def MP:List Int→List Int→Bool
 |x::a,y::b=>if x=y then MP a b else decide (x < y)
 |[],_::_=>true
 |_,[]=>false
def wN:List (List Int)→List (List Int)→Bool
 |x::a,y::b=>if x=y then wN a b else MP x y
 |_,_=>false
theorem xK:∀{a:List (List Int)},wN a a=false
 |[]=>rfl
 |x::a=>by rw [wN,if_pos rfl];exact xK
section
variable {k:Nat}
def SY(t:aU)(l:List (List (List Int))):Option (List (List Int)×Nat×Nat)→Prop
 |none=>l=[]
 |some (f,n,c)=>f∈l∧n=cm t f∧(∀x∈l,n≤cm t x)∧c=(l.countP fun q=>decide (cm t q=n))∧0 < c
def Rz(t:aU)(S:List (List (List Int)))(l:List (List (List Int))):Option (List (List Int)×Nat×Nat)→Prop
 |none=>True
 |some (f,n,_)=>∀x∈l,cm t x=n→wN x f=false
theorem Fb:((List.range 5).all fun n=>(List.range 3).all fun N=>decide ((sO n N).Pairwise fun a b=>wN a b=true∧wN b a=false))=true:=by decide+kernel
theorem Dp{n N:Nat}(hn:n≤4)(hN:N≤2):(sO n N).Pairwise fun a b=>wN a b=true∧wN b a=false:=by
 have h:=Fb;rw [List.all_eq_true] at h;have h:=h n (List.mem_range.2 (by omega));rw [List.all_eq_true] at h;exact of_decide_eq_true (h N (List.mem_range.2 (by omega)))
theorem nK{t:aU}{a b:Int}(h:zf t a b)(ha:a≤8)(hb:b≤8)(hk:50≤k)(hk1:k≤1000000):jZ k t∧t7 k t:=
 ⟨⟨hk1,by have:=h.things;omega,fun x hx=>by have:=h.item x hx;omega,by have:=h.trunks;omega⟩,⟨hk,hk1,by have:=h.things;omega,fun x hx=>by have:=h.item x hx;omega⟩⟩
theorem oD.same{t:aU}{S l:List (List (List Int))}(hS:S.Pairwise fun a b=>wN a b=true∧wN b a=false)(hl:l.Perm S){b:Option (List (List Int)×Nat)}(hb:oD (cm t) S b){s:Option (List (List Int)×Nat×Nat)}(hs:SY t l s)(he:Rz t S l s):
 (b=none∧s=none)∨∃q n c,b=some (q,n)∧s=some (q,n,c)∧c=(S.countP fun x=>decide (cm t x=n))∧0 < c:=by
 cases b with
 |none=>
  have hb:S=[]:=hb;subst hb;have:l=[]:=hl.eq_nil;subst this;cases s with
  |none=>exact .inl ⟨rfl,rfl⟩
  |some s=>obtain⟨f,n,c⟩:=s;exact absurd hs.1 (by simp)
 |some b=>
  obtain⟨q,n⟩:=b;obtain⟨h1,h2,p,r,h3,h4⟩:=hb;have hqS:q∈S:=by rw [h3];simp
  cases s with
  |none=>
   have hs:l=[]:=hs;subst hs;have:=hl.symm.eq_nil;rw [this] at hqS;cases hqS
  |some s=>
   obtain⟨f,n',c⟩:=s;obtain⟨g1,g2,g3,g4,g5⟩:=hs;have hfS:f∈S:=hl.mem_iff.1 g1;have hql:q∈l:=hl.mem_iff.2 hqS;have e1:=h2 f hfS;have e2:=g3 q hql;have en:n'=n:=by omega
   subst en
   have hfq:f=q:=by
    rw [h3] at hfS;rcases List.mem_append.1 hfS with h |h
    ·have:=h4 f h;omega
    ·rcases List.mem_cons.1 h with h |h
     ·exact h
     ·have hp:=hS;rw [h3] at hp;have:=(List.pairwise_append.1 hp).2.1;have:=((List.pairwise_cons.1 this).1 f h).1;have h5:=he q hql h1.symm;rw [this] at h5;cases h5
   subst hfq;exact .inr ⟨f,n',c,rfl,rfl,by rw [g4,hl.countP_eq],g5⟩
end
end Go.Proofs.YtcnpijmfgfnpiaaGreatDoor
