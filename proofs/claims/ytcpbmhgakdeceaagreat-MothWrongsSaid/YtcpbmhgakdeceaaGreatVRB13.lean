import Derived.Test.YtcpbmhgakdeceaaGreatVRB12
open Nat
open List hiding mem_of_getElem?
open Array hiding mem_of_getElem? mk
set_option linter.unusedVariables false
set_option linter.unusedSimpArgs false
namespace Go.Proofs.YtcpbmhgakdeceaaGreat
open K Go Go.Proofs
def mN:Nat->Bool:=λ_=>false
theorem RH:(λi=>decide (ew 0 i))=mN:=by
 grind [mN,ew]
theorem Un:(λi:Nat=>decide ((i:Int)∈([]:List Int)))=mN:=by
 grind [mN]
end Go.Proofs.YtcpbmhgakdeceaaGreat
set_option linter.unusedVariables false
set_option linter.unusedSimpArgs false
namespace Go.Proofs.YtcpbmhgakdeceaaGreat
open K Go Go.Proofs
end Go.Proofs.YtcpbmhgakdeceaaGreat
set_option linter.unusedVariables false
set_option linter.unusedSimpArgs false
namespace Go.Proofs.YtcpbmhgakdeceaaGreat
open K Go Go.Proofs
end Go.Proofs.YtcpbmhgakdeceaaGreat
set_option linter.unusedVariables false
set_option linter.unusedSimpArgs false
namespace Go.Proofs.YtcpbmhgakdeceaaGreat
open K Go Go.Proofs
def Ie(m:ab)(gs:List aC):ab:=(m.1,m.2.1,m.2.2.1,m.2.2.2.1,m.2.2.2.2.1,gs)
theorem xi{C:Nat}:∀(t:List Int) (n:Nat) (b:List Int) (f:Nat),C - f≤n->(∀x∈t,(f:Int)≤x/\x < C)->t.Pairwise (· < ·)->b++t∈eh C n b f
 |[],0,b,f,_,_,_=>by simp [eh]
 |[],n+1,b,f,_,_,_=>by simp [eh]
 |x::t,0,b,f,h,hx,_=>by grind [mem_cons_self]
 |x::t,n+1,b,f,h,hx,hp=>by
  have h0:=hx x (mem_cons_self ..)
  rw [pairwise_cons] at hp
  rw [eh]
  refine mem_cons_of_mem _ (List.mem_flatMap.2 ⟨x.toNat,by grind,?_⟩)
  have:=xi t n (b++[((x.toNat:Nat):Int)]) (x.toNat+1) (by omega) (λy hy=>⟨by grind,(hx y (mem_cons_of_mem _ hy)).2⟩) hp.2
  grind
theorem K9{m:ab}{b:List Int}(h:Bg (mC m) b):b∈vD m:=by
 have:=xi (C:=(mC m).toNat) b (mC m).toNat [] 0 (by omega) (λx hx=>by have:=h.rng x hx;omega) h.asc;exact this
end Go.Proofs.YtcpbmhgakdeceaaGreat
set_option linter.unusedVariables false
set_option linter.unusedSimpArgs false
namespace Go.Proofs.YtcpbmhgakdeceaaGreat
open K Go Go.Proofs
def X2(D:List (List (List Int)))(d:Int)(S:Int->Bool):List (List (List Int)):=D.mapIdx λj r=>r.map λl=>l.filter λn=>decide ((j:Int) < d) || !S n
def frz(m:ab)(d:Int)(S:Int->Bool):ab:=(m.1,m.2.1,m.2.2.1,m.2.2.2.1,X2 (mD m) d S,m.2.2.2.2.2)
end Go.Proofs.YtcpbmhgakdeceaaGreat
set_option linter.unusedVariables false
set_option linter.unusedSimpArgs false
namespace Go.Proofs.YtcpbmhgakdeceaaGreat
open K Go Go.Proofs
def MC{β:Type}(o:Option β):Except β Unit:=match o with
 |some x=>.error x
 |none=>.ok ()
theorem vc{β:Type}{p:List Int->Bool}{g:List Int->β}:∀(l:List (List Int)) (j:Nat),dM (λ(_:Unit) _ x=>if p x=true then Except.error (g x) else .ok ()) j l ()=MC ((l.find? p).map g)
 |[],_=>rfl
 |x::l,j=>by
  rw [dM,find?_cons]
  cases h:p x with
  |true=>simp [MC]
  |false=>simp only [Bool.false_eq_true,if_false];exact vc l (j+1)
theorem xa{β:Type}{h:Nat->Option β}:∀(n i:Nat),dM (λ(_:Unit) (j _:Nat)=>MC (h j)) i (List.range' i n) ()=MC ((List.range' i n).findSome? h)
 |0,_=>rfl
 |n+1,i=>by
  rw [List.range'_succ,dM,findSome?_cons]
  cases e:h i with
  |some x=>rfl
  |none=>exact xa n (i+1)
end Go.Proofs.YtcpbmhgakdeceaaGreat
set_option linter.unusedVariables false
set_option linter.unusedSimpArgs false
namespace Go.Proofs.YtcpbmhgakdeceaaGreat
open K Go Go.Proofs
def nq{σ:Type}(G:σ->List Int->σ×Bool):List (List Int)->σ->Bool×σ
 |[],s=>(true,s)
 |x::l,s=>if(G s x).2=true then nq G l (G s x).1 else(false,(G s x).1)
theorem Bv{σ:Type}{G:σ->List Int->σ×Bool}:∀(l1 l2:List (List Int)) (s:σ),nq G (l1++l2) s=if(nq G l1 s).1=true then nq G l2 (nq G l1 s).2 else(false,(nq G l1 s).2)
 |[],l2,s=>by simp [nq]
 |x::l,l2,s=>by
  rw [cons_append,nq,nq]
  split
  .
   exact Bv l l2 _
  .
   simp
def Ri{σ:Type}(r:Bool×σ):Except (Bool×σ) σ:=if r.1=true then .ok r.2 else .error (false,r.2)
theorem wW{σ:Type}{k:Nat}{Y:σ->List Int->Option (σ×Bool)}{C:Nat}(hC:C≤8)(hk:10≤k)(G:σ->List Int->σ×Bool)(sV:σ->Prop):
 ∀(n m0:Nat) (b:List Int) (f:Nat) (s:σ),C - f≤n->f≤C->n < m0->b.length+n≤20->(∀s,∀b'∈eh C n b f,sV s->Y s b'=some (G s b')/\((G s b').2=true->sV (G s b').1))->sV s->
  cU k Y (C:Int) m0 b (f:Int) s=some (nq G (eh C n b f) s)/\((nq G (eh C n b f) s).1=true->sV (nq G (eh C n b f) s).2)
 |n,0,b,f,s,_,_,h,_,_,_=>absurd h (not_lt_zero _)
 |0,m0+1,b,f,s,h1,h2,_,hb,hY,hI=>by
  have hf:f=C:=by omega
  subst hf
  obtain⟨k,rfl⟩:∃n,k=n+1:=⟨k - 1,by omega⟩
  have:=hY s b (by simp [eh]) hI
  unfold cU
  rw [show eO (k+1) b=some b by unfold eO;rw [cV (by show _≤_;omega),bs],bs,this.1,bs,eh,nq,nq]
  by_cases hg:(G s b).2=true
  .
   simp_all [if_neg,c8,Int.lt_irrefl,jA,if_pos]
  simp_all
 |n+1,m0+1,b,f,s,h1,h2,h3,hb,hY,hI=>by
  have h0:=hY s b (by simp [eh]) hI
  unfold cU
  rw [show eO k b=some b by unfold eO;rw [cV (by show _≤_;omega),bs],bs,h0.1,bs]
  have loop:∀(d x:Nat) (s:σ) (aM:Nat),C - x=d->f≤x->x≤C->d < aM->sV s->
   c8 k b (C:Int) (cU k Y (C:Int) m0) aM ((x:Int),s)=some (Ri (nq G ((List.range' x (C - x)).flatMap λ(c:Nat)=>eh C n (b++[(c:Int)]) (c+1)) s))/\((nq G ((List.range' x (C - x)).flatMap λ(c:Nat)=>eh C n (b++[(c:Int)]) (c+1)) s).1=true->sV (nq G ((List.range' x (C - x)).flatMap λ(c:Nat)=>eh C n (b++[(c:Int)]) (c+1)) s).2):=by
   intro d
   induction d with
   |zero=>
    intro x s aM hd hx hx2 hfu hI;obtain⟨aM,rfl⟩:∃n,aM=n+1:=⟨aM - 1,by omega⟩;have:x=C:=by omega
    subst this;rw [Nat.sub_self,c8,if_neg (Int.lt_irrefl _)];exact⟨rfl,λ_=>hI⟩
   |succ d ih=>
    intro x s aM hd hx hx2 hfu hI;obtain⟨aM,rfl⟩:∃n,aM=n+1:=⟨aM - 1,by omega⟩;have hck:ck ((x:Int)+1)=some (((x+1:Nat):Int)):=by grind [cE]
    have e:C - x=(C - (x+1))+1:=by omega
    have hsub:=wW hC hk G sV n m0 (b++[(x:Int)]) (x+1) s (by omega) (by omega) (by omega) (by simp;omega) (λs b' hb'=>hY s b' (by
     rw [eh];refine mem_cons_of_mem _ (List.mem_flatMap.2 ⟨x,List.mem_range'.2 ⟨x - f,by omega,by omega⟩,hb'⟩))) hI
    rw [e,List.range'_succ,List.flatMap_cons,Bv];rw [c8,if_pos (show(x:Int) < (C:Int) by omega),cV (by show _≤_;simp;omega),bs,hck,bs];rw [show cU k Y (C:Int) m0 (b++[(x:Int)]) (((x+1:Nat):Int)) s=_ from hsub.1,bs];by_cases hr:(nq G (eh C n (b++[(x:Int)]) (x+1)) s).1=true
    .rw [if_neg (by simp [hr]),bs,if_pos hr];exact ih (x+1) _ aM (by omega) (by omega) (by omega) (by omega) (hsub.2 hr)
    simp_all [if_pos,if_neg,Ri]
  rw [eh,nq];by_cases hg:(G s b).2=true
  .have hl:=loop (C - f) f (G s b).1 k rfl (Nat.le_refl _) h2 (by omega) (h0.2 hg);rw [if_neg (by simp [hg]),if_pos hg,hl.1];refine⟨?_,hl.2⟩;unfold Ri;by_cases hr:(nq G ((List.range' f (C - f)).flatMap λ(c:Nat)=>eh C n (b++[(c:Int)]) (c+1)) (G s b).1).1=true
   .rw [if_pos hr,jA];grind
   .rw [if_neg hr,lm];grind
  simp_all
def ES(m:ab):List (List Int):=eh (mG m).length (mG m).length [] 0
theorem O8{m:ab}{s:List Int}(h:s∈ES m):Bg ((mG m).length:Int) s:=vS _ _ 0 ⟨by simp,by simp⟩ (by simp) s h
theorem K7{C:Nat}{s:List Int}(h:s∈eh C C [] 0):Bg (C:Int) s:=vS _ _ 0 ⟨by simp,by simp⟩ (by simp) s h
theorem Gk{C:Nat}{b:List Int}(h:Bg (C:Int) b):b.length≤C:=by
 refine rX C b (h.asc.imp λh=>by omega) λx hx=>?_;have:=h.rng x hx;omega
def M9(m:ab)(s:List Int):Bool:=decide (0 < (tJ m λi=>decide ((i:Int)∈s)).length)
theorem I2:∀(b:List Int) (s:Int),jL s->(∀x∈b,0≤x/\x < 8)->jL (b.foldl uN s)/\∀i:Nat,ew (b.foldl uN s) i↔ew s i\/(i:Int)∈b
 |[],s,hs,_=>⟨hs,λi=>by simp⟩
 |x::b,s,hs,hb=>by
  have hx:=hb x mem_cons_self
  have hw:=lM (k:=0) hs hx.1 (by omega)
  have:=I2 b (uN s x) hw.2.1 λy hy=>hb y (mem_cons_of_mem _ hy)
  grind
theorem Il{k:Nat}{p:List Int}(hp:∀x∈p,0≤x/\x < 8)(hk:p.length < k)(hl:p.length≤100):dw k p k (0,0)=some (i7 p):=by
 have key:=gZ (T:=Int×Int) (f:=dw k p) p (λ(s:Int) j=>(s,j)) (λs _ x=>uN s x) (λ_ s=>jL s) (λs=>some s)
  (λn s j hj hs=>by
   have hx:=hp _ (List.getElem_mem hj);have hw:=lM (k:=k) hs hx.1 hx.2;have hck:ck ((j:Int)+1)=some ((j:Int)+1):=cE (by omega) (by omega);simp_all [dw,if_pos,cj,bs])
  (λn s _=>by rw [dw,if_neg (Int.lt_irrefl _)]) (n:=k) (s0:=0) hk tB
 rw [show dw k p k (0,0)=_ from key.1]
 have:∀(l:List Int) (j:Nat) (s:Int),oK (λs _ x=>uN s x) j l s=l.foldl uN s:=by
  intro l
  induction l with
  |nil=>intro j s;rfl
  |cons x l ih=>simp_all [oK,foldl_cons]
 rw [this];rfl
def Fa(m:ab)(j:Nat):Option (List Int):=(ES m).find? λp=>decide (p.length=j) && M9 m p
theorem yz{P:List Int->Bool}:∀(l:List (List Int)) (y:List Int),nq (λ(s:List Int×Bool) p=>if P p=true then((p,true),false) else((s.1,false),true)) l (y,false)=(match l.find? P with
 |some p=>(false,(p,true))
 |none=>(true,(y,false)))
 |[],y=>rfl
 |x::l,y=>by
  rw [nq,find?_cons]
  cases h:P x with
  |true=>simp
  |false=>
   simp only [Bool.false_eq_true,if_false,if_true]
   exact yz l y
theorem A1{k:Nat}{m:ab}(v:Vd m)(hk:50≤k)(j:Nat)(y:List Int):
 ii k (my (λ(y14:(List Int)) (p16:(List Int))=>
  if¬((p16.length:Int)=(j:Int)) then(some (y14,true)) else(((dw k p16 k ((0:Int),(0:Int))):Option (Int)).bind λx18=>
  (bQ k m x18).bind λr25=>
  if(0:Int) < (r25.length:Int) then(some (p16,false)) else(some (y14,true))))) (m.2.2.2.2.2.length:Int) (y,false)=some (match Fa m j with
  |some p=>(p,true)
  |none=>(y,false)):=by
 have g8:=v.g8
 unfold ii
 have h:=wW (σ:=List Int×Bool) (k:=k) (Y:=my (λ(y14:(List Int)) (p16:(List Int))=>
  if¬((p16.length:Int)=(j:Int)) then(some (y14,true)) else(((dw k p16 k ((0:Int),(0:Int))):Option (Int)).bind λx18=>
  (bQ k m x18).bind λr25=>
  if(0:Int) < (r25.length:Int) then(some (p16,false)) else(some (y14,true))))) (C:=(mG m).length) g8 (by omega)
  (λs p=>if(decide (p.length=j) && M9 m p)=true then((p,true),false) else((s.1,false),true)) (λs=>s.2=false) (mG m).length k [] 0 (y,false) (by omega) (by omega) (by omega) (by simp;omega) (λs p hp hI=>by
   obtain⟨y,q⟩:=s;obtain rfl:q=false:=hI;have hb:=K7 hp;have hl:=Gk hb;unfold my;simp only [];refine⟨?_,λh=>?_⟩
   .by_cases hj:p.length=j
    .have hs:=I2 p 0 tB λx hx=>by have:=hb.rng x hx;omega
     have e:(λi=>decide (ew (i7 p) i))=λi:Nat=>decide ((i:Int)∈p):=by
      funext i;have:=hs.2 i;have h0:=congrFun RH i;unfold mN at h0;rw [decide_eq_decide];show ew (p.foldl uN 0) i↔_;simp_all
     rw [if_neg (by omega),Il (λx hx=>by have:=hb.rng x hx;omega) (by omega) (by omega),bs,show bQ k m (i7 p)=_ from sG v hk hs.1,bs,length_map];rw [e];unfold M9;grind
    grind
   grind) rfl
 rw [show(m.2.2.2.2.2.length:Int)=(((mG m).length:Nat):Int) from rfl]
 rw [show cU k _ (((mG m).length:Nat):Int) k [] (0:Int) (y,false)=_ from h.1,bs,yz]
 unfold Fa ES
 grind
end Go.Proofs.YtcpbmhgakdeceaaGreat
set_option linter.unusedVariables false
set_option linter.unusedSimpArgs false
namespace Go.Proofs.YtcpbmhgakdeceaaGreat
open K Go Go.Proofs
theorem RP{N:Nat}:((List.range N).map λ(i:Nat)=>(i:Int))∈eh N N [] 0:=by
 have:=xi (C:=N) ((List.range N).map λ(i:Nat)=>(i:Int)) N [] 0 (by omega) (λx hx=>by grind) (by simp_all [List.pairwise_map,List.pairwise_lt_range]);simp_all
theorem IS{m:ab}(v:Vd m):M9 m ((List.range (mG m).length).map λ(i:Nat)=>(i:Int))=true:=by
 unfold M9 tJ;rw [decide_eq_true_iff];refine List.length_pos_of_mem (List.mem_filter.2 ⟨K9 (b:=[]) ⟨by simp,by simp⟩,?_⟩);unfold AW;grind
theorem Im{m:ab}(v:Vd m):(Fa m (mG m).length).isSome=true:=by
 grind [Fa,ES,List.find?_isSome,RP,IS]
def P2(m:ab):List Int×Int:=if¬(lj m=0) then([],lj m) else(((List.range ((mG m).length+1)).findSome? (Fa m)).getD [],0)
theorem A2{k:Nat}{m:ab}(v:Vd m)(hk:50≤k):∀(d j:Nat) (y:List Int) (aM:Nat),(mG m).length - j=d->j≤(mG m).length->d < aM->
 gQ k m m aM (y,(j:Int))=some (((List.range' j (d+1)).findSome? (Fa m)).getD [],0)
 |d,j,y,0,_,_,h=>absurd h (not_lt_zero _)
 |d,j,y,aM+1,hd,hj,hf=>by
  have g8:=v.g8
  rw [gQ]
  show(ii k (my λy14 p16=>if¬((p16.length:Int)=(j:Int)) then _ else _) _ (y,false)).bind _=_
  rw [A1 v hk j y,bs,List.range'_succ,findSome?_cons]
  have hck:ck ((j:Int)+1)=some (((j+1:Nat):Int)):=by grind [cE]
  cases e:Fa m j with
  |some p=>simp
  |none=>
   simp only [Bool.false_eq_true,if_false]
   rw [hck,bs]
   cases d with
   |zero=>
    have:j=(mG m).length:=by omega
    grind [Im]
   |succ d=>exact A2 v hk d (j+1) y aM (by omega) (by omega) (by omega)
theorem Hl{k:Nat}{m:ab}(hs:Sm m)(hk:1010≤k):oC k m=some (P2 m):=by
 unfold oC P2;rw [B0 hs hk (by simp) (by simp) (by simp) (by simp),bs];by_cases hc:lj m=0
 .have v:=Vd.of hc;have g8:=v.g8;have c1:=v.c1;have hb:yj (mC m) []=0:=ze.2 ⟨by simp,by simp⟩;have ho:VQ m [] [] []=true:=rfl;simp only [hc,hb,ho,not_true_eq_false,if_false,if_true,vQ];have:=A2 v (show 50≤k by omega) (mG m).length 0 [] k rfl (zero_le _) (by omega);simp_all [gQ,List.range_eq_range']
 simp_all [not_false_eq_true,if_true,Gh,if_false]
theorem Eg:((List.range 9).all λC=>(List.range 9).all λn=> !(ble n C) || decide (kw 1200 1200 0 (C:Int) (n:Int)=some ((eh C C [] 0).filter λb=>decide (b.length=n))))=true:=by decide+kernel
theorem Rf{C n:Nat}(hC:C < 9)(hn:n≤C):kw 1200 1200 0 (C:Int) (n:Int)=some ((eh C C [] 0).filter λb=>decide (b.length=n)):=by
 have h:=Eg;rw [List.all_eq_true] at h;have h1:=h C (List.mem_range.2 hC);grind [List.all_eq_true,Nat.ble_eq_true_of_le]
theorem Kt:((List.range 9).all λC=>ble (eh C C [] 0).length 256)=true:=by decide+kernel
theorem K8{m:ab}(v:Vd m):(ES m).length≤256:=by
 have g8:=v.g8;have h:=Kt;rw [List.all_eq_true] at h;exact le_of_ble_eq_true (h (mG m).length (List.mem_range.2 (by omega)))
theorem Q4{m:ab}{P:List (List Int)}(v:Vd m)(hP:P.length≤256)(hPl:∀t∈P,t.length≤8):eK 1200 m P 1200 0=some (MC ((P.find? (M9 m)).map λx=>(x,(0:Int)))):=by
 have key:=iW (T:=Int) (f:=eK 1200 m P) P (λ(_:Unit) j=>j) (λ_ _ x=>if M9 m x=true then Except.error (x,(0:Int)) else .ok ()) (λ_ _=>True) (λr=>some r)
  (λn s j hj _=>by
   have hck:ck ((j:Int)+1)=some ((j:Int)+1):=cE (by omega) (by omega);have ht:=hPl _ (List.getElem_mem hj);refine⟨?_,λ_ _=>trivial⟩;rw [eK,if_pos (by omega),cj hj,bs,nP v (by omega) (by omega),bs,bs,hck];unfold M9;grind)
  (λn s _=>by rw [eK,if_neg (Int.lt_irrefl _)]) (n:=1200) (s0:=()) (by omega) trivial
 grind [eK,vc]
theorem QD{m:ab}{j:Nat}:((ES m).filter λb=>decide (b.length=j)).find? (M9 m)=Fa m j:=by
 unfold Fa;simp_all
theorem Q5{m:ab}(v:Vd m):eL 1200 m 1200 0=some (MC (((List.range ((mG m).length+1)).findSome? (Fa m)).map λx=>(x,(0:Int)))):=by
 have g8:=v.g8;obtain⟨h,hh⟩:∃h:Nat->Option (List Int×Int),h=λn=>(Fa m n).map λx=>(x,(0:Int)):=⟨_,rfl⟩
 have key:=iW (T:=Int) (f:=eL 1200 m) (List.range ((mG m).length+1)) (λ(_:Unit) j=>j) (λ_ j _=>MC (h j)) (λ_ _=>True) (λr=>some r)
  (λn s j hj _=>by
   rw [length_range] at hj;have hck:ck ((j:Int)+1)=some ((j:Int)+1):=cE (by omega) (by omega);refine⟨?_,λ_ _=>trivial⟩
   rw [eL,if_pos (by grind),show(m.2.2.2.2.2.length:Int)=(((mG m).length:Nat):Int) from rfl,Rf (by omega) (by omega),bs,show eh (mG m).length (mG m).length [] 0=ES m from rfl,Q4 v (Nat.le_trans (List.length_filter_le _ _) (K8 v)) (λt ht=>by
    grind),QD,show(Fa m j).map (λx=>(x,(0:Int)))=h j by rw [hh]]
   grind [MC,lm,jA,bs])
  (λn s _=>by rw [length_range,eL,if_neg (by grind)]) (n:=1200) (s0:=()) (by grind) trivial
 rw [show eL 1200 m 1200 0=_ from key,List.range_eq_range',xa,hh];congr 2;generalize List.range' 0 ((mG m).length+1)=l
 induction l with
 |nil=>rfl
 |cons x l ih=>
  grind
theorem G8{m:ab}(hs:Sm m):oq 1200 m=some (P2 m):=by
 unfold oq P2;rw [FA hs (by omega),bs];by_cases hc:lj m=0
 .have v:=Vd.of hc;rw [if_neg (λq=>q hc),if_neg (λq=>q hc),Q5 v];cases(List.range ((mG m).length+1)).findSome? (Fa m) with
  |some x=>simp [MC,lm]
  |none=>simp [MC,jA]
 simp_all
end Go.Proofs.YtcpbmhgakdeceaaGreat
set_option linter.unusedVariables false
set_option linter.unusedSimpArgs false
namespace Go.Proofs.YtcpbmhgakdeceaaGreat
open K Go Go.Proofs
theorem CM:qy 1200=some true:=by decide+kernel
theorem W.get{α:Type}{x:Option α}{a:α}(h:W x λy=>y=a):x=some a:=by
 obtain⟨b,e,rfl⟩:=h;exact e
end Go.Proofs.YtcpbmhgakdeceaaGreat
set_option linter.unusedVariables false
set_option linter.unusedSimpArgs false
namespace Go.Proofs.YtcpbmhgakdeceaaGreat
open K Go Go.Proofs
end Go.Proofs.YtcpbmhgakdeceaaGreat
set_option linter.unusedVariables false
set_option linter.unusedSimpArgs false
namespace Go.Proofs.YtcpbmhgakdeceaaGreat
open K Go Go.Proofs
def sT(m:ab)(g:aC):Int:=if¬(lj m=0) then lj m else if(mG m).length=8 then 6 else if¬(tH m g=0) then tH m g else if 0 < (tJ m mN).length/\(tJ (Ie m (mG m++[g])) mN).length=0 then 9 else 0
def EV(m:ab)(g:aC):ab×Int:=if sT m g=0 then(Ie m (mG m++[g]),0) else((0,0,0,0,[],[]),sT m g)
theorem Vd.more{m:ab}(v:Vd m){g:aC}(h8:(mG m).length < 8)(hg:tH m g=0):Vd (Ie m (mG m++[g])):=by
 refine v.with (by grind) λx hx=>?_;rcases List.mem_append.1 hx with h |h
 .exact v.gl x h
 simp_all [List.mem_singleton,tH]
theorem lX{m:ab}{g:aC}{e:Int}(h:sT m g=e)(he:e≠0):EV m g=((0,0,0,0,[],[]),e):=by
 unfold EV;simp_all
theorem xj{m:ab}{g:aC}(h:sT m g=0):EV m g=(Ie m (mG m++[g]),0):=by
 unfold EV;simp_all
theorem EX{m:ab}{g:aC}(h:¬lj m=0):sT m g=lj m:=by
 unfold sT;omega
theorem EY{m:ab}{g:aC}(h:lj m=0)(h8:(mG m).length=8):sT m g=6:=by
 unfold sT;omega
theorem EW{m:ab}{g:aC}(h:lj m=0)(h8:¬(mG m).length=8)(hg:¬tH m g=0):sT m g=tH m g:=by
 unfold sT;omega
theorem Ll{m:ab}{g:aC}(h:lj m=0)(h8:¬(mG m).length=8)(hg:tH m g=0)(h0:0 < (tJ m mN).length)(h1:(tJ (Ie m (mG m++[g])) mN).length=0):sT m g=9:=by
 unfold sT;omega
theorem AG{m:ab}{g:aC}(h:lj m=0)(h8:¬(mG m).length=8)(hg:tH m g=0)(h1:¬(0 < (tJ m mN).length/\(tJ (Ie m (mG m++[g])) mN).length=0)):sT m g=0:=by
 unfold sT;omega
theorem N8{k:Nat}{m:ab}{g:aC}(hs:Sm m)(hk:1010≤k):tA k m g=some (EV m g):=by
 unfold tA;rw [B0 hs hk (by simp) (by simp) (by simp) (by simp),bs];by_cases hc:lj m=0
 .have v:=Vd.of hc;have c1:=v.c1;have c5:=v.c5;have hb:yj (mC m) []=0:=ze.2 ⟨by simp,by simp⟩;have ho:VQ m [] [] []=true:=rfl;simp only [hc,hb,ho,not_true_eq_false,if_false,if_true,vQ];by_cases h8:(mG m).length=8
  .simp_all [if_pos,mG,lX,EY]
  .rw [if_neg (by grind),J7 ⟨c1,c5⟩,bs];by_cases hg:tH m g=0
   .have g8:=v.g8;have v':=v.more (g:=g) (by omega) hg;have hok:aZ (length m.2.2.2.2.2+length [g]):=We (n:=10) (by grind) (by omega);rw [if_neg (λq=>q hg)];rw [show mR k m g=some (Ie m (mG m++[g])) by unfold mR;rw [cV hok,bs];rfl,bs,sG v (by omega) tB,bs,RH];by_cases h0:0 < (tJ m mN).length
    .rw [if_pos (by simp_all),show gK k (Ie m (mG m++[g]))=some (some (Ie m (mG m++[g]))) from rfl,bs,vQ,sG v' (by omega) tB,bs,RH,bs,length_map];by_cases h1:(tJ (Ie m (mG m++[g])) mN).length=0
     .simp_all [if_pos,lX,Ll]
     simp_all [if_neg,xj,AG]
    simp_all [if_neg,length_map,bs,xj,AG]
   simp_all [if_pos,lX,EW]
 simp_all [lX,EX,not_false_eq_true,if_true,Gh,if_false]
theorem Nx{k:Nat}{m:ab}{g:aC}(hs:Sm m)(hk:1010≤k):tc k m g=some (EV m g):=by
 unfold tc;rw [FA hs (by omega),bs];by_cases hc:lj m=0
 .have v:=Vd.of hc;have c1:=v.c1;have c5:=v.c5;rw [if_neg (λq=>q hc)];by_cases h8:(mG m).length=8
  .simp_all [if_pos,mG,lX,EY]
  .rw [if_neg (by grind),I7 ⟨c1,c5⟩,bs];by_cases hg:tH m g=0
   .have g8:=v.g8;have v':=v.more (g:=g) (by omega) hg;have hok:aZ (length (([]:List aC)++m.2.2.2.2.2)+length [g]):=We (n:=10) (by grind) (by omega);have hok0:aZ (length ([]:List aC)+length m.2.2.2.2.2):=XJ (by grind);rw [if_neg (λq=>q hg)];rw [show qe k m g=some (Ie m (mG m++[g])) by unfold qe;rw [cV hok0,bs,cV hok,bs];rfl,bs,nP v (by omega) (by simp),bs,Un];by_cases h0:0 < (tJ m mN).length
    .rw [if_pos (by omega),nP v' (by omega) (by simp),bs,Un,bs];by_cases h1:(tJ (Ie m (mG m++[g])) mN).length=0
     .simp_all [if_pos,lX,Ll]
     simp_all [if_neg,xj,AG]
    simp_all [if_neg,bs,xj,AG]
   simp_all [if_pos,lX,EW]
 simp_all [if_pos,lX,EX]
end Go.Proofs.YtcpbmhgakdeceaaGreat
set_option linter.unusedVariables false
set_option linter.unusedSimpArgs false
namespace Go.Proofs.YtcpbmhgakdeceaaGreat
open K Go Go.Proofs
end Go.Proofs.YtcpbmhgakdeceaaGreat
set_option linter.unusedVariables false
set_option linter.unusedSimpArgs false
namespace Go.Proofs.YtcpbmhgakdeceaaGreat
open K Go Go.Proofs
theorem IZ{r:List ab}{f:Nat->Int->Option (Except Bool Unit)}{a x y:ab}(h9:r=[a,x,y])(hs:Sm a)(vx:Vd x)(sy:Sm y)
 (step:∀(n j:Nat) (z:ab),j < 3->(j:Int) < (r.length:Int)->aK r (j:Int)=some z->Sm z->f (n+1) (j:Int)=f n ((j:Int)+1)) (stop:∀n:Nat,f (n+1) ((r.length:Nat):Int)=some (.ok ())):f 1200 0=some (.ok ()):=by
 subst h9
 have h0:=step 1199 0 a (by omega) (by simp_all) rfl hs
 have h1:=step 1198 1 x (by omega) (by simp_all) rfl vx.sm
 have h2:=step 1197 2 y (by omega) (by simp_all) rfl sy
 simp_all
