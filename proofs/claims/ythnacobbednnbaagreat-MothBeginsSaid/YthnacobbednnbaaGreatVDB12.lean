import Derived.Test.YthnacobbednnbaaGreatVDB11
open Nat
open List hiding mem_of_getElem?
open Array hiding mem_of_getElem? mk
set_option linter.unusedVariables false
set_option linter.unusedSimpArgs false
namespace Go.Proofs.YthnacobbednnbaaGreat
open K Go Go.Proofs
theorem lZ{k:Nat}{l:List (List Int)}(hk:l.length < k)(hl:l.length≤1000000)(hx:∀x∈l,x.length < k/\x.length≤1000000):eg k l l=some true:=by
 unfold eg;rw [if_neg (λhn=>hn rfl)]
 have key:=iY (T:=Int) (f:=dG k l l) l (λ(_:Unit) j=>j) (λ_ _ _=>(.ok ():Except Bool Unit)) (λ_ _=>True) (λr=>some r)
  (λn s j hj _=>by
   have hck:ck ((j:Int)+1)=some ((j:Int)+1):=cy (by omega) (by omega);have h5:=hx _ (List.getElem_mem hj);refine⟨?_,λ_ _=>trivial⟩;simp only [dG,Int.ofNat_lt,hj,if_true,cj hj,bs,um h5.1 h5.2,decide_true,not_true_eq_false,if_false,hck])
  (λn s _=>by simp [dG]) (n:=k) (s0:=()) hk trivial
 rw [show dG k l l k 0=_ from key,wv,kl]
theorem vp{k:Nat}{m:ab}(hk:1010≤k)(hs:Sm m):iT k m m=some true:=by
 have hd:=hs.d;have hg:=hs.g;unfold iT;have e0:((if¬(m.1=m.1) then(some true) else(if¬(m.2.1=m.2.1) then(some true) else(if¬(m.2.2.1=m.2.2.1) then(some true) else(if¬(m.2.2.2.1=m.2.2.2.1) then(some true) else(if¬((m.2.2.2.2.1.length:Int)=(m.2.2.2.2.1.length:Int)) then(some true) else(some (!decide ((m.2.2.2.2.2.length:Int)=(m.2.2.2.2.2.length:Int))))))))):Option Bool)=some false:=by simp
 rw [e0,bs,if_neg (by decide)]
 have key:=iY (T:=Int) (f:=dF k m m) (mD m) (λ(_:Unit) j=>j) (λ_ _ _=>(.ok ():Except Bool Unit)) (λ_ _=>True) (λr=>some r)
  (λn s j hj _=>by
   have hck:ck ((j:Int)+1)=some ((j:Int)+1):=cy (by omega) (by omega);have hr:=hs.r _ (List.getElem_mem hj);have hj':(j:Int) < (m.2.2.2.2.1.length:Int):=Int.ofNat_lt.2 hj;have hg:aH m.2.2.2.2.1 (j:Int)=some (mD m)[j]:=cj hj;refine⟨?_,λ_ _=>trivial⟩;simp only [dF,hj',if_true,hg,bs,lZ (k:=k) (l:=(mD m)[j]) (by omega) (by omega) (λx hx=>by have:=hr.2 x hx;omega),not_true_eq_false,if_false,hck])
  (λn s _=>by
   unfold dF;rw [if_neg (Int.lt_irrefl _)]) (n:=k) (s0:=()) (by omega) trivial
 rw [show dF k m m k 0=_ from key,wv,kl]
 have key:=iY (T:=Int) (f:=dE k m m) (mG m) (λ(_:Unit) j=>j) (λ_ _ _=>(.ok ():Except Bool Unit)) (λ_ _=>True) (λr=>some r)
  (λn s j hj _=>by
   have hck:ck ((j:Int)+1)=some ((j:Int)+1):=cy (by omega) (by omega);have hj':(j:Int) < (m.2.2.2.2.2.length:Int):=Int.ofNat_lt.2 hj;have hg:aH m.2.2.2.2.2 (j:Int)=some (mG m)[j]:=cj hj;refine⟨?_,λ_ _=>trivial⟩;simp only [dE,hj',if_true,hg,bs,not_true_eq_false,if_false,hck])
  (λn s _=>by
   unfold dE;rw [if_neg (Int.lt_irrefl _)]) (n:=k) (s0:=()) (by omega) trivial
 rw [show dE k m m k 0=_ from key,wv,kl]
theorem ux{k:Nat}{m:ab}(hk:1010≤k)(hs:Sm m):g7 k m=some m:=by
 have hd:=hs.d;have hg:=hs.g;unfold g7;rw [dh (by show _≤_;have:m.2.2.2.2.2.length≤1000:=hg;simp only [length_nil];omega),bs]
 have key:=eU (T:=List (List (List Int))×Int) (f:=dH k m) (mD m) (λ(s:List (List (List Int))) j=>(s,j)) (λs j x=>s++[x]) (λj s=>s=(mD m).take j) (λs=>some s)
  (λn s j hj hs'=>by
   have hck:ck ((j:Int)+1)=some ((j:Int)+1):=cy (by omega) (by omega);have hl:s.length=j:=by rw [hs',length_take];omega
   have hok:bR (be (length s+length [(mD m)[j]]))=some ():=dh (by simp [be];omega);have hj':(j:Int) < (m.2.2.2.2.1.length:Int):=Int.ofNat_lt.2 hj;have hg:aH m.2.2.2.2.1 (j:Int)=some (mD m)[j]:=cj hj;have hr:=hs.r _ (List.getElem_mem hj);refine⟨?_,?_⟩
   .simp only [dH,hj',if_true,hg,bs,uy (k:=k) (l:=(mD m)[j]) (by omega) (by omega) (λx hx=>by have:=hr.2 x hx;omega),hok,hck]
   .rw [hs',take_add_one,List.getElem?_eq_getElem hj];rfl)
  (λn s hs=>by
   unfold dH;rw [if_neg (Int.lt_irrefl _)]) (n:=k) (s0:=[]) (by omega) (by simp)
 rw [show dH k m k ([],0)=_ from key.1,bs,key.2,take_length];rfl
theorem Bn{k:Nat}{l:bQ}{m:Int}{x:zF}(hl:Lo l m)(hm:0≤m/\m≤900)(hc:1≤x.1/\x.1≤5)(hd:x.2.2.2.2.1.length≤6):
 W (iW k l x) λr=>Lo r.2 (m+3)/\(0≤r.1.1/\r.1.1 < x.1)/\0≤r.1.2.1/\r.1.2.1≤(x.2.2.2.2.1.length:Int):=by
 unfold iW
 refine W.ck (by omega) (by omega) ?_
 refine W.bind (kx (l:=(l.1,l.2.1,l.2.2)) hl (by omega) (by omega)) λr4 h4=>?_
 refine W.bind (kx (l:=(r4.2.1,r4.2.2.1,r4.2.2.2)) h4.2.2 (by omega) (by omega)) λr5 h5=>?_
 refine W.bind (yX (l:=(r5.2.1,r5.2.2.1,r5.2.2.2)) h5.2.2 (by omega) (by omega) (by omega)) λr6 h6=>?_
 have b4:=h4.2.1 (by omega)
 have b5:=h5.2.1 (by omega)
 exact W.ret ⟨h6.mono (by omega),⟨h4.1,by show r4.1 < x.1;omega⟩,h5.1,b5⟩
theorem Vd.with{m:ab}(v:Vd m){gs:List aR}(h8:gs.length≤8)(hg:∀g∈gs,0≤g.1/\g.1 < mC m/\0≤g.2.1/\g.2.1≤(mD m).length):Vd (m.1,m.2.1,m.2.2.1,m.2.2.2.1,m.2.2.2.2.1,gs):=
 ⟨v.c1,v.c5,v.w0,v.w3,v.s0,v.s3,v.h1,v.h3,v.d1,v.d6,v.r3,v.l5,v.x5,v.nd,h8,hg⟩
theorem zp{k:Nat}(hk:50≤k){l:bQ}{m:Int}{cs ds:Int}(hl:Lo l m)(hm:0≤m/\m≤400)(hc:1≤cs/\cs≤5)(hd:1≤ds/\ds≤6):
 W (iV k l cs ds) λr=>Lo r.2 (m+270)/\Vd r.1/\(mG r.1).length≤4/\mC r.1≤cs/\((mD r.1).length:Int)≤ds:=by
 unfold iV
 refine W.bind (DD hk (l:=(l.1,l.2.1,l.2.2)) hl hm hc hd) λr2 h2=>?_
 obtain⟨lo2,v,hg,hcs,hds⟩:=h2
 have c1:=v.c1
 have c5:=v.c5
 have d6:=v.d6
 refine W.bind (R:=λx=>Lo (x.2.1,x.2.2.1,x.2.2.2) (m+270)/\x.1.length≤4/\∀g∈x.1,0≤g.1/\g.1 < mC r2.1/\0≤g.2.1/\g.2.1≤(mD r2.1).length) ?_ λx hx=>W.ret ⟨hx.1,v.with (by omega) hx.2.2,hx.2.1,hcs,hds⟩
 refine W.bind (kx (l:=(r2.2.1,r2.2.2.1,r2.2.2.2)) lo2 (by omega) (by omega)) λr6 h6=>?_
 have b6:=h6.2.1 (by omega)
 refine W.loop (f:=eQ k r2) (λq y=>∃j:Nat,y.2.2.2.1.length=j/\y.2.2.2.2=r6.1 - j/\(j:Int)≤r6.1/\q=r6.1.toNat - j/\Lo (y.1,y.2.1,y.2.2.1) (m+251+3 * j)/\∀g∈y.2.2.2.1,0≤g.1/\g.1 < mC r2.1/\0≤g.2.1/\g.2.1≤(mD r2.1).length) ?_ r6.1.toNat k _ (by omega)
  ⟨0,rfl,by simp,by omega,by omega,h6.2.2.mono (by omega),by simp⟩
 rintro aL q ⟨nums,d,s,out,y⟩ ⟨j,hj,hy,hle,hq,hlo,hr⟩ ih
 simp only at hj hy hlo hr
 subst hy
 unfold eQ
 dsimp only
 refine W.ite (λhlt=>?_) (λhge=>W.ret ⟨hlo.mono (by omega),by show out.length≤4;omega,hr⟩)
 refine W.bind (Bn (l:=(nums,d,s)) (x:=(r2.1.1,r2.1.2.1,r2.1.2.2.1,r2.1.2.2.2.1,r2.1.2.2.2.2.1,())) hlo (by omega) ⟨c1,c5⟩ d6) λr9 h9=>?_
 rw [dh (by simp [be];omega),bs]
 refine W.ck (by omega) (by omega) ?_
 refine ih (q - 1) (_,_,_,_,_) (by omega) ⟨j+1,by simp [hj],by show r6.1 - j - 1=r6.1 - ((j+1:Nat):Int);omega,by omega,by omega,h9.1.mono (by omega),λg hgg=>?_⟩
 rcases List.mem_append.1 hgg with h |h
 .
  exact hr g h
 .
  rw [List.mem_singleton.1 h];exact⟨h9.2.1.1,h9.2.1.2,h9.2.2⟩
theorem Sm.with{m:ab}(h:Sm m){gs:List aR}(hg:gs.length≤1000):Sm (m.1,m.2.1,m.2.2.1,m.2.2.2.1,m.2.2.2.2.1,gs):=⟨h.d,h.r,hg⟩
theorem C0{k:Nat}(hk:1010≤k){m:ab}(hs:Sm m){g:aR}{l:bQ}(hl:Lo l 0):
 W (ju k m g l) λr=>Lo r.2 270/\∃a b,r.1=[m,a,b]/\Vd a/\Sm b/\mC a≤4/\((mD a).length:Int)≤4/\b=(a.1,a.2.1,a.2.2.1,a.2.2.2.1,a.2.2.2.2.1,mG a++[g]):=by
 unfold ju
 refine W.bind (zp (k:=k) (by omega) (l:=(l.1,l.2.1,l.2.2)) hl (by omega) (by omega) (by omega)) λr3 h3=>?_
 obtain⟨lo3,v,hg,hcs,hds⟩:=h3
 rw [ux hk v.sm,bs,dh (by simp [be];have:r3.1.2.2.2.2.2.length≤4:=hg;omega),bs]
 exact W.ret ⟨lo3,_,_,rfl,v,v.sm.with (by simp;have:r3.1.2.2.2.2.2.length≤4:=hg;omega),hcs,hds,rfl⟩
theorem MB{k:Nat}(hk:1010≤k){m:ab}:W (pK k m) λb=>b=false->Sm m:=by
 unfold pK
 have l2:∀(y:Nat) (hy:y < (mD m).length),(mD m)[y].length≤20->W (iw k m (y:Int) k 0) λr=>match r with | .error e=>e=true | .ok _=>∀l∈(mD m)[y],l.length≤1000:=by
  intro y hy h20
  refine W.loop (f:=iw k m (y:Int)) (λq z=>∃j:Nat,z=(j:Int)/\j≤(mD m)[y].length/\q=(mD m)[y].length - j/\∀i (h:i < (mD m)[y].length),i < j->(mD m)[y][i].length≤1000) ?_ (mD m)[y].length k 0 (by omega)
   ⟨0,rfl,by omega,by omega,λi h h'=>by omega⟩
  rintro aL q z ⟨j,rfl,hle,hq,hx⟩ ih;unfold iw;have hg:aH m.2.2.2.2.1 (y:Int)=some (mD m)[y]:=cj hy;rw [hg,bs];refine W.ite (λhlt=>?_) (λhge=>W.ret λl hl=>?_)
  .have hj:j < (mD m)[y].length:=by omega
   rw [bs,cj hj,bs];refine W.ite (λh=>W.ret rfl) (λh=>W.ck (by omega) (by omega) (ih (q - 1) _ (by omega) ⟨j+1,by omega,by omega,by omega,λi hi hij=>?_⟩));by_cases e:i=j
   .subst e;omega
   .exact hx i hi (by omega)
  .obtain⟨i,hi,rfl⟩:=List.getElem_of_mem hl;exact hx i hi (by omega)
 have l1:W (ix k m k 0) λr=>match r with | .error e=>e=true | .ok _=>(mD m).length≤20->∀r∈mD m,r.length≤1000/\∀l∈r,l.length≤1000:=by
  refine W.loop (f:=ix k m) (λq z=>∃j:Nat,z=(j:Int)/\j≤20/\j≤(mD m).length/\q=20 - j/\∀i (h:i < (mD m).length),i < j->(mD m)[i].length≤1000/\∀l∈(mD m)[i],l.length≤1000) ?_ 20 k 0 (by omega)
   ⟨0,rfl,by omega,by omega,by omega,λi h h'=>by omega⟩
  rintro aL q z ⟨j,rfl,h20,hle,hq,hx⟩ ih;unfold ix
  have e0:((if(j:Int) < (m.2.2.2.2.1.length:Int) then(some (decide ((j:Int) < 20))) else(some false)):Option Bool)=some (decide (j < (mD m).length/\j < 20)):=by
   by_cases h1:j < (mD m).length
   .rw [if_pos (show(j:Int) < ((mD m).length:Int) by omega)];by_cases h2:j < 20
    .simp [h1,h2];omega
    .simp [h1,h2];omega
   .rw [if_neg (show¬(j:Int) < ((mD m).length:Int) by omega)];simp [h1]
  rw [e0,bs];refine W.ite (λhb=>?_) (λhb=>W.ret λh r hr=>?_)
  .have hb:=of_decide_eq_true hb;have hg:aH m.2.2.2.2.1 (j:Int)=some (mD m)[j]:=cj hb.1;rw [hg,bs];refine W.bEE (R:=λr=>match r with | .error e=>e=true | .ok _=>(mD m)[j].length≤20/\∀l∈(mD m)[j],l.length≤1000) (W.ite (λh=>W.ret rfl) (λh=>(l2 j hb.1 (by omega)).mono λr hr=>?_)) (λe he=>W.ret he) (λ_ ho=>?_)
   .cases r with
    |error e=>exact hr
    |ok _=>exact⟨by omega,hr⟩
   .refine W.ck (by omega) (by omega) (ih (q - 1) _ (by omega) ⟨j+1,by omega,by omega,by omega,by omega,λi hi hij=>?_⟩);by_cases e:i=j
    .subst e;exact⟨by have:=ho.1;omega,ho.2⟩
    .exact hx i hi (by omega)
  .have hb:¬(j < (mD m).length/\j < 20):=λhh=>hb (decide_eq_true hh);obtain⟨i,hi,rfl⟩:=List.getElem_of_mem hr;exact hx i hi (by omega)
 refine W.bEE l1 (λe he=>W.ret λh=>by rw [he] at h;cases h) (λ_ ho=>?_);by_cases h1:20 < (mD m).length
 .rw [if_pos (show(20:Int) < ((mD m).length:Int) by omega),bs];exact W.ret λh=>by cases h
 .rw [if_neg (show¬(20:Int) < ((mD m).length:Int) by omega),bs];refine W.ret λh=>⟨by omega,ho (by omega),?_⟩;have h:=of_decide_eq_false h;show m.2.2.2.2.2.length≤1000;omega
end Go.Proofs.YthnacobbednnbaaGreat
set_option linter.unusedVariables false
set_option linter.unusedSimpArgs false
namespace Go.Proofs.YthnacobbednnbaaGreat
open K Go Go.Proofs
def jA(C:Nat):Nat->List Int->Nat->List (List Int)
 |0,b,_=>[b]
 |n+1,b,f=>b::(List.range' f (C - f)).flatMap λ(c:Nat)=>jA C n (b++[(c:Int)]) (c+1)
theorem vo{b:List Int}{c:Int}:dk (b++[c])=wP (dk b) c:=by
 unfold dk;rw [List.foldl_append];rfl
theorem Bi{σ:Type}{k:Nat}{Y:σ->Int->Option (σ×Bool)}{C:Nat}(hC:C≤5)(hk:10≤k)(g:σ->List Int->σ)(wT:Nat->σ->Prop):
 ∀(n m0:Nat) (b:List Int) (f:Nat) (s:σ) (r:Nat),C - f≤n->f≤C->n < m0->kp (dk b)->(∀r s,∀b'∈jA C n b f,wT (r+1) s->Y s (dk b')=some (g s b',true)/\wT r (g s b'))->wT ((jA C n b f).length+r) s->
  dJ k Y (C:Int) m0 (dk b) (f:Int) s=some (true,(jA C n b f).foldl g s)/\wT r ((jA C n b f).foldl g s)
 |n,0,b,f,s,r,_,_,h,_,_,_=>absurd h (not_lt_zero _)
 |0,m0+1,b,f,s,r,h1,h2,_,hm,hY,hI=>by
  have hf:f=C:=by omega
  subst hf
  unfold dJ
  obtain⟨k,rfl⟩:∃n,k=n+1:=⟨k - 1,by omega⟩
  have hI:wT (r+1) s:=by rw [Nat.add_comm];exact hI
  have:=hY r s b (by simp [jA]) hI
  rw [this.1,bs,if_neg (by simp)]
  rw [dD,if_neg (Int.lt_irrefl _),kl]
  exact⟨rfl,this.2⟩
 |n+1,m0+1,b,f,s,r,h1,h2,h3,hm,hY,hI=>by
  unfold dJ
  have hlen:(jA C (n+1) b f).length=((List.range' f (C - f)).flatMap λ(c:Nat)=>jA C n (b++[(c:Int)]) (c+1)).length+1:=by rw [jA,length_cons]
  rw [hlen] at hI
  have h0:=hY (((List.range' f (C - f)).flatMap λ(c:Nat)=>jA C n (b++[(c:Int)]) (c+1)).length+r) s b (by simp [jA]) (by rw [Nat.add_right_comm] at hI;exact hI)
  rw [h0.1,bs,if_neg (by simp)]
  have loop:∀(d x:Nat) (s:σ) (aL:Nat) (r:Nat),C - x=d->f≤x->x≤C->d < aL->wT (((List.range' x (C - x)).flatMap λ(c:Nat)=>jA C n (b++[(c:Int)]) (c+1)).length+r) s->
   dD k (dk b) (C:Int) (dJ k Y (C:Int) m0) aL ((x:Int),s)=some (.ok (((List.range' x (C - x)).flatMap λ(c:Nat)=>jA C n (b++[(c:Int)]) (c+1)).foldl g s))/\wT r (((List.range' x (C - x)).flatMap λ(c:Nat)=>jA C n (b++[(c:Int)]) (c+1)).foldl g s):=by
   intro d
   induction d with
   |zero=>
    intro x s aL r hd hx hx2 hfu hI;obtain⟨aL,rfl⟩:∃n,aL=n+1:=⟨aL - 1,by omega⟩;have:x=C:=by omega
    subst this;rw [Nat.sub_self] at hI⊢;rw [dD,if_neg (Int.lt_irrefl _)];exact⟨rfl,by simpa using hI⟩
   |succ d ih=>
    intro x s aL r hd hx hx2 hfu hI;obtain⟨aL,rfl⟩:∃n,aL=n+1:=⟨aL - 1,by omega⟩;have hw:=od (k:=k) hm (show(0:Int)≤(x:Int) by omega) (show(x:Int) < 8 by omega);have hck:ck ((x:Int)+1)=some (((x+1:Nat):Int)):=by rw [cy (by omega) (by omega)];rfl
    have e:C - x=(C - (x+1))+1:=by omega
    rw [e,List.range'_succ,List.flatMap_cons,length_append,Nat.add_assoc] at hI
    have hsub:=Bi hC hk g wT n m0 (b++[(x:Int)]) (x+1) s _ (by omega) (by omega) (by omega) (by rw [vo];exact hw.2.1) (λr s b' hb'=>hY r s b' (by
     rw [jA];refine mem_cons_of_mem _ (List.mem_flatMap.2 ⟨x,?_,hb'⟩);rw [List.mem_range'_1];omega)) hI
    rw [vo] at hsub;have hih:=ih (x+1) _ aL r (by omega) (by omega) (by omega) (by omega) hsub.2;rw [dD,if_pos (show(x:Int) < (C:Int) by omega),hw.1,bs,hck,bs,hsub.1,bs,if_neg (by simp),bs,hih.1];rw [e,List.range'_succ,List.flatMap_cons,List.foldl_append];exact⟨rfl,hih.2⟩
  have hl:=loop (C - f) f _ k r rfl (Nat.le_refl _) h2 (by omega) h0.2;rw [hl.1,kl];exact⟨rfl,hl.2⟩
def Bz(m:ab)(but:Nat->Bool)(B:Int->Bool):Bool:=(mG m).zipIdx.all λg=>but g.2 || decide (g.1.2.2=decide (mS m≤jW m B g.1.2.1.toNat g.1.1))
theorem yk{α ε:Type}{p:Nat->α->Bool}{e:ε}:∀(l:List α) (j:Nat),dW (λ(_:Unit) j x=>if p j x=true then .ok () else Except.error e) j l ()=if((l.zipIdx j).all λg=>p g.2 g.1)=true then .ok () else .error e
 |[],j=>rfl
 |x::l,j=>by
  rw [dW,zipIdx_cons,all_cons]
  cases h:p j x with
  |true=>simp only [if_true,Bool.true_and];exact yk l (j+1)
  |false=>simp
theorem By{k:Nat}{m:ab}{S a2:Int}(v:Vd m)(hk:10≤k)(hS:kp S)(ha:kp a2):dw k m S a2=some (Bz m (λi=>decide (eo a2 i)) (sT S)):=by
 have g8:=v.g8;have d6:=v.d6;unfold dw ia;rw [yo v hk hS,bs]
 have key:=iY (T:=Int) (f:=cJ k m a2 (cr (OL m (sT S)))) (mG m) (λ(_:Unit) j=>j) (λ_ j x=>if(decide (eo a2 j) || decide (x.2.2=decide (mS m≤jW m (sT S) x.2.1.toNat x.1)))=true then .ok () else Except.error ()) (λ_ _=>True) (λr=>some (match r with | .error _=>false | .ok _=>true))
  (λn s j hj _=>by
   have hck:ck ((j:Int)+1)=some ((j:Int)+1):=cy (by omega) (by omega);have hg:=v.gl _ (List.getElem_mem hj);have hj':(j:Int) < (m.2.2.2.2.2.length:Int):=Int.ofNat_lt.2 hj;have hget:aH m.2.2.2.2.2 (j:Int)=some (mG m)[j]:=cj hj;generalize (mG m)[j]=x at *;have c5:=v.c5;have e2:x.2.1=((x.2.1.toNat:Nat):Int):=by omega
   have hrow:aH (cr (OL m (sT S))) x.2.1=some (l8 (OL m (sT S) x.2.1.toNat)):=by
    rw [e2,JA (by omega),Int.toNat_natCast]
   have hval:aH (l8 (OL m (sT S) x.2.1.toNat)) x.1=some (jW m (sT S) x.2.1.toNat x.1):=by
    rw [yP hg.1 (by omega),Np v (by omega) hg.1 hg.2.1]
   refine⟨?_,λ_ _=>trivial⟩;have hm1:m.2.2.1=mS m:=rfl;simp only [cJ,hj',if_true,hget,bs,zo (k:=k) ha (i:=j) (by omega),hrow,hval,hm1];cases hh:decide (eo a2 j) with
   |true=>simp only [not_true_eq_false,if_false,bs,Bool.false_eq_true,hck,Bool.true_or,if_true]
   |false=>
    simp only [Bool.false_eq_true,not_false_eq_true,if_true,bs,Bool.false_or];by_cases e:(decide (mS m≤jW m (sT S) x.2.1.toNat x.1))=x.2.2
    .rw [if_neg (by simp [e]),hck,bs,if_pos (by simp [e])]
    .rw [if_pos (by simp [e]),if_neg (by simp;exact λh=>e h.symm)])
  (λn s _=>by
   unfold cJ;rw [if_neg (Int.lt_irrefl _)]) (n:=k) (s0:=()) (by omega) trivial
 rw [show cJ k m a2 (cr (OL m (sT S))) k 0=_ from key,yk (p:=λj (x:aR)=>decide (eo a2 j) || decide (x.2.2=decide (mS m≤jW m (sT S) x.2.1.toNat x.1)))];unfold Bz;cases((mG m).zipIdx 0).all λg=>decide (eo a2 g.2) || decide (g.1.2.2=decide (mS m≤jW m (sT S) g.1.2.1.toNat g.1.1)) with
 |true=>rfl
 |false=>rfl
end Go.Proofs.YthnacobbednnbaaGreat
set_option linter.unusedVariables false
set_option linter.unusedSimpArgs false
namespace Go.Proofs.YthnacobbednnbaaGreat
open K Go Go.Proofs
theorem yw{m:ab}(v:Vd m){A B:Int->Bool}(h:∀c,0≤c->c < mC m->A c=B c):∀(n:Nat) (c:Int),0≤c->c < mC m->jW m A n c=jW m B n c
 |0,c,h0,h1=>by unfold jW;rw [h c h0 h1]
 |n+1,c,h0,h1=>by
  have ih:=yw v h n
  unfold jW
  cases e:yt m n c with
  |none=>simp only [];rw [ih c h0 h1]
  |some l=>
   have hb:=(wu v e).2
   have:(l.any λx=>decide (mW m≤jW m A n x))=l.any λx=>decide (mW m≤jW m B n x):=by
    rw [Bool.eq_iff_iff];simp only [List.any_eq_true,decide_eq_true_eq];constructor
    .rintro⟨x,hx,h⟩;exact⟨x,hx,by rw [<-ih x (hb x hx).1 (hb x hx).2];exact h⟩
    .rintro⟨x,hx,h⟩;exact⟨x,hx,by rw [ih x (hb x hx).1 (hb x hx).2];exact h⟩
   simp only [];rw [ih c h0 h1,this]
theorem D8{α:Type}{l:List α}{p q:α->Bool}(h:∀x∈l,p x=q x):l.all p=l.all q:=by
 induction l with
 |nil=>rfl
 |cons x l ih=>rw [all_cons,all_cons,h x mem_cons_self,ih λy hy=>h y (mem_cons_of_mem _ hy)]
theorem Gt{m:ab}(v:Vd m){but:Nat->Bool}{A B:Int->Bool}(h:∀c,0≤c->c < mC m->A c=B c):Bz m but A=Bz m but B:=by
 unfold Bz;refine D8 λg hg=>?_;obtain⟨x,i⟩:=g;have hx:=v.gl x (List.fst_mem_of_mem_zipIdx hg);show(but i || decide (x.2.2=decide (mS m≤jW m A x.2.1.toNat x.1)))=(but i || decide (x.2.2=decide (mS m≤jW m B x.2.1.toNat x.1)));rw [yw v h _ _ hx.1 hx.2.1]
def wx(m:ab):List (List Int):=jA (mC m).toNat (mC m).toNat [] 0
theorem E9{C:Nat}:∀(n:Nat) (b:List Int) (f:Nat),Bg (C:Int) b->(∀x∈b,x < (f:Int))->∀b'∈jA C n b f,Bg (C:Int) b'
 |0,b,f,h,_,b',hb=>by
  rw [jA,List.mem_singleton] at hb
  rw [hb];exact h
 |n+1,b,f,h,hf,b',hb=>by
  rw [jA,mem_cons] at hb
  rcases hb with rfl |hb
  .
   exact h
  .
   obtain⟨c,hc,hb⟩:=List.mem_flatMap.1 hb
   rw [List.mem_range'_1] at hc
   refine E9 n (b++[(c:Int)]) (c+1) ⟨λx hx=>?_,?_⟩ (λx hx=>?_) b' hb
   .
    rcases List.mem_append.1 hx with hx |hx
    .
     exact h.rng x hx
    .
     rw [List.mem_singleton.1 hx];omega
   .
    rw [pairwise_append]
    exact⟨h.asc,by simp,λa ha x hx=>by rw [List.mem_singleton.1 hx];have:=hf a ha;omega⟩
   .
    rcases List.mem_append.1 hx with hx |hx
    .
     have:=hf x hx;omega
    .
     rw [List.mem_singleton.1 hx];omega
theorem zK{m:ab}(v:Vd m){b:List Int}(h:b∈wx m):Bg (mC m) b:=by
 have c1:=v.c1;have:=E9 (C:=(mC m).toNat) (mC m).toNat [] 0 ⟨by simp,by simp⟩ (by simp) b h;rwa [show(((mC m).toNat:Nat):Int)=mC m by omega] at this
theorem ww{m:ab}(v:Vd m):(wx m).length≤32:=by
 have c1:=v.c1;have c5:=v.c5;have:(mC m).toNat=1\/(mC m).toNat=2\/(mC m).toNat=3\/(mC m).toNat=4\/(mC m).toNat=5:=by omega
 unfold wx;rcases this with h |h |h |h |h <;> rw [h] <;> decide
def mO(m:ab)(but:Nat->Bool):List (List Int):=(wx m).filter λb=>Bz m but λc=>decide (c∈b)
theorem qR{α β:Type}{p:α->Bool}{h:α->β}:∀(l:List α) (s:List β),l.foldl (λ(s:List β×Bool) b=>(if p b then s.1++[h b] else s.1,false)) (s,false)=(s++(l.filter p).map h,false)
 |[],s=>by simp
 |x::l,s=>by
  rw [foldl_cons,qR l]
  cases e:p x with
  |true=>simp [e]
  |false=>simp [e]
theorem vO{k:Nat}{m:ab}{a2:Int}(v:Vd m)(hk:50≤k)(ha:kp a2):eP k m a2=some ((mO m λi=>decide (eo a2 i)).map dk):=by
 have c1:=v.c1;have c5:=v.c5;unfold eP kN;have hC:m.1=(((mC m).toNat:Nat):Int):=by show mC m=_;omega
 have h:=Bi (σ:=List Int×Bool) (k:=k) (Y:=sd (λ(y5:(List Int)) (p7:Int)=>(dw k m p7 a2).bind λr9=>if r9=true then((bR (be (length y5+length [p7]))).bind λ_=>some (y5++[p7],true)) else(some (y5,true)))) (C:=(mC m).toNat) (by omega) (by omega)
  (λs b=>(if Bz m (λi=>decide (eo a2 i)) (λc=>decide (c∈b)) then s.1++[dk b] else s.1,false)) (λr s=>s.2=false/\s.1.length+r≤1000) (mC m).toNat k [] 0 ([],false) 0 (by omega) (by omega) (by omega) vQ (λr s b' hb' hI=>by
   obtain⟨y,q⟩:=s;obtain⟨rfl,hI⟩:q=false/\y.length+(r+1)≤1000:=hI;have hbg:=zK v hb';have hset:=hbg.set c5;have hex:Bz m (λi=>decide (eo a2 i)) (sT (dk b'))=Bz m (λi=>decide (eo a2 i)) (λc=>decide (c∈b')):=Gt v λc h0 _=>hset.2 c h0;unfold sd;simp only [];rw [By v (by omega) hset.1 ha,hex,bs];cases Bz m (λi=>decide (eo a2 i)) (λc=>decide (c∈b')) with
   |true=>
    simp only [if_true];rw [dh (by simp [be];omega),bs,bs];exact⟨by first |rfl |trivial,by first |rfl |trivial,by show(y++[dk b']).length+r≤1000;simp;omega⟩
   |false=>
    simp only [Bool.false_eq_true,if_false];rw [bs];exact⟨by first |rfl |trivial,by first |rfl |trivial,by show y.length+r≤1000;omega⟩) ⟨rfl,by have:=ww v;unfold wx at this;simp;omega⟩
 rw [hC,show dJ k (sd (λ(y5:(List Int)) (p7:Int)=>(dw k m p7 a2).bind λr9=>if r9=true then((bR (be (length y5+length [p7]))).bind λ_=>some (y5++[p7],true)) else(some (y5,true)))) (((mC m).toNat:Nat):Int) k 0 0 ([],false)=_ from h.1,bs,bs];rw [qR (p:=λb=>Bz m (λi=>decide (eo a2 i)) λc=>decide (c∈b)) (h:=dk)];simp only [Bool.false_eq_true,if_false,nil_append];rfl
theorem JI:∀{a b:List Int},a.Pairwise (· < ·)->b.Pairwise (· < ·)->(∀x,x∈a↔x∈b)->a=b
 |[],[],_,_,_=>rfl
 |[],y::b,_,_,h=>absurd ((h y).2 mem_cons_self) (by simp)
 |x::a,[],_,_,h=>absurd ((h x).1 mem_cons_self) (by simp)
 |x::a,y::b,ha,hb,h=>by
  rw [pairwise_cons] at ha hb
  have e:x=y:=by
   rcases mem_cons.1 ((h x).1 mem_cons_self) with e |hx
   .exact e
   .rcases mem_cons.1 ((h y).2 mem_cons_self) with e |hy
    .exact e.symm
    .have h1:=hb.1 x hx;have h2:=ha.1 y hy;omega
  subst e;rw [JI ha.2 hb.2 λz=>?_];have:=h z;simp only [mem_cons] at this;constructor
  .intro hz;rcases this.1 (.inr hz) with rfl |h'
   .exact absurd (ha.1 z hz) (Int.lt_irrefl _)
   .exact h'
  .intro hz;rcases this.2 (.inr hz) with rfl |h'
   .exact absurd (hb.1 z hz) (Int.lt_irrefl _)
   .exact h'
theorem oh{k:Nat}{C:Int}{b:List Int}(hk:10≤k)(hC:C≤5)(h:Bg C b):eI k (dk b)=some b:=by
 have hset:=h.set hC;unfold eI
 have key:=eU (T:=List Int×Int) (f:=dQ k (dk b)) (List.range 5) (λ(s:List Int) j=>(s,j)) (λs j _=>if decide (eo (dk b) j) then s++[(j:Int)] else s) (λj s=>s.length≤j/\s.Pairwise (· < ·)/\∀x,x∈s↔x∈b/\x < (j:Int)) (λs=>some s)
  (λn s j hj hs=>by
   rw [length_range] at hj;have hck:ck ((j:Int)+1)=some ((j:Int)+1):=cy (by omega) (by omega);have hj5:(j:Int) < 5:=by omega
   have hin:=hset.2 (j:Int) (by omega);unfold sT at hin;rw [Int.toNat_natCast] at hin;refine⟨?_,?_⟩
   .simp only [dQ,hj5,if_true,zo (k:=k) hset.1 (by omega:j < 8),bs];cases decide (eo (dk b) j) with
    |true=>
     simp only [if_true];rw [dh (by simp [be];omega),bs,bs,hck,bs]
    |false=>simp only [Bool.false_eq_true,if_false,bs,hck]
   .rw [hin];by_cases hb:(j:Int)∈b
    .rw [decide_eq_true hb];simp only [if_true];refine⟨by simp;omega,?_,λx=>?_⟩
     .rw [pairwise_append];exact⟨hs.2.1,by simp,λa ha x hx=>by rw [List.mem_singleton.1 hx];exact((hs.2.2 a).1 ha).2⟩
     .rw [List.mem_append,hs.2.2 x,List.mem_singleton];constructor
      .rintro(⟨h1,h2⟩ |rfl)
       .exact⟨h1,by omega⟩
       .exact⟨hb,by omega⟩
      .rintro⟨h1,h2⟩;by_cases e:x=(j:Int)
       .exact .inr e
       .exact .inl ⟨h1,by omega⟩
    .rw [decide_eq_false hb];simp only [Bool.false_eq_true,if_false];refine⟨by omega,hs.2.1,λx=>?_⟩;rw [hs.2.2 x];constructor
     .rintro⟨h1,h2⟩;exact⟨h1,by omega⟩
     .rintro⟨h1,h2⟩;by_cases e:x=(j:Int)
      .subst e;exact absurd h1 hb
      .exact⟨h1,by omega⟩)
  (λn s hs=>by
   rw [length_range];unfold dQ;rw [if_neg (show¬(((5:Nat):Int) < 5) by decide)]) (n:=k) (s0:=[]) (by rw [length_range];omega) ⟨by simp,by simp,λx=>by simp;intro hx;exact(h.rng x hx).1⟩
 rw [show dQ k (dk b) k ([],0)=_ from key.1,bs];have:=key.2;rw [length_range] at this;exact congrArg some (JI this.2.1 h.asc λx=>by rw [this.2.2 x];exact⟨λhh=>hh.1,λhh=>⟨hh,by have:=h.rng x hh;omega⟩⟩)
end Go.Proofs.YthnacobbednnbaaGreat
set_option linter.unusedVariables false
set_option linter.unusedSimpArgs false
namespace Go.Proofs.YthnacobbednnbaaGreat
open K Go Go.Proofs
def Ha(b:List Int):Nat:=match b.getLast? with |some x=>x.toNat+1 |none=>0
theorem yv{C:Nat}(hC:C≤5):∀(n:Nat) (b:List Int) (f:Nat),(jA C n b f).length≤6 ^ n
 |0,b,f=>by simp [jA]
 |n+1,b,f=>by
  have fl:∀l:List Nat,(l.flatMap λ(c:Nat)=>jA C n (b++[(c:Int)]) (c+1)).length≤l.length * 6 ^ n:=by
   intro l
   induction l with
   |nil=>simp
   |cons c l ih=>
    rw [List.flatMap_cons,length_append,length_cons,Nat.add_mul];have:=yv hC n (b++[(c:Int)]) (c+1);omega
  have:=fl (List.range' f (C - f));rw [List.length_range'] at this;rw [jA,length_cons,Nat.pow_succ];have h1:(C - f) * 6 ^ n≤5 * 6 ^ n:=mul_le_mul_right _ (by omega);have h2:1≤6 ^ n:=Nat.one_le_pow _ _ (by decide);omega
theorem vF{b:List Int}{c:Nat}:Ha (b++[(c:Int)])=c+1:=by
 unfold Ha;rw [List.getLast?_append];simp
theorem EC{k C:Nat}(hC:C≤5)(hk:10≤k):∀(n m0:Nat) (b:List Int),n≤5->C - Ha b≤n->Ha b≤C->n < m0->b.length+n≤5->(∀x∈b,0≤x/\x < 5)->lB k m0 (C:Int) b=some (jA C n b (Ha b))
 |n,0,b,_,_,_,h,_,_=>absurd h (not_lt_zero _)
 |n,m0+1,b,h5,h1,h2,h3,hb,hx=>by
  unfold lB
  have hn:((if(0:Int) < (b.length:Int) then((ck ((b.length:Int) - (1:Int))).bind λx4=>(aH b x4).bind λx5=>(ck (x5+(1:Int))).bind λx6=>some x6) else(some (0:Int))):Option Int)=some ((Ha b:Nat):Int):=by
   by_cases h0:b=[]
   .subst h0;rfl
   .have hl:0 < b.length:=List.length_pos_iff.2 h0;have c1:ck ((b.length:Int) - 1)=some (((b.length - 1:Nat):Int)):=by rw [cy (by omega) (by omega),show((b.length:Int) - 1)=((b.length - 1:Nat):Int) by omega]
    have hg:=cj (l:=b) (i:=b.length - 1) (by omega);have hxx:=hx _ (List.getElem_mem (l:=b) (n:=b.length - 1) (by omega));have hla:b.getLast? =some b[b.length - 1]:=by rw [List.getLast?_eq_getElem?,List.getElem?_eq_getElem (by omega)]
    have c2:ck (b[b.length - 1]+1)=some (b[b.length - 1]+1):=cy (by omega) (by omega);rw [if_pos (by omega),c1,bs,hg,bs,c2,bs];unfold Ha;rw [hla];show some (b[b.length - 1]+1)=some (((b[b.length - 1].toNat+1:Nat)):Int);congr 1;omega
  rw [hn,bs];cases n with
  |zero=>
   have hf:Ha b=C:=by omega
   rw [hf];obtain⟨k,rfl⟩:∃n,k=n+1:=⟨k - 1,by omega⟩;rw [il,if_neg (Int.lt_irrefl _),bs];rfl
  |succ n=>
   have loop:∀(d x:Nat) (acc:List (List Int)) (aL:Nat),C - x=d->Ha b≤x->x≤C->d < aL->acc.length+((List.range' x (C - x)).flatMap λ(c:Nat)=>jA C n (b++[(c:Int)]) (c+1)).length≤100000->
    il k (C:Int) b (lB k m0) aL (acc,(x:Int))=some (acc++(List.range' x (C - x)).flatMap λ(c:Nat)=>jA C n (b++[(c:Int)]) (c+1)):=by
    intro d
    induction d with
    |zero=>
     intro x acc aL hd hx1 hx2 hfu hl;obtain⟨aL,rfl⟩:∃n,aL=n+1:=⟨aL - 1,by omega⟩;have:x=C:=by omega
     subst this;rw [il,if_neg (Int.lt_irrefl _),Nat.sub_self];simp
    |succ d ih=>
     intro x acc aL hd hx1 hx2 hfu hl;obtain⟨aL,rfl⟩:∃n,aL=n+1:=⟨aL - 1,by omega⟩;have e:C - x=(C - (x+1))+1:=by omega
     rw [e,List.range'_succ,List.flatMap_cons,length_append] at hl;have hck:ck ((x:Int)+1)=some (((x+1:Nat):Int)):=by rw [cy (by omega) (by omega)];rfl
     have hsub:=EC hC hk n m0 (b++[(x:Int)]) (by omega) (by rw [vF];omega) (by rw [vF];omega) (by omega) (by simp;omega) (λy hy=>by
      rcases List.mem_append.1 hy with h |h
      .exact hx y h
      .rw [List.mem_singleton.1 h];omega)
     rw [vF] at hsub;have e0:([]:List Int)++b=b:=rfl;have hok:bR (be (acc.length+(jA C n (b++[(x:Int)]) (x+1)).length))=some ():=dh (show acc.length+(jA C n (b++[(x:Int)]) (x+1)).length≤4294967296 by omega);rw [il,if_pos (show(x:Int) < (C:Int) by omega),dh (by simp [be];omega),bs,e0,dh (by simp [be];omega),bs,hsub,bs];dsimp only;rw [hok,bs,hck,bs];rw [ih (x+1) _ aL (by omega) (by omega) (by omega) (by omega) (by rw [length_append];omega)];rw [e,List.range'_succ,List.flatMap_cons,List.append_assoc]
   have hlen:=yv hC (n+1) b (Ha b);rw [jA,length_cons] at hlen;have h6:6 ^ (n+1)≤6 ^ 5:=Nat.pow_le_pow_right (by decide) h5;have h7:(6:Nat) ^ 5=7776:=by decide
   have h1l:([b]:List (List Int)).length=1:=rfl;rw [loop (C - Ha b) (Ha b) [b] k rfl (Nat.le_refl _) h2 (by omega) (by omega),bs,jA];rfl
theorem Ie{k:Nat}{m:ab}(v:Vd m)(hk:10≤k):lB k k m.1 []=some (wx m):=by
 have c1:=v.c1;have c5:=v.c5;have:=EC (k:=k) (C:=(mC m).toNat) (by omega) hk (mC m).toNat k [] (by omega) (by show _ - 0≤_;omega) (zero_le _) (by omega) (by simp;omega) (by simp);rw [show(((mC m).toNat:Nat):Int)=m.1 by show _=mC m;omega] at this;exact this
theorem F4{k:Nat}{m:ab}{B:Int->Bool}(v:Vd m){x:aR}(hg:0≤x.1/\x.1 < mC m/\0≤x.2.1/\x.2.1≤(mD m).length):nK k m (uw m B) x=some (decide (x.2.2=decide (mS m≤jW m B x.2.1.toNat x.1))):=by
 unfold nK;have e:x.2.1=((x.2.1.toNat:Nat):Int):=by omega
 have h1:aH (uw m B) x.2.1=some (oV m B x.2.1.toNat):=by
  have:=GN (m:=m) (B:=B) (n:=x.2.1.toNat) (by omega);rw [<-e] at this;exact this
 rw [h1,bs,sq hg.1 hg.2.1,bs]
theorem AD{k:Nat}{m:ab}{but:List Int}{B:Int->Bool}(v:Vd m)(hk:50≤k)(hb:but.length≤40):
 c9 k m but (uw m B) k (true,0)=some (Bz m (λi=>decide ((i:Int)∈but)) B):=by
 have g8:=v.g8
 have key:=eU (T:=Bool×Int) (f:=c9 k m but (uw m B)) (mG m) (λ(s:Bool) j=>(s,j)) (λs j x=>s && (decide ((j:Int)∈but) || decide (x.2.2=decide (mS m≤jW m B x.2.1.toNat x.1)))) (λ_ _=>True) (λs=>some s)
  (λn s j hj _=>by
   have hck:ck ((j:Int)+1)=some ((j:Int)+1):=cy (by omega) (by omega);have hg:=v.gl _ (List.getElem_mem hj);have hj':(j:Int) < (m.2.2.2.2.2.length:Int):=Int.ofNat_lt.2 hj;have hget:aH m.2.2.2.2.2 (j:Int)=some (mG m)[j]:=cj hj;refine⟨?_,trivial⟩;simp only [c9,hj',if_true];cases s with
   |false=>simp only [Bool.false_eq_true,if_false,bs,hck,Bool.false_and]
   |true=>
    simp only [if_true,yS (k:=k) (l:=but) (x:=(j:Int)) (by omega) (by omega),bs,Bool.true_and];cases decide ((j:Int)∈but) with
    |true=>simp only [if_true,bs,hck,Bool.true_or]
    |false=>simp only [Bool.false_eq_true,if_false,hget,bs,F4 v hg,hck,Bool.false_or])
  (λn s _=>by
   unfold c9;rw [if_neg (Int.lt_irrefl _)]) (n:=k) (s0:=true) (by omega) trivial
 rw [show c9 k m but (uw m B) k (true,0)=_ from key.1]
 have:∀(l:List aR) (j:Nat) (s:Bool),nU (λs j (x:aR)=>s && (decide ((j:Int)∈but) || decide (x.2.2=decide (mS m≤jW m B x.2.1.toNat x.1)))) j l s=(s && ((l.zipIdx j).all λg=>decide ((g.2:Int)∈but) || decide (g.1.2.2=decide (mS m≤jW m B g.1.2.1.toNat g.1.1)))):=by
  intro l
  induction l with
  |nil=>intro j s;simp [nU]
  |cons x l ih=>
   intro j s;rw [nU,ih (j+1),zipIdx_cons,all_cons,Bool.and_assoc]
 rw [this,Bool.true_and]
 rfl
theorem qN{k:Nat}{m:ab}{but:List Int}(v:Vd m)(hk:50≤k)(hb:but.length≤40):gY k m but=some (mO m λi=>decide ((i:Int)∈but)):=by
 have hlen:=ww v;unfold gY;rw [Ie v (by omega),bs]
 have key:=eU (T:=List (List Int)×Int) (f:=dA k m but (wx m)) (wx m) (λ(s:List (List Int)) j=>(s,j)) (λs _ b=>if Bz m (λi=>decide ((i:Int)∈but)) (λc=>decide (c∈b)) then s++[b] else s) (λj s=>s.length≤j) (λs=>some s)
  (λn s j hj hs=>by
   have hck:ck ((j:Int)+1)=some ((j:Int)+1):=cy (by omega) (by omega);have hbg:=zK v (List.getElem_mem hj);have hl:=hbg.len ⟨by have:=v.c1;omega,v.c5⟩;refine⟨?_,?_⟩
   .simp only [dA,Int.ofNat_lt,hj,if_true,cj hj,bs,Ig (k:=k) v (by omega) (b:=(wx m)[j]) (by omega) (by omega),AD (k:=k) v hk hb];cases Bz m (λi=>decide ((i:Int)∈but)) (λc=>decide (c∈(wx m)[j])) with
    |true=>
     simp only [if_true];rw [dh (by simp [be];omega),bs,bs,hck,bs]
    |false=>simp only [Bool.false_eq_true,if_false,bs,hck]
   .split
    .simp;omega
    .omega)
  (λn s hs=>by
   unfold dA;rw [if_neg (Int.lt_irrefl _)]) (n:=k) (s0:=[]) (by omega) (by simp)
 rw [show dA k m but (wx m) k ([],0)=_ from key.1,bs]
 have:∀(l:List (List Int)) (j:Nat) (s:List (List Int)),nU (λs _ b=>if Bz m (λi=>decide ((i:Int)∈but)) (λc=>decide (c∈b)) then s++[b] else s) j l s=s++l.filter λb=>Bz m (λi=>decide ((i:Int)∈but)) (λc=>decide (c∈b)):=by
  intro l
  induction l with
  |nil=>intro j s;simp [nU]
  |cons b l ih=>
   intro j s;rw [nU,ih (j+1),List.filter_cons];cases Bz m (λi=>decide ((i:Int)∈but)) (λc=>decide (c∈b)) <;> simp
 rw [this];rfl
end Go.Proofs.YthnacobbednnbaaGreat
set_option linter.unusedVariables false
set_option linter.unusedSimpArgs false
namespace Go.Proofs.YthnacobbednnbaaGreat
open K Go Go.Proofs
def f9:Nat->Bool:=λ_=>false
theorem SG:(λi=>decide (eo 0 i))=f9:=by
 funext i;simp [f9,eo]
theorem RH:(λi:Nat=>decide ((i:Int)∈([]:List Int)))=f9:=by
 funext i;simp [f9]
theorem u5{m:ab}(v:Vd m){but:Nat->Bool}{b:List Int}(h:b∈mO m but):Bg (mC m) b:=zK v (List.mem_filter.1 h).1
theorem sV{m:ab}(v:Vd m){but:Nat->Bool}:(mO m but).length≤32:=Nat.le_trans (List.length_filter_le _ _) (ww v)
theorem I9{k:Nat}{C:Int}(hC:C≤5)(hk:50≤k){L:List (List Int)}(hL:∀b∈L,Bg C b)(hl:L.length≤40):ee k (L.map dk) k ([],0)=some L:=by
 have key:=eU (T:=List (List Int)×Int) (f:=ee k (L.map dk)) L (λ(s:List (List Int)) j=>(s,j)) (λs _ b=>s++[b]) (λj s=>s=L.take j) (λs=>some s)
  (λn s j hj hs=>by
   have hck:ck ((j:Int)+1)=some ((j:Int)+1):=cy (by omega) (by omega);have hls:s.length=j:=by rw [hs,length_take];omega
   have hg:aH (L.map dk) (j:Int)=some (dk L[j]):=by rw [aH,if_pos (by omega),Int.toNat_natCast,List.getElem?_map,List.getElem?_eq_getElem hj];rfl
   have hj':(j:Int) < ((L.map dk).length:Int):=by rw [length_map];omega
   have hok:bR (be (length s+length [L[j]]))=some ():=dh (by simp [be];omega);refine⟨?_,?_⟩
   .simp only [ee,hj',if_true,hg,bs,oh (k:=k) (by omega) hC (hL _ (List.getElem_mem hj)),hok,hck]
   .rw [hs,take_add_one,List.getElem?_eq_getElem hj];rfl)
  (λn s hs=>by
   unfold ee;rw [if_neg (by rw [length_map];exact Int.lt_irrefl _)]) (n:=k) (s0:=[]) (by omega) (by simp)
 rw [show ee k (L.map dk) k ([],0)=_ from key.1,key.2,take_length]
theorem DI{k:Nat}{m:ab}(hs:Sm m)(hk:1010≤k):j8 k m=some (if¬(i8 m=0) then([],i8 m) else(mO m f9,0)):=by
 unfold j8;rw [A6 hs hk (by simp) (by simp) (by simp) (by simp),bs];by_cases hc:i8 m=0
 .have v:=Vd.of hc;have hb:xt (mC m) []=0:=yu.2 ⟨by simp,by simp⟩;have ho:QW m [] [] []=true:=rfl;simp only [hc,hb,ho,not_true_eq_false,if_false,if_true,u7];rw [vO v (by omega) vQ,bs,SG,I9 v.c5 (by omega) (λb h=>u5 v h) (by have:=sV v (but:=f9);omega),bs]
 .simp only [hc,not_false_eq_true,if_true,sY]
theorem Dh{k:Nat}{m:ab}(hs:Sm m)(hk:1010≤k):me k m=some (if¬(i8 m=0) then([],i8 m) else(mO m f9,0)):=by
 unfold me;rw [EB hs (by omega),bs];by_cases hc:i8 m=0
 .have v:=Vd.of hc;rw [if_neg (λhn=>hn hc),if_neg (λhn=>hn hc),qN v (by omega) (by simp),bs,RH]
 .rw [if_pos hc,if_pos hc]
end Go.Proofs.YthnacobbednnbaaGreat
set_option linter.unusedVariables false
set_option linter.unusedSimpArgs false
namespace Go.Proofs.YthnacobbednnbaaGreat
open K Go Go.Proofs
theorem Gj{k:Nat}{m:ab}{cs ds ns:List Int}(hs:Sm m)(hk:1010≤k)(h1:cs.length≤1000)(h2:ds.length≤1000)(h3:ns.length≤1000):
 jt k m cs ds ns=some (if¬(i8 m=0) then(none,[],i8 m) else if¬(QW m cs ds ns=true) then(none,[],3) else if(mO m f9).length=0 then(none,[],9) else(some m,(mO m f9).map dk,0)):=by
 unfold jt
 rw [A6 hs hk (by simp) h1 h2 h3,bs]
 by_cases hc:i8 m=0
 .
  have v:=Vd.of hc;have hb:xt (mC m) []=0:=yu.2 ⟨by simp,by simp⟩;by_cases ho:QW m cs ds ns=true
  .simp only [hc,hb,ho,not_true_eq_false,if_false,if_true,u7];rw [vO v (by omega) vQ,bs,SG];by_cases hl:(mO m f9).length=0
   .rw [if_pos (by rw [length_map];omega),if_pos hl]
   .rw [if_neg (by rw [length_map];omega),if_neg hl]
  .simp only [hc,hb,ho,not_true_eq_false,not_false_eq_true,if_false,if_true,sY,Bool.false_eq_true];rw [if_pos (by decide)]
 .
  simp only [hc,not_false_eq_true,if_true,sY]
theorem Dc{k:Nat}{m:ab}{q:Bool}(hs:Sm m)(hk:1010≤k):
 l9 k m q=some (if¬(i8 m=0) then([],i8 m) else if¬(q=true) then([],3) else if(mO m f9).length=0 then([],9) else(mO m f9,0)):=by
 unfold l9
 rw [EB hs (by omega),bs]
 by_cases hc:i8 m=0
 .
  have v:=Vd.of hc;cases q with
  |true=>
   simp only [hc,not_true_eq_false,if_false];rw [qN v (by omega) (by simp),bs,RH];by_cases hl:(mO m f9).length=0
   .rw [if_pos (by omega),if_pos hl]
   .rw [if_neg (by omega),if_neg hl]
  |false=>simp only [hc,not_true_eq_false,if_false,Bool.false_eq_true,not_false_eq_true,if_true]
 .
  rw [if_pos hc,if_pos hc]
def uN(b:List Int)(L:List (List Int)):List Int:=L.foldl (λs x=>if x.length < s.length then x else s) b
theorem Bw{b:List Int}:∀{L:List (List Int)},uN b L=b\/uN b L∈L:=by
 intro L
 induction L generalizing b with
 |nil=>exact .inl rfl
 |cons x L ih=>
  show uN (if x.length < b.length then x else b) L=b\/_;split
  .rcases ih (b:=x) with h |h
   .right;show uN (if x.length < b.length then x else b) L∈_;rw [if_pos ‹_›,h];exact mem_cons_self
   .right;show uN (if x.length < b.length then x else b) L∈_;rw [if_pos ‹_›];exact mem_cons_of_mem _ h
  .rcases ih (b:=b) with h |h
   .exact .inl h
   .right;show uN (if x.length < b.length then x else b) L∈_;rw [if_neg ‹_›];exact mem_cons_of_mem _ h
theorem t4:∀(L:List (List Int)) (j:Nat) (s:List Int),nU (λs _ x=>if x.length < s.length then x else s) j L s=uN s L
 |[],_,_=>rfl
 |x::L,j,s=>by rw [nU,t4 L (j+1)];rfl
theorem DZ{k:Nat}{C:Int}{a b:List Int}(hk:10≤k)(hC:0≤C/\C≤5)(ha:Bg C a)(hb:Bg C b):iS k (dk a) (dk b)=some ((a.length:Int) - b.length):=by
 have la:=ha.len hC;have lb:=hb.len hC;unfold iS jM;rw [oh hk hC.2 ha,bs,bs,oh hk hC.2 hb,bs,bs,cy (by omega) (by omega),bs]
theorem DY{k:Nat}{C:Int}(hk:50≤k)(hC:0≤C/\C≤5){b:List Int}{L:List (List Int)}(hb:Bg C b)(hL:∀x∈L,Bg C x)(hl:L.length≤40):kO k ((b::L).map dk)=some (dk (uN b L)):=by
 unfold kO iF;rw [if_neg (by simp;omega)];have g0:aH ((b::L).map dk) (0:Int)=some (dk b):=rfl;rw [g0,bs]
 have key:=eU (T:=Int×Int) (f:=cT k ((b::L).map dk)) L (λ(s:List Int) j=>(dk s,j+1)) (λs _ x=>if x.length < s.length then x else s) (λ_ s=>Bg C s) (λs=>some (dk s))
  (λn s j hj hs=>by
   have hck:ck ((j:Int)+1+1)=some ((j:Int)+1+1):=cy (by omega) (by omega);have hx:=hL _ (List.getElem_mem hj)
   have hg:aH ((b::L).map dk) ((j:Int)+1)=some (dk L[j]):=by
    have:((j:Int)+1)=((j+1:Nat):Int):=by omega
    rw [this,aH,if_pos (by omega),Int.toNat_natCast,List.getElem?_map,getElem?_cons_succ,List.getElem?_eq_getElem hj];rfl
   have hlt:(j:Int)+1 < (((b::L).map dk).length:Int):=by rw [length_map,length_cons];omega
   refine⟨?_,?_⟩
   .simp only [cT,hlt,if_true,hg,bs,DZ (k:=k) (by omega) hC hx hs];by_cases h:L[j].length < s.length
    .rw [if_pos (by omega),bs,hck,bs,if_pos h]
    .rw [if_neg (by omega),bs,hck,bs,if_neg h]
   .split
    .exact hx
    .exact hs)
  (λn s hs=>by
   unfold cT;rw [if_neg (by rw [length_map,length_cons];show¬((L.length:Int)+1 < ((L.length+1:Nat):Int));omega)]) (n:=k) (s0:=b) (by omega) hb
 rw [show cT k ((b::L).map dk) k (dk b,1)=_ from key.1,bs,bs,t4]
def nh(m:ab):List Int×Int:=if¬(i8 m=0) then([],i8 m) else match mO m f9 with
 |[]=>([],9)
 |b::L=>(uN b L,0)
theorem DG{k:Nat}{m:ab}(hs:Sm m)(hk:1010≤k):mr k m=some (nh m):=by
 unfold mr nh;rw [Gj hs hk (by simp) (by simp) (by simp),bs];by_cases hc:i8 m=0
 .have v:=Vd.of hc;have c1:=v.c1;have ho:QW m [] [] []=true:=rfl;simp only [hc,ho,not_true_eq_false,if_false];have hL:∀x∈mO m f9,Bg (mC m) x:=λx h=>u5 v h;have hlen:=sV v (but:=f9);generalize mO m f9=E at *;cases E with
  |nil=>simp only [length_nil,if_true,sY];rw [if_pos (by decide)]
  |cons b L=>
   rw [if_neg (by simp)];simp only [u7,not_true_eq_false,if_false];have hb:=hL b mem_cons_self;have hL':=λx h=>hL x (mem_cons_of_mem _ h);rw [DY (by omega) ⟨by omega,v.c5⟩ hb hL' (by simp at hlen;omega),bs]
   have hm:Bg (mC m) (uN b L):=by
    rcases Bw (b:=b) (L:=L) with h |h
    .rw [h];exact hb
    .exact hL' _ h
   rw [oh (by omega) v.c5 hm,bs]
 .simp only [hc,not_false_eq_true,if_true,sY]
theorem Df{k:Nat}{m:ab}(hs:Sm m)(hk:1010≤k):ma k m=some (nh m):=by
 unfold ma nh;rw [Dc hs hk,bs];by_cases hc:i8 m=0
 .have v:=Vd.of hc;simp only [hc,not_true_eq_false,if_false];have hlen:=sV v (but:=f9);generalize mO m f9=E at *;cases E with
  |nil=>simp only [length_nil,if_true];rw [if_pos (by decide)]
  |cons b L=>
   have hne:¬((b::L).length=0):=by simp
   simp only [hne,not_true_eq_false,if_false];have g0:aH (b::L) (0:Int)=some b:=rfl;rw [g0,bs]
   have key:=eU (T:=List Int×Int) (f:=eL k (b::L,0)) (b::L) (λ(s:List Int) j=>(s,j)) (λs _ x=>if x.length < s.length then x else s) (λ_ _=>True) (λs=>some s)
    (λn s j hj _=>by
     have hck:ck ((j:Int)+1)=some ((j:Int)+1):=cy (by omega) (by omega);refine⟨?_,trivial⟩;simp only [eL,Int.ofNat_lt,hj,if_true,cj hj,bs];by_cases h:(b::L)[j].length < s.length
     .rw [if_pos h,bs,hck,bs,if_pos h]
     .rw [if_neg h,bs,hck,bs,if_neg h])
    (λn s _=>by
     unfold eL;rw [if_neg (Int.lt_irrefl _)]) (n:=k) (s0:=b) (by omega) trivial
   rw [show eL k (b::L,0) k (b,0)=_ from key.1,bs,t4];show some (uN (if b.length < b.length then b else b) L,(0:Int))=_;rw [if_neg (Nat.lt_irrefl _)]
 .simp only [hc,not_false_eq_true,if_true]
end Go.Proofs.YthnacobbednnbaaGreat
set_option linter.unusedVariables false
set_option linter.unusedSimpArgs false
namespace Go.Proofs.YthnacobbednnbaaGreat
open K Go Go.Proofs
theorem Bm:pL 1200=some true:=by decide+kernel
theorem W.get{α:Type}{x:Option α}{a:α}(h:W x λy=>y=a):x=some a:=by
 obtain⟨b,e,rfl⟩:=h;exact e
end Go.Proofs.YthnacobbednnbaaGreat
set_option linter.unusedVariables false
set_option linter.unusedSimpArgs false
namespace Go.Proofs.YthnacobbednnbaaGreat
open K Go Go.Proofs
theorem SH{α:Type}{a b c:α}{j:Nat}(h:j < 3):∃x∈[a,b,c],aH [a,b,c] (j:Int)=some x:=by
 have:j=0\/j=1\/j=2:=by omega
 rcases this with rfl |rfl |rfl
 .exact⟨a,by simp,rfl⟩
 .exact⟨b,by simp,rfl⟩
 .exact⟨c,by simp,rfl⟩
