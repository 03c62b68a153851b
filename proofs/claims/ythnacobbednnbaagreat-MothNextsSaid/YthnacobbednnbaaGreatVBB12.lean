import Derived.Test.YthnacobbednnbaaGreatVBB11
open Nat
open List hiding mem_of_getElem?
open Array hiding mem_of_getElem? mk
set_option linter.unusedVariables false
set_option linter.unusedSimpArgs false
namespace Go.Proofs.YthnacobbednnbaaGreat
open K Go Go.Proofs
theorem u7{k:Nat}{l:List (List Int)}(hk:l.length < k)(hl:l.length≤1000000)(hx:∀x∈l,x.length < k/\x.length≤1000000):fE k l l=some true:=by
 unfold fE;rw [if_neg (λhn=>hn rfl)]
 have key:=jr (T:=Int) (f:=dC k l l) l (λ(_:Unit) j=>j) (λ_ _ _=>(.ok ():Except Bool Unit)) (λ_ _=>True) (λr=>some r)
  (λn s j hj _=>by
   have hck:ck ((j:Int)+1)=some ((j:Int)+1):=bY (by omega) (by omega);have h5:=hx _ (List.getElem_mem hj);refine⟨?_,λ_ _=>trivial⟩;simp only [dC,Int.ofNat_lt,hj,if_true,cu hj,bs,Ak h5.1 h5.2,decide_true,not_true_eq_false,if_false,hck])
  (λn s _=>by simp [dC]) (n:=k) (s0:=()) hk trivial
 rw [show dC k l l k 0=_ from key,zt,kh]
theorem u5{k:Nat}{m:ab}(hk:1010≤k)(hs:Sm m):iQ k m m=some true:=by
 have hd:=hs.d;have hg:=hs.g;unfold iQ;have e0:((if¬(m.1=m.1) then(some true) else(if¬(m.2.1=m.2.1) then(some true) else(if¬(m.2.2.1=m.2.2.1) then(some true) else(if¬(m.2.2.2.1=m.2.2.2.1) then(some true) else(if¬((m.2.2.2.2.1.length:Int)=(m.2.2.2.2.1.length:Int)) then(some true) else(some (!decide ((m.2.2.2.2.2.length:Int)=(m.2.2.2.2.2.length:Int))))))))):Option Bool)=some false:=by simp
 rw [e0,bs,if_neg (by decide)]
 have key:=jr (T:=Int) (f:=dB k m m) (mD m) (λ(_:Unit) j=>j) (λ_ _ _=>(.ok ():Except Bool Unit)) (λ_ _=>True) (λr=>some r)
  (λn s j hj _=>by
   have hck:ck ((j:Int)+1)=some ((j:Int)+1):=bY (by omega) (by omega);have hr:=hs.r _ (List.getElem_mem hj);have hj':(j:Int) < (m.2.2.2.2.1.length:Int):=Int.ofNat_lt.2 hj;have hg:aG m.2.2.2.2.1 (j:Int)=some (mD m)[j]:=cu hj;refine⟨?_,λ_ _=>trivial⟩;simp only [dB,hj',if_true,hg,bs,u7 (k:=k) (l:=(mD m)[j]) (by omega) (by omega) (λx hx=>by have:=hr.2 x hx;omega),not_true_eq_false,if_false,hck])
  (λn s _=>by
   unfold dB;rw [if_neg (Int.lt_irrefl _)]) (n:=k) (s0:=()) (by omega) trivial
 rw [show dB k m m k 0=_ from key,zt,kh]
 have key:=jr (T:=Int) (f:=dA k m m) (mG m) (λ(_:Unit) j=>j) (λ_ _ _=>(.ok ():Except Bool Unit)) (λ_ _=>True) (λr=>some r)
  (λn s j hj _=>by
   have hck:ck ((j:Int)+1)=some ((j:Int)+1):=bY (by omega) (by omega);have hj':(j:Int) < (m.2.2.2.2.2.length:Int):=Int.ofNat_lt.2 hj;have hg:aG m.2.2.2.2.2 (j:Int)=some (mG m)[j]:=cu hj;refine⟨?_,λ_ _=>trivial⟩;simp only [dA,hj',if_true,hg,bs,not_true_eq_false,if_false,hck])
  (λn s _=>by
   unfold dA;rw [if_neg (Int.lt_irrefl _)]) (n:=k) (s0:=()) (by omega) trivial
 rw [show dA k m m k 0=_ from key,zt,kh]
theorem uc{k:Nat}{m:ab}(hk:1010≤k)(hs:Sm m):gV k m=some m:=by
 have hd:=hs.d;have hg:=hs.g;unfold gV;rw [dh (by show _≤_;have:m.2.2.2.2.2.length≤1000:=hg;simp only [length_nil];omega),bs]
 have key:=eN (T:=List (List (List Int))×Int) (f:=dD k m) (mD m) (λ(s:List (List (List Int))) j=>(s,j)) (λs j x=>s++[x]) (λj s=>s=(mD m).take j) (λs=>some s)
  (λn s j hj hs'=>by
   have hck:ck ((j:Int)+1)=some ((j:Int)+1):=bY (by omega) (by omega);have hl:s.length=j:=by rw [hs',length_take];omega
   have hok:bS (bi (length s+length [(mD m)[j]]))=some ():=dh (by simp [bi];omega);have hj':(j:Int) < (m.2.2.2.2.1.length:Int):=Int.ofNat_lt.2 hj;have hg:aG m.2.2.2.2.1 (j:Int)=some (mD m)[j]:=cu hj;have hr:=hs.r _ (List.getElem_mem hj);refine⟨?_,?_⟩
   .simp only [dD,hj',if_true,hg,bs,ud (k:=k) (l:=(mD m)[j]) (by omega) (by omega) (λx hx=>by have:=hr.2 x hx;omega),hok,hck]
   .rw [hs',take_add_one,List.getElem?_eq_getElem hj];rfl)
  (λn s hs=>by
   unfold dD;rw [if_neg (Int.lt_irrefl _)]) (n:=k) (s0:=[]) (by omega) (by simp)
 rw [show dD k m k ([],0)=_ from key.1,bs,key.2,take_length];rfl
theorem Bc{k:Nat}{l:bP}{m:Int}{x:zk}(hl:Lo l m)(hm:0≤m/\m≤900)(hc:1≤x.1/\x.1≤5)(hd:x.2.2.2.2.1.length≤6):
 W (iT k l x) λr=>Lo r.2 (m+3)/\(0≤r.1.1/\r.1.1 < x.1)/\0≤r.1.2.1/\r.1.2.1≤(x.2.2.2.2.1.length:Int):=by
 unfold iT
 refine W.ck (by omega) (by omega) ?_
 refine W.bind (jy (l:=(l.1,l.2.1,l.2.2)) hl (by omega) (by omega)) λr4 h4=>?_
 refine W.bind (jy (l:=(r4.2.1,r4.2.2.1,r4.2.2.2)) h4.2.2 (by omega) (by omega)) λr5 h5=>?_
 refine W.bind (yF (l:=(r5.2.1,r5.2.2.1,r5.2.2.2)) h5.2.2 (by omega) (by omega) (by omega)) λr6 h6=>?_
 have b4:=h4.2.1 (by omega)
 have b5:=h5.2.1 (by omega)
 exact W.ret ⟨h6.mono (by omega),⟨h4.1,by show r4.1 < x.1;omega⟩,h5.1,b5⟩
theorem Vd.with{m:ab}(v:Vd m){gs:List aQ}(h8:gs.length≤8)(hg:∀g∈gs,0≤g.1/\g.1 < mC m/\0≤g.2.1/\g.2.1≤(mD m).length):Vd (m.1,m.2.1,m.2.2.1,m.2.2.2.1,m.2.2.2.2.1,gs):=
 ⟨v.c1,v.c5,v.w0,v.w3,v.s0,v.s3,v.h1,v.h3,v.d1,v.d6,v.r3,v.l5,v.x5,v.nd,h8,hg⟩
theorem yW{k:Nat}(hk:50≤k){l:bP}{m:Int}{cs ds:Int}(hl:Lo l m)(hm:0≤m/\m≤400)(hc:1≤cs/\cs≤5)(hd:1≤ds/\ds≤6):
 W (iS k l cs ds) λr=>Lo r.2 (m+270)/\Vd r.1/\(mG r.1).length≤4/\mC r.1≤cs/\((mD r.1).length:Int)≤ds:=by
 unfold iS
 refine W.bind (Do hk (l:=(l.1,l.2.1,l.2.2)) hl hm hc hd) λr2 h2=>?_
 obtain⟨lo2,v,hg,hcs,hds⟩:=h2
 have c1:=v.c1
 have c5:=v.c5
 have d6:=v.d6
 refine W.bind (R:=λx=>Lo (x.2.1,x.2.2.1,x.2.2.2) (m+270)/\x.1.length≤4/\∀g∈x.1,0≤g.1/\g.1 < mC r2.1/\0≤g.2.1/\g.2.1≤(mD r2.1).length) ?_ λx hx=>W.ret ⟨hx.1,v.with (by omega) hx.2.2,hx.2.1,hcs,hds⟩
 refine W.bind (jy (l:=(r2.2.1,r2.2.2.1,r2.2.2.2)) lo2 (by omega) (by omega)) λr6 h6=>?_
 have b6:=h6.2.1 (by omega)
 refine W.loop (f:=eL k r2) (λq y=>∃j:Nat,y.2.2.2.1.length=j/\y.2.2.2.2=r6.1 - j/\(j:Int)≤r6.1/\q=r6.1.toNat - j/\Lo (y.1,y.2.1,y.2.2.1) (m+251+3 * j)/\∀g∈y.2.2.2.1,0≤g.1/\g.1 < mC r2.1/\0≤g.2.1/\g.2.1≤(mD r2.1).length) ?_ r6.1.toNat k _ (by omega)
  ⟨0,rfl,by simp,by omega,by omega,h6.2.2.mono (by omega),by simp⟩
 rintro aK q ⟨nums,d,s,out,y⟩ ⟨j,hj,hy,hle,hq,hlo,hr⟩ ih
 simp only at hj hy hlo hr
 subst hy
 unfold eL
 dsimp only
 refine W.ite (λhlt=>?_) (λhge=>W.ret ⟨hlo.mono (by omega),by show out.length≤4;omega,hr⟩)
 refine W.bind (Bc (l:=(nums,d,s)) (x:=(r2.1.1,r2.1.2.1,r2.1.2.2.1,r2.1.2.2.2.1,r2.1.2.2.2.2.1,())) hlo (by omega) ⟨c1,c5⟩ d6) λr9 h9=>?_
 rw [dh (by simp [bi];omega),bs]
 refine W.ck (by omega) (by omega) ?_
 refine ih (q - 1) (_,_,_,_,_) (by omega) ⟨j+1,by simp [hj],by show r6.1 - j - 1=r6.1 - ((j+1:Nat):Int);omega,by omega,by omega,h9.1.mono (by omega),λg hgg=>?_⟩
 rcases List.mem_append.1 hgg with h |h
 .
  exact hr g h
 .
  rw [List.mem_singleton.1 h];exact⟨h9.2.1.1,h9.2.1.2,h9.2.2⟩
theorem Sm.with{m:ab}(h:Sm m){gs:List aQ}(hg:gs.length≤1000):Sm (m.1,m.2.1,m.2.2.1,m.2.2.2.1,m.2.2.2.2.1,gs):=⟨h.d,h.r,hg⟩
theorem CO{k:Nat}(hk:1010≤k){m:ab}(hs:Sm m){g:aQ}{l:bP}(hl:Lo l 0):
 W (jp k m g l) λr=>Lo r.2 270/\∃a b,r.1=[m,a,b]/\Vd a/\Sm b/\mC a≤4/\((mD a).length:Int)≤4/\b=(a.1,a.2.1,a.2.2.1,a.2.2.2.1,a.2.2.2.2.1,mG a++[g]):=by
 unfold jp
 refine W.bind (yW (k:=k) (by omega) (l:=(l.1,l.2.1,l.2.2)) hl (by omega) (by omega) (by omega)) λr3 h3=>?_
 obtain⟨lo3,v,hg,hcs,hds⟩:=h3
 rw [uc hk v.sm,bs,dh (by simp [bi];have:r3.1.2.2.2.2.2.length≤4:=hg;omega),bs]
 exact W.ret ⟨lo3,_,_,rfl,v,v.sm.with (by simp;have:r3.1.2.2.2.2.2.length≤4:=hg;omega),hcs,hds,rfl⟩
theorem L0{k:Nat}(hk:1010≤k){m:ab}:W (pw k m) λb=>b=false->Sm m:=by
 unfold pw
 have l2:∀(y:Nat) (hy:y < (mD m).length),(mD m)[y].length≤20->W (iv k m (y:Int) k 0) λr=>match r with | .error e=>e=true | .ok _=>∀l∈(mD m)[y],l.length≤1000:=by
  intro y hy h20
  refine W.loop (f:=iv k m (y:Int)) (λq z=>∃j:Nat,z=(j:Int)/\j≤(mD m)[y].length/\q=(mD m)[y].length - j/\∀i (h:i < (mD m)[y].length),i < j->(mD m)[y][i].length≤1000) ?_ (mD m)[y].length k 0 (by omega)
   ⟨0,rfl,by omega,by omega,λi h h'=>by omega⟩
  rintro aK q z ⟨j,rfl,hle,hq,hx⟩ ih;unfold iv;have hg:aG m.2.2.2.2.1 (y:Int)=some (mD m)[y]:=cu hy;rw [hg,bs];refine W.ite (λhlt=>?_) (λhge=>W.ret λl hl=>?_)
  .have hj:j < (mD m)[y].length:=by omega
   rw [bs,cu hj,bs];refine W.ite (λh=>W.ret rfl) (λh=>W.ck (by omega) (by omega) (ih (q - 1) _ (by omega) ⟨j+1,by omega,by omega,by omega,λi hi hij=>?_⟩));by_cases e:i=j
   .subst e;omega
   .exact hx i hi (by omega)
  .obtain⟨i,hi,rfl⟩:=List.getElem_of_mem hl;exact hx i hi (by omega)
 have l1:W (iw k m k 0) λr=>match r with | .error e=>e=true | .ok _=>(mD m).length≤20->∀r∈mD m,r.length≤1000/\∀l∈r,l.length≤1000:=by
  refine W.loop (f:=iw k m) (λq z=>∃j:Nat,z=(j:Int)/\j≤20/\j≤(mD m).length/\q=20 - j/\∀i (h:i < (mD m).length),i < j->(mD m)[i].length≤1000/\∀l∈(mD m)[i],l.length≤1000) ?_ 20 k 0 (by omega)
   ⟨0,rfl,by omega,by omega,by omega,λi h h'=>by omega⟩
  rintro aK q z ⟨j,rfl,h20,hle,hq,hx⟩ ih;unfold iw
  have e0:((if(j:Int) < (m.2.2.2.2.1.length:Int) then(some (decide ((j:Int) < 20))) else(some false)):Option Bool)=some (decide (j < (mD m).length/\j < 20)):=by
   by_cases h1:j < (mD m).length
   .rw [if_pos (show(j:Int) < ((mD m).length:Int) by omega)];by_cases h2:j < 20
    .simp [h1,h2];omega
    .simp [h1,h2];omega
   .rw [if_neg (show¬(j:Int) < ((mD m).length:Int) by omega)];simp [h1]
  rw [e0,bs];refine W.ite (λhb=>?_) (λhb=>W.ret λh r hr=>?_)
  .have hb:=of_decide_eq_true hb;have hg:aG m.2.2.2.2.1 (j:Int)=some (mD m)[j]:=cu hb.1;rw [hg,bs];refine W.bEE (R:=λr=>match r with | .error e=>e=true | .ok _=>(mD m)[j].length≤20/\∀l∈(mD m)[j],l.length≤1000) (W.ite (λh=>W.ret rfl) (λh=>(l2 j hb.1 (by omega)).mono λr hr=>?_)) (λe he=>W.ret he) (λ_ ho=>?_)
   .cases r with
    |error e=>exact hr
    |ok _=>exact⟨by omega,hr⟩
   .refine W.ck (by omega) (by omega) (ih (q - 1) _ (by omega) ⟨j+1,by omega,by omega,by omega,by omega,λi hi hij=>?_⟩);by_cases e:i=j
    .subst e;exact⟨by have:=ho.1;omega,ho.2⟩
    .exact hx i hi (by omega)
  .have hb:¬(j < (mD m).length/\j < 20):=λhh=>hb (decide_eq_true hh);obtain⟨i,hi,rfl⟩:=List.getElem_of_mem hr;exact hx i hi (by omega)
 refine W.bEE l1 (λe he=>W.ret λh=>by rw [he] at h;cases h) (λ_ ho=>?_);by_cases h1:20 < (mD m).length
 .rw [if_pos (show(20:Int) < ((mD m).length:Int) by omega),bs];exact W.ret λh=>by cases h
 .rw [if_neg (show¬(20:Int) < ((mD m).length:Int) by omega),bs];refine W.ret λh=>⟨by omega,ho (by omega),?_⟩;have h:=of_decide_eq_false h;show m.2.2.2.2.2.length≤1000;omega
end Go.Proofs.YthnacobbednnbaaGreat
set_option linter.unusedVariables false
set_option linter.unusedSimpArgs false
namespace Go.Proofs.YthnacobbednnbaaGreat
open K Go Go.Proofs
def jx(C:Nat):Nat->List Int->Nat->List (List Int)
 |0,b,_=>[b]
 |n+1,b,f=>b::(List.range' f (C - f)).flatMap λ(c:Nat)=>jx C n (b++[(c:Int)]) (c+1)
theorem uZ{b:List Int}{c:Int}:fK (b++[c])=wv (fK b) c:=by
 unfold fK;rw [List.foldl_append];rfl
theorem A6{σ:Type}{k:Nat}{Y:σ->Int->Option (σ×Bool)}{C:Nat}(hC:C≤5)(hk:10≤k)(g:σ->List Int->σ)(wz:Nat->σ->Prop):
 ∀(n m0:Nat) (b:List Int) (f:Nat) (s:σ) (r:Nat),C - f≤n->f≤C->n < m0->km (fK b)->(∀r s,∀b'∈jx C n b f,wz (r+1) s->Y s (fK b')=some (g s b',true)/\wz r (g s b'))->wz ((jx C n b f).length+r) s->
  dG k Y (C:Int) m0 (fK b) (f:Int) s=some (true,(jx C n b f).foldl g s)/\wz r ((jx C n b f).foldl g s)
 |n,0,b,f,s,r,_,_,h,_,_,_=>absurd h (not_lt_zero _)
 |0,m0+1,b,f,s,r,h1,h2,_,hm,hY,hI=>by
  have hf:f=C:=by omega
  subst hf
  unfold dG
  obtain⟨k,rfl⟩:∃n,k=n+1:=⟨k - 1,by omega⟩
  have hI:wz (r+1) s:=by rw [Nat.add_comm];exact hI
  have:=hY r s b (by simp [jx]) hI
  rw [this.1,bs,if_neg (by simp)]
  rw [dz,if_neg (Int.lt_irrefl _),kh]
  exact⟨rfl,this.2⟩
 |n+1,m0+1,b,f,s,r,h1,h2,h3,hm,hY,hI=>by
  unfold dG
  have hlen:(jx C (n+1) b f).length=((List.range' f (C - f)).flatMap λ(c:Nat)=>jx C n (b++[(c:Int)]) (c+1)).length+1:=by rw [jx,length_cons]
  rw [hlen] at hI
  have h0:=hY (((List.range' f (C - f)).flatMap λ(c:Nat)=>jx C n (b++[(c:Int)]) (c+1)).length+r) s b (by simp [jx]) (by rw [Nat.add_right_comm] at hI;exact hI)
  rw [h0.1,bs,if_neg (by simp)]
  have loop:∀(d x:Nat) (s:σ) (aK:Nat) (r:Nat),C - x=d->f≤x->x≤C->d < aK->wz (((List.range' x (C - x)).flatMap λ(c:Nat)=>jx C n (b++[(c:Int)]) (c+1)).length+r) s->
   dz k (fK b) (C:Int) (dG k Y (C:Int) m0) aK ((x:Int),s)=some (.ok (((List.range' x (C - x)).flatMap λ(c:Nat)=>jx C n (b++[(c:Int)]) (c+1)).foldl g s))/\wz r (((List.range' x (C - x)).flatMap λ(c:Nat)=>jx C n (b++[(c:Int)]) (c+1)).foldl g s):=by
   intro d
   induction d with
   |zero=>
    intro x s aK r hd hx hx2 hfu hI;obtain⟨aK,rfl⟩:∃n,aK=n+1:=⟨aK - 1,by omega⟩;have:x=C:=by omega
    subst this;rw [Nat.sub_self] at hI⊢;rw [dz,if_neg (Int.lt_irrefl _)];exact⟨rfl,by simpa using hI⟩
   |succ d ih=>
    intro x s aK r hd hx hx2 hfu hI;obtain⟨aK,rfl⟩:∃n,aK=n+1:=⟨aK - 1,by omega⟩;have hw:=nP (k:=k) hm (show(0:Int)≤(x:Int) by omega) (show(x:Int) < 8 by omega);have hck:ck ((x:Int)+1)=some (((x+1:Nat):Int)):=by rw [bY (by omega) (by omega)];rfl
    have e:C - x=(C - (x+1))+1:=by omega
    rw [e,List.range'_succ,List.flatMap_cons,length_append,Nat.add_assoc] at hI
    have hsub:=A6 hC hk g wz n m0 (b++[(x:Int)]) (x+1) s _ (by omega) (by omega) (by omega) (by rw [uZ];exact hw.2.1) (λr s b' hb'=>hY r s b' (by
     rw [jx];refine mem_cons_of_mem _ (List.mem_flatMap.2 ⟨x,?_,hb'⟩);rw [List.mem_range'_1];omega)) hI
    rw [uZ] at hsub;have hih:=ih (x+1) _ aK r (by omega) (by omega) (by omega) (by omega) hsub.2;rw [dz,if_pos (show(x:Int) < (C:Int) by omega),hw.1,bs,hck,bs,hsub.1,bs,if_neg (by simp),bs,hih.1];rw [e,List.range'_succ,List.flatMap_cons,List.foldl_append];exact⟨rfl,hih.2⟩
  have hl:=loop (C - f) f _ k r rfl (Nat.le_refl _) h2 (by omega) h0.2;rw [hl.1,kh];exact⟨rfl,hl.2⟩
def Bl(m:ab)(but:Nat->Bool)(B:Int->Bool):Bool:=(mG m).zipIdx.all λg=>but g.2 || decide (g.1.2.2=decide (mS m≤ji m B g.1.2.1.toNat g.1.1))
theorem xT{α ε:Type}{p:Nat->α->Bool}{e:ε}:∀(l:List α) (j:Nat),dR (λ(_:Unit) j x=>if p j x=true then .ok () else Except.error e) j l ()=if((l.zipIdx j).all λg=>p g.2 g.1)=true then .ok () else .error e
 |[],j=>rfl
 |x::l,j=>by
  rw [dR,zipIdx_cons,all_cons]
  cases h:p j x with
  |true=>simp only [if_true,Bool.true_and];exact xT l (j+1)
  |false=>simp
theorem Bi{k:Nat}{m:ab}{S a2:Int}(v:Vd m)(hk:10≤k)(hS:km S)(ha:km a2):dn k m S a2=some (Bl m (λi=>decide (eg a2 i)) (sO S)):=by
 have g8:=v.g8;have d6:=v.d6;unfold dn g7;rw [tO v hk hS,bs]
 have key:=jr (T:=Int) (f:=cJ k m a2 (cr (OA m (sO S)))) (mG m) (λ(_:Unit) j=>j) (λ_ j x=>if(decide (eg a2 j) || decide (x.2.2=decide (mS m≤ji m (sO S) x.2.1.toNat x.1)))=true then .ok () else Except.error ()) (λ_ _=>True) (λr=>some (match r with | .error _=>false | .ok _=>true))
  (λn s j hj _=>by
   have hck:ck ((j:Int)+1)=some ((j:Int)+1):=bY (by omega) (by omega);have hg:=v.gl _ (List.getElem_mem hj);have hj':(j:Int) < (m.2.2.2.2.2.length:Int):=Int.ofNat_lt.2 hj;have hget:aG m.2.2.2.2.2 (j:Int)=some (mG m)[j]:=cu hj;generalize (mG m)[j]=x at *;have c5:=v.c5;have e2:x.2.1=((x.2.1.toNat:Nat):Int):=by omega
   have hrow:aG (cr (OA m (sO S))) x.2.1=some (lX (OA m (sO S) x.2.1.toNat)):=by
    rw [e2,DG (by omega),Int.toNat_natCast]
   have hval:aG (lX (OA m (sO S) x.2.1.toNat)) x.1=some (ji m (sO S) x.2.1.toNat x.1):=by
    rw [uC hg.1 (by omega),ES v (by omega) hg.1 hg.2.1]
   refine⟨?_,λ_ _=>trivial⟩;have hm1:m.2.2.1=mS m:=rfl;simp only [cJ,hj',if_true,hget,bs,Dv (k:=k) ha (i:=j) (by omega),hrow,hval,hm1];cases hh:decide (eg a2 j) with
   |true=>simp only [not_true_eq_false,if_false,bs,Bool.false_eq_true,hck,Bool.true_or,if_true]
   |false=>
    simp only [Bool.false_eq_true,not_false_eq_true,if_true,bs,Bool.false_or];by_cases e:(decide (mS m≤ji m (sO S) x.2.1.toNat x.1))=x.2.2
    .rw [if_neg (by simp [e]),hck,bs,if_pos (by simp [e])]
    .rw [if_pos (by simp [e]),if_neg (by simp;exact λh=>e h.symm)])
  (λn s _=>by
   unfold cJ;rw [if_neg (Int.lt_irrefl _)]) (n:=k) (s0:=()) (by omega) trivial
 rw [show cJ k m a2 (cr (OA m (sO S))) k 0=_ from key,xT (p:=λj (x:aQ)=>decide (eg a2 j) || decide (x.2.2=decide (mS m≤ji m (sO S) x.2.1.toNat x.1)))];unfold Bl;cases((mG m).zipIdx 0).all λg=>decide (eg a2 g.2) || decide (g.1.2.2=decide (mS m≤ji m (sO S) g.1.2.1.toNat g.1.1)) with
 |true=>rfl
 |false=>rfl
end Go.Proofs.YthnacobbednnbaaGreat
set_option linter.unusedVariables false
set_option linter.unusedSimpArgs false
namespace Go.Proofs.YthnacobbednnbaaGreat
open K Go Go.Proofs
theorem tQ{m:ab}(v:Vd m){A B:Int->Bool}(h:∀c,0≤c->c < mC m->A c=B c):∀(n:Nat) (c:Int),0≤c->c < mC m->ji m A n c=ji m B n c
 |0,c,h0,h1=>by unfold ji;rw [h c h0 h1]
 |n+1,c,h0,h1=>by
  have ih:=tQ v h n
  unfold ji
  cases e:yc m n c with
  |none=>simp only [];rw [ih c h0 h1]
  |some l=>
   have hb:=(vR v e).2
   have:(l.any λx=>decide (mW m≤ji m A n x))=l.any λx=>decide (mW m≤ji m B n x):=by
    rw [Bool.eq_iff_iff];simp only [List.any_eq_true,decide_eq_true_eq];constructor
    .rintro⟨x,hx,h⟩;exact⟨x,hx,by rw [<-ih x (hb x hx).1 (hb x hx).2];exact h⟩
    .rintro⟨x,hx,h⟩;exact⟨x,hx,by rw [ih x (hb x hx).1 (hb x hx).2];exact h⟩
   simp only [];rw [ih c h0 h1,this]
theorem DO{α:Type}{l:List α}{p q:α->Bool}(h:∀x∈l,p x=q x):l.all p=l.all q:=by
 induction l with
 |nil=>rfl
 |cons x l ih=>rw [all_cons,all_cons,h x mem_cons_self,ih λy hy=>h y (mem_cons_of_mem _ hy)]
theorem F9{m:ab}(v:Vd m){but:Nat->Bool}{A B:Int->Bool}(h:∀c,0≤c->c < mC m->A c=B c):Bl m but A=Bl m but B:=by
 unfold Bl;refine DO λg hg=>?_;obtain⟨x,i⟩:=g;have hx:=v.gl x (List.fst_mem_of_mem_zipIdx hg);show(but i || decide (x.2.2=decide (mS m≤ji m A x.2.1.toNat x.1)))=(but i || decide (x.2.2=decide (mS m≤ji m B x.2.1.toNat x.1)));rw [tQ v h _ _ hx.1 hx.2.1]
def vT(m:ab):List (List Int):=jx (mC m).toNat (mC m).toNat [] 0
theorem EY{C:Nat}:∀(n:Nat) (b:List Int) (f:Nat),Bg (C:Int) b->(∀x∈b,x < (f:Int))->∀b'∈jx C n b f,Bg (C:Int) b'
 |0,b,f,h,_,b',hb=>by
  rw [jx,List.mem_singleton] at hb
  rw [hb];exact h
 |n+1,b,f,h,hf,b',hb=>by
  rw [jx,mem_cons] at hb
  rcases hb with rfl |hb
  .
   exact h
  .
   obtain⟨c,hc,hb⟩:=List.mem_flatMap.1 hb
   rw [List.mem_range'_1] at hc
   refine EY n (b++[(c:Int)]) (c+1) ⟨λx hx=>?_,?_⟩ (λx hx=>?_) b' hb
   .
    rcases List.mem_append.1 hx with hx |hx
    .
     exact h.rng x hx
    .
     rw [List.mem_singleton.1 hx];omega
   .
    rw [pairwise_append]
    exact⟨h.asc,by simp,λa ha x hx=>by rw [List.mem_singleton.1 hx];have:=hf a ha;omega⟩
   .
    rcases List.mem_append.1 hx with hx |hx
    .
     have:=hf x hx;omega
    .
     rw [List.mem_singleton.1 hx];omega
theorem zu{m:ab}(v:Vd m){b:List Int}(h:b∈vT m):Bg (mC m) b:=by
 have c1:=v.c1;have:=EY (C:=(mC m).toNat) (mC m).toNat [] 0 ⟨by simp,by simp⟩ (by simp) b h;rwa [show(((mC m).toNat:Nat):Int)=mC m by omega] at this
theorem vS{m:ab}(v:Vd m):(vT m).length≤32:=by
 have c1:=v.c1;have c5:=v.c5;have:(mC m).toNat=1\/(mC m).toNat=2\/(mC m).toNat=3\/(mC m).toNat=4\/(mC m).toNat=5:=by omega
 unfold vT;rcases this with h |h |h |h |h <;> rw [h] <;> decide
def pE(m:ab)(but:Nat->Bool):List (List Int):=(vT m).filter λb=>Bl m but λc=>decide (c∈b)
theorem qA{α β:Type}{p:α->Bool}{h:α->β}:∀(l:List α) (s:List β),l.foldl (λ(s:List β×Bool) b=>(if p b then s.1++[h b] else s.1,false)) (s,false)=(s++(l.filter p).map h,false)
 |[],s=>by simp
 |x::l,s=>by
  rw [foldl_cons,qA l]
  cases e:p x with
  |true=>simp [e]
  |false=>simp [e]
theorem Dq{k:Nat}{m:ab}{a2:Int}(v:Vd m)(hk:50≤k)(ha:km a2):eK k m a2=some ((pE m λi=>decide (eg a2 i)).map fK):=by
 have c1:=v.c1;have c5:=v.c5;unfold eK kL;have hC:m.1=(((mC m).toNat:Nat):Int):=by show mC m=_;omega
 have h:=A6 (σ:=List Int×Bool) (k:=k) (Y:=rM (λ(y5:(List Int)) (p7:Int)=>(dn k m p7 a2).bind λr9=>if r9=true then((bS (bi (length y5+length [p7]))).bind λ_=>some (y5++[p7],true)) else(some (y5,true)))) (C:=(mC m).toNat) (by omega) (by omega)
  (λs b=>(if Bl m (λi=>decide (eg a2 i)) (λc=>decide (c∈b)) then s.1++[fK b] else s.1,false)) (λr s=>s.2=false/\s.1.length+r≤1000) (mC m).toNat k [] 0 ([],false) 0 (by omega) (by omega) (by omega) xB (λr s b' hb' hI=>by
   obtain⟨y,q⟩:=s;obtain⟨rfl,hI⟩:q=false/\y.length+(r+1)≤1000:=hI;have hbg:=zu v hb';have hset:=hbg.set c5;have hex:Bl m (λi=>decide (eg a2 i)) (sO (fK b'))=Bl m (λi=>decide (eg a2 i)) (λc=>decide (c∈b')):=F9 v λc h0 _=>hset.2 c h0;unfold rM;simp only [];rw [Bi v (by omega) hset.1 ha,hex,bs];cases Bl m (λi=>decide (eg a2 i)) (λc=>decide (c∈b')) with
   |true=>
    simp only [if_true];rw [dh (by simp [bi];omega),bs,bs];exact⟨by first |rfl |trivial,by first |rfl |trivial,by show(y++[fK b']).length+r≤1000;simp;omega⟩
   |false=>
    simp only [Bool.false_eq_true,if_false];rw [bs];exact⟨by first |rfl |trivial,by first |rfl |trivial,by show y.length+r≤1000;omega⟩) ⟨rfl,by have:=vS v;unfold vT at this;simp;omega⟩
 rw [hC,show dG k (rM (λ(y5:(List Int)) (p7:Int)=>(dn k m p7 a2).bind λr9=>if r9=true then((bS (bi (length y5+length [p7]))).bind λ_=>some (y5++[p7],true)) else(some (y5,true)))) (((mC m).toNat:Nat):Int) k 0 0 ([],false)=_ from h.1,bs,bs];rw [qA (p:=λb=>Bl m (λi=>decide (eg a2 i)) λc=>decide (c∈b)) (h:=fK)];simp only [Bool.false_eq_true,if_false,nil_append];rfl
end Go.Proofs.YthnacobbednnbaaGreat
set_option linter.unusedVariables false
set_option linter.unusedSimpArgs false
namespace Go.Proofs.YthnacobbednnbaaGreat
open K Go Go.Proofs
def G1(b:List Int):Nat:=match b.getLast? with |some x=>x.toNat+1 |none=>0
theorem yd{C:Nat}(hC:C≤5):∀(n:Nat) (b:List Int) (f:Nat),(jx C n b f).length≤6 ^ n
 |0,b,f=>by simp [jx]
 |n+1,b,f=>by
  have fl:∀l:List Nat,(l.flatMap λ(c:Nat)=>jx C n (b++[(c:Int)]) (c+1)).length≤l.length * 6 ^ n:=by
   intro l
   induction l with
   |nil=>simp
   |cons c l ih=>
    rw [List.flatMap_cons,length_append,length_cons,Nat.add_mul];have:=yd hC n (b++[(c:Int)]) (c+1);omega
  have:=fl (List.range' f (C - f));rw [List.length_range'] at this;rw [jx,length_cons,Nat.pow_succ];have h1:(C - f) * 6 ^ n≤5 * 6 ^ n:=mul_le_mul_right _ (by omega);have h2:1≤6 ^ n:=Nat.one_le_pow _ _ (by decide);omega
theorem vn{b:List Int}{c:Nat}:G1 (b++[(c:Int)])=c+1:=by
 unfold G1;rw [List.getLast?_append];simp
theorem Eh{k C:Nat}(hC:C≤5)(hk:10≤k):∀(n m0:Nat) (b:List Int),n≤5->C - G1 b≤n->G1 b≤C->n < m0->b.length+n≤5->(∀x∈b,0≤x/\x < 5)->lz k m0 (C:Int) b=some (jx C n b (G1 b))
 |n,0,b,_,_,_,h,_,_=>absurd h (not_lt_zero _)
 |n,m0+1,b,h5,h1,h2,h3,hb,hx=>by
  unfold lz
  have hn:((if(0:Int) < (b.length:Int) then((ck ((b.length:Int) - (1:Int))).bind λx4=>(aG b x4).bind λx5=>(ck (x5+(1:Int))).bind λx6=>some x6) else(some (0:Int))):Option Int)=some ((G1 b:Nat):Int):=by
   by_cases h0:b=[]
   .subst h0;rfl
   .have hl:0 < b.length:=List.length_pos_iff.2 h0;have c1:ck ((b.length:Int) - 1)=some (((b.length - 1:Nat):Int)):=by rw [bY (by omega) (by omega),show((b.length:Int) - 1)=((b.length - 1:Nat):Int) by omega]
    have hg:=cu (l:=b) (i:=b.length - 1) (by omega);have hxx:=hx _ (List.getElem_mem (l:=b) (n:=b.length - 1) (by omega));have hla:b.getLast? =some b[b.length - 1]:=by rw [List.getLast?_eq_getElem?,List.getElem?_eq_getElem (by omega)]
    have c2:ck (b[b.length - 1]+1)=some (b[b.length - 1]+1):=bY (by omega) (by omega);rw [if_pos (by omega),c1,bs,hg,bs,c2,bs];unfold G1;rw [hla];show some (b[b.length - 1]+1)=some (((b[b.length - 1].toNat+1:Nat)):Int);congr 1;omega
  rw [hn,bs];cases n with
  |zero=>
   have hf:G1 b=C:=by omega
   rw [hf];obtain⟨k,rfl⟩:∃n,k=n+1:=⟨k - 1,by omega⟩;rw [ii,if_neg (Int.lt_irrefl _),bs];rfl
  |succ n=>
   have loop:∀(d x:Nat) (acc:List (List Int)) (aK:Nat),C - x=d->G1 b≤x->x≤C->d < aK->acc.length+((List.range' x (C - x)).flatMap λ(c:Nat)=>jx C n (b++[(c:Int)]) (c+1)).length≤100000->
    ii k (C:Int) b (lz k m0) aK (acc,(x:Int))=some (acc++(List.range' x (C - x)).flatMap λ(c:Nat)=>jx C n (b++[(c:Int)]) (c+1)):=by
    intro d
    induction d with
    |zero=>
     intro x acc aK hd hx1 hx2 hfu hl;obtain⟨aK,rfl⟩:∃n,aK=n+1:=⟨aK - 1,by omega⟩;have:x=C:=by omega
     subst this;rw [ii,if_neg (Int.lt_irrefl _),Nat.sub_self];simp
    |succ d ih=>
     intro x acc aK hd hx1 hx2 hfu hl;obtain⟨aK,rfl⟩:∃n,aK=n+1:=⟨aK - 1,by omega⟩;have e:C - x=(C - (x+1))+1:=by omega
     rw [e,List.range'_succ,List.flatMap_cons,length_append] at hl;have hck:ck ((x:Int)+1)=some (((x+1:Nat):Int)):=by rw [bY (by omega) (by omega)];rfl
     have hsub:=Eh hC hk n m0 (b++[(x:Int)]) (by omega) (by rw [vn];omega) (by rw [vn];omega) (by omega) (by simp;omega) (λy hy=>by
      rcases List.mem_append.1 hy with h |h
      .exact hx y h
      .rw [List.mem_singleton.1 h];omega)
     rw [vn] at hsub;have e0:([]:List Int)++b=b:=rfl;have hok:bS (bi (acc.length+(jx C n (b++[(x:Int)]) (x+1)).length))=some ():=dh (show acc.length+(jx C n (b++[(x:Int)]) (x+1)).length≤4294967296 by omega);rw [ii,if_pos (show(x:Int) < (C:Int) by omega),dh (by simp [bi];omega),bs,e0,dh (by simp [bi];omega),bs,hsub,bs];dsimp only;rw [hok,bs,hck,bs];rw [ih (x+1) _ aK (by omega) (by omega) (by omega) (by omega) (by rw [length_append];omega)];rw [e,List.range'_succ,List.flatMap_cons,List.append_assoc]
   have hlen:=yd hC (n+1) b (G1 b);rw [jx,length_cons] at hlen;have h6:6 ^ (n+1)≤6 ^ 5:=Nat.pow_le_pow_right (by decide) h5;have h7:(6:Nat) ^ 5=7776:=by decide
   have h1l:([b]:List (List Int)).length=1:=rfl;rw [loop (C - G1 b) (G1 b) [b] k rfl (Nat.le_refl _) h2 (by omega) (by omega),bs,jx];rfl
theorem H5{k:Nat}{m:ab}(v:Vd m)(hk:10≤k):lz k k m.1 []=some (vT m):=by
 have c1:=v.c1;have c5:=v.c5;have:=Eh (k:=k) (C:=(mC m).toNat) (by omega) hk (mC m).toNat k [] (by omega) (by show _ - 0≤_;omega) (zero_le _) (by omega) (by simp;omega) (by simp);rw [show(((mC m).toNat:Nat):Int)=m.1 by show _=mC m;omega] at this;exact this
theorem FO{k:Nat}{m:ab}{B:Int->Bool}(v:Vd m){x:aQ}(hg:0≤x.1/\x.1 < mC m/\0≤x.2.1/\x.2.1≤(mD m).length):nv k m (ua m B) x=some (decide (x.2.2=decide (mS m≤ji m B x.2.1.toNat x.1))):=by
 unfold nv;have e:x.2.1=((x.2.1.toNat:Nat):Int):=by omega
 have h1:aG (ua m B) x.2.1=some (oG m B x.2.1.toNat):=by
  have:=xY (m:=m) (B:=B) (n:=x.2.1.toNat) (by omega);rw [<-e] at this;exact this
 rw [h1,bs,o0 hg.1 hg.2.1,bs]
theorem Ao{k:Nat}{m:ab}{but:List Int}{B:Int->Bool}(v:Vd m)(hk:50≤k)(hb:but.length≤40):
 c8 k m but (ua m B) k (true,0)=some (Bl m (λi=>decide ((i:Int)∈but)) B):=by
 have g8:=v.g8
 have key:=eN (T:=Bool×Int) (f:=c8 k m but (ua m B)) (mG m) (λ(s:Bool) j=>(s,j)) (λs j x=>s && (decide ((j:Int)∈but) || decide (x.2.2=decide (mS m≤ji m B x.2.1.toNat x.1)))) (λ_ _=>True) (λs=>some s)
  (λn s j hj _=>by
   have hck:ck ((j:Int)+1)=some ((j:Int)+1):=bY (by omega) (by omega);have hg:=v.gl _ (List.getElem_mem hj);have hj':(j:Int) < (m.2.2.2.2.2.length:Int):=Int.ofNat_lt.2 hj;have hget:aG m.2.2.2.2.2 (j:Int)=some (mG m)[j]:=cu hj;refine⟨?_,trivial⟩;simp only [c8,hj',if_true];cases s with
   |false=>simp only [Bool.false_eq_true,if_false,bs,hck,Bool.false_and]
   |true=>
    simp only [if_true,yz (k:=k) (l:=but) (x:=(j:Int)) (by omega) (by omega),bs,Bool.true_and];cases decide ((j:Int)∈but) with
    |true=>simp only [if_true,bs,hck,Bool.true_or]
    |false=>simp only [Bool.false_eq_true,if_false,hget,bs,FO v hg,hck,Bool.false_or])
  (λn s _=>by
   unfold c8;rw [if_neg (Int.lt_irrefl _)]) (n:=k) (s0:=true) (by omega) trivial
 rw [show c8 k m but (ua m B) k (true,0)=_ from key.1]
 have:∀(l:List aQ) (j:Nat) (s:Bool),fQ (λs j (x:aQ)=>s && (decide ((j:Int)∈but) || decide (x.2.2=decide (mS m≤ji m B x.2.1.toNat x.1)))) j l s=(s && ((l.zipIdx j).all λg=>decide ((g.2:Int)∈but) || decide (g.1.2.2=decide (mS m≤ji m B g.1.2.1.toNat g.1.1)))):=by
  intro l
  induction l with
  |nil=>intro j s;simp [fQ]
  |cons x l ih=>
   intro j s;rw [fQ,ih (j+1),zipIdx_cons,all_cons,Bool.and_assoc]
 rw [this,Bool.true_and]
 rfl
theorem wG{k:Nat}{m:ab}{but:List Int}(v:Vd m)(hk:50≤k)(hb:but.length≤40):iO k m but=some (pE m λi=>decide ((i:Int)∈but)):=by
 have hlen:=vS v;unfold iO;rw [H5 v (by omega),bs]
 have key:=eN (T:=List (List Int)×Int) (f:=dr k m but (vT m)) (vT m) (λ(s:List (List Int)) j=>(s,j)) (λs _ b=>if Bl m (λi=>decide ((i:Int)∈but)) (λc=>decide (c∈b)) then s++[b] else s) (λj s=>s.length≤j) (λs=>some s)
  (λn s j hj hs=>by
   have hck:ck ((j:Int)+1)=some ((j:Int)+1):=bY (by omega) (by omega);have hbg:=zu v (List.getElem_mem hj);have hl:=hbg.len ⟨by have:=v.c1;omega,v.c5⟩;refine⟨?_,?_⟩
   .simp only [dr,Int.ofNat_lt,hj,if_true,cu hj,bs,Au (k:=k) v (by omega) (b:=(vT m)[j]) (by omega) (by omega),Ao (k:=k) v hk hb];cases Bl m (λi=>decide ((i:Int)∈but)) (λc=>decide (c∈(vT m)[j])) with
    |true=>
     simp only [if_true];rw [dh (by simp [bi];omega),bs,bs,hck,bs]
    |false=>simp only [Bool.false_eq_true,if_false,bs,hck]
   .split
    .simp;omega
    .omega)
  (λn s hs=>by
   unfold dr;rw [if_neg (Int.lt_irrefl _)]) (n:=k) (s0:=[]) (by omega) (by simp)
 rw [show dr k m but (vT m) k ([],0)=_ from key.1,bs]
 have:∀(l:List (List Int)) (j:Nat) (s:List (List Int)),fQ (λs _ b=>if Bl m (λi=>decide ((i:Int)∈but)) (λc=>decide (c∈b)) then s++[b] else s) j l s=s++l.filter λb=>Bl m (λi=>decide ((i:Int)∈but)) (λc=>decide (c∈b)):=by
  intro l
  induction l with
  |nil=>intro j s;simp [fQ]
  |cons b l ih=>
   intro j s;rw [fQ,ih (j+1),List.filter_cons];cases Bl m (λi=>decide ((i:Int)∈but)) (λc=>decide (c∈b)) <;> simp
 rw [this];rfl
end Go.Proofs.YthnacobbednnbaaGreat
set_option linter.unusedVariables false
set_option linter.unusedSimpArgs false
namespace Go.Proofs.YthnacobbednnbaaGreat
open K Go Go.Proofs
def jI:Nat->Bool:=λ_=>false
theorem UO:(λi=>decide (eg 0 i))=jI:=by
 funext i;simp [jI,eg]
theorem Ur:(λi:Nat=>decide ((i:Int)∈([]:List Int)))=jI:=by
 funext i;simp [jI]
theorem EO{m:ab}(v:Vd m){but:Nat->Bool}{b:List Int}(h:b∈pE m but):Bg (mC m) b:=zu v (List.mem_filter.1 h).1
theorem Bj{m:ab}(v:Vd m){but:Nat->Bool}:(pE m but).length≤32:=Nat.le_trans (List.length_filter_le _ _) (vS v)
end Go.Proofs.YthnacobbednnbaaGreat
set_option linter.unusedVariables false
set_option linter.unusedSimpArgs false
namespace Go.Proofs.YthnacobbednnbaaGreat
open K Go Go.Proofs
theorem F4{k:Nat}{m:ab}{cs ds ns:List Int}(hs:Sm m)(hk:1010≤k)(h1:cs.length≤1000)(h2:ds.length≤1000)(h3:ns.length≤1000):
 jZ k m cs ds ns=some (if¬(na m=0) then(none,[],na m) else if¬(QN m cs ds ns=true) then(none,[],3) else if(pE m jI).length=0 then(none,[],9) else(some m,(pE m jI).map fK,0)):=by
 unfold jZ
 rw [IS hs hk (by simp) h1 h2 h3,bs]
 by_cases hc:na m=0
 .
  have v:=Vd.of hc;have hb:zq (mC m) []=0:=GF.2 ⟨by simp,by simp⟩;by_cases ho:QN m cs ds ns=true
  .simp only [hc,hb,ho,not_true_eq_false,if_false,if_true,zl];rw [Dq v (by omega) xB,bs,UO];by_cases hl:(pE m jI).length=0
   .rw [if_pos (by rw [length_map];omega),if_pos hl]
   .rw [if_neg (by rw [length_map];omega),if_neg hl]
  .simp only [hc,hb,ho,not_true_eq_false,not_false_eq_true,if_false,if_true,sB,Bool.false_eq_true];rw [if_pos (by decide)]
 .
  simp only [hc,not_false_eq_true,if_true,sB]
theorem vf{k:Nat}{m:ab}{q:Bool}(hs:Sm m)(hk:1010≤k):
 lY k m q=some (if¬(na m=0) then([],na m) else if¬(q=true) then([],3) else if(pE m jI).length=0 then([],9) else(pE m jI,0)):=by
 unfold lY
 rw [Le hs (by omega),bs]
 by_cases hc:na m=0
 .
  have v:=Vd.of hc;cases q with
  |true=>
   simp only [hc,not_true_eq_false,if_false];rw [wG v (by omega) (by simp),bs,Ur];by_cases hl:(pE m jI).length=0
   .rw [if_pos (by omega),if_pos hl]
   .rw [if_neg (by omega),if_neg hl]
  |false=>simp only [hc,not_true_eq_false,if_false,Bool.false_eq_true,not_false_eq_true,if_true]
 .
  rw [if_pos hc,if_pos hc]
end Go.Proofs.YthnacobbednnbaaGreat
set_option linter.unusedVariables false
set_option linter.unusedSimpArgs false
namespace Go.Proofs.YthnacobbednnbaaGreat
open K Go Go.Proofs
theorem M8{k:Nat}{m:ab}{b:List Int}(v:Vd m)(hk:10≤k)(hb:Bg (mC m) b):∃F:Nat->Int->Int,lE k m (fK b)=some (cr F)/\∀(n:Nat) (c:Int),n≤(mD m).length->0≤c->c < mC m->F n c=ji m (λc=>decide (c∈b)) n c:=by
 have hs:=hb.set v.c5;refine⟨_,tO v hk hs.1,λn c hn h0 h1=>?_⟩;rw [ES v hn h0 h1];exact tQ v (λc h0 _=>hs.2 c h0) n c h0 h1
theorem M9{k:Nat}{m:ab}{b:List Int}{α:Type}{n:Nat}{c:Int}{f:Int->Option α}(v:Vd m)(hk:10≤k)(hb:Bg (mC m) b)(hn:n≤(mD m).length)(h0:0≤c)(h1:c < mC m):
 ((lE k m (fK b)).bind λr=>(aG r (n:Int)).bind λx=>(aG x c).bind λy=>f y)=f (ji m (λc=>decide (c∈b)) n c):=by
 obtain⟨F,e,h⟩:=M8 v hk hb
 have d6:=v.d6
 have c5:=v.c5
 rw [e,bs,DG (by omega),bs,uC h0 (by omega),bs,h n c hn h0 h1]
theorem Jy{k:Nat}{m:ab}{b:List Int}{α:Type}{n:Nat}{c:Int}{f:Int->Option α}(v:Vd m)(hk:10≤k)(hb:Bg (mC m) b)(hn:n≤(mD m).length)(h0:0≤c)(h1:c < mC m):
 ((lZ k m b).bind λr=>(aG r (n:Int)).bind λx=>(aG x c).bind λy=>f y)=f (ji m (λc=>decide (c∈b)) n c):=by
 have c1:=v.c1
 have:=hb.len ⟨by omega,v.c5⟩
 rw [Au v hk (by omega) (by omega),bs,xY hn,bs,o0 h0 h1,bs]
def zm(m:ab)(n:Nat)(c:Int)(x:Int)(L:List (List Int)):Nat:=L.countP λb=>decide (x≤ji m (λc=>decide (c∈b)) n c)
theorem xR{p:List Int->Bool}:∀(L:List (List Int)) (j:Nat) (s:Int),fQ (λ(s:Int) _ b=>if p b then s+1 else s) j L s=s+(L.countP p:Nat)
 |[],_,s=>by simp [fQ]
 |b::L,j,s=>by
  rw [fQ,xR L,List.countP_cons]
  split <;> simp_all <;> omega
theorem Bw{L:List (List Int)}{p:List Int->Bool}{f:Nat->Int×Int->Option Int}{k:Nat}(hk:L.length < k)(hl:L.length≤1000)
 (step:∀(n:Nat) (s:Int) (j:Nat) (h:j < L.length),0≤s->s≤j->f (n+1) (s,j)=f n (if p L[j] then s+1 else s,(j:Int)+1)) (stop:∀(n:Nat) (s:Int),f (n+1) (s,L.length)=some s):f k (0,0)=some (L.countP p:Int):=by
 have key:=eN (T:=Int×Int) (f:=f) L (λ(s:Int) j=>(s,j)) (λs _ b=>if p b then s+1 else s) (λj s=>0≤s/\s≤j) (λs=>some s)
  (λn s j hj hs=>⟨step n s j hj hs.1 hs.2,by split <;> constructor <;> omega⟩) (λn s _=>stop n s) (n:=k) (s0:=0) hk ⟨by omega,by omega⟩
 rw [show f k (0,0)=_ from key.1,xR]
 simp
theorem A1{k:Nat}{m:ab}{n:Nat}{r2:(Option ab)×(List Int)×Int}{L:List (List Int)}{y:(List Int)×Int}(v:Vd m)(hk:50≤k)(hL:∀b∈L,Bg (mC m) b)(hl:L.length≤40)(hr:r2.2.1=L.map fK)(hn:n≤(mD m).length)(h0:0≤y.2)(h1:y.2 < mC m):
 ir k m (n:Int) r2 m y k (0,0)=some (zm m n y.2 (mS m) L:Int):=by
 refine Bw (by omega) (by omega) (λn' s j hj s0 s1=>?_) (λn' s=>?_)
 .
  have hck:ck ((j:Int)+1)=some ((j:Int)+1):=bY (by omega) (by omega);have hcs:ck (s+1)=some (s+1):=bY (by omega) (by omega);have hb:=hL _ (List.getElem_mem hj);have hg:aG r2.2.1 (j:Int)=some (fK L[j]):=by rw [hr];exact I6 (by omega) (by rw [Int.toNat_natCast,List.getElem?_map,List.getElem?_eq_getElem hj];rfl)
  have hlt:(j:Int) < (r2.2.1.length:Int):=by rw [hr,length_map];omega
  rw [ir,if_pos hlt,hg,bs,M9 v (by omega) hb hn h0 h1];by_cases h:m.2.2.1≤ji m (λc=>decide (c∈L[j])) n y.2
  .rw [if_pos h,hcs,bs,bs,hck,bs,if_pos (by simpa using h)]
  .rw [if_neg h,bs,hck,bs,if_neg (by simpa using h)]
 .
  rw [ir,if_neg (by show¬((L.length:Int) < _);rw [hr,length_map];omega)]
theorem Av{k:Nat}{m:ab}{n:Nat}{L:List (List Int)}{e:Int}{y:Int×Int×Int}(v:Vd m)(hk:50≤k)(hL:∀b∈L,Bg (mC m) b)(hl:L.length≤40)(hn:n≤(mD m).length)(h0:0≤y.2.2)(h1:y.2.2 < mC m):
 ig k m (n:Int) (L,e) y k (0,0)=some (zm m n y.2.2 (mS m) L:Int):=by
 refine Bw (by omega) (by omega) (λn' s j hj s0 s1=>?_) (λn' s=>?_)
 .
  have hck:ck ((j:Int)+1)=some ((j:Int)+1):=bY (by omega) (by omega);have hcs:ck (s+1)=some (s+1):=bY (by omega) (by omega);have hb:=hL _ (List.getElem_mem hj);have hlt:(j:Int) < (L.length:Int):=by omega
  rw [ig,if_pos hlt,cu hj,bs,Jy v (by omega) hb hn h0 h1];by_cases h:m.2.2.1≤ji m (λc=>decide (c∈L[j])) n y.2.2
  .rw [if_pos h,hcs,bs,bs,hck,bs,if_pos (by simpa using h)]
  .rw [if_neg h,bs,hck,bs,if_neg (by simpa using h)]
 .
  rw [ig,if_neg (Int.lt_irrefl _)]
def iH(m:ab)(n:Nat)(L:List (List Int))(c:Int):Int:=pA (zm m n c (mS m) L) (L.length - zm m n c (mS m) L)
theorem Jr{m:ab}{n:Nat}{c x:Int}{L:List (List Int)}:zm m n c x L≤L.length:=List.countP_le_length
def yV(R:Int->Int)(N:Int)(C:Nat):Int×Int:=fQ (λ(s:Int×Int) j _=>if R j < s.2 then((j:Int),R j) else s) 0 (List.range C) (-1,N)
theorem Aw{k:Nat}{m:ab}{n:Nat}{L:List (List Int)}{e:Int}(v:Vd m)(hk:50≤k)(hL:∀b∈L,Bg (mC m) b)(hl:L.length≤40)(hn:n≤(mD m).length):
 fX k m (n:Int) (L,e) k (-1,(L.length:Int),0)=some (yV (iH m n L) L.length (mC m).toNat):=by
 have c1:=v.c1
 have c5:=v.c5
 have key:=eN (T:=Int×Int×Int) (f:=fX k m (n:Int) (L,e)) (List.range (mC m).toNat) (λ(s:Int×Int) j=>(s.1,s.2,j)) (λs j _=>if iH m n L j < s.2 then((j:Int),iH m n L j) else s) (λ_ _=>True) (λs=>some s)
  (λn' s j hj _=>by
   rw [length_range] at hj;have hck:ck ((j:Int)+1)=some ((j:Int)+1):=bY (by omega) (by omega);have hle:=Jr (m:=m) (n:=n) (c:=j) (x:=mS m) (L:=L);have hcl:ck ((L.length:Int) - (zm m n j (mS m) L:Int))=some ((L.length:Int) - (zm m n j (mS m) L:Int)):=bY (by omega) (by omega);refine⟨?_,trivial⟩;rw [fX,if_pos (by show(j:Int) < mC m;omega),Av v hk hL hl hn (y:=(s.1,s.2,(j:Int))) (by show(0:Int)≤j;omega) (by show(j:Int) < mC m;omega),bs,hcl,bs];show Option.bind (if iH m n L j < s.2 then some ((j:Int),iH m n L j) else some (s.1,s.2)) _=_;by_cases h:iH m n L j < s.2
   .rw [if_pos h,if_pos h,bs,hck,bs]
   .rw [if_neg h,if_neg h,bs,hck,bs])
  (λn' s _=>by
   rw [length_range,fX,if_neg (by show¬(((mC m).toNat:Int) < mC m);omega)]) (n:=k) (s0:=(-1,(L.length:Int))) (by rw [length_range];omega) trivial
 exact key.1
def iu:Int->List Int->Int
 |x,[]=>x
 |x,y::l=>iu (jh x y) l
theorem vG:∀(l:List Int) (j:Nat) (x:Int),fQ (λ(s:Int) _ y=>jh s y) j l x=iu x l
 |[],_,_=>rfl
 |y::l,j,x=>vG l (j+1) (jh x y)
theorem LP{k:Nat}{x:Int}{l:List Int}(hk:l.length+1 < k)(hl:l.length≤1000):jl k (x::l)=some (iu x l):=by
 have key:=eN (T:=Int×Int) (f:=d4 k (x::l)) l (λ(s:Int) j=>(s,j+1)) (λs _ y=>jh s y) (λ_ _=>True) (λs=>some s)
  (λn s j hj _=>by
   have hck:ck ((j:Int)+1+1)=some ((j:Int)+1+1):=bY (by omega) (by omega);have hg:aG (x::l) ((j:Int)+1)=some l[j]:=I6 (by omega) (by rw [show((j:Int)+1).toNat=j+1 by omega,getElem?_cons_succ,List.getElem?_eq_getElem hj]);refine⟨?_,trivial⟩;rw [d4,if_pos (by show(j:Int)+1 < ((l.length+1:Nat):Int);omega),hg,bs,hck,bs])
  (λn s _=>by
   rw [d4,if_neg (by show¬((l.length:Int)+1 < ((l.length+1:Nat):Int));omega)]) (n:=k) (s0:=x) (by omega) trivial
 unfold jl;rw [if_neg (by show¬(((l.length+1:Nat):Int) < 1);omega),show aG (x::l) (0:Int)=some x from rfl,bs,show d4 k (x::l) k (x,1)=_ from key.1,bs,vG]
theorem AY:∀{l:List Int} {x y:Int},iu (jh x y) l=jh x (iu y l)
 |[],_,_=>rfl
 |z::l,x,y=>by
  show iu (jh (jh x y) z) l=jh x (iu (jh y z) l)
  rw [show jh (jh x y) z=jh x (jh y z) by unfold jh;repeat' split <;> omega]
  exact AY
theorem xF:∀(l:List Int) (x:Int) (j:Nat) (s:Int×Int),fQ (λ(s:Int×Int) (j:Nat) y=>if y < s.2 then((j:Int),y) else s) j (x::l) s=if iu x l < s.2 then(((j+((x::l).findIdx? λy=>decide (iu x l=y)).getD 0:Nat):Int),iu x l) else s
 |[],x,j,s=>by
  show(if x < s.2 then((j:Int),x) else s)=_
  simp [iu,findIdx?_cons]
 |y::l,x,j,s=>by
  rw [fQ,xF l y (j+1)]
  have e:iu x (y::l)=jh x (iu y l):=AY
  rw [e]
  generalize hM:iu y l=M at *
  by_cases hx:x≤M
  .
   have e2:jh x M=x:=by unfold jh;split <;> omega
   rw [e2,show(x::y::l).findIdx? (λy=>decide (x=y))=some 0 by simp [findIdx?_cons]]
   by_cases hs:x < s.2
   .
    rw [if_pos hs,if_neg (by show¬M < x;omega),if_pos hs]
    simp
   .
    rw [if_neg hs,if_neg (by omega),if_neg hs]
  .
   have e2:jh x M=M:=by unfold jh;split <;> omega
   have hne:decide (M=x)=false:=by simp;omega
   rw [e2,show(x::y::l).findIdx? (λy=>decide (M=y))=((y::l).findIdx? (λy=>decide (M=y))).map (· +1) by rw [findIdx?_cons (x:=x)];simp [hne]]
   have hin:M∈y::l:=by
    rw [<-hM];clear hM e hx e2 hne
    induction l generalizing y with
    |nil=>simp [iu]
    |cons z l ih=>
     show iu (jh y z) l∈_;have:=ih (jh y z);rcases mem_cons.1 this with h |h
     .rw [h];unfold jh;split <;> simp
     .simp [h]
   obtain⟨i,hi⟩:∃i,(y::l).findIdx? (λy=>decide (M=y))=some i:=by
    cases h:(y::l).findIdx? (λy=>decide (M=y)) with
    |some i=>exact⟨i,rfl⟩
    |none=>rw [List.findIdx?_eq_none_iff] at h;have:=h M hin;simp at this
   simp only [hi,Option.getD_some,Bool.false_eq_true,if_false,Option.map_some];by_cases hs:x < s.2
   .rw [if_pos hs];show(if M < x then _ else _)=_;rw [if_pos (by omega),if_pos (by omega)];congr 1;omega
   .rw [if_neg hs];by_cases h2:M < s.2
    .rw [if_pos h2,if_pos h2];congr 1;omega
    .rw [if_neg h2,if_neg h2]
theorem xQ{α β σ:Type}{f:α->β}{g:σ->Nat->β->σ}:∀(l:List α) (j:Nat) (s:σ),fQ g j (l.map f) s=fQ (λs j x=>g s j (f x)) j l s
 |[],_,_=>rfl
 |x::l,j,s=>xQ l (j+1) _
theorem tD{σ:Type}{g:σ->Nat->Nat->σ}:∀(n i j:Nat) (s:σ),i=j->fQ (λs j _=>g s j j) j (List.range' i n) s=fQ (λs j x=>g s j x) j (List.range' i n) s
 |0,_,_,_,_=>rfl
 |n+1,i,j,s,h=>by
  subst h
  rw [List.range'_succ]
  exact tD n (i+1) (i+1) _ rfl
def Ew(m:ab)(n:Int):Int×Int×Int:=if¬(na m=0) then(0,0,na m) else if¬(0≤n/\n≤((mD m).length:Int)) then(0,0,3) else if(pE m jI).length=0 then(0,0,9) else
 let x:=yV (iH m n.toNat (pE m jI)) (pE m jI).length (mC m).toNat
 if x.1 < 0 then(0,0,11) else(x.1,x.2,0)
theorem H7{k:Nat}{m:ab}{n:Int}(hs:Sm m)(hk:1010≤k):o8 k m n=some (Ew m n):=by
 unfold o8 Ew;by_cases hc:na m=0
 .have v:=Vd.of hc;rw [Dt,bs,vf hs hk,bs];simp only [hc,not_true_eq_false,if_false];by_cases hn:0≤n/\n≤((mD m).length:Int)
  .simp only [hn,and_self,decide_true,not_true_eq_false,if_false];have hl:=Bj v (but:=jI);have hL:∀x∈pE m jI,Bg (mC m) x:=λx h=>EO v h;by_cases h0:(pE m jI).length=0
   .rw [if_pos h0,if_pos h0,if_pos (by decide)]
   .rw [if_neg h0,if_neg h0];obtain⟨n',rfl⟩:∃n':Nat,n=n':=⟨n.toNat,by omega⟩;simp only [not_true_eq_false,if_false,Int.toNat_natCast];rw [Aw v (by omega) hL (by omega) (by omega),bs];split <;> rfl
  .simp only [hn,decide_false,Bool.false_eq_true,not_false_eq_true,if_true,not_true_eq_false,if_false];rw [if_pos (by decide)]
 .rw [show(fC k m n).bind _=_ from by rw [Dt,bs],vf hs hk,bs,if_pos hc,if_pos hc];rw [if_pos hc]
theorem IV{k:Nat}{m:ab}{n:Int}(hs:Sm m)(hk:1010≤k):nD k m n=some (Ew m n):=by
 unfold nD Ew;rw [F4 hs hk (by simp) (by simp) (by simp),bs];by_cases hc:na m=0
 .have v:=Vd.of hc;have c1:=v.c1;have c5:=v.c5;have hop:QN m [] [] [n]=decide (0≤n/\n≤((mD m).length:Int)):=by simp [QN,xH,uJ]
  simp only [hc,hop,not_true_eq_false,if_false,decide_eq_true_eq];by_cases hn:0≤n/\n≤((mD m).length:Int)
  .simp only [hn,and_self,not_true_eq_false,if_false];have hl:=Bj v (but:=jI);have hL:∀x∈pE m jI,Bg (mC m) x:=λx h=>EO v h;generalize pE m jI=L at *;by_cases h0:L.length=0
   .rw [if_pos h0,if_pos h0];simp only [sB];rw [if_pos (by decide)]
   .rw [if_neg h0,if_neg h0];obtain⟨n',rfl⟩:∃n':Nat,n=n':=⟨n.toNat,by omega⟩;simp only [zl,not_true_eq_false,if_false,Int.toNat_natCast]
    have key:=eN (T:=List Int×Int) (f:=f7 k m (n':Int) (some m,L.map fK,0) m) (List.range (mC m).toNat) (λ(s:List Int) j=>(s,j)) (λs j _=>s++[iH m n' L j]) (λj s=>s.length=j) (λs=>some s)
     (λn s j hj hs=>by
      rw [length_range] at hj;have hck:ck ((j:Int)+1)=some ((j:Int)+1):=bY (by omega) (by omega);have hle:=Jr (m:=m) (n:=n') (c:=j) (x:=mS m) (L:=L);have hcl:ck ((L.length:Int) - (zm m n' j (mS m) L:Int))=some ((L.length:Int) - (zm m n' j (mS m) L:Int)):=bY (by omega) (by omega);have hok:bi (length s+length [iH m n' L j]):=VL (n:=10) (by omega) (by omega);refine⟨?_,by simp [hs]⟩;rw [f7,if_pos (by show(j:Int) < mC m;omega),A1 v (by omega) hL (by omega) rfl (by omega) (y:=(s,(j:Int))) (by show(0:Int)≤j;omega) (by show(j:Int) < mC m;omega),bs];show Option.bind (Option.bind (ck (((L.map fK).length:Int) - _)) _) _=_;rw [length_map,hcl,bs];show Option.bind (Option.bind (bS (bi (length s+length [iH m n' L j]))) λ_=>some (s++[iH m n' L j])) _=_;rw [dh hok,bs,bs,hck,bs])
     (λn s _=>by
      rw [length_range,f7,if_neg (by show¬(((mC m).toNat:Int) < mC m);omega)]) (n:=k) (s0:=[]) (by rw [length_range];omega) rfl
    rw [show f7 k m (n':Int) (some m,L.map fK,0) m k ([],0)=_ from key.1,bs]
    have hsnoc:∀(l:List Nat) (j:Nat) (s:List Int),fQ (λ(s:List Int) j x=>s++[iH m n' L ((x:Nat):Int)]) j l s=s++l.map λ(x:Nat)=>iH m n' L x:=by
     intro l
     induction l with
     |nil=>intro j s;simp [fQ]
     |cons x l ih=>intro j s;rw [fQ,ih];simp
    have e1:fQ (λ(s:List Int) (j x:Nat)=>s++[iH m n' L j]) 0 (List.range (mC m).toNat) []=(List.range (mC m).toNat).map λ(x:Nat)=>iH m n' L x:=by
     rw [List.range_eq_range',tD (g:=λs j x=>s++[iH m n' L ((x:Nat):Int)]) _ 0 0 _ rfl,hsnoc,nil_append]
    rw [e1]
    have e2:yV (iH m n' L) L.length (mC m).toNat=fQ (λ(s:Int×Int) (j:Nat) y=>if y < s.2 then((j:Int),y) else s) 0 ((List.range (mC m).toNat).map λ(x:Nat)=>iH m n' L x) (-1,(L.length:Int)):=by
     rw [xQ];unfold yV;rw [List.range_eq_range',tD (g:=λ(s:Int×Int) j x=>if iH m n' L ((x:Nat):Int) < s.2 then((j:Int),iH m n' L ((x:Nat):Int)) else s) _ 0 0 _ rfl]
    rw [e2];have hlen:((List.range (mC m).toNat).map λ(x:Nat)=>iH m n' L x).length=(mC m).toNat:=by simp
    generalize ((List.range (mC m).toNat).map λ(x:Nat)=>iH m n' L x)=R at *;cases R with
    |nil=>simp at hlen;omega
    |cons x l=>
     simp only [length_cons] at hlen;rw [LP (by omega) (by omega),bs,xF l x 0];show(if((L.map fK).length:Int)≤iu x l then _ else _)=_;rw [length_map];by_cases hm:iu x l < (L.length:Int)
     .rw [if_neg (by omega),if_pos hm,A9 (by simp only [length_cons];omega) (by simp only [length_cons];omega),bs]
      have hin:∃i,(x::l).findIdx? (λy=>decide (iu x l=y))=some i:=by
       cases h:(x::l).findIdx? (λy=>decide (iu x l=y)) with
       |some i=>exact⟨i,rfl⟩
       |none=>
        rw [List.findIdx?_eq_none_iff] at h
        have hmem:iu x l∈x::l:=by
         clear h hm hlen e2 e1 hsnoc key
         induction l generalizing x with
         |nil=>simp [iu]
         |cons z l ih=>
          show iu (jh x z) l∈_;rcases mem_cons.1 (ih (jh x z)) with h |h
          .rw [h];unfold jh;split <;> simp
          .simp [h]
        have:=h _ hmem;simp at this
      obtain⟨i,hi⟩:=hin;simp only [hi,Option.getD_some];rw [if_neg (by omega)];congr 2;omega
     .rw [if_pos (by omega),if_neg hm];rfl
  .simp only [hn,not_false_eq_true,if_true,sB];rw [if_pos (by decide)]
 .simp only [hc,not_false_eq_true,if_true,sB]
end Go.Proofs.YthnacobbednnbaaGreat
set_option linter.unusedVariables false
set_option linter.unusedSimpArgs false
namespace Go.Proofs.YthnacobbednnbaaGreat
open K Go Go.Proofs
theorem Ba:px 1200=some true:=by decide+kernel
theorem W.get{α:Type}{x:Option α}{a:α}(h:W x λy=>y=a):x=some a:=by
 obtain⟨b,e,rfl⟩:=h;exact e
end Go.Proofs.YthnacobbednnbaaGreat
set_option linter.unusedVariables false
set_option linter.unusedSimpArgs false
namespace Go.Proofs.YthnacobbednnbaaGreat
open K Go Go.Proofs
theorem Si{α:Type}{a b c:α}{j:Nat}(h:j < 3):∃x∈[a,b,c],aG [a,b,c] (j:Int)=some x:=by
 have:j=0\/j=1\/j=2:=by omega
 rcases this with rfl |rfl |rfl
 .exact⟨a,by simp,rfl⟩
 .exact⟨b,by simp,rfl⟩
 .exact⟨c,by simp,rfl⟩
end Go.Proofs.YthnacobbednnbaaGreat
set_option linter.unusedVariables false
set_option linter.unusedSimpArgs false
namespace Go.Proofs.YthnacobbednnbaaGreat
open K Go Go.Proofs
theorem HO{r:List ab}{f:Nat->Int->Option (Except Bool Unit)}{a x y:ab}(h9:r=[a,x,y])(hs:Sm a)(vx:Vd x)(sy:Sm y)
 (step:∀(n j:Nat) (z:ab),j < 3->(j:Int) < (r.length:Int)->aG r (j:Int)=some z->Sm z->f (n+1) (j:Int)=f n ((j:Int)+1)) (stop:∀n:Nat,f (n+1) ((r.length:Nat):Int)=some (.ok ())):f 1200 0=some (.ok ()):=by
 subst h9
 have h0:=step 1199 0 a (by omega) (by simp;try omega) rfl hs
 have h1:=step 1198 1 x (by omega) (by simp;try omega) rfl vx.sm
 have h2:=step 1197 2 y (by omega) (by simp;try omega) rfl sy
 have h3:=stop 1196
 rw [show f 1200 0=f (1199+1) ((0:Nat):Int) from rfl,h0,show f 1199 (((0:Nat):Int)+1)=f (1198+1) ((1:Nat):Int) from rfl,h1,show f 1198 (((1:Nat):Int)+1)=f (1197+1) ((2:Nat):Int) from rfl,h2]
 exact h3
