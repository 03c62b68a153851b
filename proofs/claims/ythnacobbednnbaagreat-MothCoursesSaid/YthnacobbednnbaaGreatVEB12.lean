import Derived.Test.YthnacobbednnbaaGreatVEB11
open Nat
open List hiding mem_of_getElem?
open Array hiding mem_of_getElem? mk
set_option linter.unusedVariables false
set_option linter.unusedSimpArgs false
namespace Go.Proofs.YthnacobbednnbaaGreat
open K Go Go.Proofs
theorem lM{k:Nat}{l:List (List Int)}(hk:l.length < k)(hl:l.length≤1000000)(hx:∀x∈l,x.length < k/\x.length≤1000000):dT k l l=some true:=by
 unfold dT;rw [if_neg (λhn=>hn rfl)]
 have key:=iL (T:=Int) (f:=dB k l l) l (λ(_:Unit) j=>j) (λ_ _ _=>(.ok ():Except Bool Unit)) (λ_ _=>True) (λr=>some r)
  (λn s j hj _=>by
   have hck:ck ((j:Int)+1)=some ((j:Int)+1):=cU (by omega) (by omega);have h5:=hx _ (List.getElem_mem hj);refine⟨?_,λ_ _=>trivial⟩;simp only [dB,Int.ofNat_lt,hj,if_true,cN hj,bs,tQ h5.1 h5.2,decide_true,not_true_eq_false,if_false,hck])
  (λn s _=>by simp [dB]) (n:=k) (s0:=()) hk trivial
 rw [show dB k l l k 0=_ from key,vF,kG]
theorem uP{k:Nat}{m:ae}(hk:1010≤k)(hs:Sm m):iG k m m=some true:=by
 have hd:=hs.d;have hg:=hs.g;unfold iG;have e0:((if¬(m.1=m.1) then(some true) else(if¬(m.2.1=m.2.1) then(some true) else(if¬(m.2.2.1=m.2.2.1) then(some true) else(if¬(m.2.2.2.1=m.2.2.2.1) then(some true) else(if¬((m.2.2.2.2.1.length:Int)=(m.2.2.2.2.1.length:Int)) then(some true) else(some (!decide ((m.2.2.2.2.2.length:Int)=(m.2.2.2.2.2.length:Int))))))))):Option Bool)=some false:=by simp
 rw [e0,bs,if_neg (by decide)]
 have key:=iL (T:=Int) (f:=dA k m m) (mD m) (λ(_:Unit) j=>j) (λ_ _ _=>(.ok ():Except Bool Unit)) (λ_ _=>True) (λr=>some r)
  (λn s j hj _=>by
   have hck:ck ((j:Int)+1)=some ((j:Int)+1):=cU (by omega) (by omega);have hr:=hs.r _ (List.getElem_mem hj);have hj':(j:Int) < (m.2.2.2.2.1.length:Int):=Int.ofNat_lt.2 hj;have hg:aH m.2.2.2.2.1 (j:Int)=some (mD m)[j]:=cN hj;refine⟨?_,λ_ _=>trivial⟩;simp only [dA,hj',if_true,hg,bs,lM (k:=k) (l:=(mD m)[j]) (by omega) (by omega) (λx hx=>by have:=hr.2 x hx;omega),not_true_eq_false,if_false,hck])
  (λn s _=>by
   unfold dA;rw [if_neg (Int.lt_irrefl _)]) (n:=k) (s0:=()) (by omega) trivial
 rw [show dA k m m k 0=_ from key,vF,kG]
 have key:=iL (T:=Int) (f:=dz k m m) (mG m) (λ(_:Unit) j=>j) (λ_ _ _=>(.ok ():Except Bool Unit)) (λ_ _=>True) (λr=>some r)
  (λn s j hj _=>by
   have hck:ck ((j:Int)+1)=some ((j:Int)+1):=cU (by omega) (by omega);have hj':(j:Int) < (m.2.2.2.2.2.length:Int):=Int.ofNat_lt.2 hj;have hg:aH m.2.2.2.2.2 (j:Int)=some (mG m)[j]:=cN hj;refine⟨?_,λ_ _=>trivial⟩;simp only [dz,hj',if_true,hg,bs,not_true_eq_false,if_false,hck])
  (λn s _=>by
   unfold dz;rw [if_neg (Int.lt_irrefl _)]) (n:=k) (s0:=()) (by omega) trivial
 rw [show dz k m m k 0=_ from key,vF,kG]
theorem tZ{k:Nat}{m:ae}(hk:1010≤k)(hs:Sm m):eD k m=some m:=by
 have hd:=hs.d;have hg:=hs.g;unfold eD;rw [dq (by show _≤_;have:m.2.2.2.2.2.length≤1000:=hg;simp only [length_nil];omega),bs]
 have key:=iK (T:=List (List (List Int))×Int) (f:=cQ k m) (mD m) (λ(s:List (List (List Int))) j=>(s,j)) (λs j x=>s++[x]) (λj s=>s=(mD m).take j) (λs=>some s)
  (λn s j hj hs'=>by
   have hck:ck ((j:Int)+1)=some ((j:Int)+1):=cU (by omega) (by omega);have hl:s.length=j:=by rw [hs',length_take];omega
   have hok:cf (bA (length s+length [(mD m)[j]]))=some ():=dq (by simp [bA];omega);have hj':(j:Int) < (m.2.2.2.2.1.length:Int):=Int.ofNat_lt.2 hj;have hg:aH m.2.2.2.2.1 (j:Int)=some (mD m)[j]:=cN hj;have hr:=hs.r _ (List.getElem_mem hj);refine⟨?_,?_⟩
   .simp only [cQ,hj',if_true,hg,bs,t3 (k:=k) (l:=(mD m)[j]) (by omega) (by omega) (λx hx=>by have:=hr.2 x hx;omega),hok,hck]
   .rw [hs',take_add_one,List.getElem?_eq_getElem hj];rfl)
  (λn s hs=>by
   unfold cQ;rw [if_neg (Int.lt_irrefl _)]) (n:=k) (s0:=[]) (by omega) (by simp)
 rw [show cQ k m k ([],0)=_ from key.1,bs,key.2,take_length];rfl
theorem Ak{k:Nat}{l:bK}{m:Int}{x:yI}(hl:Lo l m)(hm:0≤m/\m≤900)(hc:1≤x.1/\x.1≤5)(hd:x.2.2.2.2.1.length≤6):
 W (iJ k l x) λr=>Lo r.2 (m+3)/\(0≤r.1.1/\r.1.1 < x.1)/\0≤r.1.2.1/\r.1.2.1≤(x.2.2.2.2.1.length:Int):=by
 unfold iJ
 refine W.ck (by omega) (by omega) ?_
 refine W.bind (j8 (l:=(l.1,l.2.1,l.2.2)) hl (by omega) (by omega)) λr4 h4=>?_
 refine W.bind (j8 (l:=(r4.2.1,r4.2.2.1,r4.2.2.2)) h4.2.2 (by omega) (by omega)) λr5 h5=>?_
 refine W.bind (uq (l:=(r5.2.1,r5.2.2.1,r5.2.2.2)) h5.2.2 (by omega) (by omega) (by omega)) λr6 h6=>?_
 have b4:=h4.2.1 (by omega)
 have b5:=h5.2.1 (by omega)
 exact W.ret ⟨h6.mono (by omega),⟨h4.1,by show r4.1 < x.1;omega⟩,h5.1,b5⟩
theorem Vd.with{m:ae}(v:Vd m){gs:List aQ}(h8:gs.length≤8)(hg:∀g∈gs,0≤g.1/\g.1 < mC m/\0≤g.2.1/\g.2.1≤(mD m).length):Vd (m.1,m.2.1,m.2.2.1,m.2.2.2.1,m.2.2.2.2.1,gs):=
 ⟨v.c1,v.c5,v.w0,v.w3,v.s0,v.s3,v.h1,v.h3,v.d1,v.d6,v.r3,v.l5,v.x5,v.nd,h8,hg⟩
theorem yx{k:Nat}(hk:50≤k){l:bK}{m:Int}{cs ds:Int}(hl:Lo l m)(hm:0≤m/\m≤400)(hc:1≤cs/\cs≤5)(hd:1≤ds/\ds≤6):
 W (iI k l cs ds) λr=>Lo r.2 (m+270)/\Vd r.1/\(mG r.1).length≤4/\mC r.1≤cs/\((mD r.1).length:Int)≤ds:=by
 unfold iI
 refine W.bind (BY hk (l:=(l.1,l.2.1,l.2.2)) hl hm hc hd) λr2 h2=>?_
 obtain⟨lo2,v,hg,hcs,hds⟩:=h2
 have c1:=v.c1
 have c5:=v.c5
 have d6:=v.d6
 refine W.bind (R:=λx=>Lo (x.2.1,x.2.2.1,x.2.2.2) (m+270)/\x.1.length≤4/\∀g∈x.1,0≤g.1/\g.1 < mC r2.1/\0≤g.2.1/\g.2.1≤(mD r2.1).length) ?_ λx hx=>W.ret ⟨hx.1,v.with (by omega) hx.2.2,hx.2.1,hcs,hds⟩
 refine W.bind (j8 (l:=(r2.2.1,r2.2.2.1,r2.2.2.2)) lo2 (by omega) (by omega)) λr6 h6=>?_
 have b6:=h6.2.1 (by omega)
 refine W.loop (f:=eG k r2) (λq y=>∃j:Nat,y.2.2.2.1.length=j/\y.2.2.2.2=r6.1 - j/\(j:Int)≤r6.1/\q=r6.1.toNat - j/\Lo (y.1,y.2.1,y.2.2.1) (m+251+3 * j)/\∀g∈y.2.2.2.1,0≤g.1/\g.1 < mC r2.1/\0≤g.2.1/\g.2.1≤(mD r2.1).length) ?_ r6.1.toNat k _ (by omega)
  ⟨0,rfl,by simp,by omega,by omega,h6.2.2.mono (by omega),by simp⟩
 rintro aR q ⟨nums,d,s,out,y⟩ ⟨j,hj,hy,hle,hq,hlo,hr⟩ ih
 simp only at hj hy hlo hr
 subst hy
 unfold eG
 dsimp only
 refine W.ite (λhlt=>?_) (λhge=>W.ret ⟨hlo.mono (by omega),by show out.length≤4;omega,hr⟩)
 refine W.bind (Ak (l:=(nums,d,s)) (x:=(r2.1.1,r2.1.2.1,r2.1.2.2.1,r2.1.2.2.2.1,r2.1.2.2.2.2.1,())) hlo (by omega) ⟨c1,c5⟩ d6) λr9 h9=>?_
 rw [dq (by simp [bA];omega),bs]
 refine W.ck (by omega) (by omega) ?_
 refine ih (q - 1) (_,_,_,_,_) (by omega) ⟨j+1,by simp [hj],by show r6.1 - j - 1=r6.1 - ((j+1:Nat):Int);omega,by omega,by omega,h9.1.mono (by omega),λg hgg=>?_⟩
 rcases List.mem_append.1 hgg with h |h
 .
  exact hr g h
 .
  rw [List.mem_singleton.1 h];exact⟨h9.2.1.1,h9.2.1.2,h9.2.2⟩
theorem Sm.with{m:ae}(h:Sm m){gs:List aQ}(hg:gs.length≤1000):Sm (m.1,m.2.1,m.2.2.1,m.2.2.2.1,m.2.2.2.2.1,gs):=⟨h.d,h.r,hg⟩
theorem Br{k:Nat}(hk:1010≤k){m:ae}(hs:Sm m){g:aQ}{l:bK}(hl:Lo l 0):
 W (ji k m g l) λr=>Lo r.2 270/\∃a b,r.1=[m,a,b]/\Vd a/\Sm b/\mC a≤4/\((mD a).length:Int)≤4/\b=(a.1,a.2.1,a.2.2.1,a.2.2.2.1,a.2.2.2.2.1,mG a++[g]):=by
 unfold ji
 refine W.bind (yx (k:=k) (by omega) (l:=(l.1,l.2.1,l.2.2)) hl (by omega) (by omega) (by omega)) λr3 h3=>?_
 obtain⟨lo3,v,hg,hcs,hds⟩:=h3
 rw [tZ hk v.sm,bs,dq (by simp [bA];have:r3.1.2.2.2.2.2.length≤4:=hg;omega),bs]
 exact W.ret ⟨lo3,_,_,rfl,v,v.sm.with (by simp;have:r3.1.2.2.2.2.2.length≤4:=hg;omega),hcs,hds,rfl⟩
theorem KX{k:Nat}(hk:1010≤k){m:ae}:W (o8 k m) λb=>b=false->Sm m:=by
 unfold o8
 have l2:∀(y:Nat) (hy:y < (mD m).length),(mD m)[y].length≤20->W (hJ k m (y:Int) k 0) λr=>match r with | .error e=>e=true | .ok _=>∀l∈(mD m)[y],l.length≤1000:=by
  intro y hy h20
  refine W.loop (f:=hJ k m (y:Int)) (λq z=>∃j:Nat,z=(j:Int)/\j≤(mD m)[y].length/\q=(mD m)[y].length - j/\∀i (h:i < (mD m)[y].length),i < j->(mD m)[y][i].length≤1000) ?_ (mD m)[y].length k 0 (by omega)
   ⟨0,rfl,by omega,by omega,λi h h'=>by omega⟩
  rintro aR q z ⟨j,rfl,hle,hq,hx⟩ ih;unfold hJ;have hg:aH m.2.2.2.2.1 (y:Int)=some (mD m)[y]:=cN hy;rw [hg,bs];refine W.ite (λhlt=>?_) (λhge=>W.ret λl hl=>?_)
  .have hj:j < (mD m)[y].length:=by omega
   rw [bs,cN hj,bs];refine W.ite (λh=>W.ret rfl) (λh=>W.ck (by omega) (by omega) (ih (q - 1) _ (by omega) ⟨j+1,by omega,by omega,by omega,λi hi hij=>?_⟩));by_cases e:i=j
   .subst e;omega
   .exact hx i hi (by omega)
  .obtain⟨i,hi,rfl⟩:=List.getElem_of_mem hl;exact hx i hi (by omega)
 have l1:W (hP k m k 0) λr=>match r with | .error e=>e=true | .ok _=>(mD m).length≤20->∀r∈mD m,r.length≤1000/\∀l∈r,l.length≤1000:=by
  refine W.loop (f:=hP k m) (λq z=>∃j:Nat,z=(j:Int)/\j≤20/\j≤(mD m).length/\q=20 - j/\∀i (h:i < (mD m).length),i < j->(mD m)[i].length≤1000/\∀l∈(mD m)[i],l.length≤1000) ?_ 20 k 0 (by omega)
   ⟨0,rfl,by omega,by omega,by omega,λi h h'=>by omega⟩
  rintro aR q z ⟨j,rfl,h20,hle,hq,hx⟩ ih;unfold hP
  have e0:((if(j:Int) < (m.2.2.2.2.1.length:Int) then(some (decide ((j:Int) < 20))) else(some false)):Option Bool)=some (decide (j < (mD m).length/\j < 20)):=by
   by_cases h1:j < (mD m).length
   .rw [if_pos (show(j:Int) < ((mD m).length:Int) by omega)];by_cases h2:j < 20
    .simp [h1,h2];omega
    .simp [h1,h2];omega
   .rw [if_neg (show¬(j:Int) < ((mD m).length:Int) by omega)];simp [h1]
  rw [e0,bs];refine W.ite (λhb=>?_) (λhb=>W.ret λh r hr=>?_)
  .have hb:=of_decide_eq_true hb;have hg:aH m.2.2.2.2.1 (j:Int)=some (mD m)[j]:=cN hb.1;rw [hg,bs];refine W.bEE (R:=λr=>match r with | .error e=>e=true | .ok _=>(mD m)[j].length≤20/\∀l∈(mD m)[j],l.length≤1000) (W.ite (λh=>W.ret rfl) (λh=>(l2 j hb.1 (by omega)).mono λr hr=>?_)) (λe he=>W.ret he) (λ_ ho=>?_)
   .cases r with
    |error e=>exact hr
    |ok _=>exact⟨by omega,hr⟩
   .refine W.ck (by omega) (by omega) (ih (q - 1) _ (by omega) ⟨j+1,by omega,by omega,by omega,by omega,λi hi hij=>?_⟩);by_cases e:i=j
    .subst e;exact⟨by have:=ho.1;omega,ho.2⟩
    .exact hx i hi (by omega)
  .have hb:¬(j < (mD m).length/\j < 20):=λhh=>hb (decide_eq_true hh);obtain⟨i,hi,rfl⟩:=List.getElem_of_mem hr;exact hx i hi (by omega)
 refine W.bEE l1 (λe he=>W.ret λh=>by rw [he] at h;cases h) (λ_ ho=>?_);by_cases h1:20 < (mD m).length
 .rw [if_pos (show(20:Int) < ((mD m).length:Int) by omega),bs];exact W.ret λh=>by cases h
 .rw [if_neg (show¬(20:Int) < ((mD m).length:Int) by omega),bs];refine W.ret λh=>⟨by omega,ho (by omega),?_⟩;have h:=of_decide_eq_false h;show m.2.2.2.2.2.length≤1000;omega
end Go.Proofs.YthnacobbednnbaaGreat
set_option linter.unusedVariables false
set_option linter.unusedSimpArgs false
namespace Go.Proofs.YthnacobbednnbaaGreat
open K Go Go.Proofs
theorem Aj:o9 1200=some true:=by decide+kernel
theorem W.get{α:Type}{x:Option α}{a:α}(h:W x λy=>y=a):x=some a:=by
 obtain⟨b,e,rfl⟩:=h;exact e
