import Derived.Test.YthnacobbednnbaaGreatVWB11
open Nat
open List hiding mem_of_getElem?
open Array hiding mem_of_getElem? mk
set_option linter.unusedVariables false
set_option linter.unusedSimpArgs false
namespace Go.Proofs.YthnacobbednnbaaGreat
open K Go Go.Proofs
def hP:Nat->Bool:=λ_=>false
theorem Vx:(λi=>decide (eI 0 i))=hP:=by
 grind [hP,eI]
theorem U8:(λi:Nat=>decide ((i:Int)∈([]:List Int)))=hP:=by
 grind [hP]
theorem vh{m:ab}(v:Vd m){but:Nat->Bool}{b:List Int}(h:b∈nB m but):Bg (mC m) b:=Ad v (List.mem_filter.1 h).1
theorem s7{m:ab}(v:Vd m){but:Nat->Bool}:(nB m but).length≤32:=Nat.le_trans (List.length_filter_le _ _) (wJ v)
end Go.Proofs.YthnacobbednnbaaGreat
set_option linter.unusedVariables false
set_option linter.unusedSimpArgs false
namespace Go.Proofs.YthnacobbednnbaaGreat
open K Go Go.Proofs
theorem ye{k:Nat}{m:ab}{cs ds ns:List Int}(hs:Sm m)(hk:1010≤k)(h1:cs.length≤1000)(h2:ds.length≤1000)(h3:ns.length≤1000):
 jB k m cs ds ns=some (if¬(lH m=0) then(none,[],lH m) else if¬(L9 m cs ds ns=true) then(none,[],3) else if(nB m hP).length=0 then(none,[],9) else(some m,(nB m hP).map eU,0)):=by
 unfold jB
 rw [Jr hs hk (by simp) h1 h2 h3,bs]
 by_cases hc:lH m=0
 .
  have v:=Vd.of hc;have hb:Aa (mC m) []=0:=Hk.2 ⟨by simp,by simp⟩;by_cases ho:L9 m cs ds ns=true
  .simp only [hc,hb,ho,not_true_eq_false,if_false,if_true,vi];rw [D9 v (by omega) yg,bs,Vx];grind
  simp_all [not_true_eq_false,not_false_eq_true,if_false,if_true,nm,Bool.false_eq_true,if_pos]
 simp_all [not_false_eq_true,if_true,nm]
theorem oD{k:Nat}{m:ab}{q:Bool}(hs:Sm m)(hk:1010≤k):
 kh k m q=some (if¬(lH m=0) then([],lH m) else if¬(q=true) then([],3) else if(nB m hP).length=0 then([],9) else(nB m hP,0)):=by
 unfold kh
 rw [LY hs (by omega),bs]
 by_cases hc:lH m=0
 .
  have v:=Vd.of hc;cases q with
  |true=>
   simp only [hc,not_true_eq_false,if_false];rw [xk v (by omega) (by simp),bs,U8];grind
  |false=>simp_all
 simp_all
end Go.Proofs.YthnacobbednnbaaGreat
set_option linter.unusedVariables false
set_option linter.unusedSimpArgs false
namespace Go.Proofs.YthnacobbednnbaaGreat
open K Go Go.Proofs
theorem FB{k:Nat}{m:ab}{b:List Int}(v:Vd m)(hk:10≤k)(hb:Bg (mC m) b):∃F:Nat->Int->Int,lG k m (eU b)=some (cr F)/\∀(n:Nat) (c:Int),n≤(mD m).length->0≤c->c < mC m->F n c=kM m (λc=>decide (c∈b)) n c:=by
 have hs:=hb.set v.c5;refine⟨_,uj v hk hs.1,λn c hn h0 h1=>?_⟩;grind [FA,um]
theorem NX{k:Nat}{m:ab}{b:List Int}{α:Type}{n:Nat}{c:Int}{f:Int->Option α}(v:Vd m)(hk:10≤k)(hb:Bg (mC m) b)(hn:n≤(mD m).length)(h0:0≤c)(h1:c < mC m):
 ((lG k m (eU b)).bind λr=>(aH r (n:Int)).bind λx=>(aH x c).bind λy=>f y)=f (kM m (λc=>decide (c∈b)) n c):=by
 obtain⟨F,e,h⟩:=FB v hk hb
 have d6:=v.d6
 have c5:=v.c5
 grind [bs,zV,sJ]
theorem Ko{k:Nat}{m:ab}{b:List Int}{α:Type}{n:Nat}{c:Int}{f:Int->Option α}(v:Vd m)(hk:10≤k)(hb:Bg (mC m) b)(hn:n≤(mD m).length)(h0:0≤c)(h1:c < mC m):
 ((kR k m b).bind λr=>(aH r (n:Int)).bind λx=>(aH x c).bind λy=>f y)=f (kM m (λc=>decide (c∈b)) n c):=by
 have c1:=v.c1
 have:=hb.len ⟨by omega,v.c5⟩
 grind [vK,bs,uk,nO]
def wG(m:ab)(n:Nat)(c:Int)(x:Int)(L:List (List Int)):Nat:=L.countP λb=>decide (x≤kM m (λc=>decide (c∈b)) n c)
theorem yt{p:List Int->Bool}:∀(L:List (List Int)) (j:Nat) (s:Int),gd (λ(s:Int) _ b=>if p b then s+1 else s) j L s=s+(L.countP p:Nat)
 |[],_,s=>by simp [gd]
 |b::L,j,s=>by
  rw [gd,yt L,List.countP_cons]
  grind
theorem Ce{L:List (List Int)}{p:List Int->Bool}{f:Nat->Int×Int->Option Int}{k:Nat}(hk:L.length < k)(hl:L.length≤1000)
 (step:∀(n:Nat) (s:Int) (j:Nat) (h:j < L.length),0≤s->s≤j->f (n+1) (s,j)=f n (if p L[j] then s+1 else s,(j:Int)+1)) (stop:∀(n:Nat) (s:Int),f (n+1) (s,L.length)=some s):f k (0,0)=some (L.countP p:Int):=by
 have key:=eB (T:=Int×Int) (f:=f) L (λ(s:Int) j=>(s,j)) (λs _ b=>if p b then s+1 else s) (λj s=>0≤s/\s≤j) (λs=>some s)
  (λn s j hj hs=>⟨step n s j hj hs.1 hs.2,by omega⟩) (λn s _=>stop n s) (n:=k) (s0:=0) hk ⟨by omega,by omega⟩
 simp_all [yt]
def wa:Int->List Int->Int
 |x,[]=>x
 |x,y::l=>wa (qR x y) l
def qY:Int->List Int->Int
 |x,[]=>x
 |x,y::l=>qY (k9 x y) l
theorem wv:∀(l:List Int) (j:Nat) (x:Int),gd (λ(s:Int) _ y=>qR s y) j l x=wa x l
 |[],_,_=>rfl
 |y::l,j,x=>wv l (j+1) (qR x y)
theorem ww:∀(l:List Int) (j:Nat) (x:Int),gd (λ(s:Int) _ y=>k9 s y) j l x=qY x l
 |[],_,_=>rfl
 |y::l,j,x=>ww l (j+1) (k9 x y)
theorem MV{k:Nat}{x:Int}{l:List Int}(hk:l.length+1 < k)(hl:l.length≤1000):jx k (x::l)=some (wa x l):=by
 have key:=eB (T:=Int×Int) (f:=eu k (x::l)) l (λ(s:Int) j=>(s,j+1)) (λs _ y=>qR s y) (λ_ _=>True) (λs=>some s)
  (λn s j hj _=>by
   have hck:ck ((j:Int)+1+1)=some ((j:Int)+1+1):=bU (by omega) (by omega);have hg:aH (x::l) ((j:Int)+1)=some l[j]:=zG (by omega) (by simp_all);simp_all [eu,if_pos,bs])
  (λn s _=>by
   simp_all [eu,if_neg]) (n:=k) (s0:=x) (by omega) trivial
 unfold jx;rw [if_neg (by grind),show aH (x::l) (0:Int)=some x from rfl,bs,show eu k (x::l) k (x,1)=_ from key.1,bs,wv]
theorem M5{k:Nat}{x:Int}{l:List Int}(hk:l.length+1 < k)(hl:l.length≤1000):kQ k (x::l)=some (qY x l):=by
 have key:=eB (T:=Int×Int) (f:=ew k (x::l)) l (λ(s:Int) j=>(s,j+1)) (λs _ y=>k9 s y) (λ_ _=>True) (λs=>some s)
  (λn s j hj _=>by
   have hck:ck ((j:Int)+1+1)=some ((j:Int)+1+1):=bU (by omega) (by omega);have hg:aH (x::l) ((j:Int)+1)=some l[j]:=zG (by omega) (by simp_all);simp_all [ew,if_pos,bs])
  (λn s _=>by
   simp_all [ew,if_neg]) (n:=k) (s0:=x) (by omega) trivial
 unfold kQ;rw [if_neg (by grind),show aH (x::l) (0:Int)=some x from rfl,bs,show ew k (x::l) k (x,1)=_ from key.1,bs,ww]
theorem yr{σ:Type}{g:σ->Nat->Nat->σ}:∀(n i j:Nat) (s:σ),i=j->gd (λs j _=>g s j j) j (List.range' i n) s=gd (λs j x=>g s j x) j (List.range' i n) s
 |0,_,_,_,_=>rfl
 |n+1,i,j,s,h=>by
  subst h
  rw [List.range'_succ]
  exact yr n (i+1) (i+1) _ rfl
end Go.Proofs.YthnacobbednnbaaGreat
set_option linter.unusedVariables false
set_option linter.unusedSimpArgs false
namespace Go.Proofs.YthnacobbednnbaaGreat
open K Go Go.Proofs
theorem LR{α:Type}{p:Prop}[Decidable p]{s:List α}{x:α}{j:Nat}(h:s.length≤j):(if p then s++[x] else s).length≤j+1:=by
 grind
def ux(x n:Nat):Int:=if x=n then 1 else if 0 < x then 3 else 2
theorem Lu{k x n:Nat}:jA k (x:Int) (n:Int)=some (ux x n):=by
 have e1:ck ((0:Int)+1)=some 1:=rfl;have e2:ck ((1:Int)+1)=some 2:=rfl;unfold jA ux;grind
theorem zB{k:Nat}{m:ab}{n:Nat}{r2:(Option ab)×(List Int)×Int}{L:List (List Int)}{y:(List Int)×Int}(v:Vd m)(hk:50≤k)(hL:∀b∈L,Bg (mC m) b)(hl:L.length≤40)(hr:r2.2.1=L.map eU)(hn:n≤(mD m).length)(h0:0≤y.2)(h1:y.2 < mC m):
 gV k (n:Int) r2 m y k (0,0)=some (wG m n y.2 0 L:Int):=by
 refine Ce (by omega) (by omega) (λn' s j hj s0 s1=>?_) (λn' s=>?_)
 .
  have hck:ck ((j:Int)+1)=some ((j:Int)+1):=bU (by omega) (by omega);have hcs:ck (s+1)=some (s+1):=bU (by omega) (by omega);have hb:=hL _ (List.getElem_mem hj);have hg:aH r2.2.1 (j:Int)=some (eU L[j]):=by simp_all [zG,Int.toNat_natCast,List.getElem?_map,List.getElem?_eq_getElem]
  have hlt:(j:Int) < (r2.2.1.length:Int):=by simp_all
  rw [gV,if_pos hlt,hg,bs,NX v (by omega) hb hn h0 h1];grind
 simp_all [gV,if_neg,length_map]
theorem zi{k:Nat}{m:ab}{n:Nat}{L:List (List Int)}{e:Int}{y:(List Int)×Int}(v:Vd m)(hk:50≤k)(hL:∀b∈L,Bg (mC m) b)(hl:L.length≤40)(hn:n≤(mD m).length)(h0:0≤y.2)(h1:y.2 < mC m):
 gQ k m (n:Int) (L,e) y k (0,0)=some (wG m n y.2 0 L:Int):=by
 refine Ce (by omega) (by omega) (λn' s j hj s0 s1=>?_) (λn' s=>?_)
 .
  have hck:ck ((j:Int)+1)=some ((j:Int)+1):=bU (by omega) (by omega);have hcs:ck (s+1)=some (s+1):=bU (by omega) (by omega);have hb:=hL _ (List.getElem_mem hj);have hlt:(j:Int) < (L.length:Int):=by omega
  rw [gQ,if_pos hlt,cz hj,bs,Ko v (by omega) hb hn h0 h1];grind
 .
  rw [gQ,if_neg (Int.lt_irrefl _)]
theorem Fq{C:Int}{g:Int->Int}{f:Nat->(List Int)×Int->Option (List Int)}{k:Nat}(h0:0≤C)(hk:C.toNat < k)(hc:C≤1000)
 (step:∀(n:Nat) (s:List Int) (j:Nat),(j:Int) < C->s.length=j->f (n+1) (s,(j:Int))=f n (s++[g j],(j:Int)+1)) (stop:∀(n:Nat) (s:List Int),f (n+1) (s,C)=some s):f k ([],0)=some ((List.range C.toNat).map λ(j:Nat)=>g j):=by
 have key:=eB (T:=(List Int)×Int) (f:=f) (List.range C.toNat) (λ(s:List Int) j=>(s,j)) (λs j _=>s++[g j]) (λj s=>s.length=j) (λs=>some s)
  (λn s j hj hs=>by
   simp_all)
  (λn s _=>by grind) (n:=k) (s0:=[]) (by simp_all) rfl
 rw [show f k ([],0)=_ from key.1]
 have hsnoc:∀(l:List Nat) (j:Nat) (s:List Int),gd (λ(s:List Int) j x=>s++[g ((x:Nat):Int)]) j l s=s++l.map λ(x:Nat)=>g x:=by
  intro l
  induction l with
  |nil=>simp_all [gd]
  |cons x l ih=>grind [gd]
 rw [List.range_eq_range',yr (g:=λs j x=>s++[g ((x:Nat):Int)]) _ 0 0 _ rfl,hsnoc,nil_append]
def pA(m:ab)(n:Int):List Int×Int:=if¬(lH m=0) then([],lH m) else if¬(0≤n/\n≤((mD m).length:Int)) then([],3) else if(nB m hP).length=0 then([],9) else
 ((List.range (mC m).toNat).map λ(c:Nat)=>ux (wG m n.toNat c 0 (nB m hP)) (nB m hP).length,0)
theorem GF{k:Nat}{m:ab}{n:Int}(hs:Sm m)(hk:1010≤k):nS k m n=some (pA m n):=by
 unfold nS pA;by_cases hc:lH m=0
 .have v:=Vd.of hc;have c1:=v.c1;have c5:=v.c5;rw [Eb,bs,oD hs hk,bs];simp only [hc,not_true_eq_false,if_false];by_cases hn:0≤n/\n≤((mD m).length:Int)
  .simp only [hn,and_self,decide_true,not_true_eq_false,if_false];have hl:=s7 v (but:=hP);have hL:∀x∈nB m hP,Bg (mC m) x:=λx h=>vh v h;generalize nB m hP=L at *;by_cases h0:L.length=0
   .simp_all
   .rw [if_neg h0,if_neg h0];obtain⟨n',rfl⟩:∃n':Nat,n=n':=⟨n.toNat,by omega⟩;simp only [not_true_eq_false,if_false,Int.toNat_natCast];rw [Fq (f:=gR k m (n':Int) (L,0)) (k:=k) (C:=mC m) (g:=λc=>ux (wG m n' c 0 L) L.length) (by omega) (by omega) (by omega) (λn s j hj hs=>?_) (λn s=>?_),bs]
    .have hck:ck ((j:Int)+1)=some ((j:Int)+1):=bU (by omega) (by omega);have hok:∀x:Int,bh (length s+length [x]):=λx=>UM (n:=10) (by omega) (by omega);rw [gR,if_pos hj,zi v (by omega) hL (by omega) (by omega) (y:=(s,(j:Int))) (by omega) hj,bs];show Option.bind (if((wG m n' j 0 L:Nat):Int)=0 then _ else _) _=_;unfold ux;by_cases g0:wG m n' j 0 L=0
     .rw [if_pos (by omega),cX (hok 2),bs,bs,hck,bs,if_neg (by omega),if_neg (by omega)]
     .rw [if_neg (by omega)];show Option.bind (if((wG m n' j 0 L:Nat):Int)=(L.length:Int) then _ else _) _=_;by_cases g1:wG m n' j 0 L=L.length
      .simp_all [if_pos,cX,bs]
      .rw [if_neg (by omega),cX (hok 3),bs,bs,hck,bs,if_neg g1,if_pos (by omega)]
    .rw [gR,if_neg (Int.lt_irrefl _)]
  simp_all
 .rw [show(fO k m n).bind _=_ from by rw [Eb,bs],oD hs hk,bs,if_pos hc,if_pos hc];simp_all
theorem GR{k:Nat}{m:ab}{n:Int}(hs:Sm m)(hk:1010≤k):nY k m n=some (pA m n):=by
 unfold nY pA;rw [ye hs hk (by simp) (by simp) (by simp),bs];by_cases hc:lH m=0
 .have v:=Vd.of hc;have c1:=v.c1;have c5:=v.c5;have hop:L9 m [] [] [n]=decide (0≤n/\n≤((mD m).length:Int)):=by simp [L9,zE,wh]
  simp only [hc,hop,not_true_eq_false,if_false,decide_eq_true_eq];by_cases hn:0≤n/\n≤((mD m).length:Int)
  .simp only [hn,and_self,not_true_eq_false,if_false];have hl:=s7 v (but:=hP);have hL:∀x∈nB m hP,Bg (mC m) x:=λx h=>vh v h;generalize nB m hP=L at *;by_cases h0:L.length=0
   .simp_all [if_pos,nm]
   .rw [if_neg h0,if_neg h0];obtain⟨n',rfl⟩:∃n':Nat,n=n':=⟨n.toNat,by omega⟩;simp only [vi,not_true_eq_false,if_false,Int.toNat_natCast];rw [Fq (f:=gW k m (n':Int) (some m,L.map eU,0) m) (k:=k) (C:=mC m) (g:=λc=>ux (wG m n' c 0 L) L.length) (by omega) (by omega) (by omega) (λn s j hj hs=>?_) (λn s=>?_),bs]
    .have hck:ck ((j:Int)+1)=some ((j:Int)+1):=bU (by omega) (by omega);have hok:∀x:Int,bh (length s+length [x]):=λx=>UM (n:=10) (by omega) (by omega);rw [gW,if_pos hj,zB v (by omega) hL (by omega) rfl (by omega) (y:=(s,(j:Int))) (by omega) hj,bs];show Option.bind (Option.bind (jA k _ ((L.map eU).length:Int)) _) _=_;rw [length_map,Lu,bs];show Option.bind (Option.bind (bV (bh (length s+length [ux (wG m n' j 0 L) L.length]))) λ_=>some (s++[ux (wG m n' j 0 L) L.length])) _=_;simp_all [cX,bs]
    .rw [gW,if_neg (Int.lt_irrefl _)]
  simp_all [not_false_eq_true,if_true,nm,if_pos]
 simp_all [not_false_eq_true,if_true,nm]
theorem Ds{m:ab}{n:Int}:(pA m n).1.length≤5:=by
 unfold pA;split
 .simp
 .rename_i hc;have v:=Vd.of (Decidable.not_not.1 hc);have c5:=v.c5;grind
def fN(m:ab)(B:Int->Bool)(c:Int):Int:=match (List.range ((mD m).length+1)).findIdx? λn=>decide (0≤kM m B n c) with
 |some i=>i
 |none=> -1
theorem A1{k:Nat}{m:ab}{B:Int->Bool}{c:Int}{f:Nat->Int->Option (Except Int Unit)}(hk:(mD m).length+1 < k)(hl:(mD m).length≤1000)
 (step:∀(n j:Nat),j < (mD m).length+1->f (n+1) (j:Int)=if 0≤kM m B j c then some (.error (j:Int)) else f n ((j:Int)+1)) (stop:∀n,f (n+1) (((mD m).length:Int)+1)=some (.ok ())):K.bE (f k 0) some (λ_=>some (-1:Int))=some (fN m B c):=by
 have key:=jg (T:=Int) (f:=f) (List.range ((mD m).length+1)) (λ(_:Unit) j=>j) (λ_ j x=>if decide (0≤kM m B x c)=true then Except.error (j:Int) else .ok ()) (λ_ _=>True) (λr=>some r)
  (λn s j hj _=>by
   grind)
  (λn s _=>by simp_all) (n:=k) (s0:=()) (by simp_all) trivial
 rw [show f k 0=_ from key,rX]
 grind [fN,K.bE]
theorem GQ{k:Nat}{m:ab}{b:List Int}{c:Int}(v:Vd m)(hk:50≤k)(hb:Bg (mC m) b)(h0:0≤c)(h1:c < mC m):fo k m (eU b) c=some (fN m (λc=>decide (c∈b)) c):=by
 unfold fo;obtain⟨F,e,h⟩:=FB (k:=k) v (by omega) hb;have d6:=v.d6;have c5:=v.c5;have hlen:ck (((mD m).length:Int)+1)=some (((mD m).length:Int)+1):=bU (by omega) (by omega);rw [e,bs,show m.2.2.2.2.1=mD m from rfl,hlen,bs];refine A1 (by omega) (by omega) (λn j hj=>?_) (λn=>?_)
 .have hck:ck ((j:Int)+1)=some ((j:Int)+1):=bU (by omega) (by omega);have hj7:j < 7:=by omega
  rw [dY,if_pos (by omega),zV hj7,bs,sJ h0 (by omega),bs,h j c (by omega) h0 h1,hck,bs]
 .rw [dY,if_neg (Int.lt_irrefl _)]
theorem Gy{k:Nat}{m:ab}{B:Int->Bool}{c:Int}(v:Vd m)(hk:50≤k)(h0:0≤c)(h1:c < mC m):nP k (o9 m B) c=some (fN m B c):=by
 unfold nP;have d6:=v.d6;have hl:((o9 m B).length:Int)=(mD m).length+1:=by rw [Hg];rfl
 refine A1 (by omega) (by omega) (λn j hj=>?_) (λn=>?_)
 .have hck:ck ((j:Int)+1)=some ((j:Int)+1):=bU (by omega) (by omega);rw [iN,if_pos (by omega),uk (by omega),bs,nO h0 h1,bs,hck,bs]
 simp_all [iN,if_neg]
theorem Gw{m:ab}{B:Int->Bool}{c:Int}: -1≤fN m B c/\fN m B c≤(mD m).length:=by
 grind [fN,List.findIdx?_eq_some_iff_findIdx_eq,length_range]
def sG(m:ab)(c:Int)(L:List (List Int)):List Int:=(L.map λb=>fN m (λc=>decide (c∈b)) c).filter λx=>decide (0≤x)
def zQ(m:ab)(c:Int):eK×Int:=if¬(lH m=0) then((0,0),lH m) else if¬(0≤c/\c < mC m) then((0,0),3) else if(nB m hP).length=0 then((0,0),9) else
 match sG m c (nB m hP) with
 |[]=>((0,0),11)
 |x::l=>((wa x l,qY x l),0)
theorem Ir{m:ab}{c:Int}{L:List (List Int)}:(sG m c L).length≤L.length:=by
 unfold sG;grind
theorem yq{m:ab}{c:Int}:∀(L:List (List Int)) (j:Nat) (s:List Int),gd (λ(s:List Int) _ b=>if 0≤fN m (λc=>decide (c∈b)) c then s++[fN m (λc=>decide (c∈b)) c] else s) j L s=s++sG m c L
 |[],_,s=>by simp [gd,sG]
 |b::L,j,s=>by
  rw [gd,yq L]
  unfold sG
  grind
theorem BS{m:ab}{c:Int}:∀(L:List (List Int)) (j:Nat) (s:Int×Int),gd (λ(s:Int×Int) _ b=>if 0≤fN m (λc=>decide (c∈b)) c then(qR s.1 (fN m (λc=>decide (c∈b)) c),k9 s.2 (fN m (λc=>decide (c∈b)) c)) else s) j L s=(wa s.1 (sG m c L),qY s.2 (sG m c L))
 |[],_,s=>by simp [gd,sG,wa,qY]
 |b::L,j,s=>by
  rw [gd,BS L]
  unfold sG
  rw [map_cons,List.filter_cons]
  by_cases h:0≤fN m (λc=>decide (c∈b)) c
  .
   rw [if_pos h,if_pos (by simp_all)];rfl
  grind
theorem GG{k:Nat}{m:ab}{c:Int}(hs:Sm m)(hk:1010≤k):nT k m c=some (zQ m c):=by
 unfold nT zQ;by_cases hc:lH m=0
 .have v:=Vd.of hc;have c1:=v.c1;have c5:=v.c5;have d6:=v.d6;rw [Ec ⟨c1,c5⟩,bs,oD hs hk,bs];simp only [hc,not_true_eq_false,if_false];by_cases hn:0≤c/\c < mC m
  .simp only [hn,and_self,decide_true,not_true_eq_false,if_false];have hl:=s7 v (but:=hP);have hL:∀x∈nB m hP,Bg (mC m) x:=λx h=>vh v h;generalize nB m hP=L at *;by_cases h0:L.length=0
   .simp_all
   .rw [if_neg h0,if_neg h0];have hlen:ck (((mD m).length:Int)+1)=some (((mD m).length:Int)+1):=bU (by omega) (by omega);simp only [not_true_eq_false,if_false];rw [show m.2.2.2.2.1=mD m from rfl,hlen,bs]
    have key:=eB (T:=Int×Int×Int) (f:=fy k m c (L,0)) L (λ(s:Int×Int) j=>(s.1,s.2,j)) (λ(s:Int×Int) _ b=>if 0≤fN m (λc=>decide (c∈b)) c then(qR s.1 (fN m (λc=>decide (c∈b)) c),k9 s.2 (fN m (λc=>decide (c∈b)) c)) else s) (λ_ _=>True) (λs=>some s)
     (λn s j hj _=>by
      have hck:ck ((j:Int)+1)=some ((j:Int)+1):=bU (by omega) (by omega);have hb:=hL _ (List.getElem_mem hj);have:=hb.len ⟨by omega,c5⟩;refine⟨?_,trivial⟩;rw [fy,if_pos (by simp_all),cz hj,bs,vK v (by omega) (by omega) (by omega),bs,Gy v (by omega) hn.1 hn.2,bs];grind)
     (λn s _=>by rw [fy,if_neg (Int.lt_irrefl _)]) (n:=k) (s0:=(((mD m).length:Int)+1, -1)) (by omega) trivial
    rw [show fy k m c (L,0) k (((mD m).length:Int)+1, -1,0)=_ from key.1,bs,BS]
    have hx:∀x∈sG m c L,0≤x/\x≤(mD m).length:=λx hx=>by
     unfold sG at hx;rw [List.mem_filter,List.mem_map] at hx;obtain⟨⟨b,_,rfl⟩,h⟩:=hx;simp_all [of_decide_eq_true,Gw]
    generalize sG m c L=R at *;cases R with
    |nil=>rfl
    |cons x l=>
     have hx0:=hx x (mem_cons_self ..);show(if qY (k9 (-1) x) l < 0 then _ else some ((wa (qR (((mD m).length:Int)+1) x) l,qY (k9 (-1) x) l),(0:Int)))=_;have e1:k9 (-1) x=x:=by unfold k9;omega
     have e2:qR (((mD m).length:Int)+1) x=x:=by unfold qR;omega
     have hge:∀(l:List Int) (x:Int),x≤qY x l:=by
      intro l
      induction l with
      |nil=>intro x;exact Int.le_refl _
      |cons y l ih=>
       grind [k9,qY]
     grind
  simp_all
 .obtain⟨q,e⟩:=Tz (k:=k) (m:=m) (x:=c);simp_all [bs,oD,if_pos]
theorem SD{m:ab}{c:Int}:L9 m [c] [] []=decide (0≤c/\c < mC m):=by
 simp only [L9,zE,wh,all_cons,List.all_nil,Bool.and_true];grind
theorem GT{k:Nat}{m:ab}{c:Int}(hs:Sm m)(hk:1010≤k):lZ k m c=some (zQ m c):=by
 unfold lZ zQ;rw [ye hs hk (by simp) (by simp) (by simp),bs];by_cases hc:lH m=0
 .have v:=Vd.of hc;have c1:=v.c1;have c5:=v.c5;have hop:L9 m [c] [] []=decide (0≤c/\c < mC m):=SD;simp only [hc,hop,not_true_eq_false,if_false,decide_eq_true_eq];by_cases hn:0≤c/\c < mC m
  .simp only [hn,and_self,not_true_eq_false,if_false];have hl:=s7 v (but:=hP);have hL:∀x∈nB m hP,Bg (mC m) x:=λx h=>vh v h;generalize nB m hP=L at *;by_cases h0:L.length=0
   .simp_all [if_pos,nm]
   .rw [if_neg h0,if_neg h0];simp only [vi,not_true_eq_false,if_false]
    have key:=eB (T:=List Int×Int) (f:=fH k c (some m,L.map eU,0) m) L (λ(s:List Int) j=>(s,j)) (λ(s:List Int) _ b=>if 0≤fN m (λc=>decide (c∈b)) c then s++[fN m (λc=>decide (c∈b)) c] else s) (λj s=>s.length≤j) (λs=>some s)
     (λn s j hj hs=>by
      have hck:ck ((j:Int)+1)=some ((j:Int)+1):=bU (by omega) (by omega);have hb:=hL _ (List.getElem_mem hj);have hg:aH (L.map eU) (j:Int)=some (eU L[j]):=zG (by omega) (by simp_all);have hok:bh (length s+length [fN m (λc=>decide (c∈L[j])) c]):=UM (n:=50) (by omega) (by omega);refine⟨?_,LR hs⟩;rw [fH,if_pos (by simp_all),hg,bs,GQ v (by omega) hb hn.1 hn.2,bs];by_cases h:0≤fN m (λc=>decide (c∈L[j])) c
      .simp_all [if_pos,cX,bs]
      grind)
     (λn s _=>by simp_all [fH,if_neg,eU,length_map]) (n:=k) (s0:=[]) (by omega) (Nat.le_refl 0)
    rw [show fH k c (some m,L.map eU,0) m k ([],0)=_ from key.1,bs,yq,nil_append];have hlen:=Ir (m:=m) (c:=c) (L:=L);generalize sG m c L=R at *;cases R with
    |nil=>rfl
    |cons x l=>
     simp only [length_cons] at hlen;rw [if_neg (by grind),MV (by omega) (by omega),bs,M5 (by omega) (by omega),bs]
  simp_all [not_false_eq_true,if_true,nm,if_pos]
 simp_all [not_false_eq_true,if_true,nm]
end Go.Proofs.YthnacobbednnbaaGreat
set_option linter.unusedVariables false
set_option linter.unusedSimpArgs false
namespace Go.Proofs.YthnacobbednnbaaGreat
open K Go Go.Proofs
theorem BM:pX 1200=some true:=by decide+kernel
theorem W.get{α:Type}{x:Option α}{a:α}(h:W x λy=>y=a):x=some a:=by
 obtain⟨b,e,rfl⟩:=h;exact e
end Go.Proofs.YthnacobbednnbaaGreat
set_option linter.unusedVariables false
set_option linter.unusedSimpArgs false
namespace Go.Proofs.YthnacobbednnbaaGreat
open K Go Go.Proofs
theorem O6{α:Type}{a b c:α}{j:Nat}(h:j < 3):∃x∈[a,b,c],aH [a,b,c] (j:Int)=some x:=by
 have:j=0\/j=1\/j=2:=by omega
 rcases this with rfl |rfl |rfl
 .exact⟨a,by simp,rfl⟩
 .exact⟨b,by simp,rfl⟩
 .exact⟨c,by simp,rfl⟩
end Go.Proofs.YthnacobbednnbaaGreat
set_option linter.unusedVariables false
set_option linter.unusedSimpArgs false
namespace Go.Proofs.YthnacobbednnbaaGreat
open K Go Go.Proofs
theorem Iw{r:List ab}{f:Nat->Int->Option (Except Bool Unit)}{a x y:ab}(h9:r=[a,x,y])(hs:Sm a)(vx:Vd x)(sy:Sm y)
 (step:∀(n j:Nat) (z:ab),j < 3->(j:Int) < (r.length:Int)->aH r (j:Int)=some z->Sm z->f (n+1) (j:Int)=f n ((j:Int)+1)) (stop:∀n:Nat,f (n+1) ((r.length:Nat):Int)=some (.ok ())):f 1200 0=some (.ok ()):=by
 subst h9
 have h0:=step 1199 0 a (by omega) (by simp_all) rfl hs
 have h1:=step 1198 1 x (by omega) (by simp_all) rfl vx.sm
 have h2:=step 1197 2 y (by omega) (by simp_all) rfl sy
 simp_all
