import Derived.Test.YthnacobbednnbaaGreatVAB12
open Nat
open List hiding mem_of_getElem?
open Array hiding mem_of_getElem? mk
set_option linter.unusedVariables false
set_option linter.unusedSimpArgs false
namespace Go.Proofs.YthnacobbednnbaaGreat
open K Go Go.Proofs
theorem xE{k:Nat}{m:ae}{b but:List Int}(v:Vd m)(hb:Bg (mC m) b)(hk:1010≤k)(hl:but.length≤40):
 iT k m b but=some (xW m (λi=>decide ((i:Int)∈but)) (λc=>decide (c∈b)),true):=by
 have g8:=v.g8
 unfold iT
 rw [Br v hb hk,bs]
 simp only [not_true_eq_false,if_false,FY v (show 10≤k by omega),bs,Bool.not_true,Bool.false_eq_true]
 have key:=lV (T:=Int) (f:=dw k m but (lx m λc=>decide (c∈b),0)) (mG m) (λ(_:Unit) j=>j) (λ_ j x=>if(decide ((j:Int)∈but) || decide (x.2.2=decide (mS m≤mg m (λc=>decide (c∈b)) x.2.1.toNat x.1)))=true then .ok () else Except.error (false,true)) (λ_ _=>True) (λr=>some r)
  (λn s j hj _=>by
   have hck:ck ((j:Int)+1)=some ((j:Int)+1):=dj (by omega) (by omega);have hg:=v.gl _ (List.getElem_mem hj);have hj':(j:Int) < (m.2.2.2.2.2.length:Int):=Int.ofNat_lt.2 hj;have hget:aM m.2.2.2.2.2 (j:Int)=some (mG m)[j]:=dX hj;generalize (mG m)[j]=x at *;obtain⟨r,er,hr⟩:=QW (k:=k) (l:=but) (x:=(j:Int)) (by omega) (by omega);have e:x.2.1=((x.2.1.toNat:Nat):Int):=by omega
   have h1:aM (lx m λc=>decide (c∈b)) x.2.1=some (nE m (λc=>decide (c∈b)) x.2.1.toNat):=by
    have:=wI (m:=m) (B:=λc=>decide (c∈b)) (n:=x.2.1.toNat) (by omega);rw [<-e] at this;exact this
   refine⟨?_,λ_ _=>trivial⟩;have hm1:m.2.2.1=mS m:=rfl;simp only [dw,hj',if_true,hget,bs,er,h1,GE hg.1 hg.2.1,hm1];by_cases hin:(j:Int)∈but
   .rw [if_neg (by have:=hr.2 hin;omega),bs,if_neg (by decide),hck,bs,if_pos (by simp [hin])]
   .rw [if_pos (by have:¬0≤r:=λh=>hin (hr.1 h);omega),bs];by_cases e:x.2.2=decide (mS m≤mg m (λc=>decide (c∈b)) x.2.1.toNat x.1)
    .rw [if_neg (by simp [<-e]),hck,bs,if_pos (by simp [<-e])]
    .rw [if_pos (by simpa using e),if_neg (by simp [hin,e])])
  (λn s _=>by
   unfold dw;rw [if_neg (Int.lt_irrefl _)]) (n:=k) (s0:=()) (by omega) trivial
 rw [show dw k m but (lx m λc=>decide (c∈b),0) k 0=_ from key,sD (p:=λj (x:bz)=>decide ((j:Int)∈but) || decide (x.2.2=decide (mS m≤mg m (λc=>decide (c∈b)) x.2.1.toNat x.1)))]
 unfold xW
 cases((mG m).zipIdx 0).all λg=>decide ((g.2:Int)∈but) || decide (g.1.2.2=decide (mS m≤mg m (λc=>decide (c∈b)) g.1.2.1.toNat g.1.1)) with
 |true=>simp only [if_true];rw [ma]
 |false=>simp only [Bool.false_eq_true,if_false];rw [pq]
theorem Lr(a0:List Int):lS 1200 a0=some true:=by
 unfold lS;obtain⟨r1,e1,rfl⟩:∃r1,lT 1200 a0=some r1/\r1=(a0,0,1):=⟨_,rfl,rfl⟩;rw [e1,bs];obtain⟨r3,e3,lo3,v,hg4,_,_⟩:=xI (k:=1200) (by omega) (l:=(a0,0,1)) (m:=0) (cs:=4) (ds:=4) ⟨Int.le_refl 0,Int.le_refl 0⟩ (by omega) (by omega) (by omega);have c1:=v.c1;have hlen:=uT v;rw [show f5 1200 ((a0,(0:Int),(1:Int)).1,(a0,(0:Int),(1:Int)).2.1,(a0,(0:Int),(1:Int)).2.2) 4 4=some r3 from e3,bs,GL v (by omega),bs]
 have key:=lV (T:=List (List Int)×Int) (f:=dP 1200 r3 (uU r3.1)) (uU r3.1) (λ(s:List (List Int)) j=>(s,j)) (λs _ b=>(.ok (if xW r3.1 eC (λc=>decide (c∈b)) then s++[b] else s):Except Bool (List (List Int)))) (λj s=>s.length≤j) (λr=>some r)
  (λn s j hj hs=>by
   have hck:ck ((j:Int)+1)=some ((j:Int)+1):=dj (by omega) (by omega);have hbg:=ye v (List.getElem_mem hj);have hex:=xE (k:=1200) (but:=[]) v hbg (by omega) (by simp);rw [RP] at hex;refine⟨?_,λs' e=>?_⟩
   .simp only [dP,Int.ofNat_lt,hj,if_true,dX hj,bs,hex,not_true_eq_false,if_false];cases xW r3.1 eC (λc=>decide (c∈(uU r3.1)[j])) with
    |true=>
     simp only [if_true];rw [dA (by simp [bP];omega),bs,ma,hck,bs]
    |false=>simp only [Bool.false_eq_true,if_false];rw [ma,hck,bs]
   .cases e;split
    .simp;omega
    .omega)
  (λn s _=>by
   unfold dP;rw [if_neg (Int.lt_irrefl _)]) (n:=1200) (s0:=[]) (by omega) (by simp)
 have hf:∀(l:List (List Int)) (j:Nat) (s:List (List Int)),eo (λs _ b=>(.ok (if xW r3.1 eC (λc=>decide (c∈b)) then s++[b] else s):Except Bool (List (List Int)))) j l s= .ok (s++l.filter λb=>xW r3.1 eC (λc=>decide (c∈b))):=by
  intro l
  induction l with
  |nil=>intro j s;simp [eo]
  |cons b l ih=>
   intro j s;rw [eo];dsimp only;rw [ih (j+1),List.filter_cons];cases xW r3.1 eC (λc=>decide (c∈b)) <;> simp
 rw [show dP 1200 r3 (uU r3.1) 1200 ([],0)=_ from key,hf,ma,nil_append,Bv v.sm (by omega),bs,Bt v.sm (by omega),bs];have hsl:=EG (k:=1200) (m:=r3.1) (by omega);have hE:((uU r3.1).filter λb=>xW r3.1 eC λc=>decide (c∈b))=mJ r3.1 eC:=rfl;have hfl:=zF (m:=r3.1);have hfe:oY r3.1=match mJ r3.1 eC with |[]=>([],9) |b::L=>(nI b L,0):=by unfold oY;rw [if_neg (λhn=>hn v.chk)];cases mJ r3.1 eC <;> rfl
 rw [hE];simp only [v.chk,not_true_eq_false,if_false] at hsl⊢;rw [hsl,bs,bs];simp only [Bool.not_true,Bool.false_eq_true,if_false];have hl32:=qX v (but:=eC);generalize mJ r3.1 eC=E at *;cases E with
 |nil=>
  rw [hfe];simp [zy,bs]
 |cons b L=>
  rw [hfe] at hfl⊢;rw [if_neg (by simp;omega)];have g0:aM (b::L) (0:Int)=some b:=rfl;rw [g0,bs]
  have key:=iW (T:=List Int×Int) (f:=dO 1200 (b::L,false)) (b::L) (λ(s:List Int) j=>(s,j)) (λs _ x=>if x.length < s.length then x else s) (λ_ _=>True) (λs=>some s)
   (λn s j hj _=>by
    have hck:ck ((j:Int)+1)=some ((j:Int)+1):=dj (by omega) (by omega);refine⟨?_,trivial⟩;simp only [dO,Int.ofNat_lt,hj,if_true,dX hj,bs];by_cases h:(b::L)[j].length < s.length
    .rw [if_pos h,bs,hck,bs,if_pos h]
    .rw [if_neg h,bs,hck,bs,if_neg h])
   (λn s _=>by
    unfold dO;rw [if_neg (Int.lt_irrefl _)]) (n:=1200) (s0:=b) (by omega) trivial
  rw [show dO 1200 (b::L,false) 1200 (b,0)=_ from key.1,bs,sC];have hb2:nI b (b::L)=nI b L:=by show nI (if b.length < b.length then b else b) L=_;rw [if_neg (Nat.lt_irrefl _)]
  rw [hb2];simp only [if_true];rw [sW (by show(nI b L).length < 1200;have:(nI b L).length≤5:=hfl;omega) (by have:(nI b L).length≤5:=hfl;omega),bs];simp [zy,bs]
