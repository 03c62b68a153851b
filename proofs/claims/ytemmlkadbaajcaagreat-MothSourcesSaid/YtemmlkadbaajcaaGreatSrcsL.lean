import Derived.Test.YtemmlkadbaajcaaGreatVPB12
open Nat
open List hiding mem_of_getElem?
open Array hiding mem_of_getElem? mk
set_option linter.unusedVariables false
set_option linter.unusedSimpArgs false
namespace Go.Proofs.YtemmlkadbaajcaaGreat
open K Go Go.Proofs
theorem Bq(a0:ab)(a1:aQ)(a2:List Int)(a3:Int)(a4:List Int):jF 1200 a0 a1 a2 a3 a4=some true:=by
 unfold jF;obtain⟨b,e,hb⟩:=NN (k:=1200) (by omega) (m:=a0);rw [e,bs];have e3:((if b=true then some true else some (decide ((20:Int) < (a2.length:Int)))):Option Bool)=some (b || decide ((20:Int) < (a2.length:Int))):=by grind
 rw [e3,bs];by_cases hx:(b || decide ((20:Int) < (a2.length:Int)))=true
 .rw [if_pos hx,CC,bs]
 .rw [if_neg hx];have hx:(b || decide ((20:Int) < (a2.length:Int)))=false:=by simp_all
  rw [Bool.or_eq_false_iff] at hx;have hs:=hb hx.1;have h2:a2.length≤20:=by grind
  obtain⟨r7,e7,rfl⟩:∃r1,nE 1200 a4=some r1/\r1=(a4,0,1):=⟨_,rfl,rfl⟩;rw [e7,bs];obtain⟨r9,e9,lo9,x,y,h9,vx,sy,cx,dx,ey⟩:=D4 (k:=1200) (by omega) hs (g:=a1) (l:=(a4,0,1)) ⟨Int.le_refl 0,Int.le_refl 0⟩;rw [show jS 1200 a0 a1 ((a4,(0:Int),(1:Int)).1,(a4,(0:Int),(1:Int)).2.1,(a4,(0:Int),(1:Int)).2.2)=some r9 from e9,bs];have g1:aH r9.1 (1:Int)=some x:=by rw [h9];rfl
  rw [g1,bs];obtain⟨r11,e11,lo11,h11⟩:=EW (k:=1200) (by omega) (l:=(r9.2.1,r9.2.2.1,r9.2.2.2)) (c:=x.1) lo9 (by omega) ⟨vx.c1,vx.c5⟩;rw [e11,bs];have l11:=h11.len ⟨by have:=vx.c1;omega,vx.c5⟩;obtain⟨r12,e12,_⟩:=kQ (k:=1200) (l:=(r11.2.1,r11.2.2.1,r11.2.2.2)) (n:=3) lo11 (by omega) (by omega);rw [e12,bs,I2 (f:=dE 1200 a2 a3 r9 r11 r12) h9 hs vx sy (λn j z j3 hj hz sz=>?_) (λn=>?_),jX,CC,bs]
  .have hck:ck ((j:Int)+1)=some ((j:Int)+1):=bM (by omega) (by omega);obtain⟨q,hqm,hq⟩:=PQ (a:=a2) (b:=r11.1) (c:=a2) j3;obtain⟨p,_,hp⟩:=PQ (a:=a3) (b:=r12.1) (c:=a3) j3
   have hql:q.length≤20:=by
    grind
   have l1:=IX (m:=z) (c:=p);have l2:=EU (m:=z) (b:=q) (c:=p);have s1:=nq (k:=1200) (a:=(Bn z p).1) (b:=(Bn z p).1) (by omega) (by omega);have s2:=nq (k:=1200) (a:=(ql z q p).1) (b:=(ql z q p).1) (by omega) (by omega);have s3:=nq (k:=1200) (a:=q) (b:=q) (by omega) (by omega);simp only [dE,hj,if_true,hz,hq,hp,bs,uW (k:=1200) (by omega) sz,wY (k:=1200) (l:=q) (by omega),NG (k:=1200) sz (by omega),MX (k:=1200) sz (by omega),Ht (k:=1200) (b:=q) sz (by omega) (by omega),Hh (k:=1200) (b:=q) sz (by omega) (by omega),not_true_eq_false,if_false,s1,s2,s3,decide_true,vY (k:=1200) (by omega) sz,Bool.not_true,Bool.false_eq_true,hck]
  .rw [dE,if_neg (Int.lt_irrefl _)]
