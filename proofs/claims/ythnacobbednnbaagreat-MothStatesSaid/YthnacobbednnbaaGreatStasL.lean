import Derived.Test.YthnacobbednnbaaGreatVWB12
open Nat
open List hiding mem_of_getElem?
open Array hiding mem_of_getElem? mk
set_option linter.unusedVariables false
set_option linter.unusedSimpArgs false
namespace Go.Proofs.YthnacobbednnbaaGreat
open K Go Go.Proofs
theorem Dq(a0:ab)(a1:aW)(a2 a3:Int)(a4:List Int):jV 1200 a0 a1 a2 a3 a4=some true:=by
 unfold jV;obtain⟨b,e,hb⟩:=Nb (k:=1200) (by omega) (m:=a0);rw [e,bs];by_cases hx:b=true
 .rw [if_pos hx,BM,bs]
 .rw [if_neg hx];have hs:=hb (by simp_all);obtain⟨r7,e7,rfl⟩:∃r1,ni 1200 a4=some r1/\r1=(a4,0,1):=⟨_,rfl,rfl⟩;rw [e7,bs];obtain⟨r9,e9,lo9,x,y,h9,vx,sy,cx,dx,ey⟩:=Dt (k:=1200) (by omega) hs (g:=a1) (l:=(a4,0,1)) ⟨Int.le_refl 0,Int.le_refl 0⟩;rw [show jC 1200 a0 a1 ((a4,(0:Int),(1:Int)).1,(a4,(0:Int),(1:Int)).2.1,(a4,(0:Int),(1:Int)).2.2)=some r9 from e9,bs];obtain⟨r8,e8,h8⟩:=jJ (k:=1200) (l:=(r9.2.1,r9.2.2.1,r9.2.2.2)) (n:=4) lo9 (by omega) (by omega);obtain⟨r10,e10,_⟩:=jJ (k:=1200) (l:=(r8.2.1,r8.2.2.1,r8.2.2.2)) (n:=3) h8.2.2 (by omega) (by omega);rw [e8,bs,e10,bs,Iw (f:=dI 1200 a2 a3 r9 r8 r10) h9 hs vx sy (λn j z j3 hj hz sz=>?_) (λn=>?_),kz,BM,bs]
  .have hck:ck ((j:Int)+1)=some ((j:Int)+1):=bU (by omega) (by omega);obtain⟨q,_,hq⟩:=O6 (a:=a2) (b:=r8.1) (c:=a2) j3;obtain⟨p,_,hp⟩:=O6 (a:=a3) (b:=r10.1) (c:=a3) j3;have eta:(z.1,z.2.1,z.2.2.1,z.2.2.2.1,z.2.2.2.2.1,z.2.2.2.2.2)=z:=rfl;have hl:=Ds (m:=z) (n:=q);have hsi:=uy (k:=1200) (a:=(pA z q).1) (b:=(pA z q).1) (by omega) (by omega);simp only [dI,hj,if_true,hz,hq,hp,bs,uG (k:=1200) (by omega) sz,eta,GR (k:=1200) sz (by omega),GF (k:=1200) sz (by omega),GT (k:=1200) sz (by omega),GG (k:=1200) sz (by omega),not_true_eq_false,if_false,hsi,decide_true,vD (k:=1200) (by omega) sz,Bool.not_true,Bool.false_eq_true,hck]
  .rw [dI,if_neg (Int.lt_irrefl _)]
