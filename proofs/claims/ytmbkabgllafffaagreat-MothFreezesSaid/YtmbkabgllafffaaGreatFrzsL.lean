import Derived.Test.YtmbkabgllafffaaGreatVLB12
open Nat
open List hiding mem_of_getElem?
open Array hiding mem_of_getElem? mk
set_option linter.unusedVariables false
set_option linter.unusedSimpArgs false
namespace Go.Proofs.YtmbkabgllafffaaGreat
open K Go Go.Proofs
theorem BU(a0:ab)(a1:aQ)(a2:Int)(a3:List Int):jv 1200 a0 a1 a2 a3=some true:=by
 unfold jv;obtain⟨b,e,hb⟩:=Nq (k:=1200) (by omega) (m:=a0);rw [e,bs];by_cases hx:b=true
 .rw [if_pos hx,BM,bs]
 .rw [if_neg hx];have hs:=hb (by simp_all);obtain⟨r7,e7,rfl⟩:∃r1,nk 1200 a3=some r1/\r1=(a3,0,1):=⟨_,rfl,rfl⟩;rw [e7,bs];obtain⟨r9,e9,lo9,x,y,h9,vx,sy,cx,dx,ey⟩:=Dy (k:=1200) (by omega) hs (g:=a1) (l:=(a3,0,1)) ⟨Int.le_refl 0,Int.le_refl 0⟩;rw [show jK 1200 a0 a1 ((a3,(0:Int),(1:Int)).1,(a3,(0:Int),(1:Int)).2.1,(a3,(0:Int),(1:Int)).2.2)=some r9 from e9,bs];obtain⟨r8,e8,_⟩:=kK (k:=1200) (l:=(r9.2.1,r9.2.2.1,r9.2.2.2)) (n:=2) lo9 (by omega) (by omega);rw [e8,bs,IB (f:=dB 1200 a2 r9 r8) h9 hs vx sy (λn j z j3 hj hz sz=>?_) (λn=>?_),i9,BM,bs]
  .have hck:ck ((j:Int)+1)=some ((j:Int)+1):=bG (by omega) (by omega);obtain⟨q,_,hq⟩:=TM (a:=a2) (b:=r8.1) (c:=a2) j3;have eta:(z.1,z.2.1,z.2.2.1,z.2.2.2.1,z.2.2.2.2.1,z.2.2.2.2.2)=z:=rfl;have hl:=BV (m:=z) (d:=q);have hsi:=uG (k:=1200) (a:=(nn z q).1) (b:=(nn z q).1) (by omega) (by omega);simp only [dB,hj,if_true,hz,hq,bs,uO (k:=1200) (by omega) sz,eta,Ej sz,DT sz,not_true_eq_false,if_false,hsi,decide_true,vO (k:=1200) (by omega) sz,Bool.not_true,Bool.false_eq_true,hck]
  .rw [dB,if_neg (Int.lt_irrefl _)]
