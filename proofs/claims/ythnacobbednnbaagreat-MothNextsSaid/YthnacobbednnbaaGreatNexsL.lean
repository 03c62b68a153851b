import Derived.Test.YthnacobbednnbaaGreatVBB12
open Nat
open List hiding mem_of_getElem?
open Array hiding mem_of_getElem? mk
set_option linter.unusedVariables false
set_option linter.unusedSimpArgs false
namespace Go.Proofs.YthnacobbednnbaaGreat
open K Go Go.Proofs
theorem F3(a0:ab)(a1:aQ)(a2:Int)(a3:List Int):kC 1200 a0 a1 a2 a3=some true:=by
 unfold kC;obtain⟨b,e,hb⟩:=L0 (k:=1200) (by omega) (m:=a0);rw [e,bs];by_cases hx:b=true
 .rw [if_pos hx,Ba,bs]
 .rw [if_neg hx];have hs:=hb (by simpa using hx);obtain⟨r7,e7,rfl⟩:∃r1,mO 1200 a3=some r1/\r1=(a3,0,1):=⟨_,rfl,rfl⟩;rw [e7,bs];obtain⟨r9,e9,lo9,x,y,h9,vx,sy,cx,dx,ey⟩:=CO (k:=1200) (by omega) hs (g:=a1) (l:=(a3,0,1)) ⟨Int.le_refl 0,Int.le_refl 0⟩;rw [show jp 1200 a0 a1 ((a3,(0:Int),(1:Int)).1,(a3,(0:Int),(1:Int)).2.1,(a3,(0:Int),(1:Int)).2.2)=some r9 from e9,bs];obtain⟨r8,e8,_⟩:=jy (k:=1200) (l:=(r9.2.1,r9.2.2.1,r9.2.2.2)) (n:=3) lo9 (by omega) (by omega);rw [e8,bs,HO (f:=dU 1200 a2 r9 r8) h9 hs vx sy (λn j z j3 hj hz sz=>?_) (λn=>?_),kh,Ba,bs]
  .have hck:ck ((j:Int)+1)=some ((j:Int)+1):=bY (by omega) (by omega);obtain⟨q,_,hq⟩:=Si (a:=a2) (b:=r8.1) (c:=a2) j3;have eta:(z.1,z.2.1,z.2.2.1,z.2.2.2.1,z.2.2.2.2.1,z.2.2.2.2.2)=z:=rfl;simp only [dU,hj,if_true,hz,hq,bs,uc (k:=1200) (by omega) sz,eta,IV (k:=1200) sz (by omega),H7 (k:=1200) sz (by omega),not_true_eq_false,if_false,u5 (k:=1200) (by omega) sz,Bool.not_true,Bool.false_eq_true,hck]
  .rw [dU,if_neg (Int.lt_irrefl _)]
