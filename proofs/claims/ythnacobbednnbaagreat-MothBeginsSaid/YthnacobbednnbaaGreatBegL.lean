import Derived.Test.YthnacobbednnbaaGreatVDB12
open Nat
open List hiding mem_of_getElem?
open Array hiding mem_of_getElem? mk
set_option linter.unusedVariables false
set_option linter.unusedSimpArgs false
namespace Go.Proofs.YthnacobbednnbaaGreat
open K Go Go.Proofs
theorem Gs{k:Nat}{m:ab}(hk:1010≤k):eg k (if¬(i8 m=0) then(([]:List (List Int)),i8 m) else(mO m f9,0)).1 (if¬(i8 m=0) then(([]:List (List Int)),i8 m) else(mO m f9,0)).1=some true:=by
 by_cases hc:i8 m=0
 .have v:=Vd.of hc;have hl:=sV v (but:=f9);have c1:=v.c1;rw [if_neg (λhn=>hn hc)];refine lZ (by show(mO m f9).length < k;omega) (by show(mO m f9).length≤1000000;omega) λx hx=>?_;have:=(u5 v hx).len ⟨by omega,v.c5⟩;omega
 .rw [if_pos hc];exact lZ (by simp;omega) (by simp) (by simp)
theorem Bv{m:ab}:(nh m).1.length≤5:=by
 unfold nh;split
 .simp
 .rename_i hc;have v:=Vd.of (Decidable.not_not.1 hc);have c1:=v.c1;have hL:∀x∈mO m f9,Bg (mC m) x:=λx h=>u5 v h;generalize mO m f9=E at *;cases E with
  |nil=>simp
  |cons b L=>
   have:Bg (mC m) (uN b L):=by
    rcases Bw (b:=b) (L:=L) with h |h
    .rw [h];exact hL b mem_cons_self
    .exact hL _ (mem_cons_of_mem _ h)
   exact this.len ⟨by omega,v.c5⟩
theorem BQ(a0:ab)(a1:aR)(a2:List Int):jO 1200 a0 a1 a2=some true:=by
 unfold jO;obtain⟨b,e,hb⟩:=MB (k:=1200) (by omega) (m:=a0);rw [e,bs];by_cases hx:b=true
 .rw [if_pos hx,Bm,bs]
 .rw [if_neg hx];have hs:=hb (by simpa using hx);obtain⟨r7,e7,rfl⟩:∃r1,nf 1200 a2=some r1/\r1=(a2,0,1):=⟨_,rfl,rfl⟩;rw [e7,bs];obtain⟨r9,e9,lo9,x,y,h9,vx,sy,cx,dx,ey⟩:=C0 (k:=1200) (by omega) hs (g:=a1) (l:=(a2,0,1)) ⟨Int.le_refl 0,Int.le_refl 0⟩;rw [show ju 1200 a0 a1 ((a2,(0:Int),(1:Int)).1,(a2,(0:Int),(1:Int)).2.1,(a2,(0:Int),(1:Int)).2.2)=some r9 from e9,bs]
  have key:=iY (T:=Int) (f:=dn 1200 r9) r9.1 (λ(_:Unit) j=>j) (λ_ _ _=>(.ok ():Except Bool Unit)) (λ_ _=>True) (λr=>some r)
   (λn s j hj _=>by
    have hj3:j < 3:=by rw [h9] at hj;exact hj
    have hck:ck ((j:Int)+1)=some ((j:Int)+1):=cy (by omega) (by omega);obtain⟨z,hz,gz⟩:=SH (a:=a0) (b:=x) (c:=y) hj3;have gz:aH r9.1 (j:Int)=some z:=by rw [h9];exact gz
    have sz:Sm z:=by
     simp only [mem_cons,not_mem_nil,or_false] at hz;rcases hz with rfl |rfl |rfl
     .exact hs
     .exact vx.sm
     .exact sy
    have hsl:=Gs (k:=1200) (m:=z) (by omega);have hfl:=Bv (m:=z);have hsi:=um (k:=1200) (a:=(nh z).1) (b:=(nh z).1) (by omega) (by omega);refine⟨?_,λ_ _=>trivial⟩;have eta:(z.1,z.2.1,z.2.2.1,z.2.2.2.1,z.2.2.2.2.1,z.2.2.2.2.2)=z:=rfl;simp only [dn,Int.ofNat_lt,hj,if_true,gz,bs,ux (k:=1200) (by omega) sz,eta,DI (k:=1200) sz (by omega),Dh (k:=1200) sz (by omega),DG (k:=1200) sz (by omega),Df (k:=1200) sz (by omega),not_true_eq_false,if_false,hsl,hsi,decide_true,vp (k:=1200) (by omega) sz,Bool.not_true,Bool.false_eq_true,hck])
   (λn s _=>by
    unfold dn;rw [if_neg (Int.lt_irrefl _)]) (n:=1200) (s0:=()) (by rw [h9];simp) trivial
  rw [show dn 1200 r9 1200 0=_ from key,wv,kl,Bm,bs]
