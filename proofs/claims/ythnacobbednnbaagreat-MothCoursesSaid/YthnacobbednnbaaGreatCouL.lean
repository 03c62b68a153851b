import Derived.Test.YthnacobbednnbaaGreatVEB12
open Nat
open List hiding mem_of_getElem?
open Array hiding mem_of_getElem? mk
set_option linter.unusedVariables false
set_option linter.unusedSimpArgs false
namespace Go.Proofs.YthnacobbednnbaaGreat
open K Go Go.Proofs
theorem Nl{α:Type}{a b c:α}{j:Nat}(h:j < 3):∃x∈[a,b,c],aH [a,b,c] (j:Int)=some x:=by
 have:j=0\/j=1\/j=2:=by omega
 rcases this with rfl |rfl |rfl
 .exact⟨a,by simp,rfl⟩
 .exact⟨b,by simp,rfl⟩
 .exact⟨c,by simp,rfl⟩
theorem Az{k:Nat}{m:ae}{b:List Int}{r:List (List Int)×Int}(hk:1010≤k)(hs:Sm m)(h:r=if¬(nB m=0) then([],nB m) else if¬(ox (mC m) b=0) then([],ox (mC m) b) else(sj m λc=>decide (c∈b),0)):dT k r.1 r.1=some true:=by
 have:r.1=[]\/(nB m=0/\r.1=sj m λc=>decide (c∈b)):=by
  rw [h];split
  .exact .inl rfl
  .rename_i hc;split
   .exact .inl rfl
   .exact .inr ⟨Decidable.not_not.1 hc,rfl⟩
 rcases this with e |⟨hc,e⟩
 .rw [e];exact lM (by simp;omega) (by simp) (by simp)
 .have v:=Vd.of hc;have d6:=v.d6;have c1:=v.c1;have c5:=v.c5;rw [e];refine lM (by rw [xE];omega) (by rw [xE];omega) λx hx=>?_;obtain⟨n,hn,rfl⟩:=List.mem_map.1 hx;have:=G1 (m:=m) (B:=λc=>decide (c∈b)) (n:=n) (by omega);omega
theorem AA(a0:ae)(a1:aQ)(a2 a3:List Int):iV 1200 a0 a1 a2 a3=some true:=by
 unfold iV;obtain⟨b,e,hb⟩:=KX (k:=1200) (by omega) (m:=a0);rw [e,bs];have e3:((if b=true then some true else some (decide ((20:Int) < (a2.length:Int)))):Option Bool)=some (b || decide ((20:Int) < (a2.length:Int))):=by cases b <;> simp
 rw [e3,bs];by_cases hx:(b || decide ((20:Int) < (a2.length:Int)))=true
 .rw [if_pos hx,Aj,bs]
 .rw [if_neg hx];have hx:(b || decide ((20:Int) < (a2.length:Int)))=false:=by simpa using hx
  rw [Bool.or_eq_false_iff] at hx;have hs:=hb hx.1;have h2:a2.length≤20:=by have:=of_decide_eq_false hx.2;omega
  obtain⟨r7,e7,rfl⟩:∃r1,mO 1200 a3=some r1/\r1=(a3,0,1):=⟨_,rfl,rfl⟩;rw [e7,bs];obtain⟨r9,e9,lo9,x,y,h9,vx,sy,cx,dx,ey⟩:=Br (k:=1200) (by omega) hs (g:=a1) (l:=(a3,0,1)) ⟨Int.le_refl 0,Int.le_refl 0⟩;rw [show ji 1200 a0 a1 ((a3,(0:Int),(1:Int)).1,(a3,(0:Int),(1:Int)).2.1,(a3,(0:Int),(1:Int)).2.2)=some r9 from e9,bs];have g1:aH r9.1 (1:Int)=some x:=by rw [h9];rfl
  rw [g1,bs];obtain⟨r11,e11,lo11,h11⟩:=CN (k:=1200) (by omega) (l:=(r9.2.1,r9.2.2.1,r9.2.2.2)) (c:=x.1) lo9 (by omega) ⟨vx.c1,vx.c5⟩;rw [e11,bs];have l11:=h11.len ⟨by have:=vx.c1;omega,vx.c5⟩
  have key:=iL (T:=Int) (f:=cZ 1200 a2 r9 r11) r9.1 (λ(_:Unit) j=>j) (λ_ _ _=>(.ok ():Except Bool Unit)) (λ_ _=>True) (λr=>some r)
   (λn s j hj _=>by
    have hj3:j < 3:=by rw [h9] at hj;exact hj
    have hck:ck ((j:Int)+1)=some ((j:Int)+1):=cU (by omega) (by omega);obtain⟨z,hz,gz⟩:=Nl (a:=a0) (b:=x) (c:=y) hj3;obtain⟨bb,hbb,gb⟩:=Nl (a:=a2) (b:=r11.1) (c:=a2) hj3;have gz:aH r9.1 (j:Int)=some z:=by rw [h9];exact gz
    have sz:Sm z:=by
     simp only [mem_cons,not_mem_nil,or_false] at hz;rcases hz with rfl |rfl |rfl
     .exact hs
     .exact vx.sm
     .exact sy
    have lb:bb.length≤1000:=by
     simp only [mem_cons,not_mem_nil,or_false] at hbb;rcases hbb with rfl |rfl |rfl <;> omega
    refine⟨?_,λ_ _=>trivial⟩;have hsl:=Az (k:=1200) (b:=bb) (by omega) sz rfl;simp only [cZ,Int.ofNat_lt,hj,if_true,gz,gb,bs,tZ (k:=1200) (by omega) sz,vB (k:=1200) (l:=bb) (by omega),B0 (k:=1200) sz (by omega) lb,BB (k:=1200) sz (by omega) lb,Dx (k:=1200) sz (by omega),Dk (k:=1200) sz (by omega),not_true_eq_false,if_false,hsl,uP (k:=1200) (by omega) sz,tQ (k:=1200) (a:=bb) (b:=bb) (by omega) (by omega),decide_true,Bool.not_true,Bool.false_eq_true,hck])
   (λn s _=>by
    unfold cZ;rw [if_neg (Int.lt_irrefl _)]) (n:=1200) (s0:=()) (by rw [h9];simp) trivial
  rw [show cZ 1200 a2 r9 r11 1200 0=_ from key,vF,kG,Aj,bs]
