import Derived.Test.YtcollhgigbijkaaGreatVAB11
open Nat
open List hiding mem_of_getElem?
open Array hiding mem_of_getElem? mk
set_option linter.unusedVariables false
set_option linter.unusedSimpArgs false
namespace Go.Proofs.YtcollhgigbijkaaGreat
open K Go Go.Proofs
theorem Gi:qi 1200=some true:=by decide+kernel
theorem W.get{α:Type}{x:Option α}{a:α}(h:W x λy=>y=a):x=some a:=by
 obtain⟨b,e,rfl⟩:=h;exact e
theorem pw{k:Nat}{m:ah}{b:List Int}(v:Vd m)(h:Bg (mC m) b)(hk:1010≤k):fq k m b=some (gI m λc=>decide (c∈b),0):=by
 have c1:=v.c1;have:=h.len ⟨by omega,v.c5⟩;rw [zZ v.sm hk (by omega),if_neg (λhn=>hn v.chk),if_neg (λhn=>hn (vC.2 h))]
theorem C3{m:ah}(h:mG m=[]):(m.1,m.2.1,m.2.2.1,m.2.2.2.1,m.2.2.2.2.1,([]:List cC))=m:=by
 grind
theorem JG{k:Nat}{r3:ah×bP}{r5 r6:(List Int)×bP}(v:Vd r3.1)(hk:50≤k)(h5:Bg (mC r3.1) r5.1)(h6:Bg (mC r3.1) r6.1):
 W (cQ k r3 r5 r6 k ([],0)) λX=>Bg (mC r3.1) X/\∀c,c∈X↔c∈r5.1\/c∈r6.1:=by
 have c1:=v.c1
 have c5:=v.c5
 have l5:=h5.len ⟨by omega,c5⟩
 have l6:=h6.len ⟨by omega,c5⟩
 refine W.loop (f:=cQ k r3 r5 r6) (λq y=>∃j:Nat,y.2=(j:Int)/\(j:Int)≤mC r3.1/\q=(mC r3.1).toNat - j/\y.1.length≤j/\y.1.Pairwise (· < ·)/\∀c,c∈y.1↔(0≤c/\c < (j:Int))/\(c∈r5.1\/c∈r6.1)) ?_ (mC r3.1).toNat k _ (by omega)
  ⟨0,rfl,by omega,by omega,by simp,by simp,λc=>by simp;omega⟩
 rintro aL q ⟨o,y⟩ ⟨j,hj,hle,hq,hlen,hp,hx⟩ ih
 simp only at hj hlen hp hx
 subst hj
 unfold cQ
 dsimp only
 refine W.ite (λhlt=>?_) (λhge=>W.ret ⟨⟨λx hxx=>?_,hp⟩,λc=>?_⟩)
 .
  have hlt:(j:Int) < mC r3.1:=hlt;refine W.bind (R:=λx=>x.Pairwise (· < ·)/\x.length≤j+1/\∀c,c∈x↔(0≤c/\c < ((j+1:Nat):Int))/\(c∈r5.1\/c∈r6.1)) ?_ λx11 h11=>?_
  .refine W.bind (R:=λx=>x=decide ((j:Int)∈r5.1\/(j:Int)∈r6.1)) ?_ λx13 h13=>?_
   .refine W.bind (KT (x:=(j:Int)) (l:=r5.1) (by omega) (by omega)) λr15 h15=>?_;refine W.ite (λh=>W.ret ?_) (λh=>?_)
    .simp_all
    .refine W.bind (KT (x:=(j:Int)) (l:=r6.1) (by omega) (by omega)) λr16 h16=>W.ret ?_;simp_all
   .subst h13;refine W.ite (λh=>?_) (λh=>W.ret ?_)
    .have h:=of_decide_eq_true h;grind [W.chk,cE,W.ret,List.mem_singleton]
    grind
  .refine W.ck (by omega) (by omega) ?_;exact ih (q - 1) (_,_) (by omega) ⟨j+1,by omega,by omega,by omega,h11.2.1,h11.1,h11.2.2⟩
 .
  grind
 .
  have hge:¬((j:Int) < mC r3.1):=hge;rw [hx c];constructor
  .simp_all
  .intro h;have:0≤c/\c < mC r3.1:=h.elim (h5.rng c) (h6.rng c);grind
theorem vQ(a0:List Int):gg 1200 a0=some true:=by
 unfold gg;obtain⟨r1,e1,rfl⟩:∃r1,lw 1200 a0=some r1/\r1=(a0,0,1):=⟨_,rfl,rfl⟩;rw [e1,bs];obtain⟨r3,e3,lo3,v,hg,_,_⟩:=zX (k:=1200) (by omega) (l:=(a0,0,1)) (m:=0) (cs:=5) (ds:=6) ⟨Int.le_refl 0,Int.le_refl 0⟩ (by omega) (by omega) (by omega);have c1:=v.c1;have c5:=v.c5;have d6:=v.d6;rw [show ia 1200 ((a0,(0:Int),(1:Int)).1,(a0,(0:Int),(1:Int)).2.1,(a0,(0:Int),(1:Int)).2.2) 5 6=some r3 from e3,bs];obtain⟨r5,e5,lo5,h5⟩:=tN (k:=1200) (by omega) (l:=(r3.2.1,r3.2.2.1,r3.2.2.2)) (c:=r3.1.1) lo3 (by omega) ⟨c1,c5⟩;rw [e5,bs];obtain⟨r6,e6,lo6,h6⟩:=tN (k:=1200) (by omega) (l:=(r5.2.1,r5.2.2.1,r5.2.2.2)) (c:=r3.1.1) lo5 (by omega) ⟨c1,c5⟩;rw [e6,bs];obtain⟨x7,e7,h7,hx⟩:=JG (k:=1200) v (by omega) h5 h6;rw [e7,bs,C3 hg,pw v h5 (by omega),bs,pw v h6 (by omega),bs,pw v h7 (by omega),bs];simp only [not_true_eq_false,if_false,Es v (show 10≤1200 by omega),bs,Bool.not_true,Bool.false_eq_true]
 have key:=mP (T:=Int) (f:=cz 1200 r3 (gI r3.1 λc=>decide (c∈r5.1),0) (gI r3.1 λc=>decide (c∈r6.1),0) (gI r3.1 λc=>decide (c∈x7),0)) (gI r3.1 λc=>decide (c∈x7)) (λ(_:Unit) j=>j) (λ_ _ _=>(.ok ():Except Bool Unit)) (λ_ _=>True) (λr=>some r)
  (λn s j hj _=>by
   have hj2:j≤(mD r3.1).length:=by grind [kj]
   have hck:ck ((j:Int)+1)=some ((j:Int)+1):=eJ (by omega) (by omega)
   have key:=mP (T:=Int) (f:=cy 1200 r3 (gI r3.1 λc=>decide (c∈r5.1),0) (gI r3.1 λc=>decide (c∈r6.1),0) (gI r3.1 λc=>decide (c∈x7),0) (j:Int)) (List.range (mC r3.1).toNat) (λ(_:Unit) j=>j) (λ_ _ _=>(.ok ():Except Bool Unit)) (λ_ _=>True) (λr=>some r)
    (λn s i hi _=>by
     rw [length_range] at hi;have hck:ck ((i:Int)+1)=some ((i:Int)+1):=eJ (by omega) (by omega);have hi2:(i:Int) < r3.1.1:=by simp_all
     have i0:(0:Int)≤(i:Int):=by omega
     refine⟨?_,λ_ _=>trivial⟩;have hm:=BI (m:=r3.1) (A:=λc=>decide (c∈r5.1)) (B:=λc=>decide (c∈r6.1)) (U:=λc=>decide (c∈x7)) v.w0 (λc=>by simp_all) j (i:Int);simp_all [cy,if_true,vy,bs,EU,if_neg])
    (λn s _=>by
     rw [length_range];unfold cy;grind) (n:=1200) (s0:=()) (by grind) trivial
   refine⟨?_,λ_ _=>trivial⟩;simp only [cz,Int.ofNat_lt,hj,if_true];grind [cy,gI,decide,wR,pE,bs])
  (λn s _=>by
   unfold cz;simp_all) (n:=1200) (s0:=()) (by rw [kj];omega) trivial
 grind [cz,gI,decide,wR,pE,Gi,bs]
