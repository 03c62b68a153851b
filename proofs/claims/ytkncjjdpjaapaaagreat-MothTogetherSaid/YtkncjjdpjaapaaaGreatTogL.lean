import Derived.Test.YtkncjjdpjaapaaaGreatVAB11
set_option linter.unusedVariables false
set_option linter.unusedSimpArgs false
namespace Go.Proofs.YtkncjjdpjaapaaaGreat
open K Go Go.Proofs
theorem GF:qI 1200=some true:=by decide+kernel
theorem W.get{α:Type}{x:Option α}{a:α}(h:W x fun y=>y=a):x=some a:=by
 obtain⟨b,e,rfl⟩:=h;exact e
theorem pL{k:Nat}{m:ai}{b:List Int}(v:Vd m)(h:Bg (mC m) b)(hk:1010≤k):fB k m b=some (fK m fun c=>decide (c∈b),0):=by
 have c1:=v.c1;have:=h.len ⟨by omega,v.c5⟩;rw [Ao v.sm hk (by omega),if_neg (fun hn=>hn v.chk),if_neg (fun hn=>hn (vQ.2 h))]
theorem Dl{m:ai}(h:mG m=[]):(m.1,m.2.1,m.2.2.1,m.2.2.2.1,m.2.2.2.2.1,([]:List cE))=m:=by
 have:m.2.2.2.2.2=[]:=h;rw [←this]
theorem JX{k:Nat}{r3:ai×bR}{r5 r6:(List Int)×bR}(v:Vd r3.1)(hk:50≤k)(h5:Bg (mC r3.1) r5.1)(h6:Bg (mC r3.1) r6.1):
 W (cP k r3 r5 r6 k ([],0)) fun X=>Bg (mC r3.1) X∧∀c,c∈X↔c∈r5.1∨c∈r6.1:=by
 have c1:=v.c1
 have c5:=v.c5
 have l5:=h5.len ⟨by omega,c5⟩
 have l6:=h6.len ⟨by omega,c5⟩
 refine W.loop (f:=cP k r3 r5 r6) (fun q y=>∃j:Nat,y.2=(j:Int)∧(j:Int)≤mC r3.1∧q=(mC r3.1).toNat - j∧y.1.length≤j∧y.1.Pairwise (· < ·)∧∀c,c∈y.1↔(0≤c∧c < (j:Int))∧(c∈r5.1∨c∈r6.1)) ?_ (mC r3.1).toNat k _ (by omega)
  ⟨0,rfl,by omega,by omega,by simp,by simp,fun c=>by simp;omega⟩
 rintro aL q ⟨o,y⟩ ⟨j,hj,hle,hq,hlen,hp,hx⟩ ih
 simp only at hj hlen hp hx
 subst hj
 unfold cP
 dsimp only
 refine W.ite (fun hlt=>?_) (fun hge=>W.ret ⟨⟨fun x hxx=>?_,hp⟩,fun c=>?_⟩)
 ·
  have hlt:(j:Int) < mC r3.1:=hlt;refine W.bind (R:=fun x=>x.Pairwise (· < ·)∧x.length≤j+1∧∀c,c∈x↔(0≤c∧c < ((j+1:Nat):Int))∧(c∈r5.1∨c∈r6.1)) ?_ fun x11 h11=>?_
  ·refine W.bind (R:=fun x=>x=decide ((j:Int)∈r5.1∨(j:Int)∈r6.1)) ?_ fun x13 h13=>?_
   ·refine W.bind (K6 (x:=(j:Int)) (l:=r5.1) (by omega) (by omega)) fun r15 h15=>?_;refine W.ite (fun h=>W.ret ?_) (fun h=>?_)
    ·simp [h15.1 h]
    ·refine W.bind (K6 (x:=(j:Int)) (l:=r6.1) (by omega) (by omega)) fun r16 h16=>W.ret ?_;refine decide_eq_decide.2 ⟨fun hh=>.inr (h16.1 hh),fun hh=>h16.2 (hh.resolve_left fun h'=>h (h15.2 h'))⟩
   ·subst h13;refine W.ite (fun h=>?_) (fun h=>W.ret ?_)
    ·have h:=of_decide_eq_true h;refine W.chk (by simp [cu];omega) (W.ret ⟨?_,by simp;omega,fun c=>?_⟩)
     ·rw [List.pairwise_append];exact⟨hp,by simp,fun a ha b hb=>by rw [List.mem_singleton.1 hb];exact((hx a).1 ha).1.2⟩
     ·rw [List.mem_append,hx c,List.mem_singleton];constructor
      ·rintro(⟨h1,h2⟩ |rfl)
       ·exact⟨by omega,h2⟩
       ·exact⟨by omega,h⟩
      ·rintro⟨h1,h2⟩;by_cases e:c=(j:Int)
       ·exact .inr e
       ·exact .inl ⟨by omega,h2⟩
    ·have h:¬((j:Int)∈r5.1∨(j:Int)∈r6.1):=fun hh=>h (decide_eq_true hh);refine⟨hp,by omega,fun c=>?_⟩;rw [hx c];constructor
     ·rintro⟨h1,h2⟩;exact⟨by omega,h2⟩
     ·rintro⟨h1,h2⟩;by_cases e:c=(j:Int)
      ·subst e;exact absurd h2 h
      ·exact⟨by omega,h2⟩
  ·refine W.ck (by omega) (by omega) ?_;exact ih (q - 1) (_,_) (by omega) ⟨j+1,by show(j:Int)+1=((j+1:Nat):Int);omega,by omega,by omega,h11.2.1,h11.1,h11.2.2⟩
 ·
  have:=(hx x).1 hxx;omega
 ·
  have hge:¬((j:Int) < mC r3.1):=hge;rw [hx c];constructor
  ·exact fun h=>h.2
  ·intro h;have:0≤c∧c < mC r3.1:=h.elim (h5.rng c) (h6.rng c);exact⟨by omega,h⟩
theorem wi(a0:List Int):gu 1200 a0=some true:=by
 unfold gu;obtain⟨r1,e1,rfl⟩:∃r1,lG 1200 a0=some r1∧r1=(a0,0,1):=⟨_,rfl,rfl⟩;rw [e1,bs];obtain⟨r3,e3,lo3,v,hg,_,_⟩:=Am (k:=1200) (by omega) (l:=(a0,0,1)) (m:=0) (cs:=5) (ds:=6) ⟨Int.le_refl 0,Int.le_refl 0⟩ (by omega) (by omega) (by omega);have c1:=v.c1;have c5:=v.c5;have d6:=v.d6;rw [show iu 1200 ((a0,(0:Int),(1:Int)).1,(a0,(0:Int),(1:Int)).2.1,(a0,(0:Int),(1:Int)).2.2) 5 6=some r3 from e3,bs];obtain⟨r5,e5,lo5,h5⟩:=ue (k:=1200) (by omega) (l:=(r3.2.1,r3.2.2.1,r3.2.2.2)) (c:=r3.1.1) lo3 (by omega) ⟨c1,c5⟩;rw [e5,bs];obtain⟨r6,e6,lo6,h6⟩:=ue (k:=1200) (by omega) (l:=(r5.2.1,r5.2.2.1,r5.2.2.2)) (c:=r3.1.1) lo5 (by omega) ⟨c1,c5⟩;rw [e6,bs];obtain⟨x7,e7,h7,hx⟩:=JX (k:=1200) v (by omega) h5 h6;rw [e7,bs,Dl hg,pL v h5 (by omega),bs,pL v h6 (by omega),bs,pL v h7 (by omega),bs];simp only [not_true_eq_false,if_false,EJ v (show 10≤1200 by omega),bs,Bool.not_true,Bool.false_eq_true]
 have key:=nh (T:=Int) (f:=cD 1200 r3 (fK r3.1 fun c=>decide (c∈r5.1),0) (fK r3.1 fun c=>decide (c∈r6.1),0) (fK r3.1 fun c=>decide (c∈x7),0)) (fK r3.1 fun c=>decide (c∈x7)) (fun(_:Unit) j=>j) (fun _ _ _=>(.ok ():Except Bool Unit)) (fun _ _=>True) (fun r=>some r)
  (fun n s j hj _=>by
   have hj2:j≤(mD r3.1).length:=by rw [jq] at hj;omega
   have hck:ck ((j:Int)+1)=some ((j:Int)+1):=eN (by omega) (by omega)
   have key:=nh (T:=Int) (f:=cC 1200 r3 (fK r3.1 fun c=>decide (c∈r5.1),0) (fK r3.1 fun c=>decide (c∈r6.1),0) (fK r3.1 fun c=>decide (c∈x7),0) (j:Int)) (List.range (mC r3.1).toNat) (fun(_:Unit) j=>j) (fun _ _ _=>(.ok ():Except Bool Unit)) (fun _ _=>True) (fun r=>some r)
    (fun n s i hi _=>by
     rw [List.length_range] at hi;have hck:ck ((i:Int)+1)=some ((i:Int)+1):=eN (by omega) (by omega);have hi2:(i:Int) < r3.1.1:=by show(i:Int) < mC r3.1;omega
     have i0:(0:Int)≤(i:Int):=by omega
     refine⟨?_,fun _ _=>trivial⟩;have hm:=BY (m:=r3.1) (A:=fun c=>decide (c∈r5.1)) (B:=fun c=>decide (c∈r6.1)) (U:=fun c=>decide (c∈x7)) v.w0 (fun c=>by rw [Bool.eq_iff_iff];simp [hx c]) j (i:Int);simp only [cC,hi2,if_true,vL hj2,bs,Fb i0 hi2,hck];rw [if_neg (fun hn=>hn hm)])
    (fun n s _=>by
     rw [List.length_range];unfold cC;rw [if_neg (by show¬(((mC r3.1).toNat:Int) < mC r3.1);omega)]) (n:=1200) (s0:=()) (by rw [List.length_range];omega) trivial
   refine⟨?_,fun _ _=>trivial⟩;simp only [cD,Int.ofNat_lt,hj,if_true];rw [show cC 1200 r3 (fK r3.1 fun c=>decide (c∈r5.1),0) (fK r3.1 fun c=>decide (c∈r6.1),0) (fK r3.1 fun c=>decide (c∈x7),0) (j:Int) 1200 0=_ from key];rw [xe,pV,hck,bs])
  (fun n s _=>by
   unfold cD;rw [if_neg (Int.lt_irrefl _)]) (n:=1200) (s0:=()) (by rw [jq];omega) trivial
 rw [show cD 1200 r3 (fK r3.1 fun c=>decide (c∈r5.1),0) (fK r3.1 fun c=>decide (c∈r6.1),0) (fK r3.1 fun c=>decide (c∈x7),0) 1200 0=_ from key,xe,pV,GF,bs]
end Go.Proofs.YtkncjjdpjaapaaaGreat
