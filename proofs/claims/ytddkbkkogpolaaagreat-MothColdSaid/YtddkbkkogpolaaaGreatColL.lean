import Derived.Test.YtddkbkkogpolaaaGreatVEB12
open Nat
open List hiding mem_of_getElem?
open Array hiding mem_of_getElem? mk
set_option linter.unusedVariables false
set_option linter.unusedSimpArgs false
namespace Go.Proofs.YtddkbkkogpolaaaGreat
open K Go Go.Proofs
theorem vU{m m':ae}(hD:mD m'=mD m){c:Int}:∀d:Nat,gR m' c d=gR m c d
 |0=>by grind [gR,qS]
 |d+1=>by rw [gR,gR,vU hD d,qS,qS,hD]
theorem uk{m m':ae}(hW:mW m'=mW m)(hH:mH m'=mH m)(hD:mD m'=mD m){B:Int->Bool}:∀(n:Nat) (c:Int),ky m' B n c=ky m B n c
 |0,c=>by grind [ky]
 |n+1,c=>by
  rw [ky,ky,show qS m' n c=qS m n c by grind [qS],vU hD,hH,uk hW hH hD n c,hW]
  cases qS m n c with
  |none=>rfl
  |some l=>
   have:(λx=>decide (mW m≤ky m' B n x))=λx=>decide (mW m≤ky m B n x):=by
    funext x;rw [uk hW hH hD n x]
   simp_all
theorem HL{k:Nat}{L:List (List Int)}{b:List Int}(hk:L.length < k)(hl:L.length≤1000)(hL:∀x∈L,x.length < k/\x.length≤1000):mm k L b=some (decide (b∈L)):=by
 unfold mm
 have key:=lN (T:=Int) (f:=eW k L b) L (λ(_:Unit) j=>j) (λ_ _ x=>if decide (x=b)=true then Except.error true else .ok ()) (λ_ _=>True) (λr=>some r)
  (λn s j hj _=>by
   have hck:ck ((j:Int)+1)=some ((j:Int)+1):=dp (by omega) (by omega);have hx:=hL _ (List.getElem_mem hj);refine⟨?_,λ_ _=>trivial⟩;rw [eW,if_pos (by omega),dQ hj,bs,yq hx.1 (by omega),bs];grind)
  (λn s _=>by rw [eW,if_neg (Int.lt_irrefl _)]) (n:=k) (s0:=()) (by omega) trivial
 rw [show eW k L b k 0=_ from key]
 have gen:∀(l:List (List Int)) (j:Nat),dI (λ(_:Unit) _ x=>if decide (x=b)=true then Except.error true else .ok ()) j l ()=if b∈l then .error true else .ok ():=by
  intro l
  induction l with
  |nil=>intro j;rw [if_neg (by simp)];rfl
  |cons x l ih=>
   intro j;rw [dI];grind
 rw [gen];by_cases h:b∈L
 .rw [if_pos h,np,decide_eq_true h]
 .rw [if_neg h,lT,decide_eq_false h]
theorem HE{m:ae}{c:Int}{d:Nat}(h:qS m d c=none):gR m c d=(if d=0 then 0 else gR m c (d - 1))+1:=by
 cases d with
 |zero=>grind [gR]
 |succ d=>grind [gR]
theorem Ej{m:ae}{c:Int}{d:Nat}{l:List Int}(h:qS m d c=some l):gR m c d=0:=by
 cases d with
 |zero=>grind [gR]
 |succ d=>grind [gR]
theorem NV{r3:ae×cx}{m:ae}{B:Int->Bool}{c:Int}{e:Int}(v:Vd m)(h3:(r3.1.1,r3.1.2.1,r3.1.2.2.1,r3.1.2.2.2.1,r3.1.2.2.2.2.1,([]:List bX))=m)(h0:0≤c)(h1:c < mC m):dx 1200 r3 (lg m B,e) c 1200 (0,0)=some (.ok ()):=by
 have d6:=v.d6;have h31:r3.1.1=mC m:=by rw [<-h3]
 have h3d:r3.1.2.2.2.2.1=mD m:=by rw [<-h3]
 have h3h:r3.1.2.2.2.1=mH m:=by rw [<-h3]
 have hh1:=v.h1
 have key:=iP (T:=Int×Int) (β:=Except Bool Unit) (f:=dx 1200 r3 (lg m B,e) c) (List.range (mD m).length) (λ(s:Int) j=>(s,j)) (λ_ j _=>(gR m c j:Int)) (λj s=>s=if j=0 then 0 else(gR m c (j - 1):Int)) (λ_=>some (.ok ()))
  (λn s j hj hs=>by
   rw [length_range] at hj;have hck:ck ((j:Int)+1)=some (((j+1:Nat):Int)):=dp (by omega) (by omega);have hcold:=xo (m:=m) (c:=c) (d:=j);have hg:=Bi (m:=m) (B:=B) v.w0 (d:=j) (c:=c);have hle:=Bh (m:=m) (B:=B) v.w3 (d:=j) (c:=c);refine⟨?_,by simp_all⟩;rw [dx,if_pos (by simp_all),h3,Ja v (by omega) hj,bs]
   have eA:ky m B (j+1) c=match qS m j c with
    |none=>if mH m≤(gR m c j:Int) then -1 else ky m B j c
    |some l=>if 0≤ky m B j c then ky m B j c+1 else if l.any λx=>decide (mW m≤ky m B j x) then 0 else -1:=rfl
   cases hb:qS m j c with
   |some l=>
    have hc0:=Ej hb;rw [hb] at eA;have hcka:ck (ky m B j c+1)=some (ky m B j c+1):=dp (by omega) (by omega);simp only [if_true,bs,kF (m:=m) (B:=B) (n:=j) (by omega),tA h0 h1,hck,kF (m:=m) (B:=B) (n:=j+1) (by omega),h3h];grind
   |none=>
    have hc1:=HE hb;rw [hb] at eA;have hs':s+1=(gR m c j:Int):=by grind
    have hcks:ck (s+1)=some (gR m c j:Int):=by grind [dp]
    have hp:(0:Int) < (gR m c j:Int):=by omega
    simp only [Bool.false_eq_true,if_false,hcks,bs,kF (m:=m) (B:=B) (n:=j) (by omega),tA h0 h1,hck,kF (m:=m) (B:=B) (n:=j+1) (by omega),h3h];grind)
  (λn s _=>by simp_all [length_range,dx,if_neg,Int.lt_irrefl]) (n:=1200) (s0:=0) (by grind) rfl
 exact key.1
theorem HF(a0:List Int):ku 1200 a0=some true:=by
 unfold ku;obtain⟨r1,e1,rfl⟩:∃r1,lL 1200 a0=some r1/\r1=(a0,0,1):=⟨_,rfl,rfl⟩;rw [e1,bs];obtain⟨r3,e3,lo3,v,hg,hcs,hds⟩:=AO (k:=1200) (by omega) (l:=(a0,0,1)) (m:=0) (cs:=5) (ds:=6) ⟨Int.le_refl 0,Int.le_refl 0⟩ (by omega) (by omega) (by omega);rw [show iy 1200 ((a0,(0:Int),(1:Int)).1,(a0,(0:Int),(1:Int)).2.1,(a0,(0:Int),(1:Int)).2.2) 5 6=some r3 from e3,bs];have c1:=v.c1;have c5:=v.c5;have d6:=v.d6;obtain⟨r5,e5,lo5,hb⟩:=Bc (k:=1200) (by omega) (l:=(r3.2.1,r3.2.2.1,r3.2.2.2)) (c:=r3.1.1) lo3 (by omega) ⟨c1,c5⟩;have l5:=hb.len ⟨by omega,c5⟩
 have eta:(r3.1.1,r3.1.2.1,r3.1.2.2.1,r3.1.2.2.2.1,r3.1.2.2.2.2.1,([]:List bX))=r3.1:=by
  grind
 rw [e5,bs,eta,AQ v.sm (by omega) (by omega),bs,v.chk,rZ.2 hb];simp only [not_true_eq_false,if_false];rw [E8 v (by omega),bs];simp only [Bool.not_true,bs,Bool.false_eq_true,if_false]
 have key:=iP (T:=Int) (β:=Except Bool Unit) (f:=dy 1200 r3 (lg r3.1 λx=>decide (x∈r5.1),0)) (List.range (mC r3.1).toNat) (λ(_:Unit) j=>j) (λs _ _=>s) (λ_ _=>True) (λ_=>some (.ok ()))
  (λn s j hj _=>by
   rw [length_range] at hj;have hck:ck ((j:Int)+1)=some ((j:Int)+1):=dp (by omega) (by omega);simp_all [mC,dy,if_pos,NV,lT,bs])
  (λn s _=>by rw [length_range,dy,if_neg (by grind)]) (n:=1200) (s0:=()) (by grind) trivial
 rw [show dy 1200 r3 (lg r3.1 λx=>decide (x∈r5.1),0) 1200 0=_ from key.1,lT];obtain⟨r6,e6,h6⟩:=kh (k:=1200) (l:=(r5.2.1,r5.2.2.1,r5.2.2.2)) (n:=((mD r3.1).length:Int)) lo5 (by omega) (by omega);obtain⟨n,en⟩:∃n:Nat,r6.1=n:=⟨r6.1.toNat,by omega⟩;have hn:n≤(mD r3.1).length:=by omega
 have hckc:ck (r3.1.1 - 1)=some (r3.1.1 - 1):=Qa ⟨c1,c5⟩;obtain⟨r7,e7,h7⟩:=kh (k:=1200) (l:=(r6.2.1,r6.2.2.1,r6.2.2.2)) (n:=r3.1.1 - 1) h6.2.2 (by omega) (by grind);have k0:=h7.1;have k1:r7.1 < mC r3.1:=by grind
 rw [show r3.1.2.2.2.2.1=mD r3.1 from rfl,e6,bs,hckc,bs,e7,bs,en,kF hn,bs,tA k0 k1,bs];have hgl:iu 1200 r7.1 (n:Int) (decide (0≤ky r3.1 (λx=>decide (x∈r5.1)) n r7.1))=some (r7.1,(n:Int),decide (0≤ky r3.1 (λx=>decide (x∈r5.1)) n r7.1)):=rfl;rw [hgl,bs];obtain⟨m',hm'⟩:∃m':ae,m'=(r3.1.1,r3.1.2.1,(0:Int),r3.1.2.2.2.1,mD r3.1,[(r7.1,(n:Int),decide (0≤ky r3.1 (λx=>decide (x∈r5.1)) n r7.1))]):=⟨_,rfl⟩;have hW:mW m'=mW r3.1:=by rw [hm']
 have hH:mH m'=mH r3.1:=by rw [hm']
 have hD:mD m'=mD r3.1:=by rw [hm']
 have hC:mC m'=mC r3.1:=by rw [hm']
 have v':Vd m':=by
  rw [hm']
  exact⟨v.c1,v.c5,v.w0,v.w3,Int.le_refl 0,by grind,v.h1,v.h3,v.d1,v.d6,v.r3,v.l5,v.x5,v.nd,by grind,λg hgg=>by
   grind⟩
 have hin:r5.1∈A3 m' qs:=by
  unfold A3;rw [List.mem_filter];refine⟨HN (by simp_all),D2 λg hgg=>?_⟩;have hG:mG m'=[(r7.1,(n:Int),decide (0≤ky r3.1 (λx=>decide (x∈r5.1)) n r7.1))]:=by rw [hm']
  rw [hG] at hgg;rw [List.mem_singleton.1 hgg];unfold SR;rw [uk hW hH hD,show mS m'=0 by rw [hm']];rfl
 have hl:=zd v' (but:=qs)
 rw [<-hm',DU v' (by omega),bs,if_pos rfl,HL (by grind) (by grind) (λx hx=>by
  have:=(CB v' hx).len ⟨by omega,v'.c5⟩;omega),bs,if_pos (decide_eq_true hin),G7,bs,bs]
