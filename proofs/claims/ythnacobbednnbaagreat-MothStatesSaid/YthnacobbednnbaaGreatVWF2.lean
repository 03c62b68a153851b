import Derived.Test.YthnacobbednnbaaGreatVWB10
open Nat
open List hiding mem_of_getElem?
open Array hiding mem_of_getElem? mk
set_option linter.unusedSimpArgs false
set_option linter.unusedVariables false
set_option maxRecDepth 4000
set_option maxHeartbeats 1000000
namespace Go.Proofs.YthnacobbednnbaaGreat
open K Go Go.Proofs
def fE(k:Nat)(a0:ab)(a1:(List Int)):Nat->(Int×Int)->Option (Except ((Option ab)×Int×Int) Int)
 |0,_=>none
 |n+1,y5=>
  if y5.2 < (a1.length:Int) then((aH a1 y5.2).bind λx7=>
  (ck (a0.1 - 1)).bind λx8=>
  (dX k x7 0 x8).bind λr9=>
  if¬(r9=true) then(some (.error (none,0,3))) else(((if 0 < y5.2 then((ck (y5.2 - 1)).bind λh=>
  (aH a1 h).bind λe=>
  some (decide (x7≤e))) else(some false)):Option (Bool)).bind λj=>
  if j=true then(some (.error (none,0,5))) else((gU k y5.1 x7).bind λl=>
  (ck (y5.2+1)).bind λc=>
  fE k a0 a1 n (l,c)))) else(some (.ok y5.1))
def dO(k:Nat)(a0:ab)(h:Int)(e:(List Int)):Nat->Int->Option (Except ((Option ab)×Int×Int) Unit)
 |0,_=>none
 |n+1,c=>
  if c < (e.length:Int) then((aH e c).bind λu=>
  (ck (a0.1 - 1)).bind λs=>
  (ck ((a0.2.2.2.2.1.length:Int) - 1)).bind λr=>
  (aH [s,r,(a0.2.2.2.2.1.length:Int)] h).bind λl=>
  (dX k u 0 l).bind λx=>
  if¬(x=true) then(some (.error (none,0,3))) else((ck (c+1)).bind λj=>
  dO k a0 h e n j)) else(some (.ok ()))
def c6(k:Nat)(a0:ab)(a2:(List Int))(a3:(List Int))(a4:(List Int)):Nat->Int->Option (Except ((Option ab)×Int×Int) Unit)
 |0,_=>none
 |n+1,c=>
  if c < ([a2,a3,a4].length:Int) then(bE (α:=Unit) ((aH [a2,a3,a4] c).bind λj=>
  dO k a0 c j k 0) (λe=>some (.error e)) λ_=>
  (ck (c+1)).bind λh=>
  c6 k a0 a2 a3 a4 n h) else(some (.ok ()))
def kV(k:Nat)(a0:ab)(a1:(List Int))(a2:(List Int))(a3:(List Int))(a4:(List Int)):Option ((Option ab)×Int×Int):=
 (nZ k a0).bind λr2=>
 if¬(r2=0) then(some (none,0,r2)) else(bE (α:=Int) (fE k a0 a1 k (0,0)) (some) λx3=>
 bE (α:=Unit) (c6 k a0 a2 a3 a4 k 0) (some) λ_=>
 (jR k a0).bind λe=>
 gX e (none) (λc=>(eV k c).bind λh=>
 some (some c,x3,0)))
theorem nf(k:Nat)(a0:ab)(a1:(List Int))(a2:(List Int))(a3:(List Int))(a4:(List Int))(r:(Option ab)×Int×Int)(h:kV k a0 a1 a2 a3 a4=some r):
 co (eC Tryz.prog) 48 [.rep ak a0,.rep Tl a1,.rep Tl a2,.rep Tl a3,.rep Tl a4] [] (λz:Nat×Nat=>(bF [L8 r.1 z.1,.eq (.int .u8 r.2.1),I r.2.2],L6 r.1 λq=>sq q z.1 z.2 k)):=by
 unfold kV at h
 replace h:=bf h
 refine co.of 95 Tryz.func48 rfl Tryz.ntmps48 rfl λS w0=>?_
 refine sr ?_
 refine bx λb1=>?_
 refine cq ?_
 refine cq ?_
 refine cq ?_
 refine nt ?_
 refine ai ?_
 refine sr ?_
 refine lo dh ?_
 obtain⟨r2,Xj,h⟩:=aa h
 have Xk:=zy k a0 r2 Xj
 refine ja (av [.tmp 22] rfl rfl V7 rfl Xk) ?_
 refine aq ?_
 refine nt ?_
 refine sr ?_
 refine mq ?_
 refine jb (dU rfl) ?_
 refine nt ?_
 refine cn h (λh=>?_) (λh=>?_)
 .
  refine sr (mq ?_);refine cq ?_;refine cq ?_;refine aq (nt (rx ?_));cases h;exact aV (0,0) [.eq (.pointer none),_,_] 0 ⟨rfl,rfl,rfl,trivial⟩ rfl
 .
  refine sk (sr (cq (nt ?_)));refine cU (Z:=Unit) (α:=Int) (λz4 x3=>[(2,.rep Tl a2),(3,.rep Tl a3),(4,.rep Tl a4),(5,Pt b1),(14,.eq (.int .u8 x3))]) (λz4 x3=>[.obj b1 25 (.rep ak a0)]) (λe=>e=r) h (λe h=>Option.some.inj h) (λK hR h=>?_) (λz4 x3 h=>?_)
  .refine sr (mq ?_);refine ol gh ?_;refine fg rfl ?_;refine nt (ah (aF (λz6 y5=>[(1,.rep Tl a1),(2,.rep Tl a2),(3,.rep Tl a3),(4,.rep Tl a4),(5,Pt b1),(14,.eq (.int .u8 y5.1)),(27,.rep Tl a1),(28,I (a1.length:Int)),(29,I y5.2)]) (λz6 y5=>[.obj b1 25 (.rep ak a0)]) (fE k a0 a1) k () (0,0) (λ_=>rfl) h (SE.fin [0] ⟨rfl,rfl,rfl,rfl,rfl,rfl,rfl,rfl,rfl,trivial⟩ rfl) (λn z6 y5 h=>?_)));unfold fE at h;refine sr (jb (bq rfl) ?_);refine nt (ai (ci h (λh=>?_) (λh=>?_)))
   .refine sk (ai (ah (sr (mq ?_))));obtain⟨x7,Xh,h⟩:=aa h;refine jb (aD (t:=Ti) rfl gh bP Xh) ?_;refine ja (an (t:=Ti) rfl bP rfl) ?_;refine aq ?_;refine aq (nt (ai (sr ?_)));refine mq ?_;refine fl eW ?_;refine lo bP ?_;obtain⟨x8,Xg,h⟩:=aa h;refine jb (eJ rfl Xg) ?_;obtain⟨r9,Xi,h⟩:=aa h;refine jc (av [.tmp 34,.const (.int .i64 (0)),.tmp 37] rfl rfl zT rfl (eh k x7 0 x8 r9 Xi)) ?_;refine ja (ff rfl) ?_;refine nt (cw h (λh=>?_) (λh=>?_))
    .refine sr (cq ?_);refine cq ?_;refine cq (nt (rx (br (aR (aP ?_)))));obtain rfl:=hR _ h;exact aV (0,0) [.eq (.pointer none),_,_] 0 ⟨rfl,rfl,rfl,trivial⟩ rfl
    .refine sk (ai (aE (Z:=Unit) (α:=Bool) (λO y=>[(1,.rep Tl a1),(2,.rep Tl a2),(3,.rep Tl a3),(4,.rep Tl a4),(5,Pt b1),(14,.eq (.int .u8 y5.1)),(16,I x7),(27,.rep Tl a1),(28,I (a1.length:Int)),(29,I y5.2),(50,.eq (.bool y))]) (λO y=>[.obj b1 25 (.rep ak a0)]) h (λK h=>?_) (λO y h=>?_)))
     .refine ae (mq ?_);refine jb (iY rfl) ?_;refine mq ?_;refine cy (s:=42) rfl (λhb=>?_) (λhb=>?_)
      .replace h:=ek (wA hb) h;refine gm ?_;refine gm ?_;refine gm ?_;obtain⟨Xn,W2,h⟩:=aa h;refine gb (eJ rfl W2) ?_;obtain⟨Xc,W1,h⟩:=aa h;refine gb (aD (t:=Ti) rfl gh bP W1) ?_;refine ga (an (t:=Ti) rfl bP rfl) ?_;refine gb (Bh rfl) ?_;refine pt (nl ?_);exact jz ((),decide (x7≤Xc)) h [0]
      .replace h:=cM (wB hb) h;iterate 7 refine gn ?_
       refine pf (nl ?_);exact jz ((),false) h [0]
     .refine cv h (λh=>?_) (λh=>?_)
      .refine sr (cq ?_);refine cq ?_;refine cq (nt (rx (br (aR (aP ?_)))));obtain rfl:=hR _ h;exact aV (0,0) [.eq (.pointer none),_,_] 0 ⟨rfl,rfl,rfl,trivial⟩ rfl
      .refine sk (ae ?_);iterate 2 refine mq ?_
       obtain⟨Y,W6,h⟩:=aa h;refine jb (av [.tmp 51,.tmp 52] rfl rfl QM rfl (lC k y5.1 x7 Y W6)) ?_;refine aq (aG (aI (tn (ae ?_))));obtain⟨Xb,W0,h⟩:=aa h;refine jb (aY rfl W0) ?_;refine mq (nl ?_);exact jz ((),(Y,Xb)) h [0]
   .refine xa ?_;exact jz ((),y5.1) h [0]
  .refine cU (Z:=Unit) (α:=Unit) (λM U=>[(5,Pt b1),(14,.eq (.int .u8 x3))]) (λM U=>[.obj b1 25 (.rep ak a0)]) (λe=>e=r) h (λe h=>Option.some.inj h) (λK hR h=>?_) (λM U h=>?_)
   .refine sr ?_;iterate 3 refine mq ?_
    refine jc (aU (t:=Tl) [(.tmp 55,_),(.tmp 56,_),(.tmp 57,_)] [a2,a3,a4] rfl rfl mh (.cons rfl .rep (.cons rfl .rep (.cons rfl .rep .nil))) rfl rfl) ?_;refine ol nq ?_;refine fg rfl ?_;refine nt (ah (aF (λJ c=>[(5,Pt b1),(14,.eq (.int .u8 x3)),(58,.rep (.slice Tl) [a2,a3,a4]),(59,I ([a2,a3,a4].length:Int)),(60,I c)]) (λJ c=>[.obj b1 25 (.rep ak a0)]) (c6 k a0 a2 a3 a4) k () 0 (λ_=>rfl) h (SE.fin [0] ⟨rfl,rfl,rfl,rfl,rfl,trivial⟩ rfl) (λn J c h=>?_)));unfold c6 at h;refine sr (jb (bq rfl) ?_);refine nt (ai (ci h (λh=>?_) (λh=>?_)))
    .refine sk (cU (Z:=Unit) (α:=Unit) (λE Q=>[(5,Pt b1),(14,.eq (.int .u8 x3)),(58,.rep (.slice Tl) [a2,a3,a4]),(59,I ([a2,a3,a4].length:Int)),(60,I c)]) (λE Q=>[.obj b1 25 (.rep ak a0)]) (λe=>e=r) h (λe h=>hR e h) (λK hR h=>?_) (λE Q h=>?_))
     .refine ah (sr (mq ?_));obtain⟨x,WZ,h⟩:=aa h;refine jb (aD (t:=Tl) rfl nq eM WZ) ?_;refine ja (an (t:=Tl) rfl eM rfl) ?_;refine aq ?_;refine aq (nt (sr ?_));refine mq ?_;refine ol gh ?_;refine fg rfl ?_;refine nt (ah (aF (λD u=>[(5,Pt b1),(14,.eq (.int .u8 x3)),(17,I c),(58,.rep (.slice Tl) [a2,a3,a4]),(59,I ([a2,a3,a4].length:Int)),(60,I c),(65,.rep Tl x),(66,I (x.length:Int)),(67,I u)]) (λD u=>[.obj b1 25 (.rep ak a0)]) (dO k a0 c x) k () 0 (λ_=>rfl) h (SE.fin [0] ⟨rfl,rfl,rfl,rfl,rfl,rfl,rfl,rfl,rfl,trivial⟩ rfl) (λn D u h=>?_)));unfold dO at h;refine sr (jb (bq rfl) ?_);refine nt (ai (ci h (λh=>?_) (λh=>?_)))
      .refine sk (ai (ah (sr ?_)));obtain⟨Xa,WY,h⟩:=aa h;refine jb (aD (t:=Ti) rfl gh bP WY) ?_;refine ja (an (t:=Ti) rfl bP rfl) ?_;refine aq (nt (sr ?_));refine mq ?_;refine fl eW ?_;refine lo bP ?_;obtain⟨Xm,zz,h⟩:=aa h;refine jb (eJ rfl zz) ?_;refine fl cu ?_;refine lo fp ?_;refine ol po ?_;obtain⟨Xl,qt,h⟩:=aa h;refine jb (eJ rfl qt) ?_;refine fl cu ?_;refine lo fp ?_;refine ol po ?_;refine jc (GM rfl Uu bP RL) ?_;refine mq ?_;obtain⟨W9,mw,h⟩:=aa h;refine jb (kT (t:=Ti) rfl Uu bP rfl rfl (λ_=>rfl) mw) ?_;obtain⟨Xe,W5,h⟩:=aa h;refine jc (av [.tmp 71,.const (.int .i64 (0)),.tmp 84] rfl rfl zT rfl (eh k Xa 0 W9 Xe W5)) ?_;refine ja (ff rfl) ?_;refine nt (cw h (λh=>?_) (λh=>?_))
       .refine sr (cq ?_);refine cq ?_;refine cq (nt (aA (br (aR (br (aR (aP ?_)))))));obtain rfl:=hR _ h;exact aV (0,0) [.eq (.pointer none),_,_] 0 ⟨rfl,rfl,rfl,trivial⟩ rfl
       .refine aX (aI (tn (ae ?_)));obtain⟨W8,mc,h⟩:=aa h;refine jb (aY rfl mc) ?_;refine mq (nl ?_);exact jz ((),W8) h [0]
      .refine dT (bv (bv (ce (bn ?_))));exact jz ((),()) h [0]
     .refine ae ?_;obtain⟨W7,gw,h⟩:=aa h;refine jb (aY rfl gw) ?_;refine mq (nl ?_);exact jz ((),W7) h [0]
    .refine xa ?_;exact jz ((),()) h [0]
   .refine sr (lo dh ?_);obtain⟨X,W4,h⟩:=aa h;have j:=o7 k a0 X W4;rcases hr:X with _ |Xf
    .rw [hr] at h j;replace h:=wE h;refine aQ (Δ:=[]) (F:=_) (λ_ _ _=>aj rfl _) rfl rfl (av [.tmp 89] rfl rfl NH rfl j) ⟨rfl,trivial⟩ λ_=>?_;cases h
    .rw [hr] at h j;replace h:=wC h;refine aQ (Δ:=[]) (F:=_) (λ_ _ _=>aj rfl _) rfl rfl (av [.tmp 89] rfl rfl NH rfl j) ⟨rfl,trivial⟩ λl=>?_;refine aq (nt (sr ?_));refine mq ?_;obtain⟨Xd,W3,h⟩:=aa h;refine fr 1 ?_;refine fr 1 ?_;refine aQ (Δ:=[_,_]) (F:=_) (λ_ _ _=>aj rfl _) rfl rfl (bo [.tmp 91] rfl rfl VB rfl (rK k Xf l.1 l.2 Xd W3)) ⟨rfl,trivial⟩ λ_=>?_;refine nt (sr ?_);iterate 2 refine mq ?_
     refine aq ?_;refine aq ?_;refine cq (nt (aA ?_));cases h;exact aV (l.1,l.2) [.eq (.pointer (some ⟨l.1,0,none⟩)),_,_] 2 ⟨rfl,rfl,rfl,trivial⟩ rfl
def kK(k:Nat)(a0:ab)(r5:(List (List Int)))(x9:Int):Nat->((List (List Int))×Int)->Option (List (List Int))
 |0,_=>none
 |n+1,c=>
  if c.2 < x9 then((aH r5 c.2).bind λj=>
  (bV (0≤a0.1/\a0.1≤5)).bind λ_=>
  (nz k (List.take (Int.toNat a0.1) j)).bind λe=>
  (bV (bh (length c.1+length [e]))).bind λ_=>
  (ck (c.2+1)).bind λh=>
  kK k a0 r5 x9 n (c.1++[e],h)) else(some c.1)
def rQ(k:Nat)(a0:ab)(a1:(List Int)):Option ((List (List Int))×Int):=
 (kV k a0 a1 ([]:(List Int)) ([]:(List Int)) ([]:(List Int))).bind λr2=>
 gX r2.1 (if¬(r2.2.2=0) then(some (([]:(List (List Int))),r2.2.2)) else(none)) (λq3=>if¬(r2.2.2=0) then(some (([]:(List (List Int))),r2.2.2)) else((lG k q3 r2.2.1).bind λr5=>
 (((ck ((a0.2.2.2.2.1.length:Int)+1)).bind λx9=>
 kK k a0 r5 x9 k (([]:(List (List Int))),0)):Option ((List (List Int)))).bind λx7=>
 some (x7,0)))
theorem xz(k:Nat)(a0:ab)(a1:(List Int))(r:(List (List Int))×Int)(h:rQ k a0 a1=some r):
 co (eC Tryz.prog) 17 [.rep ak a0,.rep Tl a1] [] (λ_:Unit=>(bF [.rep (.slice Tl) r.1,I r.2],[])):=by
 unfold rQ at h
 replace h:=bf h
 refine co.of 43 Tryz.func17 rfl Tryz.ntmps17 rfl λS w0=>?_
 refine sr ?_
 refine bx λb1=>?_
 refine cq ?_
 refine cq ?_
 refine nt ?_
 refine sr ?_
 refine lo dh ?_
 refine mq ?_
 obtain⟨r2,X,h⟩:=aa h
 have j:=nf k a0 a1 ([]:(List Int)) ([]:(List Int)) ([]:(List Int)) r2 X
 rcases hr:r2.1 with _ |q3
 .
  rw [hr] at h j;replace h:=wE h;refine aQ (Δ:=[]) (F:=_) (λ_ _ _=>aj rfl _) rfl rfl (bM (N:=[(.tmp 13,.rep ak a0),(.tmp 14,.rep Tl a1),(.const (.slice none 0 0),.eq (.slice none 0 0)),(.const (.slice none 0 0),.eq (.slice none 0 0)),(.const (.slice none 0 0),.eq (.slice none 0 0))]) (bo [.tmp 13,.tmp 14,.const (.slice none 0 0),.const (.slice none 0 0),.const (.slice none 0 0)] rfl rfl BX rfl j) λ_ _ _ hn=>⟨hn.1,hn.2.1,(aK (t:=Tl) (x:=([]:(List Int))) .nil rfl rfl hn.2.2.1),(aK (t:=Tl) (x:=([]:(List Int))) .nil rfl rfl hn.2.2.2.1),(aK (t:=Tl) (x:=([]:(List Int))) .nil rfl rfl hn.2.2.2.2.1),trivial⟩) ⟨rfl,rfl,rfl,rfl,rfl,trivial⟩ λ_=>?_;refine mq ?_;refine xr ?_;refine xr ?_;refine xr ?_;refine aq ?_;refine aq ?_;refine aq (nt (ai (sr ?_)));refine mq ?_;refine jb (dU rfl) ?_;refine nt (cn h (λh=>?_) (λh=>?_))
  .refine sr (mq ?_);refine cq ?_;refine aq (nt (rx ?_));refine bA (dS (t:=(.slice Tl)) (x:=([]:(List (List Int)))) 4 rfl .nil rfl rfl) ?_;cases h;exact rb
  .cases h
 .
  rw [hr] at h j;replace h:=wC h;refine aQ (Δ:=[]) (F:=_) (λ_ _ _=>aj rfl _) rfl rfl (bM (N:=[(.tmp 13,.rep ak a0),(.tmp 14,.rep Tl a1),(.const (.slice none 0 0),.eq (.slice none 0 0)),(.const (.slice none 0 0),.eq (.slice none 0 0)),(.const (.slice none 0 0),.eq (.slice none 0 0))]) (bo [.tmp 13,.tmp 14,.const (.slice none 0 0),.const (.slice none 0 0),.const (.slice none 0 0)] rfl rfl BX rfl j) λ_ _ _ hn=>⟨hn.1,hn.2.1,(aK (t:=Tl) (x:=([]:(List Int))) .nil rfl rfl hn.2.2.1),(aK (t:=Tl) (x:=([]:(List Int))) .nil rfl rfl hn.2.2.2.1),(aK (t:=Tl) (x:=([]:(List Int))) .nil rfl rfl hn.2.2.2.2.1),trivial⟩) ⟨rfl,rfl,rfl,rfl,rfl,trivial⟩ λz4=>?_;refine mq ?_;refine xr ?_;refine xr ?_;refine xr ?_;refine aq ?_;refine aq ?_;refine aq (nt (ai (sr ?_)));refine mq ?_;refine jb (dU rfl) ?_;refine nt (cn h (λh=>?_) (λh=>?_))
  .refine sr (mq ?_);refine cq ?_;refine aq (nt (rx ?_));refine bA (dS (t:=(.slice Tl)) (x:=([]:(List (List Int)))) 4 rfl .nil rfl rfl) ?_;cases h;exact rb
  .refine sk (sr (cq (nt (sr ?_))));iterate 2 refine mq ?_
   obtain⟨r5,U,h⟩:=aa h;refine fr 1 ?_;refine fr 1 ?_;refine aQ (Δ:=[_,_]) (F:=_) (λ_ _ _=>aj rfl _) rfl rfl (bo [.tmp 22,.tmp 23] rfl rfl En rfl (oS k q3 z4.1 z4.2 r2.2.1 r5 U)) ⟨rfl,rfl,trivial⟩ λ_=>?_;refine be rfl rfl rfl (bz rfl HJ J9) trivial λb6=>?_;refine aO rfl rfl (aL rfl Ik rfl rfl rfl) ⟨rfl,rfl,trivial⟩ ?_;refine eL (kA (t:=(.arr 7 Tr)) (x:=r5) [10] .rep ⟨rfl,trivial⟩) ?_;refine nt (aE (Z:=Value) (α:=(List (List Int))) (λz8 x7=>[(9,.eq z8)]) (λz8 x7=>[.sl z8 28 Tl x7,.inv z4.2 (bZ k q3)]) h (λK h=>?_) (λz8 x7 h=>?_))
   .refine sr (fl cu ?_);refine fr 2 ?_;refine lo fp ?_;refine ol po ?_;obtain⟨x9,Q,h⟩:=aa h;refine jb (aY rfl Q) ?_;refine fg rfl ?_;refine nt (ah (gz (SE.nil 28 Tl) ?_));refine aF (λe c=>[(2,Pt b1),(9,.eq e),(10,.at (.arr 7 Tr) r5),(28,I x9),(29,I c.2)]) (λe c=>[.obj b1 25 (.rep ak a0),.sl e 28 Tl c.1,.inv z4.2 (bZ k q3)]) (kK k a0 r5 x9) k (.slice none 0 0) (([]:(List (List Int))),0) (λ_=>rfl) h (SE.fin [1,0,3] ⟨rfl,rfl,rfl,rfl,rfl,trivial⟩ rfl) (λn e c h=>?_);unfold kK at h;refine sr (jb (bq rfl) ?_);refine nt (ai (ci h (λh=>?_) (λh=>?_)))
    .refine sk (ai (ah (sr (mq ?_))));refine aq (nt ?_);refine bB ?_;refine dm ?_;refine dm ?_;obtain⟨M,y,h⟩:=aa h;refine db (cK (t:=Tr) rfl Ku jK y) ?_;refine da (au rfl eW) ?_;refine ea 0 (ao rfl bP jI rfl) ?_;obtain⟨gw,l,h⟩:=aa h;refine db (xl (t:=Ti) rfl C9 bP (ap l).1 (ap l).2) ?_;obtain⟨s,E,h⟩:=aa h;refine da (Am (av [.tmp 37] rfl rfl VU rfl (tz k (List.take (Int.toNat a0.1) M) s E))) ?_;refine da (aU (t:=Tl) [(.tmp 38,_)] [s] rfl rfl mh (.cons rfl .rep .nil) rfl rfl) ?_;refine df cF ?_;obtain⟨Y,D,h⟩:=aa h;refine fr 1 ?_;refine cE rfl rfl rfl (bi rfl rfl mh (ap D)) ⟨rfl,rfl,trivial⟩ λO=>?_;refine aq (aG (aI (tn (ae ?_))));obtain⟨J,u,h⟩:=aa h;refine jb (aY rfl u) ?_;refine mq (nl ?_);exact jz (O,(c.1++[s],J)) h [1,0,2]
    .refine xa ?_;exact jz (e,c.1) h [1,2]
   .refine sr (mq ?_);refine aq ?_;refine cq (nt (aA ?_));refine bA (fU [4,9,42] ⟨rfl,rfl,rfl,trivial⟩) ?_;cases h;exact rb
def cO(k:Nat)(a0:ab)(a2:Int)(r1:(List (List Int))):Nat->Int->Option Bool
 |0,_=>none
 |n+1,y3=>
  if y3 < (a0.2.2.2.2.2.length:Int) then((aH a0.2.2.2.2.2 y3).bind λx5=>
  (((fD k a2 y3).bind λr9=>
  if¬(r9=true) then((aH r1 x5.2.1).bind λh=>
  (aH h x5.1).bind λe=>
  some (!decide ((decide (a0.2.2.1≤e))=x5.2.2))) else(some false)):Option (Bool)).bind λx7=>
  if x7=true then(some false) else((ck (y3+1)).bind λc=>
  cO k a0 a2 r1 n c)) else(some true)
def io(k:Nat)(a0:ab)(a1:Int)(a2:Int):Option Bool:=
 (lG k a0 a1).bind λr1=>
 cO k a0 a2 r1 k 0
theorem pU(k:Nat)(a0:ab)(c z_a0:Nat)(a1:Int)(a2:Int)(r:Bool)(h:io k a0 a1 a2=some r):
 EJ (eC Tryz.prog) 119 [Pt c,.eq (.int .u8 a1),.eq (.int .u8 a2)] [.obj c 135 (bb a0 z_a0),.inv z_a0 (bZ k a0)] (.iface 168 (.agg #[])) r:=by
 unfold io at h
 replace h:=bf h
 refine EJ.of 48 Tryz.func119 rfl Tryz.ntmps119 rfl λS w0=>?_
 refine sr ?_
 iterate 2 refine mq ?_
 obtain⟨r1,E,h⟩:=aa h
 have J:=oS k a0 c z_a0 a1 r1 E
 refine fr 1 ?_
 refine fr 1 ?_
 refine aQ (Δ:=[_,_]) (F:=_) (λ_ _ _=>aj rfl _) rfl rfl (bo [.tmp 9,.tmp 10] rfl rfl En rfl J) ⟨rfl,rfl,trivial⟩ λ_=>?_
 refine be rfl rfl rfl (bz rfl HJ J9) trivial λb2=>?_
 refine aO rfl rfl (aL rfl Ik rfl rfl rfl) ⟨rfl,rfl,trivial⟩ ?_
 refine eL (kA (t:=(.arr 7 Tr)) (x:=r1) [6] .rep ⟨rfl,trivial⟩) ?_
 refine nt ?_
 refine sr ?_
 refine mq ?_
 refine ja (cY rfl) ?_
 refine fl iP ?_
 refine fl ge ?_
 refine lo nJ ?_
 refine ol Da ?_
 refine fg rfl ?_
 refine nt ?_
 refine ah ?_
 refine aF (λz4 y3=>[(0,Pt c),(2,.eq (.int .u8 a2)),(6,.at (.arr 7 Tr) r1),(16,Rs aJ a0.2.2.2.2.2),(17,I (a0.2.2.2.2.2.length:Int)),(18,I y3)]) (λz4 y3=>[.obj c 135 (bb a0 z_a0),.inv z_a0 (bZ k a0)]) (cO k a0 a2 r1) k () 0 (λ_=>rfl) h (SE.fin [0,1] ⟨rfl,rfl,rfl,rfl,rfl,rfl,trivial⟩ rfl) (λn z4 y3 h=>?_)
 unfold cO at h
 refine sr ?_
 refine jb (bq rfl) ?_
 refine nt ?_
 refine ai ?_
 refine ci h (λh=>?_) (λh=>?_)
 .
  refine sk (ai (ah (sr (mq ?_))));obtain⟨x5,y,h⟩:=aa h;refine jb (aD (t:=aJ) rfl Da ny y) ?_;refine ja (an (t:=aJ) rfl ny rfl) ?_;refine be rfl rfl rfl (bz rfl Gg Og) trivial λb6=>?_;refine aq ?_;refine aO rfl rfl (aL rfl ny rfl rfl rfl) ⟨rfl,rfl,trivial⟩ ?_;refine nt (aE (Z:=Unit) (α:=Bool) (λz8 x7=>[(0,Pt c),(2,.eq (.int .u8 a2)),(6,.at (.arr 7 Tr) r1),(16,Rs aJ a0.2.2.2.2.2),(17,I (a0.2.2.2.2.2.length:Int)),(18,I y3),(44,.eq (.bool x7))]) (λz8 x7=>[.obj c 135 (bb a0 z_a0),.inv z_a0 (bZ k a0)]) h (λK h=>?_) (λz8 x7 h=>?_))
  .refine bB ?_;refine dm ?_;refine dm ?_;obtain⟨r9,D,h⟩:=aa h;refine db (av [.tmp 23,.tmp 24] rfl rfl JU rfl (iE k a2 y3 r9 D)) ?_;refine da (ff rfl) ?_;refine lU rfl rfl rfl (aS rfl) ⟨rfl,trivial⟩ (λhb=>?_) (λhb=>?_)
   .replace h:=ek (tN hb) h;refine bC rfl rfl rfl rfl rfl (au rfl zN) ⟨rfl,rfl,trivial⟩ ?_;refine fY 0 rfl rfl rfl rfl rfl rfl (ao rfl bP jI rfl) ⟨rfl,rfl,trivial⟩ ?_;refine bC rfl rfl rfl rfl rfl (au rfl zO) ⟨rfl,rfl,trivial⟩ ?_;refine fY 0 rfl rfl rfl rfl rfl rfl (ao rfl bP jI rfl) ⟨rfl,rfl,trivial⟩ ?_;obtain⟨M,l,h⟩:=aa h;refine bC rfl rfl rfl rfl rfl (cK (t:=Tr) rfl Ku jK l) ⟨rfl,rfl,rfl,trivial⟩ ?_;obtain⟨u,j,h⟩:=aa h;refine bC rfl rfl rfl rfl rfl (cK (t:=Ti) rfl C9 bP j) ⟨rfl,rfl,rfl,trivial⟩ ?_;refine bC rfl rfl rfl rfl rfl (an (t:=Ti) rfl bP rfl) ⟨rfl,rfl,trivial⟩ ?_;refine bC rfl rfl rfl rfl rfl (aS rfl) ⟨rfl,rfl,trivial⟩ ?_;refine bC rfl rfl rfl rfl rfl (cY rfl) ⟨rfl,rfl,trivial⟩ ?_;refine bC rfl rfl rfl rfl rfl (au rfl iP) ⟨rfl,rfl,trivial⟩ ?_;refine bC rfl rfl rfl rfl rfl (au rfl rY) ⟨rfl,rfl,trivial⟩ ?_;refine fY 1 rfl rfl rfl rfl rfl rfl (ao rfl bP jI rfl) ⟨rfl,rfl,trivial⟩ ?_;refine bC rfl rfl rfl rfl rfl (hJ rfl) ⟨rfl,rfl,rfl,trivial⟩ ?_;refine bC rfl rfl rfl rfl rfl (au rfl JP) ⟨rfl,rfl,trivial⟩ ?_;refine fY 0 rfl rfl rfl rfl rfl rfl (ao rfl Wy jI rfl) ⟨rfl,rfl,trivial⟩ ?_;refine df cF ?_;refine gb (Qk rfl U4) ?_;refine pt (nl ?_);exact jz ((), !decide ((decide (a0.2.2.1≤u))=x5.2.2)) h [1,2]
   .replace h:=cM (nW hb) h;iterate 15 refine dg ?_
    refine df cF ?_;refine gn ?_;refine pf (nl ?_);exact jz ((),false) h [1,2]
  .refine cv h (λh=>?_) (λh=>?_)
   .refine ae (cC rfl (IZ rfl Q9 RJ) trivial ?_);refine ja (IW rfl Q9) ?_;refine HA rfl rfl rfl rfl ?_;refine CU ?_;refine uu ?_;refine uu ?_;refine CU ?_;refine bA (SE.fin (Γ':=[]) [0,1] trivial rfl) ?_;cases h;exact OE
   .refine aX (aI (tn (ae ?_)));obtain⟨s,e,h⟩:=aa h;refine jb (aY rfl e) ?_;refine mq (nl ?_);exact jz ((),s) h [0,1]
 .
  refine dT (bv (bv (ce (lu ?_))));refine bA (SE.fin (Γ':=[]) [0,1] trivial rfl) ?_;cases h;exact aV () [] 2 trivial rfl
def dp(k:Nat)(a0:ab)(a1:Int)(a2:Int):Option Bool:=io k a0 a1 a2
theorem OW:Rb Tryz.prog 168 (.agg #[]):=⟨⟨_,Q9⟩,λw=>by kernel_rfl⟩
theorem JW:∀(S:FS) (w:World),(A.rep (.arr 0 Ti) []).holds S w (.agg #[]):=λ_ _=>⟨[],⟨rfl,rfl⟩,rfl⟩
theorem ON:∀w,(zeroValue 168).run Tryz.prog w= .ok (.agg #[]) w:=λw=>by kernel_rfl
theorem Py:∀S w,(A.cells S w (.rep (.arr 0 Ti) []) (Value.cells (.agg #[])).toList):=λ_ _=>⟨rfl,rfl⟩
theorem OX:eN Tryz.prog 168 0 true:=⟨λw=>by kernel_rfl,λw=>by kernel_rfl⟩
theorem Ub:ag Tryz.prog 118:=ag.of Tryz.func118 (by kernel_rfl) (by kernel_rfl)
theorem O8:ag Tryz.prog 119:=ag.of Tryz.func119 (by kernel_rfl) (by kernel_rfl)
theorem LH:eN Tryz.prog 4 1 false:=⟨λw=>by kernel_rfl,λw=>by kernel_rfl⟩
theorem UY:∀w,(zeroValue 4).run Tryz.prog w= .ok (.bool false) w:=λw=>by kernel_rfl
theorem Wh:∀S w,(A.cells S w (.eq (.bool false)) (Value.cells (.bool false)).toList):=λ_ _=>⟨rfl,rfl⟩
theorem Ci:Av Tryz.prog 118 (.iface 168 (.agg #[])) 4 (.bool false):=by
 refine⟨Ub,λM e0=>?_,λM e0=>?_⟩
 .refine mR.of (M:=M) (m:=.returning) (m1:=.returning) (val:=.nilIface) Tryz.func118 rfl rfl (by decide) rfl rfl (by decide) (λρ=>rfl) (λfr b cs hb hm=>IF hb hm rfl) (.inl rfl) λb S w0=>?_;refine ja (MA JW rfl OW) ?_;refine mq ?_;refine xr ?_;refine xr ?_;refine be rfl rfl rfl (bz rfl ON Py) trivial λb1=>?_;refine aO rfl rfl (aL rfl OX rfl rfl rfl) ⟨rfl,rfl,trivial⟩ ?_;refine aq (nt (sr ?_));refine mq (nt ?_);refine j6 rfl (λhb=>by cases hb) (λhb=>?_);refine aX (lu ?_);refine bA (SE.fin (Γ':=[]) [1] trivial rfl) ?_;exact aV () [] 1 trivial rfl
 .refine mR.of (M:=M) (m:=.panicking (iT (.iface 168 (.agg #[])) false)) (m1:=.panicking (iT (.iface 168 (.agg #[])) true)) (val:=.iface 168 (.agg #[])) Tryz.func118 rfl rfl (by decide) rfl rfl (by decide) (λρ=>rfl) (λfr b cs hb hm=>IE hb hm) (.inr ⟨_,rfl⟩) λb S w0=>?_;refine ja (Me JW rfl OW) ?_;refine mq ?_;refine xr ?_;refine xr ?_;refine be rfl rfl rfl (bz rfl ON Py) trivial λb1=>?_;refine aO rfl rfl (aL rfl OX rfl rfl rfl) ⟨rfl,rfl,trivial⟩ ?_;refine aq (nt (sr ?_));refine mq (nt ?_);refine j6 rfl (λhb=>?_) (λhb=>by cases hb);refine ae (fr 1 ?_);refine aO rfl rfl (aL rfl LH rfl rfl rfl) ⟨rfl,rfl,trivial⟩ ?_;refine aG (lu ?_);refine bA (SE.fin (Γ':=[]) [0] trivial rfl) ?_;exact aV () [] 1 trivial rfl
theorem pm(k:Nat)(a0:ab)(c z_a0:Nat)(a1:Int)(a2:Int)(r:Bool)(h:dp k a0 a1 a2=some r):
 co (eC Tryz.prog) 101 [Pt c,.eq (.int .u8 a1),.eq (.int .u8 a2)] (sq a0 c z_a0 k) (λ_:Unit=>(bF [.eq (.bool r)],sq a0 c z_a0 k)):=by
 have cr:=pU k a0 c z_a0 a1 a2 r h
 refine CY 12 Tryz.func101 rfl Tryz.ntmps101 rfl λS w0=>?_
 refine sr ?_
 refine be rfl rfl rfl (bz rfl UY Wh) trivial λb6=>?_
 refine nt ?_
 refine sr ?_
 refine ja (tJ [] [.tmp 6] [] [(Pv b6)] rfl rfl rfl) ?_
 refine KN rfl rfl rfl rfl rfl ?_
 refine nt ?_
 refine sr ?_
 iterate 3 refine mq ?_
 refine fr 2 ?_
 refine fr 2 ?_
 cases r with
 |false=>
  refine KO (Ss:=[Pt c,.eq (.int .u8 a1),.eq (.int .u8 a2)]) (Δ:=sq a0 c z_a0 k) (F:=[.obj b6 4 (.eq (.bool false))]) [.tmp 8,.tmp 9,.tmp 10] rfl rfl rfl rfl O8 ⟨rfl,rfl,rfl,trivial⟩ cr ?_;refine uu ?_;refine bA (SE.fin (Γ':=[(6,_)]) [2,0,1] ⟨rfl,trivial⟩ rfl) ?_;refine HB Ci ?_;refine bA (SE.fin (Γ':=[(6,_)]) [1,2,0] ⟨rfl,trivial⟩ rfl) ?_;exact aV () [.eq (.bool false)] 2 ⟨⟨_,_,_,_,_,rfl,(.tail _ (.tail _ (.head _))),LH,(λ_=>rfl),rfl⟩,trivial⟩ rfl
 |true=>
  refine aQ (Δ:=sq a0 c z_a0 k) (F:=[.obj b6 4 (.eq (.bool false))]) (λ_ _ _=>aj rfl _) rfl rfl (bo [.tmp 8,.tmp 9,.tmp 10] rfl rfl O8 rfl cr.ok) ⟨rfl,rfl,rfl,trivial⟩ λ_=>?_;refine nt (sr (fr 2 ?_));refine aO rfl rfl (aL rfl LH rfl rfl rfl) ⟨rfl,rfl,trivial⟩ ?_;refine nt (aA (OD Ci ?_));refine bA (SE.fin (Γ':=[(6,_)]) [1,2,0] ⟨rfl,trivial⟩ rfl) ?_;exact aV () [.eq (.bool true)] 2 ⟨⟨_,_,_,_,_,rfl,(.tail _ (.tail _ (.head _))),LH,(λ_=>rfl),rfl⟩,trivial⟩ rfl
def eS(k:Nat)(a0:ab)(a1:Int):Option (List Int):=
 (kX k (sE (λ(y5:(List Int)) (p7:Int)=>
  (dp k a0 p7 a1).bind λr9=>
  if r9=true then((bV (bh (length y5+length [p7]))).bind λ_=>
  some (y5++[p7],true)) else(some (y5,true)))) a0.1 (([]:(List Int)),false)).bind λr8=>
 if r8.2=true then(none) else(some r8.1)
theorem lJ(k:Nat)(a0:ab)(c z_a0:Nat)(a1:Int)(r:(List Int))(h:eS k a0 a1=some r):
 co (eC Tryz.prog) 68 [Pt c,.eq (.int .u8 a1)] [.obj c 135 (bb a0 z_a0),.inv z_a0 (bZ k a0)] (λ_:Unit=>(bF [.rep (.slice (.int .u8)) r],[.obj c 135 (bb a0 z_a0),.inv z_a0 (bZ k a0)])):=by
 unfold eS at h
 replace h:=bf h
 refine wX 23 Tryz.func68 rfl Tryz.ntmps68 rfl λS w0=>?_
 refine sr ?_
 refine bx λb1=>?_
 refine bx λb2=>?_
 refine cq ?_
 refine nt ?_
 refine sr ?_
 refine be rfl rfl rfl (bz rfl La Oe) trivial λb3=>?_
 refine nt ?_
 refine ai ?_
 refine sr ?_
 refine fr 2 ?_
 refine lo LG ?_
 refine ja (cY rfl) ?_
 refine fl iP ?_
 refine fl eW ?_
 refine fr 3 ?_
 refine lo bP ?_
 refine be rfl rfl rfl (av [.tmp 11] rfl rfl TJ rfl (sX a0.1)) ⟨rfl,trivial⟩ λb4=>?_
 refine nt ?_
 refine ah ?_
 refine gz (SE.nil 78 (.int .u8)) ?_
 refine dJ 6 rfl ?_
 refine dJ 6 rfl ?_
 refine dJ 2 rfl ?_
 refine dJ 6 rfl ?_
 refine dJ 6 rfl ?_
 refine dJ 6 rfl ?_
 refine dJ 6 rfl ?_
 obtain⟨r8,s,h⟩:=aa h
 refine tj (Δ:=[.obj b4 3 (I a0.1),.obj c 135 (bb a0 z_a0),.obj b1 77 (Pt c),.obj b3 92 (.eq (.slice none 0 0)),.sl (.slice none 0 0) 78 (.int .u8) ([]:(List Int)),.obj b2 78 (.eq (.int .u8 a1)),.inv z_a0 (bZ k a0)]) (F:=[]) (X:=Value) (J:=λ_=>RF r8.2) (E:=λz6=>[.obj b4 3 (I a0.1),.obj c 135 (bb a0 z_a0),.obj b1 77 (Pt c),.obj b3 92 (.eq z6),.sl z6 78 (.int .u8) r8.1,.obj b2 78 (.eq (.int .u8 a1)),.inv z_a0 (bZ k a0)]) (r0:=λ_=>.tup .any) rfl rfl Pe (λrec hp ha hb hs hpe hN hv l=>?_) (λdl z6=>vv (λhj=>?_) (λhj=>?_))
 .
  rcases rec with⟨st0,pe0,fn0,tm0,ps0,as0,bd0,df0⟩;dsimp only at hp ha hb hs hpe hN hv;subst hp hs hpe;have vN:CM tm0 [(2,Pt b1),(3,Pt b2),(5,Pt b3)]:=⟨congrArg A.eq (hv 2 _ rfl).symm,congrArg A.eq (hv 3 _ rfl).symm,congrArg A.eq (hv 5 _ rfl).symm,trivial⟩;refine co.pick (M:=(eC Tryz.prog)) [1,0,2,3,4,5,6,7] [1,0,2,3,4,5,6,7] (pV (λ(z6:Value) (q:(List Int)×Bool)=>[.raw l (.loop (lz ⟨.ready,none,fn0,tm0, #[13],as0,bd0,df0⟩ (RF q.2))),.obj c 135 (bb a0 z_a0),.obj b1 77 (Pt c),.obj b3 92 (.eq z6),.sl z6 78 (.int .u8) q.1,.obj b2 78 (.eq (.int .u8 a1)),.inv z_a0 (bZ k a0)]) l (sE (λ(y5:(List Int)) (p7:Int)=>
  (dp k a0 p7 a1).bind λr9=>
  if r9=true then((bV (bh (length y5+length [p7]))).bind λ_=>
  some (y5++[p7],true)) else(some (y5,true)))) k a0.1 b4 (λz6 q p r' h=>?_) (.slice none 0 0) (([]:(List Int)),false) r8 s) rfl (λ_=>rfl) (λ_=>rfl)
  obtain⟨rq,hq,h2,rfl⟩:=vy h;obtain⟨y5,b5⟩:=q;obtain rfl:b5=false:=hq;replace h:=bf h2;obtain⟨p7,hpv⟩:∃x,x=p:=⟨_,rfl⟩;subst hpv;refine YT.pick (R':=(λz6:Value=>(.eq (.bool rq.2),[.raw l (.loop (lz ⟨.ready,none,fn0,tm0, #[13],as0,bd0,df0⟩ (RF (!rq.2)))),.obj c 135 (bb a0 z_a0),.obj b1 77 (Pt c),.obj b3 92 (.eq z6),.sl z6 78 (.int .u8) rq.1,.obj b2 78 (.eq (.int .u8 a1)),.inv z_a0 (bZ k a0)]))) [0,1,2,3,4,5,6] [0,1,2,3,4,5,6] (Kp ha hb (N:=23) (Γ:=[(2,Pt b1),(3,Pt b2),(5,Pt b3)]) rfl hN (by decide) vN (λS w=>?_)) rfl (λ_=>rfl) (λ_=>rfl);refine ae (aq (nl ?_));refine CV rfl rfl ?_;refine ah (sr (fr 2 ?_));refine lo LG ?_;refine mq ?_;refine fr 5 ?_;refine lo py ?_;obtain⟨r9,n,h⟩:=aa h;refine fr 6 ?_;refine fr 4 ?_;refine aQ (Δ:=[_,_]) (F:=_) (λ_ _ _=>aj rfl _) rfl rfl (bo [.tmp 14,.tmp 15,.tmp 16] rfl rfl Uj rfl (pm k a0 c z_a0 p7 a1 r9 n)) ⟨rfl,rfl,rfl,trivial⟩ λ_=>?_;refine nt (cv h (λh=>?_) (λh=>?_))
  .refine ae (fr 5 ?_);refine lo yR ?_;refine mq ?_;refine ja (aU (t:=(.int .u8)) [(.tmp 19,_)] [p7] rfl rfl LS (.cons rfl .int .nil) rfl rfl) ?_;obtain⟨u,e,h⟩:=aa h;refine fr 6 ?_;refine cE rfl rfl rfl (bi rfl rfl LS (ap e)) ⟨rfl,rfl,trivial⟩ λj=>?_;refine oY λo12=>?_;refine fr 1 ?_;refine aO rfl rfl (aL rfl yR o12 rfl rfl) ⟨rfl,rfl,trivial⟩ ?_;refine aG (aI (bK 3 rfl ?_));refine bK 4 rfl ?_;refine bK 3 rfl ?_;refine bK 3 rfl ?_;refine bK 5 rfl ?_;refine bK 5 rfl ?_;refine bK 6 rfl ?_;cases h;exact qO j 6 rfl
  .refine aX (aI (bK 1 rfl ?_));refine bK 2 rfl ?_;refine bK 6 rfl ?_;refine bK 6 rfl ?_;refine bK 5 rfl ?_;refine bK 5 rfl ?_;refine bK 6 rfl ?_;cases h;exact qO z6 6 rfl
 .
  replace h:=cM (Ly hj) h;refine aI (tn (sr (fr 4 ?_)));refine lo yR ?_;refine aq (nt (aA ?_));refine bK 5 rfl ?_;refine bA (jv (off:=0) [4,22] ⟨rfl,rfl,trivial⟩ rfl rfl) ?_;refine bK 1 rfl ?_;refine FZ ?_;refine bA (SE.fin (Γ':=[(4,_)]) [2,5,0,1,3,4] ⟨rfl,trivial⟩ rfl) ?_;cases h;exact aV () [_] 2 ⟨rfl,trivial⟩ rfl
 .
  replace h:=ek (Lx hj) h;cases h
def jB(k:Nat)(a0:ab)(a1:(List Int))(a2:(List Int))(a3:(List Int)):Option ((Option ab)×(List Int)×Int):=
 (kV k a0 ([]:(List Int)) a1 a2 a3).bind λr2=>
 gX r2.1 (if¬(r2.2.2=0) then(some (none,([]:(List Int)),r2.2.2)) else(none)) (λq3=>if¬(r2.2.2=0) then(some (none,([]:(List Int)),r2.2.2)) else((eS k q3 0).bind λr5=>
 if(r5.length:Int)=0 then(some (none,([]:(List Int)),9)) else(some (some q3,r5,0))))
theorem lO(k:Nat)(a0:ab)(a1:(List Int))(a2:(List Int))(a3:(List Int))(r:(Option ab)×(List Int)×Int)(h:jB k a0 a1 a2 a3=some r):
 co (eC Tryz.prog) 60 [.rep ak a0,.rep Tl a1,.rep Tl a2,.rep Tl a3] [] (λz:Nat×Nat=>(bF [L8 r.1 z.1,.rep (.slice (.int .u8)) r.2.1,I r.2.2],L6 r.1 λq=>sq q z.1 z.2 k)):=by
 unfold jB at h
 replace h:=bf h
 refine co.of 34 Tryz.func60 rfl Tryz.ntmps60 rfl λS w0=>?_
 refine sr ?_
 refine bx λb1=>?_
 refine cq ?_
 refine cq ?_
 refine cq ?_
 refine nt ?_
 refine sr ?_
 refine lo dh ?_
 iterate 3 refine mq ?_
 obtain⟨r2,j,h⟩:=aa h
 have c:=nf k a0 ([]:(List Int)) a1 a2 a3 r2 j
 rcases hr:r2.1 with _ |q3
 .
  rw [hr] at h c;replace h:=wE h;refine aQ (Δ:=[]) (F:=_) (λ_ _ _=>aj rfl _) rfl rfl (bM (N:=[(.tmp 16,.rep ak a0),(.const (.slice none 0 0),.eq (.slice none 0 0)),(.tmp 17,.rep Tl a1),(.tmp 18,.rep Tl a2),(.tmp 19,.rep Tl a3)]) (bo [.tmp 16,.const (.slice none 0 0),.tmp 17,.tmp 18,.tmp 19] rfl rfl BX rfl c) λ_ _ _ hn=>⟨hn.1,(aK (t:=Tl) (x:=([]:(List Int))) .nil rfl rfl hn.2.1),hn.2.2.1,hn.2.2.2.1,hn.2.2.2.2.1,trivial⟩) ⟨rfl,rfl,rfl,rfl,rfl,trivial⟩ λ_=>?_;refine mq ?_;refine xr ?_;refine xr ?_;refine xr ?_;refine aq ?_;refine aq ?_;refine aq (nt (ai (sr ?_)));refine mq ?_;refine jb (dU rfl) ?_;refine nt (cn h (λh=>?_) (λh=>?_))
  .refine sr (mq ?_);refine cq ?_;refine cq ?_;refine aq (nt (rx ?_));refine bA (dS (t:=(.slice (.int .u8))) (x:=([]:(List Int))) 9 rfl .nil rfl rfl) ?_;cases h;exact aV (0,0) [.eq (.pointer none),_,_] 0 ⟨rfl,rfl,rfl,trivial⟩ rfl
  .cases h
 .
  rw [hr] at h c;replace h:=wC h;refine aQ (Δ:=[]) (F:=_) (λ_ _ _=>aj rfl _) rfl rfl (bM (N:=[(.tmp 16,.rep ak a0),(.const (.slice none 0 0),.eq (.slice none 0 0)),(.tmp 17,.rep Tl a1),(.tmp 18,.rep Tl a2),(.tmp 19,.rep Tl a3)]) (bo [.tmp 16,.const (.slice none 0 0),.tmp 17,.tmp 18,.tmp 19] rfl rfl BX rfl c) λ_ _ _ hn=>⟨hn.1,(aK (t:=Tl) (x:=([]:(List Int))) .nil rfl rfl hn.2.1),hn.2.2.1,hn.2.2.2.1,hn.2.2.2.2.1,trivial⟩) ⟨rfl,rfl,rfl,rfl,rfl,trivial⟩ λz4=>?_;refine mq ?_;refine xr ?_;refine xr ?_;refine xr ?_;refine aq ?_;refine aq ?_;refine aq (nt (ai (sr ?_)));refine mq ?_;refine jb (dU rfl) ?_;refine nt (cn h (λh=>?_) (λh=>?_))
  .refine sr (mq ?_);refine cq ?_;refine cq ?_;refine aq (nt (rx ?_));refine bA (dS (t:=(.slice (.int .u8))) (x:=([]:(List Int))) 9 rfl .nil rfl rfl) ?_;cases h;exact aV (0,0) [.eq (.pointer none),_,_] 0 ⟨rfl,rfl,rfl,trivial⟩ rfl
  .refine sk (sr (mq ?_));obtain⟨r5,e,h⟩:=aa h;refine fr 1 ?_;refine fr 1 ?_;refine aQ (Δ:=[_,_]) (F:=_) (λ_ _ _=>aj rfl _) rfl rfl (bo [.tmp 27,.const (.int .u8 (0))] rfl rfl TM rfl (lJ k q3 z4.1 z4.2 0 r5 e)) ⟨rfl,rfl,trivial⟩ λ_=>?_;refine aq (nt (ai (sr ?_)));refine mq ?_;refine ol Ak ?_;refine jb (fV rfl) ?_;refine nt (ci h (λh=>?_) (λh=>?_))
   .refine sr (cq ?_);refine cq ?_;refine cq (nt (rx ?_));refine bA (dS (t:=(.slice (.int .u8))) (x:=([]:(List Int))) 9 rfl .nil rfl rfl) ?_;cases h;exact aV (0,0) [.eq (.pointer none),_,_] 0 ⟨rfl,rfl,rfl,trivial⟩ rfl
   .refine sk (sr ?_);iterate 2 refine mq ?_
    refine aq ?_;refine aq ?_;refine cq (nt (aA ?_));cases h;exact aV (z4.1,z4.2) [.eq (.pointer (some ⟨z4.1,0,none⟩)),_,_] 2 ⟨rfl,rfl,rfl,trivial⟩ rfl
def ng(k:Nat)(a0:ab)(a1:Int)(r2:(Option ab)×(List Int)×Int)(q3:ab)(y7:(List Int)×Int):Nat->(Int×Int)->Option Int
 |0,_=>none
 |n+1,c=>
  if c.2 < (r2.2.1.length:Int) then((((aH r2.2.1 c.2).bind λr=>
  (lG k q3 r).bind λu=>
  (aH u a1).bind λl=>
  (aH l y7.2).bind λj=>
  if a0.2.2.1≤j then((ck (c.1+1)).bind λh=>
  some h) else(some c.1)):Option (Int)).bind λs=>
  (ck (c.2+1)).bind λe=>
  ng k a0 a1 r2 q3 y7 n (s,e)) else(some c.1)
def nh(k:Nat)(a0:ab)(a1:Int)(r2:(Option ab)×(List Int)×Int)(q3:ab):Nat->((List Int)×Int)->Option (List Int)
 |0,_=>none
 |n+1,y7=>
  if y7.2 < a0.1 then(((((ng k a0 a1 r2 q3 y7 k (0,0)):Option (Int)).bind λc=>
  (ck ((r2.2.1.length:Int) - c)).bind λe=>
  (bV (bh (length y7.1+length [k9 c e]))).bind λ_=>
  some (y7.1++[k9 c e])):Option ((List Int))).bind λx9=>
  (ck (y7.2+1)).bind λh=>
  nh k a0 a1 r2 q3 n (x9,h)) else(some y7.1)
def vY(k:Nat)(a0:ab)(a1:Int):Option (Int×Int×Int):=
 (jB k a0 ([]:(List Int)) ([]:(List Int)) [a1]).bind λr2=>
 gX r2.1 (if¬(r2.2.2=0) then(some (0,0,r2.2.2)) else(none)) (λq3=>if¬(r2.2.2=0) then(some (0,0,r2.2.2)) else(((nh k a0 a1 r2 q3 k (([]:(List Int)),0)):Option ((List Int))).bind λx5=>
 (jx k x5).bind λc=>
 if(r2.2.1.length:Int)≤c then(some (0,0,11)) else((ie k x5 c).bind λe=>
 some (e,c,0))))
theorem Bw(k:Nat)(a0:ab)(a1:Int)(r:Int×Int×Int)(h:vY k a0 a1=some r):
 co (eC Tryz.prog) 25 [.rep ak a0,I a1] [] (λ_:Unit=>(bF [I r.1,I r.2.1,I r.2.2],[])):=by
 unfold vY at h
 replace h:=bf h
 refine co.of 71 Tryz.func25 rfl Tryz.ntmps25 rfl λS w0=>?_
 refine sr ?_
 refine bx λb1=>?_
 refine cq ?_
 refine cq ?_
 refine cq ?_
 refine nt ?_
 refine sr ?_
 refine lo dh ?_
 refine mq ?_
 refine ja (aU (t:=Ti) [(.tmp 18,_)] [a1] rfl rfl cJ (.cons rfl .int .nil) rfl rfl) ?_
 obtain⟨r2,W5,h⟩:=aa h
 have s:=lO k a0 ([]:(List Int)) ([]:(List Int)) [a1] r2 W5
 rcases hr:r2.1 with _ |q3
 .
  rw [hr] at h s;replace h:=wE h;refine aQ (Δ:=[]) (F:=_) (λ_ _ _=>aj rfl _) rfl rfl (bM (N:=[(.tmp 17,.rep ak a0),(.const (.slice none 0 0),.eq (.slice none 0 0)),(.const (.slice none 0 0),.eq (.slice none 0 0)),(.tmp 19,.rep Tl [a1])]) (bo [.tmp 17,.const (.slice none 0 0),.const (.slice none 0 0),.tmp 19] rfl rfl BW rfl s) λ_ _ _ hn=>⟨hn.1,(aK (t:=Tl) (x:=([]:(List Int))) .nil rfl rfl hn.2.1),(aK (t:=Tl) (x:=([]:(List Int))) .nil rfl rfl hn.2.2.1),hn.2.2.2.1,trivial⟩) ⟨rfl,rfl,rfl,rfl,trivial⟩ λ_=>?_;refine mq ?_;refine xr ?_;refine xr ?_;refine xr ?_;refine aq ?_;refine aq ?_;refine aq (nt (ai (sr ?_)));refine mq ?_;refine jb (dU rfl) ?_;refine nt (cn h (λh=>?_) (λh=>?_))
  .refine sr (mq ?_);refine cq ?_;refine cq ?_;refine aq (nt (rx ?_));cases h;exact aV () [_,_,_] 0 ⟨rfl,rfl,rfl,trivial⟩ rfl
  .cases h
 .
  rw [hr] at h s;replace h:=wC h;refine aQ (Δ:=[]) (F:=_) (λ_ _ _=>aj rfl _) rfl rfl (bM (N:=[(.tmp 17,.rep ak a0),(.const (.slice none 0 0),.eq (.slice none 0 0)),(.const (.slice none 0 0),.eq (.slice none 0 0)),(.tmp 19,.rep Tl [a1])]) (bo [.tmp 17,.const (.slice none 0 0),.const (.slice none 0 0),.tmp 19] rfl rfl BW rfl s) λ_ _ _ hn=>⟨hn.1,(aK (t:=Tl) (x:=([]:(List Int))) .nil rfl rfl hn.2.1),(aK (t:=Tl) (x:=([]:(List Int))) .nil rfl rfl hn.2.2.1),hn.2.2.2.1,trivial⟩) ⟨rfl,rfl,rfl,rfl,trivial⟩ λz4=>?_;refine mq ?_;refine xr ?_;refine xr ?_;refine xr ?_;refine aq ?_;refine aq ?_;refine aq (nt (ai (sr ?_)));refine mq ?_;refine jb (dU rfl) ?_;refine nt (cn h (λh=>?_) (λh=>?_))
  .refine sr (mq ?_);refine cq ?_;refine cq ?_;refine aq (nt (rx ?_));cases h;exact aV () [_,_,_] 0 ⟨rfl,rfl,rfl,trivial⟩ rfl
  .refine sk (sr (cq (nt ?_)));refine aE (Z:=Value) (α:=(List Int)) (λz6 x5=>[(8,.rep (.slice (.int .u8)) r2.2.1),(10,.eq z6)]) (λz6 x5=>[.sl z6 3 Ti x5,.inv z4.2 (bZ k q3)]) h (λK h=>?_) (λz6 x5 h=>?_)
   .refine sr (fl eW ?_);refine fr 2 ?_;refine lo bP ?_;refine fg rfl ?_;refine nt (ah (gz (SE.nil 3 Ti) ?_));refine aF (λz8 y7=>[(1,I a1),(2,Pt b1),(7,.eq (.pointer (some ⟨z4.1,0,none⟩))),(8,.rep (.slice (.int .u8)) r2.2.1),(10,.eq z8),(28,I a0.1),(29,I y7.2)]) (λz8 y7=>[.obj b1 25 (.rep ak a0),.obj z4.1 135 (bb q3 z4.2),.sl z8 3 Ti y7.1,.inv z4.2 (bZ k q3)]) (nh k a0 a1 r2 q3) k (.slice none 0 0) (([]:(List Int)),0) (λ_=>rfl) h (SE.fin [1,2,0,3] ⟨rfl,rfl,rfl,rfl,rfl,rfl,rfl,trivial⟩ rfl) (λn z8 y7 h=>?_);unfold nh at h;refine sr (jb (bq rfl) ?_);refine nt (ai (ci h (λh=>?_) (λh=>?_)))
    .refine sk (aE (Z:=Value) (α:=(List Int)) (λe x9=>[(1,I a1),(2,Pt b1),(7,.eq (.pointer (some ⟨z4.1,0,none⟩))),(8,.rep (.slice (.int .u8)) r2.2.1),(10,.eq e),(28,I a0.1),(29,I y7.2)]) (λe x9=>[.obj b1 25 (.rep ak a0),.obj z4.1 135 (bb q3 z4.2),.sl e 3 Ti x9,.inv z4.2 (bZ k q3)]) h (λK h=>?_) (λe x9 h=>?_))
     .refine ah (sr (mq ?_));refine aq (nt (sr ?_));refine cq (nt ?_);refine aE (Z:=Unit) (α:=Int) (λE j=>[(1,I a1),(2,Pt b1),(7,.eq (.pointer (some ⟨z4.1,0,none⟩))),(8,.rep (.slice (.int .u8)) r2.2.1),(10,.eq z8),(12,I j),(28,I a0.1),(29,I y7.2)]) (λE j=>[.obj b1 25 (.rep ak a0),.obj z4.1 135 (bb q3 z4.2),.sl z8 3 Ti y7.1,.inv z4.2 (bZ k q3)]) h (λK h=>?_) (λE j h=>?_)
      .refine sr (mq ?_);refine ol Ak ?_;refine fg rfl ?_;refine nt (ah (aF (λD c=>[(1,I a1),(2,Pt b1),(7,.eq (.pointer (some ⟨z4.1,0,none⟩))),(8,.rep (.slice (.int .u8)) r2.2.1),(10,.eq z8),(11,I y7.2),(12,I c.1),(28,I a0.1),(29,I y7.2),(32,.rep (.slice (.int .u8)) r2.2.1),(33,I (r2.2.1.length:Int)),(34,I c.2)]) (λD c=>[.obj b1 25 (.rep ak a0),.obj z4.1 135 (bb q3 z4.2),.sl z8 3 Ti y7.1,.inv z4.2 (bZ k q3)]) (ng k a0 a1 r2 q3 y7) k () (0,0) (λ_=>rfl) h (SE.fin [0,1,2,3] ⟨rfl,rfl,rfl,rfl,rfl,rfl,rfl,rfl,rfl,rfl,rfl,rfl,trivial⟩ rfl) (λn D c h=>?_)));unfold ng at h;refine sr (jb (bq rfl) ?_);refine nt (ai (ci h (λh=>?_) (λh=>?_)))
       .refine sk (aE (Z:=Unit) (α:=Int) (λy l=>[(1,I a1),(2,Pt b1),(7,.eq (.pointer (some ⟨z4.1,0,none⟩))),(8,.rep (.slice (.int .u8)) r2.2.1),(10,.eq z8),(11,I y7.2),(12,I l),(28,I a0.1),(29,I y7.2),(32,.rep (.slice (.int .u8)) r2.2.1),(33,I (r2.2.1.length:Int)),(34,I c.2)]) (λy l=>[.obj b1 25 (.rep ak a0),.obj z4.1 135 (bb q3 z4.2),.sl z8 3 Ti y7.1,.inv z4.2 (bZ k q3)]) h (λK h=>?_) (λy l h=>?_))
        .refine ah (sr ?_);obtain⟨W1,gw,h⟩:=aa h;refine jb (aD (t:=(.int .u8)) rfl Ak py gw) ?_;refine ja (an (t:=(.int .u8)) rfl py rfl) ?_;refine aq (nt (ai ?_));refine bB ?_;refine dm ?_;refine dm ?_;obtain⟨W4,zz,h⟩:=aa h;refine Rt 1 3 rfl rfl (by kernel_rfl) rfl rfl rfl (bo [.tmp 38,.tmp 39] rfl rfl En rfl (oS k q3 z4.1 z4.2 W1 W4 zz)) ⟨rfl,rfl,trivial⟩ ?_;refine dm ?_;obtain⟨W7,Y,h⟩:=aa h;refine db (kT (t:=Tr) rfl Ku jK rfl rfl (mU) Y) ?_;refine dm ?_;obtain⟨W6,X,h⟩:=aa h;refine db (kT (t:=Ti) rfl C9 bP rfl rfl (λ_=>rfl) X) ?_;refine da (au rfl rY) ?_;refine ea 0 (ao rfl bP jI rfl) ?_;refine df cF ?_;refine jb (hJ rfl) ?_;refine nt (ci h (λh=>?_) (λh=>?_))
         .refine ae (mq ?_);obtain⟨W0,U,h⟩:=aa h;refine jb (aY rfl U) ?_;refine aq (aG (bn ?_));exact jz ((),W0) h [0,1,2,3]
         .refine aX (bn ?_);exact jz ((),c.1) h [0,1,2,3]
        .refine ae ?_;obtain⟨WZ,Q,h⟩:=aa h;refine jb (aY rfl Q) ?_;refine mq (nl ?_);exact jz ((),(l,WZ)) h [0,1,2,3]
       .refine xa ?_;exact jz ((),c.1) h [0,1,2,3]
      .refine ae ?_;iterate 3 refine mq ?_
       refine ol Ak ?_;refine mq ?_;obtain⟨J,O,h⟩:=aa h;refine jb (eJ rfl O) ?_;refine jb (EV rfl rfl) ?_;refine ja (aU (t:=Ti) [(.tmp 57,_)] [k9 j J] rfl rfl cJ (.cons rfl .int .nil) rfl rfl) ?_;obtain⟨W8,mc,h⟩:=aa h;refine fr 2 ?_;refine cE rfl rfl rfl (bi rfl rfl cJ (ap mc)) ⟨rfl,rfl,trivial⟩ λW2=>?_;refine aq (aG (bn ?_));exact jz (W2,y7.1++[k9 j J]) h [1,2,0,3]
     .refine ae ?_;obtain⟨WY,M,h⟩:=aa h;refine jb (aY rfl M) ?_;refine mq (nl ?_);exact jz (e,(x9,WY)) h [0,1,2,3]
    .refine xa ?_;exact jz (z8,y7.1) h [2,3]
   .refine sr (mq ?_);obtain⟨u,qt,h⟩:=aa h;refine ka (kB (N:=[(.tmp 61,.eq z6)]) (av [.tmp 61] rfl rfl TR rfl (pC k x5 u qt)) (λ_ _ _ hv hn=>⟨(lend hn.1 hv),trivial⟩) (λ_=>⟨rfl,oe⟩)) ?_;refine aq (nt (ai (sr ?_)));iterate 2 refine mq ?_
    refine ol Ak ?_;refine jb (hJ rfl) ?_;refine nt (ci h (λh=>?_) (λh=>?_))
    .refine sr (cq ?_);refine cq ?_;refine cq (nt (rx ?_));cases h;exact aV () [_,_,_] 0 ⟨rfl,rfl,rfl,trivial⟩ rfl
    .refine sk (sr ?_);iterate 2 refine mq ?_
     obtain⟨W3,mw,h⟩:=aa h;refine kb (kB (N:=[(.tmp 67,.eq z6),(.tmp 68,I u)]) (av [.tmp 67,.tmp 68] rfl rfl TP rfl (nL k x5 u W3 mw)) (λ_ _ _ hv hn=>⟨(lend hn.1 hv),hn.2.1,trivial⟩) (λ_=>⟨rfl,oe⟩)) ?_;refine mq ?_;refine aq ?_;refine aq ?_;refine cq (nt (aA ?_));cases h;exact aV () [_,_,_] 0 ⟨rfl,rfl,rfl,trivial⟩ rfl
def kL(k:Nat)(r7:(List Int)):Nat->((List (List Int))×Int)->Option (List (List Int))
 |0,_=>none
 |n+1,y8=>
  if y8.2 < (r7.length:Int) then((aH r7 y8.2).bind λh=>
  (jQ k h).bind λc=>
  (bV (bh (length y8.1+length [c]))).bind λ_=>
  (ck (y8.2+1)).bind λe=>
  kL k r7 n (y8.1++[c],e)) else(some y8.1)
def rR(k:Nat)(a0:ab):Option ((List (List Int))×Int):=
 (kV k a0 ([]:(List Int)) ([]:(List Int)) ([]:(List Int)) ([]:(List Int))).bind λr2=>
 gX r2.1 (if¬(r2.2.2=0) then(some (([]:(List (List Int))),r2.2.2)) else(none)) (λq3=>if¬(r2.2.2=0) then(some (([]:(List (List Int))),r2.2.2)) else((((eS k q3 0).bind λr7=>
 kL k r7 k (([]:(List (List Int))),0)):Option ((List (List Int)))).bind λx5=>
 some (x5,0)))
theorem xA(k:Nat)(a0:ab)(r:(List (List Int))×Int)(h:rR k a0=some r):
 co (eC Tryz.prog) 28 [.rep ak a0] [] (λ_:Unit=>(bF [.rep (.slice Tl) r.1,I r.2],[])):=by
 unfold rR at h
 replace h:=bf h
 refine co.of 33 Tryz.func28 rfl Tryz.ntmps28 rfl λS w0=>?_
 refine sr ?_
 refine bx λb1=>?_
 refine cq ?_
 refine cq ?_
 refine nt ?_
 refine sr ?_
 refine lo dh ?_
 obtain⟨r2,M,h⟩:=aa h
 have c:=nf k a0 ([]:(List Int)) ([]:(List Int)) ([]:(List Int)) ([]:(List Int)) r2 M
 rcases hr:r2.1 with _ |q3
 .
  rw [hr] at h c;replace h:=wE h;refine aQ (Δ:=[]) (F:=_) (λ_ _ _=>aj rfl _) rfl rfl (bM (N:=[(.tmp 11,.rep ak a0),(.const (.slice none 0 0),.eq (.slice none 0 0)),(.const (.slice none 0 0),.eq (.slice none 0 0)),(.const (.slice none 0 0),.eq (.slice none 0 0)),(.const (.slice none 0 0),.eq (.slice none 0 0))]) (bo [.tmp 11,.const (.slice none 0 0),.const (.slice none 0 0),.const (.slice none 0 0),.const (.slice none 0 0)] rfl rfl BX rfl c) λ_ _ _ hn=>⟨hn.1,(aK (t:=Tl) (x:=([]:(List Int))) .nil rfl rfl hn.2.1),(aK (t:=Tl) (x:=([]:(List Int))) .nil rfl rfl hn.2.2.1),(aK (t:=Tl) (x:=([]:(List Int))) .nil rfl rfl hn.2.2.2.1),(aK (t:=Tl) (x:=([]:(List Int))) .nil rfl rfl hn.2.2.2.2.1),trivial⟩) ⟨rfl,rfl,rfl,rfl,rfl,trivial⟩ λ_=>?_;refine mq ?_;refine xr ?_;refine xr ?_;refine xr ?_;refine aq ?_;refine aq ?_;refine aq (nt (ai (sr ?_)));refine mq ?_;refine jb (dU rfl) ?_;refine nt (cn h (λh=>?_) (λh=>?_))
  .refine sr (mq ?_);refine cq ?_;refine aq (nt (rx ?_));refine bA (dS (t:=(.slice Tl)) (x:=([]:(List (List Int)))) 2 rfl .nil rfl rfl) ?_;cases h;exact rb
  .cases h
 .
  rw [hr] at h c;replace h:=wC h;refine aQ (Δ:=[]) (F:=_) (λ_ _ _=>aj rfl _) rfl rfl (bM (N:=[(.tmp 11,.rep ak a0),(.const (.slice none 0 0),.eq (.slice none 0 0)),(.const (.slice none 0 0),.eq (.slice none 0 0)),(.const (.slice none 0 0),.eq (.slice none 0 0)),(.const (.slice none 0 0),.eq (.slice none 0 0))]) (bo [.tmp 11,.const (.slice none 0 0),.const (.slice none 0 0),.const (.slice none 0 0),.const (.slice none 0 0)] rfl rfl BX rfl c) λ_ _ _ hn=>⟨hn.1,(aK (t:=Tl) (x:=([]:(List Int))) .nil rfl rfl hn.2.1),(aK (t:=Tl) (x:=([]:(List Int))) .nil rfl rfl hn.2.2.1),(aK (t:=Tl) (x:=([]:(List Int))) .nil rfl rfl hn.2.2.2.1),(aK (t:=Tl) (x:=([]:(List Int))) .nil rfl rfl hn.2.2.2.2.1),trivial⟩) ⟨rfl,rfl,rfl,rfl,rfl,trivial⟩ λz4=>?_;refine mq ?_;refine xr ?_;refine xr ?_;refine xr ?_;refine aq ?_;refine aq ?_;refine aq (nt (ai (sr ?_)));refine mq ?_;refine jb (dU rfl) ?_;refine nt (cn h (λh=>?_) (λh=>?_))
  .refine sr (mq ?_);refine cq ?_;refine aq (nt (rx ?_));refine bA (dS (t:=(.slice Tl)) (x:=([]:(List (List Int)))) 2 rfl .nil rfl rfl) ?_;cases h;exact rb
  .refine sk (sr (cq (nt ?_)));refine aE (Z:=Value) (α:=(List (List Int))) (λz6 x5=>[(7,.eq z6)]) (λz6 x5=>[.sl z6 28 Tl x5,.inv z4.2 (bZ k q3)]) h (λK h=>?_) (λz6 x5 h=>?_)
   .refine sr (mq ?_);obtain⟨r7,J,h⟩:=aa h;refine fr 1 ?_;refine fr 1 ?_;refine aQ (Δ:=[_,_]) (F:=_) (λ_ _ _=>aj rfl _) rfl rfl (bo [.tmp 19,.const (.int .u8 (0))] rfl rfl TM rfl (lJ k q3 z4.1 z4.2 0 r7 J)) ⟨rfl,rfl,trivial⟩ λ_=>?_;refine ol Ak ?_;refine fg rfl ?_;refine nt (ah (gz (SE.nil 28 Tl) ?_));refine aF (λz9 y8=>[(7,.eq z9),(20,.rep (.slice (.int .u8)) r7),(21,I (r7.length:Int)),(22,I y8.2)]) (λz9 y8=>[.sl z9 28 Tl y8.1,.inv z4.2 (bZ k q3)]) (kL k r7) k (.slice none 0 0) (([]:(List (List Int))),0) (λ_=>rfl) h (SE.fin [0,2] ⟨rfl,rfl,rfl,rfl,trivial⟩ rfl) (λn z9 y8 h=>?_);unfold kL at h;refine sr (jb (bq rfl) ?_);refine nt (ai (ci h (λh=>?_) (λh=>?_)))
    .refine sk (ai (ah (sr ?_)));obtain⟨D,l,h⟩:=aa h;refine jb (aD (t:=(.int .u8)) rfl Ak py l) ?_;refine ja (an (t:=(.int .u8)) rfl py rfl) ?_;refine aq (nt (ae ?_));iterate 2 refine mq ?_
     obtain⟨e,u,h⟩:=aa h;refine ja (av [.tmp 27] rfl rfl QN rfl (lD k D e u)) ?_;refine ja (aU (t:=Tl) [(.tmp 28,_)] [e] rfl rfl mh (.cons rfl .rep .nil) rfl rfl) ?_;obtain⟨O,s,h⟩:=aa h;refine cE rfl rfl rfl (bi rfl rfl mh (ap s)) ⟨rfl,rfl,trivial⟩ λE=>?_;refine aq (aG (aI (tn (ae ?_))));obtain⟨y,j,h⟩:=aa h;refine jb (aY rfl j) ?_;refine mq (nl ?_);exact jz (E,(y8.1++[e],y)) h [0,1]
    .refine xa ?_;exact jz (z9,y8.1) h [0,1]
   .refine sr (mq ?_);refine aq ?_;refine cq (nt (aA ?_));refine bA (fU [2,7,32] ⟨rfl,rfl,rfl,trivial⟩) ?_;cases h;exact rb
def dY(k:Nat)(a2:Int)(r1:(List (List Int)))(x5:Int):Nat->Int->Option (Except Int Unit)
 |0,_=>none
 |n+1,y6=>
  if y6 < x5 then((aH r1 y6).bind λx8=>
  (aH x8 a2).bind λx9=>
  if 0≤x9 then(some (.error y6)) else((ck (y6+1)).bind λc=>
  dY k a2 r1 x5 n c)) else(some (.ok ()))
def fo(k:Nat)(a0:ab)(a1:Int)(a2:Int):Option Int:=
 (lG k a0 a1).bind λr1=>
 bE (α:=Unit) ((ck ((a0.2.2.2.2.1.length:Int)+1)).bind λx5=>
 dY k a2 r1 x5 k 0) (some) λ_=>
 some (-1:Int)
theorem mA(k:Nat)(a0:ab)(c z_a0:Nat)(a1:Int)(a2:Int)(r:Int)(h:fo k a0 a1 a2=some r):
 co (eC Tryz.prog) 74 [Pt c,.eq (.int .u8 a1),I a2] [.obj c 135 (bb a0 z_a0),.inv z_a0 (bZ k a0)] (λ_:Unit=>(bF [I r],[.obj c 135 (bb a0 z_a0),.inv z_a0 (bZ k a0)])):=by
 unfold fo at h
 replace h:=bf h
 refine co.of 30 Tryz.func74 rfl Tryz.ntmps74 rfl λS w0=>?_
 refine sr ?_
 refine cq ?_
 refine nt ?_
 refine sr ?_
 iterate 2 refine mq ?_
 obtain⟨r1,D,h⟩:=aa h
 have E:=oS k a0 c z_a0 a1 r1 D
 refine fr 1 ?_
 refine fr 1 ?_
 refine aQ (Δ:=[_,_]) (F:=_) (λ_ _ _=>aj rfl _) rfl rfl (bo [.tmp 9,.tmp 10] rfl rfl En rfl E) ⟨rfl,rfl,trivial⟩ λ_=>?_
 refine be rfl rfl rfl (bz rfl HJ J9) trivial λb2=>?_
 refine aO rfl rfl (aL rfl Ik rfl rfl rfl) ⟨rfl,rfl,trivial⟩ ?_
 refine eL (kA (t:=(.arr 7 Tr)) (x:=r1) [7] .rep ⟨rfl,trivial⟩) ?_
 refine nt ?_
 refine cU (Z:=Unit) (α:=Unit) (λz4 x3=>[]) (λz4 x3=>[.obj c 135 (bb a0 z_a0),.inv z_a0 (bZ k a0)]) (λe=>e=r) h (λe h=>Option.some.inj h) (λK hR h=>?_) (λz4 x3 h=>?_)
 .
  refine sr (mq ?_);refine ja (cY rfl) ?_;refine fl iP ?_;refine fl cu ?_;refine lo fp ?_;refine ol po ?_;obtain⟨x5,y,h⟩:=aa h;refine jb (aY rfl y) ?_;refine fg rfl ?_;refine nt (ah (aF (λz7 y6=>[(2,I a2),(7,.at (.arr 7 Tr) r1),(18,I x5),(19,I y6)]) (λz7 y6=>[.obj c 135 (bb a0 z_a0),.inv z_a0 (bZ k a0)]) (dY k a2 r1 x5) k () 0 (λ_=>rfl) h (SE.fin [0,1] ⟨rfl,rfl,rfl,rfl,trivial⟩ rfl) (λn z7 y6 h=>?_)));unfold dY at h;refine sr (jb (bq rfl) ?_);refine nt (ai (ci h (λh=>?_) (λh=>?_)))
  .refine sk (ai (ah (sr (mq ?_))));refine aq (nt (sr ?_));iterate 2 refine mq ?_
   obtain⟨x8,u,h⟩:=aa h;refine jb (cK (t:=Tr) rfl Ku jK u) ?_;obtain⟨x9,s,h⟩:=aa h;refine jb (cK (t:=Ti) rfl C9 bP s) ?_;refine ja (an (t:=Ti) rfl bP rfl) ?_;refine jb (hJ rfl) ?_;refine nt (ci h (λh=>?_) (λh=>?_))
   .refine sr (mq ?_);refine aq (nt (aA (br (aR (aP ?_)))));obtain rfl:=hR _ h;exact aV () [_] 2 ⟨rfl,trivial⟩ rfl
   .refine aX (aI (tn (ae ?_)));obtain⟨l,j,h⟩:=aa h;refine jb (aY rfl j) ?_;refine mq (nl ?_);exact jz ((),l) h [0,1]
  .refine xa ?_;exact jz ((),()) h [0,1]
 .
  refine sr (cq (nt (aA ?_)));cases h;exact aV () [_] 2 ⟨rfl,trivial⟩ rfl
def ip(k:Nat)(r2:(List (List Int)))(y6:Int×Int×(List (fh×fh))):Nat->Int->Option Int
 |0,_=>none
 |n+1,c=>
  ((if 0 < c then((ck (c - 1)).bind λl=>
  (aH r2 l).bind λj=>
  (aH j y6.1).bind λh=>
  some (decide (0≤h))) else(some false)):Option (Bool)).bind λr=>
  if r=true then((ck (c - 1)).bind λe=>
  ip k r2 y6 n e) else(some c)
def iq(k:Nat)(a0:ab)(r2:(List (List Int))):Nat->(Int×Int×(List (fh×fh)))->Option (List (eK×eK))
 |0,_=>none
 |n+1,y6=>
  bE (α:=Int×Int×(List (fh×fh))) (((ip k r2 y6 k y6.2.1):Option (Int)).bind λc=>
  if c=0 then((bV (AU (y6.1,y6.2.1))).bind λ_=>
  some (.error (D6 y6.2.2 (y6.1,y6.2.1) ((-1:Int),0)))) else((ck (c - 1)).bind λr=>
  (aH r2 r).bind λl=>
  (ck (c - 1)).bind λj=>
  (dH k a0 l y6.1 j).bind λh=>
  (ck (c - 1)).bind λe=>
  (bV (AU (y6.1,y6.2.1))).bind λ_=>
  some (.ok (h,e,D6 y6.2.2 (y6.1,y6.2.1) (h,e))))) (some) λx8=>
  iq k a0 r2 n (x8.1,x8.2.1,x8.2.2)
def mE(k:Nat)(a0:ab)(a1:Int)(a2:eK):Option (List (eK×eK)):=
 (lG k a0 a1).bind λr2=>
 iq k a0 r2 k (a2.1,a2.2,([]:List (fh×fh)))
theorem sW(k:Nat)(a0:ab)(c z_a0:Nat)(a1:Int)(a2:eK)(r:(List (eK×eK)))(h:mE k a0 a1 a2=some r):
 co (eC Tryz.prog) 79 [Pt c,.eq (.int .u8 a1),.rep bu a2] [.obj c 135 (bb a0 z_a0),.inv z_a0 (bZ k a0)] (λz:Nat=>(bF [.eq (.map (some z))],[.inv z (uL r),.obj c 135 (bb a0 z_a0),.inv z_a0 (bZ k a0)])):=by
 unfold mE at h
 replace h:=bf h
 refine co.of 56 Tryz.func79 rfl Tryz.ntmps79 rfl λS w0=>?_
 refine sr ?_
 refine bx λb1=>?_
 refine cq ?_
 refine nt ?_
 refine sr ?_
 iterate 2 refine mq ?_
 obtain⟨r2,Xi,h⟩:=aa h
 have Xj:=oS k a0 c z_a0 a1 r2 Xi
 refine fr 2 ?_
 refine fr 2 ?_
 refine aQ (Δ:=[_,_]) (F:=_) (λ_ _ _=>aj rfl _) rfl rfl (bo [.tmp 12,.tmp 13] rfl rfl En rfl Xj) ⟨rfl,rfl,trivial⟩ λ_=>?_
 refine be rfl rfl rfl (bz rfl HJ J9) trivial λb3=>?_
 refine aO rfl rfl (aL rfl Ik rfl rfl rfl) ⟨rfl,rfl,trivial⟩ ?_
 refine eL (kA (t:=(.arr 7 Tr)) (x:=r2) [7] .rep ⟨rfl,trivial⟩) ?_
 refine nt ?_
 refine sr ?_
 refine be rfl rfl rfl (xZ rfl) trivial λz4=>?_
 refine eL (uq (uL []) LD) ?_
 refine aq ?_
 refine nt ?_
 refine sr ?_
 refine be rfl rfl rfl (bz rfl uw CH) trivial λb5=>?_
 refine nt ?_
 refine sr ?_
 refine fl zP ?_
 refine aO rfl rfl (aL rfl bP rfl rfl rfl) ⟨rfl,rfl,trivial⟩ ?_
 refine nt ?_
 refine ah ?_
 refine dJ 4 rfl ?_
 refine gz (fX (a:=.rep bu a2) (a':=.agg (.pair (I a2.1) (I a2.2))) (AE.trans Gf (AE.agg (AE.trans CZ (AE.pair AE.int AE.int))))) ?_
 refine aF (λz7 y6=>[(0,Pt c),(5,Pt b1),(7,.at (.arr 7 Tr) r2),(8,.eq (.map (some z4))),(9,Pt b5)]) (λz7 y6=>[.obj c 135 (bb a0 z_a0),.obj b1 110 (.agg (.pair (I y6.1) (I y6.2.1))),.obj b5 110 (.agg (.pair (I (-1:Int)) (I 0))),.inv z_a0 (bZ k a0),.inv z4 (uL y6.2.2)]) (iq k a0 r2) k () (a2.1,a2.2,([]:List (fh×fh))) (λ_=>rfl) h (SE.fin [3,0,1,4,2] ⟨rfl,rfl,rfl,rfl,rfl,trivial⟩ rfl) (λn z7 y6 h=>?_)
 unfold iq at h
 refine KR (Z:=Unit) (α:=Int×Int×(List (fh×fh))) (λz9 x8=>[(0,Pt c),(5,Pt b1),(7,.at (.arr 7 Tr) r2),(8,.eq (.map (some z4))),(9,Pt b5)]) (λz9 x8=>[.obj c 135 (bb a0 z_a0),.obj b1 110 (.agg (.pair (I x8.1) (I x8.2.1))),.obj b5 110 (.agg (.pair (I (-1:Int)) (I 0))),.inv z_a0 (bZ k a0),.inv z4 (uL x8.2.2)]) (λe=>e=r) h (λe h=>Option.some.inj h) (λK hR h=>?_) (λz9 x8 h=>?_)
 .
  refine ah (sr (fl NE ?_));refine fr 1 ?_;refine lo bP ?_;refine aq (nt ?_);refine aE (Z:=Unit) (α:=Int) (λO D=>[(0,Pt c),(5,Pt b1),(7,.at (.arr 7 Tr) r2),(8,.eq (.map (some z4))),(9,Pt b5),(10,I D)]) (λO D=>[.obj c 135 (bb a0 z_a0),.obj b1 110 (.agg (.pair (I y6.1) (I y6.2.1))),.obj b5 110 (.agg (.pair (I (-1:Int)) (I 0))),.inv z_a0 (bZ k a0),.inv z4 (uL y6.2.2)]) h (λK h=>?_) (λO D h=>?_)
  .refine ah (aF (λM s=>[(0,Pt c),(5,Pt b1),(7,.at (.arr 7 Tr) r2),(8,.eq (.map (some z4))),(9,Pt b5),(10,I s)]) (λM s=>[.obj c 135 (bb a0 z_a0),.obj b1 110 (.agg (.pair (I y6.1) (I y6.2.1))),.obj b5 110 (.agg (.pair (I (-1:Int)) (I 0))),.inv z_a0 (bZ k a0),.inv z4 (uL y6.2.2)]) (ip k r2 y6) k () y6.2.1 (λ_=>rfl) h (SE.fin [1,0,2,3,4] ⟨rfl,rfl,rfl,rfl,rfl,rfl,trivial⟩ rfl) (λn M s h=>?_));unfold ip at h;refine ai (aE (Z:=Unit) (α:=Bool) (λJ y=>[(0,Pt c),(5,Pt b1),(7,.at (.arr 7 Tr) r2),(8,.eq (.map (some z4))),(9,Pt b5),(10,I s),(30,.eq (.bool y))]) (λJ y=>[.obj c 135 (bb a0 z_a0),.obj b1 110 (.agg (.pair (I y6.1) (I y6.2.1))),.obj b5 110 (.agg (.pair (I (-1:Int)) (I 0))),.inv z_a0 (bZ k a0),.inv z4 (uL y6.2.2)]) h (λK h=>?_) (λJ y h=>?_))
   .refine bB ?_;refine dm ?_;refine db (iY rfl) ?_;refine lU rfl rfl rfl (aS rfl) ⟨rfl,trivial⟩ (λhb=>?_) (λhb=>?_)
    .replace h:=ek (wA hb) h;refine bC rfl rfl rfl rfl rfl (aS rfl) ⟨rfl,rfl,trivial⟩ ?_;obtain⟨Xr,W1,h⟩:=aa h;refine bC rfl rfl rfl rfl rfl (eJ rfl W1) ⟨rfl,rfl,rfl,trivial⟩ ?_;refine bC rfl rfl rfl rfl rfl (au rfl zP) ⟨rfl,rfl,trivial⟩ ?_;refine fY 1 rfl rfl rfl rfl rfl rfl (ao rfl bP jI rfl) ⟨rfl,rfl,trivial⟩ ?_;obtain⟨Xq,W0,h⟩:=aa h;refine bC rfl rfl rfl rfl rfl (cK (t:=Tr) rfl Ku jK W0) ⟨rfl,rfl,rfl,trivial⟩ ?_;refine df cF ?_;obtain⟨W8,WZ,h⟩:=aa h;refine gb (cK (t:=Ti) rfl C9 bP WZ) ?_;refine ga (an (t:=Ti) rfl bP rfl) ?_;refine gb (hJ rfl) ?_;refine pt (nl ?_);exact jz ((),decide (0≤W8)) h [0,1,2,3,4]
    .replace h:=cM (wB hb) h;iterate 5 refine dg ?_
     refine df cF ?_;iterate 3 refine gn ?_
     refine pf (nl ?_);exact jz ((),false) h [0,1,2,3,4]
   .refine cv h (λh=>?_) (λh=>?_)
    .refine sk (ah (ae (mq ?_)));obtain⟨W7,WY,h⟩:=aa h;refine jb (eJ rfl WY) ?_;refine aq (aG (bn ?_));exact jz ((),W7) h [0,1,2,3,4]
    .refine xa ?_;exact jz ((),s) h [0,1,2,3,4]
  .refine ai (sr (mq ?_));refine jb (fV rfl) ?_;refine nt (ci h (λh=>?_) (λh=>?_))
   .refine sr (mq ?_);refine fr 1 ?_;refine lo kP ?_;refine fr 2 ?_;refine lo kP ?_;refine eL (dS (t:=bu) (x:=(y6.1,y6.2.1)) 36 rfl (.agg (.pair .int .int)) trivial rfl) ?_;obtain⟨XG,W3,h⟩:=aa h;refine eL (dS (t:=bu) (x:=((-1:Int),0)) 37 rfl (.agg (.pair .int .int)) trivial rfl) ?_;refine fr 4 ?_;refine aO rfl rfl (sO (K:=me) (V:=me) (t:=(y6.1,y6.2.1)) (n:=((-1:Int),0)) (l:=y6.2.2) (λ_ _ _ h=>oz h) rfl Hr nI (λ_ _ _ h=>oz h) (sC (ap W3)) (sB _) sD) ⟨rfl,rfl,rfl,trivial⟩ ?_;refine nt (sr (mq ?_));refine aq (nt (rx (br (aR ?_))));refine bA (SE.fin (Γ':=[(6,_)]) [0,3,4,1,2] ⟨rfl,trivial⟩ rfl) ?_;obtain rfl:=hR _ h;exact aV z4 [.eq (.map (some z4))] 3 ⟨rfl,trivial⟩ rfl
   .refine sk (ai (ot ?_));refine bj rfl rfl rfl (aS rfl) ⟨rfl,trivial⟩ ?_;refine bj rfl rfl rfl (aS rfl) ⟨rfl,trivial⟩ ?_;obtain⟨Xp,zz,h⟩:=aa h;refine bj rfl rfl rfl (eJ rfl zz) ⟨rfl,rfl,trivial⟩ ?_;obtain⟨W6,qt,h⟩:=aa h;refine bj rfl rfl rfl (cK (t:=Tr) rfl Ku jK qt) ⟨rfl,rfl,trivial⟩ ?_;refine bj rfl rfl rfl (an (t:=Tr) rfl jK rfl) ⟨rfl,trivial⟩ ?_;refine bj rfl rfl rfl (au rfl zP) ⟨rfl,trivial⟩ ?_;refine iK 1 rfl rfl rfl rfl (ao rfl bP jI rfl) ⟨rfl,trivial⟩ ?_;refine bj rfl rfl rfl (aS rfl) ⟨rfl,trivial⟩ ?_;obtain⟨W5,mw,h⟩:=aa h;refine bj rfl rfl rfl (eJ rfl mw) ⟨rfl,rfl,trivial⟩ ?_;obtain⟨j,W4,h⟩:=aa h;refine iK 0 rfl rfl rfl rfl (av [.tmp 39,.tmp 43,.tmp 45,.tmp 47] rfl rfl Pg rfl (pj k a0 c z_a0 W6 y6.1 W5 j W4)) ⟨rfl,rfl,rfl,rfl,trivial⟩ ?_;refine bj rfl rfl rfl (aS rfl) ⟨rfl,trivial⟩ ?_;obtain⟨u,mc,h⟩:=aa h;refine bj rfl rfl rfl (eJ rfl mc) ⟨rfl,rfl,trivial⟩ ?_;refine bj rfl rfl rfl (dA [(0,.tmp 48,_),(1,.tmp 50,_)] rfl IP uw Ez (iV ⟨rfl,rfl,trivial⟩) rfl) ⟨rfl,rfl,trivial⟩ ?_;refine As (IM 110 (.agg (.pair (I 0) (I 0)))) (λ_=>rfl) rfl rfl rfl (bz rfl uw CH) trivial ?_;refine sj 14 [true,true,true,true,true,true,true,true,true,true,true,true,true,true] [] [] [] rfl (by kernel_rfl) (by kernel_rfl) (by kernel_rfl) cF (λvs hv hB=>?_);obtain⟨w0,XE,rfl,Xh⟩:=ax hv;obtain⟨w1,XD,rfl,Xg⟩:=ax Xh;obtain⟨w2,XC,rfl,Xf⟩:=ax Xg;obtain⟨w3,XB,rfl,Xe⟩:=ax Xf;obtain⟨w4,XA,rfl,Xd⟩:=ax Xe;obtain⟨w5,Xz,rfl,Xc⟩:=ax Xd;obtain⟨w6,Xy,rfl,Xb⟩:=ax Xc;obtain⟨w7,Xx,rfl,Xa⟩:=ax Xb;obtain⟨w8,Xw,rfl,W9⟩:=ax Xa;obtain⟨w9,Xo,rfl,gw⟩:=ax W9;obtain⟨Xv,Xn,rfl,Y⟩:=ax gw;obtain⟨Xu,Xm,rfl,X⟩:=ax Y;obtain⟨Xt,Xl,rfl,U⟩:=ax X;obtain⟨Xs,Xk,rfl,Q⟩:=ax U;obtain rfl:=oO Q;obtain⟨E,rfl⟩:=DI hB.2.2.2.2.2.2.2.2.2.2.2.2.2.1;refine⟨[0,1,2,3,4,5],[.obj c 135 (bb a0 z_a0),.obj b1 110 (.agg (.pair (I y6.1) (I y6.2.1))),.obj b5 110 (.agg (.pair (I (-1:Int)) (I 0))),.inv z_a0 (bZ k a0),.inv z4 (uL y6.2.2),.obj E 110 (.agg (.pair (I 0) (I 0)))],by kernel_rfl,by decide,?_⟩;refine oq 5 rfl ?_;refine qm rfl rfl (aL rfl kP trivial rfl rfl) ⟨rfl,rfl,trivial⟩ (by kernel_rfl) ?_;refine ut ?_;refine bA (SE.fin (Γ':=[(0,Pt c),(5,Pt b1),(7,.at (.arr 7 Tr) r2),(8,.eq (.map (some z4))),(9,Pt b5),(11,Pt E)]) (Δ':=[.obj E 110 (.agg (.pair (I j) (I u))),.obj c 135 (bb a0 z_a0),.obj b1 110 (.agg (.pair (I y6.1) (I y6.2.1))),.obj b5 110 (.agg (.pair (I (-1:Int)) (I 0))),.inv z_a0 (bZ k a0),.inv z4 (uL y6.2.2)]) [0,1,2,3,4,5] ⟨rfl,rfl,rfl,rfl,rfl,rfl,trivial⟩ rfl) ?_;refine tn (sr (mq ?_));refine fr 2 ?_;refine lo kP ?_;refine fr 1 ?_;refine lo kP ?_;refine eL (dS (t:=bu) (x:=(y6.1,y6.2.1)) 53 rfl (.agg (.pair .int .int)) trivial rfl) ?_;obtain⟨XF,W2,h⟩:=aa h;refine eL (dS (t:=bu) (x:=(j,u)) 54 rfl (.agg (.pair .int .int)) trivial rfl) ?_;refine fr 5 ?_;refine aO rfl rfl (sO (K:=me) (V:=me) (t:=(y6.1,y6.2.1)) (n:=(j,u)) (l:=y6.2.2) (λ_ _ _ h=>oz h) rfl Hr nI (λ_ _ _ h=>oz h) (sC (ap W2)) (sB _) sD) ⟨rfl,rfl,rfl,trivial⟩ ?_
    refine nt (ae (fr 1 ?_));refine lo kP ?_;refine fr 2 ?_;refine aO rfl rfl (aL rfl kP trivial rfl rfl) ⟨rfl,rfl,trivial⟩ ?_;refine aG (bn ?_);exact jz ((),(j,u,D6 y6.2.2 (y6.1,y6.2.1) (j,u))) h [3,0,4,5,2]
 .
  refine ay ?_;exact jz ((),(x8.1,x8.2.1,x8.2.2)) h [0,1,2,3,4]
def lQ(k:Nat)(r7:(List (eK×eK))):Nat->(Int×Int×(List Int))->Option (List Int)
 |0,_=>none
 |n+1,c=>
  (bV (AU (c.1,c.2.1))).bind λ_=>
  if¬((oN r7 (c.1,c.2.1) (0,0))=((-1:Int),0)) then((bV (AU (c.1,c.2.1))).bind λ_=>
  (bV (bh (length c.2.2+length [(oN r7 (c.1,c.2.1) (0,0)).1]))).bind λ_=>
  (bV (AU (c.1,c.2.1))).bind λ_=>
  lQ k r7 n ((oN r7 (c.1,c.2.1) (0,0)).1,(oN r7 (c.1,c.2.1) (0,0)).2,c.2.2++[(oN r7 (c.1,c.2.1) (0,0)).1])) else(some c.2.2)
def tZ(k:Nat)(a0:ab)(a1:(List Int))(a2:Int):Option ((List Int)×Int):=
 (kV k a0 a1 [a2] ([]:(List Int)) ([]:(List Int))).bind λr2=>
 gX r2.1 (if¬(r2.2.2=0) then(some (([]:(List Int)),r2.2.2)) else(none)) (λq3=>if¬(r2.2.2=0) then(some (([]:(List Int)),r2.2.2)) else((fo k q3 r2.2.1 a2).bind λr5=>
 if r5 < 0 then(some (([]:(List Int)),11)) else((mE k q3 r2.2.1 (a2,r5)).bind λr7=>
 ((lQ k r7 k (a2,r5,[a2])):Option ((List Int))).bind λc=>
 (lx k c).bind λe=>
 some (e,0))))
theorem zA(k:Nat)(a0:ab)(a1:(List Int))(a2:Int)(r:(List Int)×Int)(h:tZ k a0 a1 a2=some r):
 co (eC Tryz.prog) 38 [.rep ak a0,.rep Tl a1,I a2] [] (λ_:Unit=>(bF [.rep Tl r.1,I r.2],[])):=by
 unfold tZ at h
 replace h:=bf h
 refine co.of 64 Tryz.func38 rfl Tryz.ntmps38 rfl λS w0=>?_
 refine sr ?_
 refine bx λb1=>?_
 refine cq ?_
 refine cq ?_
 refine nt ?_
 refine sr ?_
 refine lo dh ?_
 iterate 2 refine mq ?_
 refine ja (aU (t:=Ti) [(.tmp 19,_)] [a2] rfl rfl cJ (.cons rfl .int .nil) rfl rfl) ?_
 obtain⟨r2,Y,h⟩:=aa h
 have u:=nf k a0 a1 [a2] ([]:(List Int)) ([]:(List Int)) r2 Y
 rcases hr:r2.1 with _ |q3
 .
  rw [hr] at h u;replace h:=wE h;refine aQ (Δ:=[]) (F:=_) (λ_ _ _=>aj rfl _) rfl rfl (bM (N:=[(.tmp 17,.rep ak a0),(.tmp 18,.rep Tl a1),(.tmp 20,.rep Tl [a2]),(.const (.slice none 0 0),.eq (.slice none 0 0)),(.const (.slice none 0 0),.eq (.slice none 0 0))]) (bo [.tmp 17,.tmp 18,.tmp 20,.const (.slice none 0 0),.const (.slice none 0 0)] rfl rfl BX rfl u) λ_ _ _ hn=>⟨hn.1,hn.2.1,hn.2.2.1,(aK (t:=Tl) (x:=([]:(List Int))) .nil rfl rfl hn.2.2.2.1),(aK (t:=Tl) (x:=([]:(List Int))) .nil rfl rfl hn.2.2.2.2.1),trivial⟩) ⟨rfl,rfl,rfl,rfl,rfl,trivial⟩ λ_=>?_;refine mq ?_;refine xr ?_;refine xr ?_;refine xr ?_;refine aq ?_;refine aq ?_;refine aq (nt (ai (sr ?_)));refine mq ?_;refine jb (dU rfl) ?_;refine nt (cn h (λh=>?_) (λh=>?_))
  .refine sr (mq ?_);refine cq ?_;refine aq (nt (rx ?_));refine bA (dS (t:=Tl) (x:=([]:(List Int))) 6 rfl .nil rfl rfl) ?_;cases h;exact rb
  .cases h
 .
  rw [hr] at h u;replace h:=wC h;refine aQ (Δ:=[]) (F:=_) (λ_ _ _=>aj rfl _) rfl rfl (bM (N:=[(.tmp 17,.rep ak a0),(.tmp 18,.rep Tl a1),(.tmp 20,.rep Tl [a2]),(.const (.slice none 0 0),.eq (.slice none 0 0)),(.const (.slice none 0 0),.eq (.slice none 0 0))]) (bo [.tmp 17,.tmp 18,.tmp 20,.const (.slice none 0 0),.const (.slice none 0 0)] rfl rfl BX rfl u) λ_ _ _ hn=>⟨hn.1,hn.2.1,hn.2.2.1,(aK (t:=Tl) (x:=([]:(List Int))) .nil rfl rfl hn.2.2.2.1),(aK (t:=Tl) (x:=([]:(List Int))) .nil rfl rfl hn.2.2.2.2.1),trivial⟩) ⟨rfl,rfl,rfl,rfl,rfl,trivial⟩ λz4=>?_;refine mq ?_;refine xr ?_;refine xr ?_;refine xr ?_;refine aq ?_;refine aq ?_;refine aq (nt (ai (sr ?_)));refine mq ?_;refine jb (dU rfl) ?_;refine nt (cn h (λh=>?_) (λh=>?_))
  .refine sr (mq ?_);refine cq ?_;refine aq (nt (rx ?_));refine bA (dS (t:=Tl) (x:=([]:(List Int))) 6 rfl .nil rfl rfl) ?_;cases h;exact rb
  .refine sk (sr ?_);iterate 3 refine mq ?_
   obtain⟨r5,X,h⟩:=aa h;refine fr 1 ?_;refine fr 1 ?_;refine aQ (Δ:=[_,_]) (F:=_) (λ_ _ _=>aj rfl _) rfl rfl (bo [.tmp 28,.tmp 29,.tmp 30] rfl rfl TL rfl (mA k q3 z4.1 z4.2 r2.2.1 a2 r5 X)) ⟨rfl,rfl,rfl,trivial⟩ λ_=>?_;refine aq (nt (ai (sr ?_)));refine mq ?_;refine jb (bq rfl) ?_;refine nt (ci h (λh=>?_) (λh=>?_))
   .refine sr (cq ?_);refine cq (nt (rx ?_));refine bA (dS (t:=Tl) (x:=([]:(List Int))) 6 rfl .nil rfl rfl) ?_;cases h;exact rb
   .refine sk (sr ?_);iterate 2 refine mq ?_
    refine jb (dA [(0,.tmp 34,_),(1,.tmp 35,_)] rfl IP uw Ez (iV ⟨rfl,rfl,trivial⟩) rfl) ?_;refine be rfl rfl rfl (bz rfl uw CH) trivial λb6=>?_;refine aO rfl rfl (aL rfl kP trivial rfl rfl) ⟨rfl,rfl,trivial⟩ ?_;refine nt (sr ?_);iterate 2 refine mq ?_
    refine lo kP ?_;obtain⟨r7,U,h⟩:=aa h;refine fr 2 ?_;refine fr 2 ?_;refine aQ (Δ:=[_,_]) (F:=_) (λ_ _ _=>aj rfl _) rfl rfl (bM (N:=[(.tmp 37,.eq (.pointer (some ⟨z4.1,0,none⟩))),(.tmp 38,.eq (.int .u8 r2.2.1)),(.tmp 39,.agg (.pair (I a2) (I r5)))]) (bo [.tmp 37,.tmp 38,.tmp 39] rfl rfl VI rfl (sW k q3 z4.1 z4.2 r2.2.1 (a2,r5) r7 U)) λ_ _ _ hn=>⟨hn.1,hn.2.1,(aK (t:=bu) (x:=(a2,r5)) (.agg (.pair .int .int)) trivial rfl hn.2.2.1),trivial⟩) ⟨rfl,rfl,rfl,trivial⟩ λz8=>?_;refine aq (nt (sr ?_));refine mq ?_;refine be rfl rfl rfl (iC (t:=Ti) [(.tmp 41,_)] [a2] rfl rfl cJ (.cons rfl .int .nil) rfl rfl) ⟨rfl,trivial⟩ λv9=>?_;refine aq (nt ?_);refine aE (Z:=Value) (α:=(List Int)) (λj s=>[(13,.eq (.map (some z8))),(14,.eq j)]) (λj s=>[.sl j 3 Ti s,.inv z4.2 (bZ k q3),.inv z8 (uL r7)]) h (λK h=>?_) (λj s h=>?_)
    .refine sr (ja (dA [(0,.const (.int .i64 (-1)),_)] rfl IP uw Ez (iV ⟨rfl,trivial⟩) rfl) ?_);refine be rfl rfl rfl (bz rfl uw CH) trivial λmc=>?_;refine aO rfl rfl (aL rfl kP trivial rfl rfl) ⟨rfl,rfl,trivial⟩ ?_;refine nt (ah (aF (λe c=>[(12,Pt b6),(13,.eq (.map (some z8))),(14,.eq e.1),(15,.eq (.pointer (some ⟨e.2,0,none⟩)))]) (λe c=>[.obj b6 110 (.agg (.pair (I c.1) (I c.2.1))),.sl e.1 3 Ti c.2.2,.obj e.2 110 (.agg (.pair (I (-1:Int)) (I 0))),.inv z4.2 (bZ k q3),.inv z8 (uL r7)]) (lQ k r7) k (v9,mc) (a2,r5,[a2]) (λ_=>rfl) h (SE.fin [5,1,0,4,2] ⟨rfl,rfl,rfl,rfl,trivial⟩ rfl) (λn e c h=>?_)));unfold lQ at h;refine ai (ai (bB ?_));refine dm ?_;refine ea 0 (ao rfl kP (mU) rfl) ?_;obtain⟨zz,J,h⟩:=aa h;refine eb 4 (bM (N:=[(.tmp 44,.eq (.map (some z8))),(.tmp 45,.agg (.pair (I c.1) (I c.2.1)))]) (tK (K:=me) (V:=me) (t:=(c.1,c.2.1)) (l:=r7) (λn=>.rep bu n) vu rfl Hr (0,0) vt nI (λ_ _ _ h=>oz h) (sC (ap J)) (sB _) sD) λ_ _ _ hn=>⟨hn.1,(aK (t:=bu) (x:=(c.1,c.2.1)) (.agg (.pair .int .int)) trivial rfl hn.2.1),trivial⟩) ?_;refine ea 2 (ao rfl kP (mU) rfl) ?_;refine df cF ?_;refine eL (dS (t:=bu) (x:=((-1:Int),0)) 47 rfl (.agg (.pair .int .int)) trivial rfl) ?_;refine jb (DL rfl TD rfl) ?_;refine nt (cn h (λh=>?_) (λh=>?_))
     .refine sk (ai (ah (ae ?_)));iterate 2 refine mq ?_
      refine lo kP ?_;refine eL (dS (t:=bu) (x:=(c.1,c.2.1)) 54 rfl (.agg (.pair .int .int)) trivial rfl) ?_;obtain⟨u16,E,h⟩:=aa h;refine fr 4 ?_;refine kb (bM (N:=[(.tmp 53,.eq (.map (some z8))),(.tmp 54,.rep bu (c.1,c.2.1))]) (tK (K:=me) (V:=me) (t:=(c.1,c.2.1)) (l:=r7) (λn=>.rep bu n) vu rfl Hr (0,0) vt nI (λ_ _ _ h=>oz h) (sC (ap E)) (sB _) sD) λ_ _ _ hn=>⟨hn.1,hn.2.1,trivial⟩) ?_;refine ja (ME rfl Wn rfl bP (λ_=>rfl) rfl rfl rfl) ?_;refine ja (aU (t:=Ti) [(.tmp 56,_)] [(oN r7 (c.1,c.2.1) (0,0)).1] rfl rfl cJ (.cons rfl .int .nil) rfl rfl) ?_;obtain⟨qt,D,h⟩:=aa h;refine fr 2 ?_;refine cE rfl rfl rfl (bi rfl rfl cJ (ap D)) ⟨rfl,rfl,trivial⟩ λO=>?_;refine aq (aG (aI (tn (ai (sr ?_)))));refine fr 3 ?_;refine lo kP ?_;refine nt (ae (be rfl rfl rfl (bz rfl uw CH) trivial λgw=>?_));refine aO rfl rfl (aL rfl kP trivial rfl rfl) ⟨rfl,rfl,trivial⟩ ?_;refine nt (ae (mq ?_));refine fr 4 ?_;refine lo kP ?_;refine eL (dS (t:=bu) (x:=(c.1,c.2.1)) 50 rfl (.agg (.pair .int .int)) trivial rfl) ?_;obtain⟨mw,y,h⟩:=aa h;refine fr 4 ?_;refine kb (bM (N:=[(.tmp 49,.eq (.map (some z8))),(.tmp 50,.rep bu (c.1,c.2.1))]) (tK (K:=me) (V:=me) (t:=(c.1,c.2.1)) (l:=r7) (λn=>.rep bu n) vu rfl Hr (0,0) vt nI (λ_ _ _ h=>oz h) (sC (ap y)) (sB _) sD) λ_ _ _ hn=>⟨hn.1,hn.2.1,trivial⟩) ?_;refine fr 1 ?_;refine aO rfl rfl (aL rfl kP rfl rfl rfl) ⟨rfl,rfl,trivial⟩ ?_;refine nl (bA (fX (a:=.rep bu (oN r7 (c.1,c.2.1) (0,0))) (a':=.agg (.pair (I ((oN r7 (c.1,c.2.1) (0,0)).1)) (I ((oN r7 (c.1,c.2.1) (0,0)).2)))) (AE.trans Gf (AE.agg (AE.trans CZ (AE.pair AE.int AE.int))))) ?_);exact jz ((O,gw),((oN r7 (c.1,c.2.1) (0,0)).1,(oN r7 (c.1,c.2.1) (0,0)).2,c.2.2++[(oN r7 (c.1,c.2.1) (0,0)).1])) h [0,4,2,5,1]
     .refine xa ?_;exact jz (e.1,c.2.2) h [1,3,4]
    .refine sr (mq ?_);refine fr 2 ?_;refine aO rfl rfl (IY rfl rfl Hr) ⟨rfl,trivial⟩ ?_;refine nt (sr (mq ?_));obtain⟨Q,M,h⟩:=aa h;refine fr 1 ?_;refine ka (av [.tmp 61] rfl rfl VH rfl (rz k s j Q M)) ?_;refine nt (sr (mq ?_));refine aq ?_;refine cq (nt (aA ?_));refine bA (fU [6,14,61,63] ⟨rfl,rfl,rfl,rfl,trivial⟩) ?_;cases h;exact rb
def fH(k:Nat)(a1:Int)(r3:(Option ab)×(List Int)×Int)(q4:ab):Nat->((List Int)×Int)->Option (List Int)
 |0,_=>none
 |n+1,y8=>
  if y8.2 < (r3.2.1.length:Int) then((((aH r3.2.1 y8.2).bind λh=>
  (fo k q4 h a1).bind λc=>
  if 0≤c then((bV (bh (length y8.1+length [c]))).bind λ_=>
  some (y8.1++[c])) else(some y8.1)):Option ((List Int))).bind λj=>
  (ck (y8.2+1)).bind λe=>
  fH k a1 r3 q4 n (j,e)) else(some y8.1)
def lZ(k:Nat)(a0:ab)(a1:Int):Option (eK×Int):=
 (jB k a0 [a1] ([]:(List Int)) ([]:(List Int))).bind λr3=>
 gX r3.1 (if¬(r3.2.2=0) then(some ((0,0),r3.2.2)) else(none)) (λq4=>if¬(r3.2.2=0) then(some ((0,0),r3.2.2)) else(((fH k a1 r3 q4 k (([]:(List Int)),0)):Option ((List Int))).bind λx6=>
 if(x6.length:Int)=0 then(some ((0,0),11)) else((jx k x6).bind λe=>
 (kQ k x6).bind λc=>
 some ((e,c),0))))
theorem sY(k:Nat)(a0:ab)(a1:Int)(r:eK×Int)(h:lZ k a0 a1=some r):
 co (eC Tryz.prog) 42 [.rep ak a0,I a1] [] (λ_:Unit=>(bF [.rep bu r.1,I r.2],[])):=by
 unfold lZ at h
 replace h:=bf h
 refine co.of 51 Tryz.func42 rfl Tryz.ntmps42 rfl λS w0=>?_
 refine sr ?_
 refine bx λb1=>?_
 refine be rfl rfl rfl (bz rfl rj Hm) trivial λb2=>?_
 refine cq ?_
 refine nt ?_
 refine sr ?_
 refine fr 1 ?_
 refine lo dh ?_
 refine mq ?_
 refine ja (aU (t:=Ti) [(.tmp 15,_)] [a1] rfl rfl cJ (.cons rfl .int .nil) rfl rfl) ?_
 obtain⟨r3,Y,h⟩:=aa h
 have s:=lO k a0 [a1] ([]:(List Int)) ([]:(List Int)) r3 Y
 rcases hr:r3.1 with _ |q4
 .
  rw [hr] at h s;replace h:=wE h;refine aQ (Δ:=[]) (F:=_) (λ_ _ _=>aj rfl _) rfl rfl (bM (N:=[(.tmp 14,.rep ak a0),(.tmp 16,.rep Tl [a1]),(.const (.slice none 0 0),.eq (.slice none 0 0)),(.const (.slice none 0 0),.eq (.slice none 0 0))]) (bo [.tmp 14,.tmp 16,.const (.slice none 0 0),.const (.slice none 0 0)] rfl rfl BW rfl s) λ_ _ _ hn=>⟨hn.1,hn.2.1,(aK (t:=Tl) (x:=([]:(List Int))) .nil rfl rfl hn.2.2.1),(aK (t:=Tl) (x:=([]:(List Int))) .nil rfl rfl hn.2.2.2.1),trivial⟩) ⟨rfl,rfl,rfl,rfl,trivial⟩ λ_=>?_;refine mq ?_;refine xr ?_;refine xr ?_;refine xr ?_;refine aq ?_;refine aq ?_;refine aq (nt (ai (sr ?_)));refine mq ?_;refine jb (dU rfl) ?_;refine nt (cn h (λh=>?_) (λh=>?_))
  .refine sr (cC rfl (dA [] rfl zm rj te (iV trivial) rfl) trivial ?_);refine mq ?_;refine fr 1 ?_;refine aO rfl rfl (aL rfl mf trivial rfl rfl) ⟨rfl,rfl,trivial⟩ ?_;refine aq (nt (rx ?_));refine bA (fX (a:=.agg (.pair (I 0) (I 0))) (a':=.rep bu (0,0)) (iU (.agg (.pair .int .int)))) ?_;cases h;exact aV () [.rep bu (0,0),_] 0 ⟨⟨_,_,_,_,_,rfl,(.head _),mf,(mU),rfl⟩,rfl,trivial⟩ rfl
  .cases h
 .
  rw [hr] at h s;replace h:=wC h;refine aQ (Δ:=[]) (F:=_) (λ_ _ _=>aj rfl _) rfl rfl (bM (N:=[(.tmp 14,.rep ak a0),(.tmp 16,.rep Tl [a1]),(.const (.slice none 0 0),.eq (.slice none 0 0)),(.const (.slice none 0 0),.eq (.slice none 0 0))]) (bo [.tmp 14,.tmp 16,.const (.slice none 0 0),.const (.slice none 0 0)] rfl rfl BW rfl s) λ_ _ _ hn=>⟨hn.1,hn.2.1,(aK (t:=Tl) (x:=([]:(List Int))) .nil rfl rfl hn.2.2.1),(aK (t:=Tl) (x:=([]:(List Int))) .nil rfl rfl hn.2.2.2.1),trivial⟩) ⟨rfl,rfl,rfl,rfl,trivial⟩ λz5=>?_;refine mq ?_;refine xr ?_;refine xr ?_;refine xr ?_;refine aq ?_;refine aq ?_;refine aq (nt (ai (sr ?_)));refine mq ?_;refine jb (dU rfl) ?_;refine nt (cn h (λh=>?_) (λh=>?_))
  .refine sr (cC rfl (dA [] rfl zm rj te (iV trivial) rfl) trivial ?_);refine mq ?_;refine fr 3 ?_;refine aO rfl rfl (aL rfl mf trivial rfl rfl) ⟨rfl,rfl,trivial⟩ ?_;refine aq (nt (rx ?_));refine bA (fX (a:=.agg (.pair (I 0) (I 0))) (a':=.rep bu (0,0)) (iU (.agg (.pair .int .int)))) ?_;cases h;exact aV () [.rep bu (0,0),_] 0 ⟨⟨_,_,_,_,_,rfl,(.head _),mf,(mU),rfl⟩,rfl,trivial⟩ rfl
  .refine sk (sr (cq (nt ?_)));refine aE (Z:=Value) (α:=(List Int)) (λz7 x6=>[(4,Pt b2),(9,.eq z7)]) (λz7 x6=>[.obj b2 67 (.agg (.pair (I 0) (I 0))),.sl z7 3 Ti x6,.inv z5.2 (bZ k q4)]) h (λK h=>?_) (λz7 x6 h=>?_)
   .refine sr (mq ?_);refine ol Ak ?_;refine fg rfl ?_;refine nt (ah (gz (SE.nil 3 Ti) ?_));refine aF (λz9 y8=>[(1,I a1),(4,Pt b2),(6,.eq (.pointer (some ⟨z5.1,0,none⟩))),(9,.eq z9),(25,.rep (.slice (.int .u8)) r3.2.1),(26,I (r3.2.1.length:Int)),(27,I y8.2)]) (λz9 y8=>[.obj b2 67 (.agg (.pair (I 0) (I 0))),.obj z5.1 135 (bb q4 z5.2),.sl z9 3 Ti y8.1,.inv z5.2 (bZ k q4)]) (fH k a1 r3 q4) k (.slice none 0 0) (([]:(List Int)),0) (λ_=>rfl) h (SE.fin [4,1,0,2] ⟨rfl,rfl,rfl,rfl,rfl,rfl,rfl,trivial⟩ rfl) (λn z9 y8 h=>?_);unfold fH at h;refine sr (jb (bq rfl) ?_);refine nt (ai (ci h (λh=>?_) (λh=>?_)))
    .refine sk (aE (Z:=Value) (α:=(List Int)) (λc e=>[(1,I a1),(4,Pt b2),(6,.eq (.pointer (some ⟨z5.1,0,none⟩))),(9,.eq c),(25,.rep (.slice (.int .u8)) r3.2.1),(26,I (r3.2.1.length:Int)),(27,I y8.2)]) (λc e=>[.obj b2 67 (.agg (.pair (I 0) (I 0))),.obj z5.1 135 (bb q4 z5.2),.sl c 3 Ti e,.inv z5.2 (bZ k q4)]) h (λK h=>?_) (λc e h=>?_))
     .refine ah (sr ?_);obtain⟨U,D,h⟩:=aa h;refine jb (aD (t:=(.int .u8)) rfl Ak py D) ?_;refine ja (an (t:=(.int .u8)) rfl py rfl) ?_;refine aq (nt (sr ?_));iterate 3 refine mq ?_
      obtain⟨u,O,h⟩:=aa h;refine fr 3 ?_;refine fr 2 ?_;refine aQ (Δ:=[_,_]) (F:=_) (λ_ _ _=>aj rfl _) rfl rfl (bo [.tmp 31,.tmp 32,.tmp 33] rfl rfl TL rfl (mA k q4 z5.1 z5.2 U a1 u O)) ⟨rfl,rfl,rfl,trivial⟩ λ_=>?_;refine aq (nt (sr ?_));refine mq ?_;refine jb (hJ rfl) ?_;refine nt (ci h (λh=>?_) (λh=>?_))
      .refine ae ?_;iterate 2 refine mq ?_
       refine ja (aU (t:=Ti) [(.tmp 38,_)] [u] rfl rfl cJ (.cons rfl .int .nil) rfl rfl) ?_;obtain⟨gw,E,h⟩:=aa h;refine fr 3 ?_;refine cE rfl rfl rfl (bi rfl rfl cJ (ap E)) ⟨rfl,rfl,trivial⟩ λX=>?_;refine aq (aG (bn ?_));exact jz (X,y8.1++[u]) h [3,1,0,2]
      .refine aX (bn ?_);exact jz (z9,y8.1) h [2,0,3,1]
     .refine ae ?_;obtain⟨Q,y,h⟩:=aa h;refine jb (aY rfl y) ?_;refine mq (nl ?_);exact jz (c,(e,Q)) h [0,1,2,3]
    .refine xa ?_;exact jz (z9,y8.1) h [0,2,3]
   .refine ai (sr (mq ?_));refine fr 1 ?_;refine ka (nV rfl rfl gh) ?_;refine jb (fV rfl) ?_;refine nt (ci h (λh=>?_) (λh=>?_))
    .refine sr (cC rfl (dA [] rfl zm rj te (iV trivial) rfl) trivial ?_);refine fr 1 ?_;refine aO rfl rfl (aL rfl mf trivial rfl rfl) ⟨rfl,rfl,trivial⟩ ?_;refine cq (nt (rx ?_));refine bA (fX (a:=.agg (.pair (I 0) (I 0))) (a':=.rep bu (0,0)) (iU (.agg (.pair .int .int)))) ?_;cases h;exact aV () [.rep bu (0,0),_] 0 ⟨⟨_,_,_,_,_,rfl,(.head _),mf,(mU),rfl⟩,rfl,trivial⟩ rfl
    .refine sk (sr (mq ?_));obtain⟨l,M,h⟩:=aa h;refine ka (kB (N:=[(.tmp 46,.eq z7)]) (av [.tmp 46] rfl rfl TR rfl (pC k x6 l M)) (λ_ _ _ hv hn=>⟨(lend hn.1 hv),trivial⟩) (λ_=>⟨rfl,oe⟩)) ?_;refine mq ?_;obtain⟨j,J,h⟩:=aa h;refine ka (kB (N:=[(.tmp 48,.eq z7)]) (av [.tmp 48] rfl rfl VF rfl (vB k x6 j J)) (λ_ _ _ hv hn=>⟨(lend hn.1 hv),trivial⟩) (λ_=>⟨rfl,oe⟩)) ?_;refine jb (dA [(0,.tmp 47,_),(1,.tmp 49,_)] rfl zm rj te (iV ⟨rfl,rfl,trivial⟩) rfl) ?_;refine fr 1 ?_;refine aO rfl rfl (aL rfl mf trivial rfl rfl) ⟨rfl,rfl,trivial⟩ ?_;refine cq (nt (aA ?_));refine bA (fX (a:=.agg (.pair (I l) (I j))) (a':=.rep bu (l,j)) (iU (.agg (.pair .int .int)))) ?_;cases h;exact aV () [.rep bu (l,j),_] 0 ⟨⟨_,_,_,_,_,rfl,(.head _),mf,(mU),rfl⟩,rfl,trivial⟩ rfl
def kG(k:Nat)(a1:Int)(a2:Int)(y4:(List (List (List Int)))×Int)(h:(List Int)):Nat->((List Int)×Int)->Option (List Int)
 |0,_=>none
 |n+1,c=>
  if c.2 < (h.length:Int) then((((aH h c.2).bind λe=>
  ((if y4.2 < a1 then(some true) else((fD k a2 e).bind λs=>
  some (!s))):Option (Bool)).bind λl=>
  if l=true then((bV (bh (length c.1+length [e]))).bind λ_=>
  some (c.1++[e])) else(some c.1)):Option ((List Int))).bind λr=>
  (ck (c.2+1)).bind λj=>
  kG k a1 a2 y4 h n (r,j)) else(some c.1)
def kH(k:Nat)(a1:Int)(a2:Int)(y4:(List (List (List Int)))×Int)(x8:(List (List Int))):Nat->((List (List Int))×Int)->Option (List (List Int))
 |0,_=>none
 |n+1,c=>
  if c.2 < (x8.length:Int) then((((aH x8 c.2).bind λj=>
  ((kG k a1 a2 y4 j k (([]:(List Int)),0)):Option ((List Int))).bind λe=>
  (bV (bh (length c.1+length [e]))).bind λ_=>
  some (c.1++[e])):Option ((List (List Int)))).bind λl=>
  (ck (c.2+1)).bind λh=>
  kH k a1 a2 y4 x8 n (l,h)) else(some c.1)
def kJ(k:Nat)(a0:ab)(a1:Int)(a2:Int):Nat->((List (List (List Int)))×Int)->Option (List (List (List Int)))
 |0,_=>none
 |n+1,y4=>
  if y4.2 < (a0.2.2.2.2.1.length:Int) then((((aH a0.2.2.2.2.1 y4.2).bind λx8=>
  ((kH k a1 a2 y4 x8 k (([]:(List (List Int))),0)):Option ((List (List Int)))).bind λx9=>
  (bV (bh (length y4.1+length [x9]))).bind λ_=>
  some (y4.1++[x9])):Option ((List (List (List Int))))).bind λx6=>
  (ck (y4.2+1)).bind λc=>
  kJ k a0 a1 a2 n (x6,c)) else(some y4.1)
def oK(k:Nat)(a0:ab)(a1:Int)(a2:Int):Option (Option ab):=
 ((kJ k a0 a1 a2 k (([]:(List (List (List Int)))),0)):Option ((List (List (List Int))))).bind λx2=>
 (jR k (a0.1,a0.2.1,a0.2.2.1,a0.2.2.2.1,x2,a0.2.2.2.2.2)).bind λc=>
 gX c (some none) (λe=>some (some e))
theorem xu(k:Nat)(a0:ab)(a1:Int)(a2:Int)(r:(Option ab))(h:oK k a0 a1 a2=some r):
 cV Tryz.prog 85 [.rep ak a0,I a1,.eq (.int .u8 a2)] [] (λz:Nat×Nat=>(bF [L8 r z.1],L6 r λq=>sq q z.1 z.2 k)):=by
 unfold oK at h
 replace h:=bf h
 refine cV.of 69 Tryz.func85 rfl Tryz.ntmps85 rfl λS w0=>?_
 refine sr ?_
 refine bx λb1=>?_
 refine cq ?_
 refine nt ?_
 refine sr ?_
 refine fl cu ?_
 refine lo fp ?_
 refine mq ?_
 refine ja (tJ [.tmp 19] [] [(.int .u8 a2)] [] rfl rfl rfl) ?_
 refine aq ?_
 refine aq ?_
 refine nt ?_
 refine sr ?_
 refine fl cu ?_
 refine aO rfl rfl (aL rfl fp rfl rfl rfl) ⟨rfl,rfl,trivial⟩ ?_
 refine nt ?_
 refine aE (Z:=Value) (α:=(List (List (List Int)))) (λz3 x2=>[(3,Pt b1)]) (λz3 x2=>[.obj b1 25 (.agg (.pair (I a0.1) (.pair (I a0.2.1) (.pair (I a0.2.2.1) (.pair (I a0.2.2.2.1) (.pair (.eq z3) (Rs aJ a0.2.2.2.2.2))))))),.sl z3 36 (.slice Tl) x2]) h (λK h=>?_) (λz3 x2 h=>?_)
 .
  refine sr (mq ?_);refine ol po ?_;refine fg rfl ?_;refine nt (ah (gz (SE.nil 36 (.slice Tl)) ?_));refine dJ 1 rfl ?_;refine gz (fX (a:=.agg (.pair (.rep Ti a0.1) (.pair (.rep Ti a0.2.1) (.pair (.rep Ti a0.2.2.1) (.pair (.rep Ti a0.2.2.2.1) (.pair (.eq (.slice none 0 0)) (Rs aJ a0.2.2.2.2.2))))))) (a':=.agg (.pair (I a0.1) (.pair (I a0.2.1) (.pair (I a0.2.2.1) (.pair (I a0.2.2.2.1) (.pair (.eq (.slice none 0 0)) (Rs aJ a0.2.2.2.2.2))))))) (AE.agg (AE.pair AE.int (AE.pair AE.int (AE.pair AE.int (AE.pair AE.int AE.rfl)))))) ?_;refine aF (λz5 y4=>[(1,I a1),(3,Pt b1),(8,.eq (.func (.func 97) #[(.int .u8 a2)] #[])),(22,.rep (.slice (.slice Tl)) a0.2.2.2.2.1),(23,I (a0.2.2.2.2.1.length:Int)),(24,I y4.2)]) (λz5 y4=>[.obj b1 25 (.agg (.pair (I a0.1) (.pair (I a0.2.1) (.pair (I a0.2.2.1) (.pair (I a0.2.2.2.1) (.pair (.eq z5) (Rs aJ a0.2.2.2.2.2))))))),.sl z5 36 (.slice Tl) y4.1]) (kJ k a0 a1 a2) k (.slice none 0 0) (([]:(List (List (List Int)))),0) (λ_=>rfl) h (SE.fin [0,1] ⟨rfl,rfl,rfl,rfl,rfl,rfl,trivial⟩ rfl) (λn z5 y4 h=>?_);unfold kJ at h;refine sr (jb (bq rfl) ?_);refine nt (ai (ci h (λh=>?_) (λh=>?_)))
  .refine sk (aE (Z:=Value) (α:=(List (List (List Int)))) (λz7 x6=>[(1,I a1),(3,Pt b1),(8,.eq (.func (.func 97) #[(.int .u8 a2)] #[])),(22,.rep (.slice (.slice Tl)) a0.2.2.2.2.1),(23,I (a0.2.2.2.2.1.length:Int)),(24,I y4.2)]) (λz7 x6=>[.obj b1 25 (.agg (.pair (I a0.1) (.pair (I a0.2.1) (.pair (I a0.2.2.1) (.pair (I a0.2.2.2.1) (.pair (.eq z7) (Rs aJ a0.2.2.2.2.2))))))),.sl z7 36 (.slice Tl) x6]) h (λK h=>?_) (λz7 x6 h=>?_))
   .refine ah (sr (mq ?_));obtain⟨x8,Xd,h⟩:=aa h;refine jb (aD (t:=(.slice Tl)) rfl po kO Xd) ?_;refine ja (an (t:=(.slice Tl)) rfl kO rfl) ?_;refine aq ?_;refine aq (nt (sr ?_));refine cq (nt ?_);refine aE (Z:=Value) (α:=(List (List Int))) (λQ x9=>[(1,I a1),(3,Pt b1),(8,.eq (.func (.func 97) #[(.int .u8 a2)] #[])),(11,.eq Q),(22,.rep (.slice (.slice Tl)) a0.2.2.2.2.1),(23,I (a0.2.2.2.2.1.length:Int)),(24,I y4.2)]) (λQ x9=>[.obj b1 25 (.agg (.pair (I a0.1) (.pair (I a0.2.1) (.pair (I a0.2.2.1) (.pair (I a0.2.2.2.1) (.pair (.eq z5) (Rs aJ a0.2.2.2.2.2))))))),.sl z5 36 (.slice Tl) y4.1,.sl Q 28 Tl x9]) h (λK h=>?_) (λQ x9 h=>?_)
    .refine sr (mq ?_);refine ol nq ?_;refine fg rfl ?_;refine nt (ah (gz (SE.nil 28 Tl) ?_));refine aF (λe c=>[(1,I a1),(3,Pt b1),(8,.eq (.func (.func 97) #[(.int .u8 a2)] #[])),(9,I y4.2),(11,.eq e),(22,.rep (.slice (.slice Tl)) a0.2.2.2.2.1),(23,I (a0.2.2.2.2.1.length:Int)),(24,I y4.2),(29,.rep (.slice Tl) x8),(30,I (x8.length:Int)),(31,I c.2)]) (λe c=>[.obj b1 25 (.agg (.pair (I a0.1) (.pair (I a0.2.1) (.pair (I a0.2.2.1) (.pair (I a0.2.2.2.1) (.pair (.eq z5) (Rs aJ a0.2.2.2.2.2))))))),.sl z5 36 (.slice Tl) y4.1,.sl e 28 Tl c.1]) (kH k a1 a2 y4 x8) k (.slice none 0 0) (([]:(List (List Int))),0) (λ_=>rfl) h (SE.fin [1,2,0] ⟨rfl,rfl,rfl,rfl,rfl,rfl,rfl,rfl,rfl,rfl,rfl,trivial⟩ rfl) (λn e c h=>?_);unfold kH at h;refine sr (jb (bq rfl) ?_);refine nt (ai (ci h (λh=>?_) (λh=>?_)))
     .refine sk (aE (Z:=Value) (α:=(List (List Int))) (λE X=>[(1,I a1),(3,Pt b1),(8,.eq (.func (.func 97) #[(.int .u8 a2)] #[])),(9,I y4.2),(11,.eq E),(22,.rep (.slice (.slice Tl)) a0.2.2.2.2.1),(23,I (a0.2.2.2.2.1.length:Int)),(24,I y4.2),(29,.rep (.slice Tl) x8),(30,I (x8.length:Int)),(31,I c.2)]) (λE X=>[.obj b1 25 (.agg (.pair (I a0.1) (.pair (I a0.2.1) (.pair (I a0.2.2.1) (.pair (I a0.2.2.2.1) (.pair (.eq z5) (Rs aJ a0.2.2.2.2.2))))))),.sl z5 36 (.slice Tl) y4.1,.sl E 28 Tl X]) h (λK h=>?_) (λE X h=>?_))
      .refine ah (sr ?_);obtain⟨u,W1,h⟩:=aa h;refine jb (aD (t:=Tl) rfl nq eM W1) ?_;refine ja (an (t:=Tl) rfl eM rfl) ?_;refine aq (nt (sr ?_));refine cq (nt ?_);refine aE (Z:=Value) (α:=(List Int)) (λO M=>[(1,I a1),(3,Pt b1),(8,.eq (.func (.func 97) #[(.int .u8 a2)] #[])),(9,I y4.2),(11,.eq e),(14,.eq O),(22,.rep (.slice (.slice Tl)) a0.2.2.2.2.1),(23,I (a0.2.2.2.2.1.length:Int)),(24,I y4.2),(29,.rep (.slice Tl) x8),(30,I (x8.length:Int)),(31,I c.2)]) (λO M=>[.obj b1 25 (.agg (.pair (I a0.1) (.pair (I a0.2.1) (.pair (I a0.2.2.1) (.pair (I a0.2.2.2.1) (.pair (.eq z5) (Rs aJ a0.2.2.2.2.2))))))),.sl z5 36 (.slice Tl) y4.1,.sl e 28 Tl c.1,.sl O 3 Ti M]) h (λK h=>?_) (λO M h=>?_)
       .refine sr (mq ?_);refine ol gh ?_;refine fg rfl ?_;refine nt (ah (gz (SE.nil 3 Ti) ?_));refine aF (λl j=>[(1,I a1),(3,Pt b1),(8,.eq (.func (.func 97) #[(.int .u8 a2)] #[])),(9,I y4.2),(11,.eq e),(14,.eq l),(22,.rep (.slice (.slice Tl)) a0.2.2.2.2.1),(23,I (a0.2.2.2.2.1.length:Int)),(24,I y4.2),(29,.rep (.slice Tl) x8),(30,I (x8.length:Int)),(31,I c.2),(35,.rep Tl u),(36,I (u.length:Int)),(37,I j.2)]) (λl j=>[.obj b1 25 (.agg (.pair (I a0.1) (.pair (I a0.2.1) (.pair (I a0.2.2.1) (.pair (I a0.2.2.2.1) (.pair (.eq z5) (Rs aJ a0.2.2.2.2.2))))))),.sl z5 36 (.slice Tl) y4.1,.sl e 28 Tl c.1,.sl l 3 Ti j.1]) (kG k a1 a2 y4 u) k (.slice none 0 0) (([]:(List Int)),0) (λ_=>rfl) h (SE.fin [1,2,3,0] ⟨rfl,rfl,rfl,rfl,rfl,rfl,rfl,rfl,rfl,rfl,rfl,rfl,rfl,rfl,rfl,trivial⟩ rfl) (λn l j h=>?_);unfold kG at h;refine sr (jb (bq rfl) ?_);refine nt (ai (ci h (λh=>?_) (λh=>?_)))
        .refine sk (aE (Z:=Value) (α:=(List Int)) (λD U=>[(1,I a1),(3,Pt b1),(8,.eq (.func (.func 97) #[(.int .u8 a2)] #[])),(9,I y4.2),(11,.eq e),(14,.eq D),(22,.rep (.slice (.slice Tl)) a0.2.2.2.2.1),(23,I (a0.2.2.2.2.1.length:Int)),(24,I y4.2),(29,.rep (.slice Tl) x8),(30,I (x8.length:Int)),(31,I c.2),(35,.rep Tl u),(36,I (u.length:Int)),(37,I j.2)]) (λD U=>[.obj b1 25 (.agg (.pair (I a0.1) (.pair (I a0.2.1) (.pair (I a0.2.2.1) (.pair (I a0.2.2.2.1) (.pair (.eq z5) (Rs aJ a0.2.2.2.2.2))))))),.sl z5 36 (.slice Tl) y4.1,.sl e 28 Tl c.1,.sl D 3 Ti U]) h (λK h=>?_) (λD U h=>?_))
         .refine ah (sr ?_);obtain⟨J,W0,h⟩:=aa h;refine jb (aD (t:=Ti) rfl gh bP W0) ?_;refine ja (an (t:=Ti) rfl bP rfl) ?_;refine aq (nt ?_);refine aE (Z:=Unit) (α:=Bool) (λmc gw=>[(1,I a1),(3,Pt b1),(8,.eq (.func (.func 97) #[(.int .u8 a2)] #[])),(9,I y4.2),(11,.eq e),(14,.eq l),(16,I J),(22,.rep (.slice (.slice Tl)) a0.2.2.2.2.1),(23,I (a0.2.2.2.2.1.length:Int)),(24,I y4.2),(29,.rep (.slice Tl) x8),(30,I (x8.length:Int)),(31,I c.2),(35,.rep Tl u),(36,I (u.length:Int)),(37,I j.2),(49,.eq (.bool gw))]) (λmc gw=>[.obj b1 25 (.agg (.pair (I a0.1) (.pair (I a0.2.1) (.pair (I a0.2.2.1) (.pair (I a0.2.2.2.1) (.pair (.eq z5) (Rs aJ a0.2.2.2.2.2))))))),.sl z5 36 (.slice Tl) y4.1,.sl e 28 Tl c.1,.sl l 3 Ti j.1]) h (λK h=>?_) (λmc gw h=>?_)
          .refine ae ?_;iterate 2 refine mq ?_
           refine jb (bq rfl) ?_;refine mq ?_;refine cy (s:=44) rfl (λhb=>?_) (λhb=>?_)
           .replace h:=ek (wA hb) h;iterate 4 refine gn ?_
            refine pt (nl ?_);exact jz ((),true) h [0,1,2,3]
           .replace h:=cM (wB hb) h;refine gm ?_;refine gm ?_;obtain⟨qt,W6,h⟩:=aa h;refine gb (vc (fs:=[(.int .u8 a2)]) (cs:=[]) (ags:=[I J]) [.tmp 46] rfl rfl JU rfl (iE k a2 J qt W6)) ?_;refine ga (ff rfl) ?_;refine pf (nl ?_);exact jz ((), !qt) h [0,1,2,3]
          .refine cv h (λh=>?_) (λh=>?_)
           .refine ae ?_;iterate 2 refine mq ?_
            refine ja (aU (t:=Ti) [(.tmp 51,_)] [J] rfl rfl cJ (.cons rfl .int .nil) rfl rfl) ?_;obtain⟨Xf,W4,h⟩:=aa h;refine fr 3 ?_;refine cE rfl rfl rfl (bi rfl rfl cJ (ap W4)) ⟨rfl,rfl,trivial⟩ λXc=>?_;refine aq (aG (bn ?_));exact jz (Xc,j.1++[J]) h [1,2,3,0]
           .refine aX (bn ?_);exact jz (l,j.1) h [0,1,2,3]
         .refine ae ?_;obtain⟨W9,WZ,h⟩:=aa h;refine jb (aY rfl WZ) ?_;refine mq (nl ?_);exact jz (D,(U,W9)) h [0,1,2,3]
        .refine xa ?_;exact jz (l,j.1) h [0,1,2,3]
       .refine ae ?_;iterate 2 refine mq ?_
        refine fr 3 ?_;refine eL (fU [14,56] ⟨rfl,rfl,trivial⟩) ?_;refine ja (aU (t:=Tl) [(.tmp 56,_)] [M] rfl rfl mh (.cons rfl .rep .nil) rfl rfl) ?_;obtain⟨Xe,W3,h⟩:=aa h;refine fr 2 ?_;refine cE rfl rfl rfl (bi rfl rfl mh (ap W3)) ⟨rfl,rfl,trivial⟩ λXb=>?_;refine aq (aG (bn ?_));exact jz (Xb,c.1++[M]) h [1,2,0]
      .refine ae ?_;obtain⟨W8,WY,h⟩:=aa h;refine jb (aY rfl WY) ?_;refine mq (nl ?_);exact jz (E,(X,W8)) h [0,1,2]
     .refine xa ?_;exact jz (e,c.1) h [0,1,2]
    .refine ae (fl cu ?_);refine lo fp ?_;refine mq ?_;refine fr 2 ?_;refine eL (fU [11,62] ⟨rfl,rfl,trivial⟩) ?_;refine ja (aU (t:=(.slice Tl)) [(.tmp 62,_)] [x9] rfl rfl yS (.cons rfl .rep .nil) rfl rfl) ?_;obtain⟨u32,W2,h⟩:=aa h;refine fr 1 ?_;refine cE rfl rfl rfl (bi rfl rfl yS (ap W2)) ⟨rfl,rfl,trivial⟩ λXa=>?_;refine fl cu ?_;refine oY λo34=>?_;refine fr 1 ?_;refine aO rfl rfl (aL rfl fp o34 rfl rfl) ⟨rfl,rfl,trivial⟩ ?_;refine aG (bn ?_);exact jz (Xa,y4.1++[x9]) h [0,1]
   .refine ae ?_;obtain⟨W7,zz,h⟩:=aa h;refine jb (aY rfl zz) ?_;refine mq (nl ?_);exact jz (z7,(x6,W7)) h [0,1]
  .refine xa ?_;exact jz (z5,y4.1) h [0,1]
 .
  refine sr (fr 1 ?_);refine eL (jv (off:=4) [] trivial rfl rfl) ?_;refine lo dh ?_;obtain⟨mw,W5,h⟩:=aa h;have y:=o7 k (a0.1,a0.2.1,a0.2.2.1,a0.2.2.2.1,x2,a0.2.2.2.2.2) mw W5;rcases hr:mw with _ |Xg
  .rw [hr] at h y;replace h:=wE h;refine aQ (Δ:=[]) (F:=_) (λ_ _ _=>aj rfl _) rfl rfl (bM (N:=[(.tmp 67,.agg (.pair (I a0.1) (.pair (I a0.2.1) (.pair (I a0.2.2.1) (.pair (I a0.2.2.2.1) (.pair (.rep (.slice (.slice Tl)) x2) (Rs aJ a0.2.2.2.2.2)))))))]) (av [.tmp 67] rfl rfl NH rfl y) λ_ _ _ hn=>⟨(aK (t:=ak) (x:=(a0.1,a0.2.1,a0.2.2.1,a0.2.2.2.1,x2,a0.2.2.2.2.2)) (.agg (.pair .int (.pair .int (.pair .int (.pair .int (.pair .rep .rep)))))) trivial rfl hn.1),trivial⟩) ⟨rfl,trivial⟩ λ_=>?_;refine aq (nt (aA ?_));cases h;exact aV (0,0) [.eq (.pointer none)] 0 ⟨rfl,trivial⟩ rfl
  .rw [hr] at h y;replace h:=wC h;refine aQ (Δ:=[]) (F:=_) (λ_ _ _=>aj rfl _) rfl rfl (bM (N:=[(.tmp 67,.agg (.pair (I a0.1) (.pair (I a0.2.1) (.pair (I a0.2.2.1) (.pair (I a0.2.2.2.1) (.pair (.rep (.slice (.slice Tl)) x2) (Rs aJ a0.2.2.2.2.2)))))))]) (av [.tmp 67] rfl rfl NH rfl y) λ_ _ _ hn=>⟨(aK (t:=ak) (x:=(a0.1,a0.2.1,a0.2.2.1,a0.2.2.2.1,x2,a0.2.2.2.2.2)) (.agg (.pair .int (.pair .int (.pair .int (.pair .int (.pair .rep .rep)))))) trivial rfl hn.1),trivial⟩) ⟨rfl,trivial⟩ λY=>?_;refine aq (nt (aA ?_));cases h;exact aV (Y.1,Y.2) [.eq (.pointer (some ⟨Y.1,0,none⟩))] 2 ⟨rfl,trivial⟩ rfl
def fF(k:Nat)(a0:ab)(r1:(List (List Int)))(y5:Int):Nat->Int->Option (Except Bool Unit)
 |0,_=>none
 |n+1,c=>
  if c < a0.1 then((((aH r1 y5).bind λs=>
  (aH s c).bind λr=>
  if r < 0 then((ck (y5+1)).bind λl=>
  (aH r1 l).bind λj=>
  (aH j c).bind λh=>
  some (decide (h=0))) else(some false)):Option (Bool)).bind λu=>
  if u=true then(some (.error true)) else((ck (c+1)).bind λe=>
  fF k a0 r1 y5 n e)) else(some (.ok ()))
def fG(k:Nat)(a0:ab)(r1:(List (List Int))):Nat->Int->Option (Except Bool Unit)
 |0,_=>none
 |n+1,y5=>
  if y5 < (a0.2.2.2.2.1.length:Int) then(bE (α:=Unit) ((ck (y5+1)).bind λx9=>
  (aH r1 x9).bind λh=>
  (aH r1 y5).bind λc=>
  (bV (yW h/\yW c)).bind λ_=>
  if h=c then(some (.ok ())) else(fF k a0 r1 y5 k 0)) (λe=>some (.error e)) λ_=>
  (ck (y5+1)).bind λj=>
  fG k a0 r1 n j) else(some (.ok ()))
def jS(k:Nat)(a0:ab)(a1:Int)(a2:Int):Option Bool:=
 (lG k a0 a1).bind λr1=>
 bE (α:=Unit) (fG k a0 r1 k a2) (some) λ_=>
 some false
theorem pT(k:Nat)(a0:ab)(c z_a0:Nat)(a1:Int)(a2:Int)(r:Bool)(h:jS k a0 a1 a2=some r):
 co (eC Tryz.prog) 87 [Pt c,.eq (.int .u8 a1),I a2] [.obj c 135 (bb a0 z_a0),.inv z_a0 (bZ k a0)] (λ_:Unit=>(bF [.eq (.bool r)],[.obj c 135 (bb a0 z_a0),.inv z_a0 (bZ k a0)])):=by
 unfold jS at h
 replace h:=bf h
 refine co.of 56 Tryz.func87 rfl Tryz.ntmps87 rfl λS w0=>?_
 refine sr ?_
 refine cq ?_
 refine nt ?_
 refine sr ?_
 iterate 2 refine mq ?_
 obtain⟨r1,WY,h⟩:=aa h
 have WZ:=oS k a0 c z_a0 a1 r1 WY
 refine fr 1 ?_
 refine fr 1 ?_
 refine aQ (Δ:=[_,_]) (F:=_) (λ_ _ _=>aj rfl _) rfl rfl (bo [.tmp 10,.tmp 11] rfl rfl En rfl WZ) ⟨rfl,rfl,trivial⟩ λ_=>?_
 refine be rfl rfl rfl (bz rfl HJ J9) trivial λb2=>?_
 refine aO rfl rfl (aL rfl Ik rfl rfl rfl) ⟨rfl,rfl,trivial⟩ ?_
 refine eL (kA (t:=(.arr 7 Tr)) (x:=r1) [7] .rep ⟨rfl,trivial⟩) ?_
 refine nt ?_
 refine cU (Z:=Unit) (α:=Unit) (λz4 x3=>[]) (λz4 x3=>[.obj c 135 (bb a0 z_a0),.inv z_a0 (bZ k a0)]) (λe=>e=r) h (λe h=>Option.some.inj h) (λK hR h=>?_) (λz4 x3 h=>?_)
 .
  refine sr (mq ?_);refine aq (nt (ah ?_));refine aF (λz6 y5=>[(0,Pt c),(7,.at (.arr 7 Tr) r1),(8,I y5)]) (λz6 y5=>[.obj c 135 (bb a0 z_a0),.inv z_a0 (bZ k a0)]) (fG k a0 r1) k () a2 (λ_=>rfl) h (SE.fin [0,1] ⟨rfl,rfl,rfl,trivial⟩ rfl) (λn z6 y5 h=>?_);unfold fG at h;refine ai (sr ?_);iterate 2 refine mq ?_
  refine ja (cY rfl) ?_;refine fl iP ?_;refine fl cu ?_;refine lo fp ?_;refine ol po ?_;refine jb (bq rfl) ?_;refine nt (ci h (λh=>?_) (λh=>?_))
  .refine sk (cU (Z:=Unit) (α:=Unit) (λz8 x7=>[(0,Pt c),(7,.at (.arr 7 Tr) r1),(8,I y5)]) (λz8 x7=>[.obj c 135 (bb a0 z_a0),.inv z_a0 (bZ k a0)]) (λe=>e=r) h (λe h=>hR e h) (λK hR h=>?_) (λz8 x7 h=>?_))
   .refine ah (ai (ai (bB ?_)));refine dm ?_;obtain⟨x9,zz,h⟩:=aa h;refine db (aY rfl zz) ?_;obtain⟨W5,gw,h⟩:=aa h;refine db (cK (t:=Tr) rfl Ku jK gw) ?_;refine da (an (t:=Tr) rfl jK rfl) ?_;refine dm ?_;obtain⟨W4,Y,h⟩:=aa h;refine db (cK (t:=Tr) rfl Ku jK Y) ?_;refine da (an (t:=Tr) rfl jK rfl) ?_;refine df cF ?_;obtain⟨W6,l,h⟩:=aa h;refine jb (IX rfl (ap l).1 (ap l).2) ?_;refine nt (ci h (λh=>?_) (λh=>?_))
    .refine dT (bv (ce (ay ?_)));exact jz ((),()) h [0,1]
    .refine sk (sr (mq ?_));refine ja (cY rfl) ?_;refine fl iP ?_;refine fl eW ?_;refine lo bP ?_;refine fg rfl ?_;refine nt (ah (aF (λD j=>[(0,Pt c),(7,.at (.arr 7 Tr) r1),(8,I y5),(36,I a0.1),(37,I j)]) (λD j=>[.obj c 135 (bb a0 z_a0),.inv z_a0 (bZ k a0)]) (fF k a0 r1 y5) k () 0 (λ_=>rfl) h (SE.fin [0,1] ⟨rfl,rfl,rfl,rfl,rfl,trivial⟩ rfl) (λn D j h=>?_)));unfold fF at h;refine sr (jb (bq rfl) ?_);refine nt (ai (ci h (λh=>?_) (λh=>?_)))
     .refine sk (ai (ah (sr (mq ?_))));refine aq (nt ?_);refine aE (Z:=Unit) (α:=Bool) (λy u=>[(0,Pt c),(7,.at (.arr 7 Tr) r1),(8,I y5),(36,I a0.1),(37,I j),(54,.eq (.bool u))]) (λy u=>[.obj c 135 (bb a0 z_a0),.inv z_a0 (bZ k a0)]) h (λK h=>?_) (λy u h=>?_)
      .refine ae ?_;iterate 2 refine mq ?_
       obtain⟨W3,X,h⟩:=aa h;refine jb (cK (t:=Tr) rfl Ku jK X) ?_;obtain⟨W2,U,h⟩:=aa h;refine jb (cK (t:=Ti) rfl C9 bP U) ?_;refine ja (an (t:=Ti) rfl bP rfl) ?_;refine jb (bq rfl) ?_;refine mq ?_;refine cy (s:=46) rfl (λhb=>?_) (λhb=>?_)
       .replace h:=ek (wA hb) h;refine gm ?_;obtain⟨W1,Q,h⟩:=aa h;refine gb (aY rfl Q) ?_;refine gm ?_;obtain⟨W0,O,h⟩:=aa h;refine gb (cK (t:=Tr) rfl Ku jK O) ?_;obtain⟨qt,M,h⟩:=aa h;refine gb (cK (t:=Ti) rfl C9 bP M) ?_;refine ga (an (t:=Ti) rfl bP rfl) ?_;refine gb (fV rfl) ?_;refine pt (nl ?_);exact jz ((),decide (qt=0)) h [0,1]
       .replace h:=cM (wB hb) h;iterate 7 refine gn ?_
        refine pf (nl ?_);exact jz ((),false) h [0,1]
      .refine cv h (λh=>?_) (λh=>?_)
       .refine sr (cq (nt (aA (br (aR (br (aR (aP ?_))))))));obtain rfl:=hR _ h;exact aV () [_] 2 ⟨rfl,trivial⟩ rfl
       .refine aX (aI (tn (ae ?_)));obtain⟨mw,J,h⟩:=aa h;refine jb (aY rfl J) ?_;refine mq (nl ?_);exact jz ((),mw) h [0,1]
     .refine dT (bv (bv (ce (bn ?_))));exact jz ((),()) h [0,1]
   .refine ae (mq ?_);obtain⟨mc,E,h⟩:=aa h;refine jb (aY rfl E) ?_;refine aq (nl ?_);exact jz ((),mc) h [0,1]
  .refine xa ?_;exact jz ((),()) h [0,1]
 .
  refine sr (cq (nt (aA ?_)));cases h;exact aV () [_] 2 ⟨rfl,trivial⟩ rfl
def oM(k:Nat)(a0:Int)(a1:ab)(a2:Int):Option Bool:=
 (jS k a1 a0 a2).bind λr1=>
 some r1
theorem uS(k:Nat)(a0:Int)(a1:ab)(c z_a1 j:Nat)(a2:Int)(e:Nat)(r:Bool)(h:oM k a0 a1 a2=some r):
 co (eC Tryz.prog) 86 [.eq (.int .u8 a0),Pt j,Pt e] [.obj c 135 (bb a1 z_a1),.inv z_a1 (bZ k a1),.obj j 77 (Pt c),.obj e 3 (I a2)] (λ_:Unit=>(bF [.eq (.bool r)],[.obj c 135 (bb a1 z_a1),.inv z_a1 (bZ k a1),.obj j 77 (Pt c),.obj e 3 (I a2)])):=by
 unfold oM at h
 replace h:=bf h
 refine co.of 9 Tryz.func86 rfl Tryz.ntmps86 rfl λS w0=>?_
 refine sr ?_
 refine cq ?_
 refine nt ?_
 refine sr ?_
 refine fr 2 ?_
 refine lo LG ?_
 refine mq ?_
 refine fr 3 ?_
 refine lo bP ?_
 obtain⟨r1,l,h⟩:=aa h
 have n:=pT k a1 c z_a1 a0 a2 r1 l
 refine fr 3 ?_
 refine fr 3 ?_
 refine aQ (Δ:=[_,_]) (F:=_) (λ_ _ _=>aj rfl _) rfl rfl (bo [.tmp 5,.tmp 6,.tmp 7] rfl rfl VD rfl n) ⟨rfl,rfl,rfl,trivial⟩ λ_=>?_
 refine aq ?_
 refine nt ?_
 refine aA ?_
 refine bA (SE.fin (Γ':=[(4,_)]) [0,1,3,2] ⟨rfl,trivial⟩ rfl) ?_
 cases h
 exact aV () [_] 4 ⟨rfl,trivial⟩ rfl
def fq(k:Nat)(a0:(List Int))(a1_0:ab)(a1_1:Int):Nat->Int->Option (Except Int Unit)
 |0,_=>none
 |n+1,y3=>
  if y3 < (a0.length:Int) then((aH a0 y3).bind λx5=>
  (oM k x5 a1_0 a1_1).bind λr6=>
  if r6=true then(some (.error y3)) else((ck (y3+1)).bind λx7=>
  fq k a0 a1_0 a1_1 n x7)) else(some (.ok ()))
def jL(k:Nat)(a0:(List Int))(a1_0:ab)(a1_1:Int):Option Int:=
 bE (α:=Unit) (fq k a0 a1_0 a1_1 k 0) (some) λ_=>
 some (-1:Int)
theorem pD(k:Nat)(a0:(List Int))(a1_0:ab)(b_a1_0 z_a1_0 c_a1_0:Nat)(a1_1:Int)(c_a1_1:Nat)(r:Int)(h:jL k a0 a1_0 a1_1=some r):
 co (eC Tryz.prog) 108 [.rep (.slice (.int .u8)) a0,.eq (.func (.func 86) #[] #[(Pv c_a1_0),(Pv c_a1_1)])] [.obj b_a1_0 135 (bb a1_0 z_a1_0),.inv z_a1_0 (bZ k a1_0),.obj c_a1_0 77 (Pt b_a1_0),.obj c_a1_1 3 (I a1_1)] (λ_:Unit=>(bF [I r],[.obj b_a1_0 135 (bb a1_0 z_a1_0),.inv z_a1_0 (bZ k a1_0),.obj c_a1_0 77 (Pt b_a1_0),.obj c_a1_1 3 (I a1_1)])):=by
 unfold jL at h
 replace h:=bf h
 refine co.of 19 Tryz.func108 rfl Tryz.ntmps108 rfl λS w0=>?_
 refine sr ?_
 refine cq ?_
 refine nt ?_
 refine cU (Z:=Unit) (α:=Unit) (λz2 x1=>[]) (λz2 x1=>[.obj b_a1_0 135 (bb a1_0 z_a1_0),.inv z_a1_0 (bZ k a1_0),.obj c_a1_0 77 (Pt b_a1_0),.obj c_a1_1 3 (I a1_1)]) (λe=>e=r) h (λe h=>Option.some.inj h) (λK hR h=>?_) (λz2 x1 h=>?_)
 .
  refine sr (mq ?_);refine ol Ak ?_;refine fg rfl ?_;refine nt (ah (aF (λz4 y3=>[(0,.rep (.slice (.int .u8)) a0),(1,.eq (.func (.func 86) #[] #[(Pv c_a1_0),(Pv c_a1_1)])),(7,I (a0.length:Int)),(8,I y3)]) (λz4 y3=>[.obj c_a1_0 77 (Pt b_a1_0),.obj b_a1_0 135 (bb a1_0 z_a1_0),.obj c_a1_1 3 (I a1_1),.inv z_a1_0 (bZ k a1_0)]) (fq k a0 a1_0 a1_1) k () 0 (λ_=>rfl) h (SE.fin [2,0,3,1] ⟨rfl,rfl,rfl,rfl,trivial⟩ rfl) (λn z4 y3 h=>?_)));unfold fq at h;refine sr (jb (bq rfl) ?_);refine nt (ai (ci h (λh=>?_) (λh=>?_)))
  .refine sk (ai (ah (sr (mq ?_))));refine aq (nt (sr ?_));iterate 3 refine mq ?_
   obtain⟨x5,j,h⟩:=aa h;refine jb (aD (t:=(.int .u8)) rfl Ak py j) ?_;refine ja (an (t:=(.int .u8)) rfl py rfl) ?_;obtain⟨r6,l,h⟩:=aa h;refine fr 2 ?_;refine fr 1 ?_;refine fr 3 ?_;refine fr 3 ?_;refine aQ (Δ:=[_,_,_,_]) (F:=_) (λ_ _ _=>aj rfl _) rfl rfl (sP (fs:=[]) (cs:=[(Pv c_a1_0),(Pv c_a1_1)]) (ags:=[.eq (.int .u8 x5)]) [.tmp 15] rfl rfl VE rfl (uS k x5 a1_0 b_a1_0 z_a1_0 c_a1_0 a1_1 c_a1_1 r6 l)) ⟨rfl,rfl,trivial⟩ λ_=>?_;refine nt (cv h (λh=>?_) (λh=>?_))
   .refine sr (mq ?_);refine aq (nt (aA (br (aR (aP ?_)))));obtain rfl:=hR _ h;exact aV () [_] 4 ⟨rfl,trivial⟩ rfl
   .refine aX (aI (tn (ae ?_)));obtain⟨x7,c,h⟩:=aa h;refine jb (aY rfl c) ?_;refine mq (nl ?_);exact jz ((),x7) h [2,0,3,1]
  .refine xa ?_;exact jz ((),()) h [1,3,0,2]
 .
  refine sr (cq (nt (aA ?_)));cases h;exact aV () [_] 4 ⟨rfl,trivial⟩ rfl
def fu(k:Nat)(a0:(List Int))(a1_0:ab)(a1_1:Int):Option Bool:=
 (jL k a0 a1_0 a1_1).bind λr1=>
 some (decide (0≤r1))
theorem nM(k:Nat)(a0:(List Int))(a1_0:ab)(b_a1_0 z_a1_0 c_a1_0:Nat)(a1_1:Int)(c_a1_1:Nat)(r:Bool)(h:fu k a0 a1_0 a1_1=some r):
 co (eC Tryz.prog) 88 [.rep (.slice (.int .u8)) a0,.eq (.func (.func 86) #[] #[(Pv c_a1_0),(Pv c_a1_1)])] [.obj b_a1_0 135 (bb a1_0 z_a1_0),.inv z_a1_0 (bZ k a1_0),.obj c_a1_0 77 (Pt b_a1_0),.obj c_a1_1 3 (I a1_1)] (λ_:Unit=>(bF [.eq (.bool r)],[.obj b_a1_0 135 (bb a1_0 z_a1_0),.inv z_a1_0 (bZ k a1_0),.obj c_a1_0 77 (Pt b_a1_0),.obj c_a1_1 3 (I a1_1)])):=by
 unfold fu at h
 replace h:=bf h
 refine co.of 9 Tryz.func88 rfl Tryz.ntmps88 rfl λS w0=>?_
 refine sr ?_
 refine cq ?_
 refine nt ?_
 refine sr ?_
 iterate 2 refine mq ?_
 obtain⟨r1,c,h⟩:=aa h
 have e:=pD k a0 a1_0 b_a1_0 z_a1_0 c_a1_0 a1_1 c_a1_1 r1 c
 refine fr 3 ?_
 refine fr 3 ?_
 refine fr 3 ?_
 refine fr 3 ?_
 refine aQ (Δ:=[_,_,_,_]) (F:=_) (λ_ _ _=>aj rfl _) rfl rfl (bo [.tmp 5,.tmp 6] rfl rfl Uf rfl e) ⟨rfl,rfl,trivial⟩ λ_=>?_
 refine jb (hJ rfl) ?_
 refine aq ?_
 refine nt ?_
 refine aA ?_
 cases h
 exact aV () [_] 4 ⟨rfl,trivial⟩ rfl
def rP(k:Nat)(a0:ab)(a1:Int):Option ((List Int)×Int):=
 (jB k a0 ([]:(List Int)) [a1] ([]:(List Int))).bind λr3=>
 gX r3.1 (if¬(r3.2.2=0) then(some (([]:(List Int)),r3.2.2)) else(none)) (λq4=>if¬(r3.2.2=0) then(some (([]:(List Int)),r3.2.2)) else((kX k (sE (λ(c:(List Int)) (e:Int)=>
  (oK k a0 a1 e).bind λr=>
  gX r (none) (λs=>(fu k r3.2.1 s a1).bind λn=>
  if¬(n=true) then((bV (bh (length c+length [e]))).bind λ_=>
  some (c++[e],true)) else(some (c,true))))) a0.1 (([]:(List Int)),false)).bind λh=>
 if h.2=true then(none) else((rM k h.1).bind λl=>
 (jQ k l).bind λj=>
 some (j,0))))
theorem xy(k:Nat)(a0:ab)(a1:Int)(r:(List Int)×Int)(h:rP k a0 a1=some r):
 co (eC Tryz.prog) 45 [.rep ak a0,I a1] [] (λ_:Unit=>(bF [.rep Tl r.1,I r.2],[])):=by
 unfold rP at h
 replace h:=bf h
 refine wX 44 Tryz.func45 rfl Tryz.ntmps45 rfl λS w0=>?_
 refine sr ?_
 refine bx λb1=>?_
 refine bx λb2=>?_
 refine cq ?_
 refine cq ?_
 refine nt ?_
 refine sr ?_
 refine fr 1 ?_
 refine lo dh ?_
 refine fr 1 ?_
 refine lo bP ?_
 refine ja (aU (t:=Ti) [(.tmp 15,_)] [a1] rfl rfl cJ (.cons rfl .int .nil) rfl rfl) ?_
 obtain⟨r3,W0,h⟩:=aa h
 have y:=lO k a0 ([]:(List Int)) [a1] ([]:(List Int)) r3 W0
 rcases hr:r3.1 with _ |q4
 .
  rw [hr] at h y;replace h:=wE h;refine aQ (Δ:=[]) (F:=_) (λ_ _ _=>aj rfl _) rfl rfl (bM (N:=[(.tmp 14,.rep ak a0),(.const (.slice none 0 0),.eq (.slice none 0 0)),(.tmp 16,.rep Tl [a1]),(.const (.slice none 0 0),.eq (.slice none 0 0))]) (bo [.tmp 14,.const (.slice none 0 0),.tmp 16,.const (.slice none 0 0)] rfl rfl BW rfl y) λ_ _ _ hn=>⟨hn.1,(aK (t:=Tl) (x:=([]:(List Int))) .nil rfl rfl hn.2.1),hn.2.2.1,(aK (t:=Tl) (x:=([]:(List Int))) .nil rfl rfl hn.2.2.2.1),trivial⟩) ⟨rfl,rfl,rfl,rfl,trivial⟩ λ_=>?_;refine mq ?_;refine xr ?_;refine xr ?_;refine xr ?_;refine be rfl rfl rfl (bz rfl La Oe) trivial λb5=>?_;refine aq ?_;refine aO rfl rfl (aL rfl yR rfl rfl rfl) ⟨rfl,rfl,trivial⟩ ?_;refine aq (nt (ai (sr ?_)));refine mq ?_;refine jb (dU rfl) ?_;refine nt (cn h (λh=>?_) (λh=>?_))
  .refine sr (mq ?_);refine cq ?_;refine aq (nt (rx ?_));refine bA (dS (t:=Tl) (x:=([]:(List Int))) 4 rfl .nil rfl rfl) ?_;refine CS ?_;cases h;exact rb
  .cases h
 .
  rw [hr] at h y;replace h:=wC h;refine aQ (Δ:=[]) (F:=_) (λ_ _ _=>aj rfl _) rfl rfl (bM (N:=[(.tmp 14,.rep ak a0),(.const (.slice none 0 0),.eq (.slice none 0 0)),(.tmp 16,.rep Tl [a1]),(.const (.slice none 0 0),.eq (.slice none 0 0))]) (bo [.tmp 14,.const (.slice none 0 0),.tmp 16,.const (.slice none 0 0)] rfl rfl BW rfl y) λ_ _ _ hn=>⟨hn.1,(aK (t:=Tl) (x:=([]:(List Int))) .nil rfl rfl hn.2.1),hn.2.2.1,(aK (t:=Tl) (x:=([]:(List Int))) .nil rfl rfl hn.2.2.2.1),trivial⟩) ⟨rfl,rfl,rfl,rfl,trivial⟩ λz6=>?_;refine mq ?_;refine xr ?_;refine xr ?_;refine xr ?_;refine be rfl rfl rfl (bz rfl La Oe) trivial λb7=>?_;refine aq ?_;refine aO rfl rfl (aL rfl yR rfl rfl rfl) ⟨rfl,rfl,trivial⟩ ?_;refine aq (nt (ai (sr ?_)));refine mq ?_;refine jb (dU rfl) ?_;refine nt (cn h (λh=>?_) (λh=>?_))
  .refine sr (mq ?_);refine cq ?_;refine aq (nt (rx ?_));refine bA (dS (t:=Tl) (x:=([]:(List Int))) 4 rfl .nil rfl rfl) ?_;refine CS ?_;cases h;exact rb
  .refine sk (sr (be rfl rfl rfl (bz rfl La Oe) trivial λb8=>?_));refine nt (ai (sr (fl eW ?_)));refine fr 5 ?_;refine lo bP ?_;refine be rfl rfl rfl (av [.tmp 25] rfl rfl TJ rfl (sX a0.1)) ⟨rfl,trivial⟩ λb9=>?_;refine nt (ah (gz (SE.nil 78 (.int .u8)) ?_));refine dJ 7 rfl ?_;refine dJ 7 rfl ?_;refine dJ 7 rfl ?_;refine dJ 7 rfl ?_;refine dJ 4 rfl ?_;refine dJ 7 rfl ?_;refine dJ 7 rfl ?_;refine dJ 7 rfl ?_;obtain⟨u,qt,h⟩:=aa h;refine tj (Δ:=[.obj b9 3 (I a0.1),.obj b1 25 (.rep ak a0),.obj b8 92 (.eq (.slice none 0 0)),.sl (.slice none 0 0) 78 (.int .u8) ([]:(List Int)),.obj b7 92 (.rep (.slice (.int .u8)) r3.2.1),.obj z6.1 135 (bb q4 z6.2),.inv z6.2 (bZ k q4),.obj b2 3 (I a1)]) (F:=[]) (X:=Value) (J:=λ_=>RF u.2) (E:=λc=>[.obj b9 3 (I a0.1),.obj b1 25 (.rep ak a0),.obj b8 92 (.eq c),.sl c 78 (.int .u8) u.1,.obj b7 92 (.rep (.slice (.int .u8)) r3.2.1),.obj z6.1 135 (bb q4 z6.2),.inv z6.2 (bZ k q4),.obj b2 3 (I a1)]) (r0:=λ_=>.tup .any) rfl rfl Pe (λrec hp ha hb hs hpe hN hv l=>?_) (λdl c=>vv (λhj=>?_) (λhj=>?_))
   .rcases rec with⟨st0,pe0,fn0,tm0,ps0,as0,bd0,df0⟩;dsimp only at hp ha hb hs hpe hN hv;subst hp hs hpe;have vN:CM tm0 [(2,Pt b1),(3,Pt b2),(7,Pt b7),(9,Pt b8)]:=⟨congrArg A.eq (hv 2 _ rfl).symm,congrArg A.eq (hv 3 _ rfl).symm,congrArg A.eq (hv 7 _ rfl).symm,congrArg A.eq (hv 9 _ rfl).symm,trivial⟩;refine co.pick (M:=(eC Tryz.prog)) [1,0,2,3,4,5,6,7,8] [1,0,2,3,4,5,6,7,8] (pV (λ(c:Value) (q:(List Int)×Bool)=>[.raw l (.loop (lz ⟨.ready,none,fn0,tm0, #[27],as0,bd0,df0⟩ (RF q.2))),.obj b1 25 (.rep ak a0),.obj b8 92 (.eq c),.sl c 78 (.int .u8) q.1,.obj b7 92 (.rep (.slice (.int .u8)) r3.2.1),.obj z6.1 135 (bb q4 z6.2),.inv z6.2 (bZ k q4),.obj b2 3 (I a1)]) l (sE (λ(n:(List Int)) (j:Int)=>
    (oK k a0 a1 j).bind λs=>
    gX s (none) (λO=>(fu k r3.2.1 O a1).bind λD=>
    if¬(D=true) then((bV (bh (length n+length [j]))).bind λ_=>
    some (n++[j],true)) else(some (n,true))))) k a0.1 b9 (λc q p r' h=>?_) (.slice none 0 0) (([]:(List Int)),false) u qt) rfl (λ_=>rfl) (λ_=>rfl)
    obtain⟨rq,hq,h2,rfl⟩:=vy h;obtain⟨n,b5⟩:=q;obtain rfl:b5=false:=hq;replace h:=bf h2;obtain⟨j,hpv⟩:∃x,x=p:=⟨_,rfl⟩;subst hpv;refine YT.pick (R':=(λc:Value=>(.eq (.bool rq.2),[.raw l (.loop (lz ⟨.ready,none,fn0,tm0, #[27],as0,bd0,df0⟩ (RF (!rq.2)))),.obj b1 25 (.rep ak a0),.obj b8 92 (.eq c),.sl c 78 (.int .u8) rq.1,.obj b7 92 (.rep (.slice (.int .u8)) r3.2.1),.obj z6.1 135 (bb q4 z6.2),.inv z6.2 (bZ k q4),.obj b2 3 (I a1)]))) [0,1,2,3,4,5,6,7] [0,1,2,3,4,5,6,7] (Kp ha hb (N:=44) (Γ:=[(2,Pt b1),(3,Pt b2),(7,Pt b7),(9,Pt b8)]) rfl hN (by decide) vN (λS w=>?_)) rfl (λ_=>rfl) (λ_=>rfl);refine ae (aq (nl ?_));refine CV rfl rfl ?_;refine ah (sr (fr 1 ?_));refine lo dh ?_;refine fr 7 ?_;refine lo bP ?_;refine mq ?_;obtain⟨s,mw,h⟩:=aa h;have e:=xu k a0 a1 j s mw;rcases hr:s with _ |O
    .rw [hr] at h e;replace h:=wE h;refine aQ (Δ:=[]) (F:=_) (λ_ _ _=>aj rfl _) rfl rfl (av [.tmp 28,.tmp 29,.tmp 30] rfl rfl TG rfl e) ⟨rfl,rfl,rfl,trivial⟩ λ_=>?_;cases h
    .rw [hr] at h e;replace h:=wC h;refine aQ (Δ:=[]) (F:=_) (λ_ _ _=>aj rfl _) rfl rfl (av [.tmp 28,.tmp 29,.tmp 30] rfl rfl TG rfl e) ⟨rfl,rfl,rfl,trivial⟩ λQ=>?_;refine be rfl rfl rfl (bz rfl UW Wg) trivial λzz=>?_;refine aO rfl rfl (aL rfl LG rfl rfl rfl) ⟨rfl,rfl,trivial⟩ ?_;refine nt (sr (jb (tJ [] [.tmp 11,.tmp 3] [] [(Pv zz),(Pv b2)] rfl rfl rfl) ?_));refine aq (nt (sr ?_));refine fr 8 ?_;refine lo yR ?_;refine mq ?_;obtain⟨D,mc,h⟩:=aa h;refine fr 4 ?_;refine fr 2 ?_;refine fr 4 ?_;refine fr 4 ?_;refine aQ (Δ:=[_,_,_,_]) (F:=_) (λ_ _ _=>aj rfl _) rfl rfl (bo [.tmp 33,.tmp 34] rfl rfl VC rfl (nM k r3.2.1 O Q.1 Q.2 zz a1 b2 D mc)) ⟨rfl,rfl,trivial⟩ λ_=>?_;refine ja (ff rfl) ?_;refine nt (cw h (λh=>?_) (λh=>?_))
     .refine ae (fr 7 ?_);refine lo yR ?_;refine mq ?_;refine ja (aU (t:=(.int .u8)) [(.tmp 38,_)] [j] rfl rfl LS (.cons rfl .int .nil) rfl rfl) ?_;obtain⟨W1,Y,h⟩:=aa h;refine fr 8 ?_;refine cE rfl rfl rfl (bi rfl rfl LS (ap Y)) ⟨rfl,rfl,trivial⟩ λWY=>?_;refine oY λo22=>?_;refine fr 1 ?_;refine aO rfl rfl (aL rfl yR o22 rfl rfl) ⟨rfl,rfl,trivial⟩ ?_;refine aG (aI (bK 5 rfl ?_));refine bK 10 rfl ?_;refine bK 10 rfl ?_;refine bK 8 rfl ?_;refine bK 5 rfl ?_;refine bK 5 rfl ?_;refine bK 9 rfl ?_;refine bK 10 rfl ?_;cases h;exact qO WY 7 rfl
     .refine aX (aI (bK 3 rfl ?_));refine bK 10 rfl ?_;refine bK 10 rfl ?_;refine bK 6 rfl ?_;refine bK 10 rfl ?_;refine bK 10 rfl ?_;refine bK 9 rfl ?_;refine bK 10 rfl ?_;cases h;exact qO c 7 rfl
   .replace h:=cM (Ly hj) h;refine aI (tn (sr (fr 3 ?_)));refine lo yR ?_;obtain⟨U,gw,h⟩:=aa h;refine fr 4 ?_;refine kb (kB (N:=[(.tmp 41,.eq c),(.func 89,.eq (.func (.func 89) #[] #[]))]) (av [.tmp 41,.func 89] rfl rfl VK rfl (xw k u.1 U gw)) (λ_ _ _ hv hn=>⟨(lend hn.1 hv),hn.2.1,trivial⟩) (λ_=>⟨rfl,oe⟩)) ?_;obtain⟨WZ,Z,h⟩:=aa h;refine ja (av [.tmp 42] rfl rfl QN rfl (lD k U WZ Z)) ?_;refine aq ?_;refine cq (nt (aA ?_));refine bK 2 rfl ?_;refine FZ ?_;cases h;exact rb
   .replace h:=ek (Lx hj) h;cases h
def pX(k:Nat):Option Bool:=
 (jD k ([]:(List aW))).bind λr1=>
 (rQ k r1 [0]).bind λr2=>
 (jD k ([]:(List aW))).bind λr3=>
 (rR k r3).bind λr4=>
 (jD k ([]:(List aW))).bind λr5=>
 (lZ k r5 2).bind λr6=>
 (jD k ([]:(List aW))).bind λr8=>
 (tZ k r8 [0] 3).bind λr9=>
 (jD k ([]:(List aW))).bind λu=>
 (vY k u 2).bind λc=>
 (jD k ([]:(List aW))).bind λs=>
 (rP k s 2).bind λe=>
 ((if r2.2=0 then(if r4.2=0 then(if r6.2=0 then(if r9.2=0 then(if c.2.2=0 then(if e.2=0 then(if r6.1=(1,3) then(if c.1=2 then(if c.2.1=2 then((fQ k r2.1 [[1,(-1:Int),(-1:Int),(-1:Int)],[2,0,(-1:Int),(-1:Int)],[3,1,(-1:Int),(-1:Int)],[3,2,0,(-1:Int)],[(-1:Int),3,1,0]]).bind λr=>
 if r=true then((fQ k r4.1 [[0],[0,1],[1]]).bind λn=>
 if n=true then((fL k r9.1 [0,1,3]).bind λl=>
 if l=true then((fL k e.1 [1,2]).bind λj=>
 some j) else(some false)) else(some false)) else(some false)) else(some false)) else(some false)) else(some false)) else(some false)) else(some false)) else(some false)) else(some false)) else(some false)) else(some false)):Option (Bool)).bind λh=>
 some h
theorem uE(k:Nat)(r:Bool)(h:pX k=some r):
 co (eC Tryz.prog) 11 [] [] (λ_:Unit=>(bF [.eq (.bool r)],[])):=by
 unfold pX at h
 replace h:=bf h
 refine co.of 110 Tryz.func11 rfl Tryz.ntmps11 rfl λS w0=>?_
 refine sr ?_
 refine cq ?_
 refine nt ?_
 refine sr ?_
 obtain⟨r1,W4,h⟩:=aa h
 have Xc:=iO k ([]:(List aW)) r1 W4
 refine ja (bM (N:=[(.const (.slice none 0 0),.eq (.slice none 0 0))]) (av [.const (.slice none 0 0)] rfl rfl G2 rfl Xc) λ_ _ _ hn=>⟨(aK (t:=(.slice aJ)) (x:=([]:(List aW))) .nil rfl rfl hn.1),trivial⟩) ?_
 refine ja (aU (t:=Ti) [(.const (.int .i64 (0)),_)] [0] rfl rfl cJ (.cons rfl .int .nil) rfl rfl) ?_
 obtain⟨r2,W3,h⟩:=aa h
 have Xb:=xz k r1 [0] r2 W3
 refine jb (bo [.tmp 15,.tmp 16] rfl rfl V8 rfl Xb) ?_
 refine mq ?_
 refine xr ?_
 refine xr ?_
 refine aq ?_
 refine aq ?_
 refine nt ?_
 refine sr ?_
 obtain⟨r3,W2,h⟩:=aa h
 have Xa:=iO k ([]:(List aW)) r3 W2
 refine ja (bM (N:=[(.const (.slice none 0 0),.eq (.slice none 0 0))]) (av [.const (.slice none 0 0)] rfl rfl G2 rfl Xa) λ_ _ _ hn=>⟨(aK (t:=(.slice aJ)) (x:=([]:(List aW))) .nil rfl rfl hn.1),trivial⟩) ?_
 obtain⟨r4,W1,h⟩:=aa h
 have W9:=xA k r3 r4 W1
 refine ja (bo [.tmp 21] rfl rfl V3 rfl W9) ?_
 refine mq ?_
 refine xr ?_
 refine xr ?_
 refine aq ?_
 refine aq ?_
 refine nt ?_
 refine sr ?_
 obtain⟨r5,W0,h⟩:=aa h
 have W8:=iO k ([]:(List aW)) r5 W0
 refine ja (bM (N:=[(.const (.slice none 0 0),.eq (.slice none 0 0))]) (av [.const (.slice none 0 0)] rfl rfl G2 rfl W8) λ_ _ _ hn=>⟨(aK (t:=(.slice aJ)) (x:=([]:(List aW))) .nil rfl rfl hn.1),trivial⟩) ?_
 obtain⟨r6,WZ,h⟩:=aa h
 have W7:=sY k r5 2 r6 WZ
 refine jb (bo [.tmp 26,.const (.int .i64 (2))] rfl rfl TU rfl W7) ?_
 refine mq ?_
 refine xr ?_
 refine xr ?_
 refine be rfl rfl rfl (bz rfl rj Hm) trivial λb7=>?_
 refine aO rfl rfl (aL rfl mf rfl rfl rfl) ⟨rfl,rfl,trivial⟩ ?_
 refine aq ?_
 refine nt ?_
 refine sr ?_
 obtain⟨r8,WY,h⟩:=aa h
 have W6:=iO k ([]:(List aW)) r8 WY
 refine ja (bM (N:=[(.const (.slice none 0 0),.eq (.slice none 0 0))]) (av [.const (.slice none 0 0)] rfl rfl G2 rfl W6) λ_ _ _ hn=>⟨(aK (t:=(.slice aJ)) (x:=([]:(List aW))) .nil rfl rfl hn.1),trivial⟩) ?_
 refine ja (aU (t:=Ti) [(.const (.int .i64 (0)),_)] [0] rfl rfl cJ (.cons rfl .int .nil) rfl rfl) ?_
 obtain⟨r9,zz,h⟩:=aa h
 have W5:=zA k r8 [0] 3 r9 zz
 refine jc (bo [.tmp 31,.tmp 32,.const (.int .i64 (3))] rfl rfl V0 rfl W5) ?_
 refine mq ?_
 refine xr ?_
 refine xr ?_
 refine aq ?_
 refine aq ?_
 refine nt ?_
 refine sr ?_
 obtain⟨u,O,h⟩:=aa h
 have Y:=iO k ([]:(List aW)) u O
 refine ja (bM (N:=[(.const (.slice none 0 0),.eq (.slice none 0 0))]) (av [.const (.slice none 0 0)] rfl rfl G2 rfl Y) λ_ _ _ hn=>⟨(aK (t:=(.slice aJ)) (x:=([]:(List aW))) .nil rfl rfl hn.1),trivial⟩) ?_
 obtain⟨qt,M,h⟩:=aa h
 have X:=Bw k u 2 qt M
 refine jb (bo [.tmp 37,.const (.int .i64 (2))] rfl rfl V4 rfl X) ?_
 refine mq ?_
 refine xr ?_
 refine xr ?_
 refine xr ?_
 refine aq ?_
 refine aq ?_
 refine aq ?_
 refine nt ?_
 refine sr ?_
 obtain⟨n,J,h⟩:=aa h
 have U:=iO k ([]:(List aW)) n J
 refine ja (bM (N:=[(.const (.slice none 0 0),.eq (.slice none 0 0))]) (av [.const (.slice none 0 0)] rfl rfl G2 rfl U) λ_ _ _ hn=>⟨(aK (t:=(.slice aJ)) (x:=([]:(List aW))) .nil rfl rfl hn.1),trivial⟩) ?_
 obtain⟨l,I,h⟩:=aa h
 have Q:=xy k n 2 l I
 refine jb (bo [.tmp 43,.const (.int .i64 (2))] rfl rfl VV rfl Q) ?_
 refine mq ?_
 refine xr ?_
 refine xr ?_
 refine aq ?_
 refine aq ?_
 refine nt ?_
 refine aE (Z:=Unit) (α:=Bool) (λe c=>[(0,.eq (.bool c))]) (λe c=>[]) h (λK h=>?_) (λe c h=>?_)
 .
  refine ae (mq ?_);refine jb (fV rfl) ?_;refine mq ?_;refine cy (s:=49) rfl (λhb=>?_) (λhb=>?_)
  .replace h:=ek (wA hb) h;refine gm ?_;refine gb (fV rfl) ?_;refine pt ?_;refine mq ?_;refine cy (s:=53) rfl (λhb=>?_) (λhb=>?_)
   .replace h:=ek (wA hb) h;refine gm ?_;refine gb (fV rfl) ?_;refine pt ?_;refine mq ?_;refine cy (s:=57) rfl (λhb=>?_) (λhb=>?_)
    .replace h:=ek (wA hb) h;refine gm ?_;refine gb (fV rfl) ?_;refine pt ?_;refine mq ?_;refine cy (s:=61) rfl (λhb=>?_) (λhb=>?_)
     .replace h:=ek (wA hb) h;refine gm ?_;refine gb (fV rfl) ?_;refine pt ?_;refine mq ?_;refine cy (s:=65) rfl (λhb=>?_) (λhb=>?_)
      .replace h:=ek (wA hb) h;refine gm ?_;refine gb (fV rfl) ?_;refine pt ?_;refine mq ?_;refine cy (s:=69) rfl (λhb=>?_) (λhb=>?_)
       .replace h:=ek (wA hb) h;refine eY rfl rfl rfl rfl rfl rfl (ao rfl mf (mU) rfl) ⟨rfl,trivial⟩ ?_;refine gb (dA [(0,.const (.int .i64 (1)),_),(1,.const (.int .i64 (3)),_)] rfl zm rj te (iV ⟨rfl,rfl,trivial⟩) rfl) ?_;refine eL (dS (t:=bu) (x:=(1,3)) 71 rfl (.agg (.pair .int .int)) trivial rfl) ?_;refine gb (Qm rfl TC rfl) ?_;refine pt ?_;refine mq ?_;refine cy (s:=74) rfl (λhb=>?_) (λhb=>?_)
        .replace h:=ek (wA hb) h;refine gm ?_;refine gb (fV rfl) ?_;refine pt ?_;refine mq ?_;refine cy (s:=78) rfl (λhb=>?_) (λhb=>?_)
         .replace h:=ek (wA hb) h;refine gm ?_;refine gb (fV rfl) ?_;refine pt ?_;refine mq ?_;refine cy (s:=82) rfl (λhb=>?_) (λhb=>?_)
          .replace h:=ek (wA hb) h;refine gm ?_;refine nE rfl rfl rfl rfl rfl rfl (aU (t:=Ti) [(.const (.int .i64 (1)),_),(.const (.int .i64 (-1)),_),(.const (.int .i64 (-1)),_),(.const (.int .i64 (-1)),_)] [1,(-1:Int),(-1:Int),(-1:Int)] rfl rfl cJ (.cons rfl .int (.cons rfl .int (.cons rfl .int (.cons rfl .int .nil)))) rfl rfl) ⟨rfl,rfl,rfl,rfl,trivial⟩ ?_;refine nE rfl rfl rfl rfl rfl rfl (aU (t:=Ti) [(.const (.int .i64 (2)),_),(.const (.int .i64 (0)),_),(.const (.int .i64 (-1)),_),(.const (.int .i64 (-1)),_)] [2,0,(-1:Int),(-1:Int)] rfl rfl cJ (.cons rfl .int (.cons rfl .int (.cons rfl .int (.cons rfl .int .nil)))) rfl rfl) ⟨rfl,rfl,rfl,rfl,trivial⟩ ?_;refine nE rfl rfl rfl rfl rfl rfl (aU (t:=Ti) [(.const (.int .i64 (3)),_),(.const (.int .i64 (1)),_),(.const (.int .i64 (-1)),_),(.const (.int .i64 (-1)),_)] [3,1,(-1:Int),(-1:Int)] rfl rfl cJ (.cons rfl .int (.cons rfl .int (.cons rfl .int (.cons rfl .int .nil)))) rfl rfl) ⟨rfl,rfl,rfl,rfl,trivial⟩ ?_;refine nE rfl rfl rfl rfl rfl rfl (aU (t:=Ti) [(.const (.int .i64 (3)),_),(.const (.int .i64 (2)),_),(.const (.int .i64 (0)),_),(.const (.int .i64 (-1)),_)] [3,2,0,(-1:Int)] rfl rfl cJ (.cons rfl .int (.cons rfl .int (.cons rfl .int (.cons rfl .int .nil)))) rfl rfl) ⟨rfl,rfl,rfl,rfl,trivial⟩ ?_;refine nE rfl rfl rfl rfl rfl rfl (aU (t:=Ti) [(.const (.int .i64 (-1)),_),(.const (.int .i64 (3)),_),(.const (.int .i64 (1)),_),(.const (.int .i64 (0)),_)] [(-1:Int),3,1,0] rfl rfl cJ (.cons rfl .int (.cons rfl .int (.cons rfl .int (.cons rfl .int .nil)))) rfl rfl) ⟨rfl,rfl,rfl,rfl,trivial⟩ ?_;refine nE rfl rfl rfl rfl rfl rfl (aU (t:=Tl) [(.tmp 84,_),(.tmp 85,_),(.tmp 86,_),(.tmp 87,_),(.tmp 88,_)] [[1,(-1:Int),(-1:Int),(-1:Int)],[2,0,(-1:Int),(-1:Int)],[3,1,(-1:Int),(-1:Int)],[3,2,0,(-1:Int)],[(-1:Int),3,1,0]] rfl rfl mh (.cons rfl .rep (.cons rfl .rep (.cons rfl .rep (.cons rfl .rep (.cons rfl .rep .nil))))) rfl rfl) ⟨rfl,rfl,rfl,rfl,rfl,trivial⟩ ?_;obtain⟨mw,F,h⟩:=aa h;refine gb (av [.tmp 83,.tmp 89] rfl rfl QR rfl (kw k r2.1 [[1,(-1:Int),(-1:Int),(-1:Int)],[2,0,(-1:Int),(-1:Int)],[3,1,(-1:Int),(-1:Int)],[3,2,0,(-1:Int)],[(-1:Int),3,1,0]] mw F)) ?_;refine pt ?_;refine mq ?_;refine cy (s:=92) rfl (λhb=>?_) (λhb=>?_)
           .replace h:=ek (Lx hb) h;refine gm ?_;refine ga (aU (t:=Ti) [(.const (.int .i64 (0)),_)] [0] rfl rfl cJ (.cons rfl .int .nil) rfl rfl) ?_;refine gb (aU (t:=Ti) [(.const (.int .i64 (0)),_),(.const (.int .i64 (1)),_)] [0,1] rfl rfl cJ (.cons rfl .int (.cons rfl .int .nil)) rfl rfl) ?_;refine ga (aU (t:=Ti) [(.const (.int .i64 (1)),_)] [1] rfl rfl cJ (.cons rfl .int .nil) rfl rfl) ?_;refine gc (aU (t:=Tl) [(.tmp 94,_),(.tmp 95,_),(.tmp 96,_)] [[0],[0,1],[1]] rfl rfl mh (.cons rfl .rep (.cons rfl .rep (.cons rfl .rep .nil))) rfl rfl) ?_;obtain⟨mc,E,h⟩:=aa h;refine gb (av [.tmp 93,.tmp 97] rfl rfl QR rfl (kw k r4.1 [[0],[0,1],[1]] mc E)) ?_;refine pt ?_;refine mq ?_;refine cy (s:=100) rfl (λhb=>?_) (λhb=>?_)
            .replace h:=ek (Lx hb) h;refine gm ?_;refine gc (aU (t:=Ti) [(.const (.int .i64 (0)),_),(.const (.int .i64 (1)),_),(.const (.int .i64 (3)),_)] [0,1,3] rfl rfl cJ (.cons rfl .int (.cons rfl .int (.cons rfl .int .nil))) rfl rfl) ?_;obtain⟨gw,D,h⟩:=aa h;refine gb (av [.tmp 101,.tmp 102] rfl rfl NJ rfl (jq k r9.1 [0,1,3] gw D)) ?_;refine pt ?_;refine mq ?_;refine cy (s:=105) rfl (λhb=>?_) (λhb=>?_)
             .replace h:=ek (Lx hb) h;refine gm ?_;refine gb (aU (t:=Ti) [(.const (.int .i64 (1)),_),(.const (.int .i64 (2)),_)] [1,2] rfl rfl cJ (.cons rfl .int (.cons rfl .int .nil)) rfl rfl) ?_;obtain⟨j,y,h⟩:=aa h;refine gb (av [.tmp 106,.tmp 107] rfl rfl NJ rfl (jq k l.1 [1,2] j y)) ?_;refine pt ?_;refine aq (nl ?_);exact jz ((),j) h []
             .replace h:=cM (Ly hb) h;iterate 3 refine gn ?_
              refine pf ?_;refine aq (nl ?_);exact jz ((),false) h []
            .replace h:=cM (Ly hb) h;iterate 3 refine gn ?_
             refine pf ?_;refine mq ?_;iterate 3 refine gn ?_
             refine pf ?_;refine aq (nl ?_);exact jz ((),false) h []
           .replace h:=cM (Ly hb) h;iterate 6 refine gn ?_
            refine pf ?_;refine mq ?_;iterate 3 refine gn ?_
            refine pf ?_;refine mq ?_;iterate 3 refine gn ?_
            refine pf ?_;refine aq (nl ?_);exact jz ((),false) h []
          .replace h:=cM (wB hb) h;iterate 8 refine gn ?_
           refine pf ?_;refine mq ?_;iterate 6 refine gn ?_
           refine pf ?_;refine mq ?_;iterate 3 refine gn ?_
           refine pf ?_;refine mq ?_;iterate 3 refine gn ?_
           refine pf ?_;refine aq (nl ?_);exact jz ((),false) h []
         .replace h:=cM (wB hb) h;iterate 2 refine gn ?_
          refine pf ?_;refine mq ?_;iterate 8 refine gn ?_
          refine pf ?_;refine mq ?_;iterate 6 refine gn ?_
          refine pf ?_;refine mq ?_;iterate 3 refine gn ?_
          refine pf ?_;refine mq ?_;iterate 3 refine gn ?_
          refine pf ?_;refine aq (nl ?_);exact jz ((),false) h []
        .replace h:=cM (wB hb) h;iterate 2 refine gn ?_
         refine pf ?_;refine mq ?_;iterate 2 refine gn ?_
         refine pf ?_;refine mq ?_;iterate 8 refine gn ?_
         refine pf ?_;refine mq ?_;iterate 6 refine gn ?_
         refine pf ?_;refine mq ?_;iterate 3 refine gn ?_
         refine pf ?_;refine mq ?_;iterate 3 refine gn ?_
         refine pf ?_;refine aq (nl ?_);exact jz ((),false) h []
       .replace h:=cM (wB hb) h;iterate 3 refine gn ?_
        refine pf ?_;refine mq ?_;iterate 2 refine gn ?_
        refine pf ?_;refine mq ?_;iterate 2 refine gn ?_
        refine pf ?_;refine mq ?_;iterate 8 refine gn ?_
        refine pf ?_;refine mq ?_;iterate 6 refine gn ?_
        refine pf ?_;refine mq ?_;iterate 3 refine gn ?_
        refine pf ?_;refine mq ?_;iterate 3 refine gn ?_
        refine pf ?_;refine aq (nl ?_);exact jz ((),false) h []
      .replace h:=cM (wB hb) h;iterate 2 refine gn ?_
       refine pf ?_;refine mq ?_;iterate 3 refine gn ?_
       refine pf ?_;refine mq ?_;iterate 2 refine gn ?_
       refine pf ?_;refine mq ?_;iterate 2 refine gn ?_
       refine pf ?_;refine mq ?_;iterate 8 refine gn ?_
       refine pf ?_;refine mq ?_;iterate 6 refine gn ?_
       refine pf ?_;refine mq ?_;iterate 3 refine gn ?_
       refine pf ?_;refine mq ?_;iterate 3 refine gn ?_
       refine pf ?_;refine aq (nl ?_);exact jz ((),false) h []
     .replace h:=cM (wB hb) h;iterate 2 refine gn ?_
      refine pf ?_;refine mq ?_;iterate 2 refine gn ?_
      refine pf ?_;refine mq ?_;iterate 3 refine gn ?_
      refine pf ?_;refine mq ?_;iterate 2 refine gn ?_
      refine pf ?_;refine mq ?_;iterate 2 refine gn ?_
      refine pf ?_;refine mq ?_;iterate 8 refine gn ?_
      refine pf ?_;refine mq ?_;iterate 6 refine gn ?_
      refine pf ?_;refine mq ?_;iterate 3 refine gn ?_
      refine pf ?_;refine mq ?_;iterate 3 refine gn ?_
      refine pf ?_;refine aq (nl ?_);exact jz ((),false) h []
    .replace h:=cM (wB hb) h;iterate 2 refine gn ?_
     refine pf ?_;refine mq ?_;iterate 2 refine gn ?_
     refine pf ?_;refine mq ?_;iterate 2 refine gn ?_
     refine pf ?_;refine mq ?_;iterate 3 refine gn ?_
     refine pf ?_;refine mq ?_;iterate 2 refine gn ?_
     refine pf ?_;refine mq ?_;iterate 2 refine gn ?_
     refine pf ?_;refine mq ?_;iterate 8 refine gn ?_
     refine pf ?_;refine mq ?_;iterate 6 refine gn ?_
     refine pf ?_;refine mq ?_;iterate 3 refine gn ?_
     refine pf ?_;refine mq ?_;iterate 3 refine gn ?_
     refine pf ?_;refine aq (nl ?_);exact jz ((),false) h []
   .replace h:=cM (wB hb) h;iterate 2 refine gn ?_
    refine pf ?_;refine mq ?_;iterate 2 refine gn ?_
    refine pf ?_;refine mq ?_;iterate 2 refine gn ?_
    refine pf ?_;refine mq ?_;iterate 2 refine gn ?_
    refine pf ?_;refine mq ?_;iterate 3 refine gn ?_
    refine pf ?_;refine mq ?_;iterate 2 refine gn ?_
    refine pf ?_;refine mq ?_;iterate 2 refine gn ?_
    refine pf ?_;refine mq ?_;iterate 8 refine gn ?_
    refine pf ?_;refine mq ?_;iterate 6 refine gn ?_
    refine pf ?_;refine mq ?_;iterate 3 refine gn ?_
    refine pf ?_;refine mq ?_;iterate 3 refine gn ?_
    refine pf ?_;refine aq (nl ?_);exact jz ((),false) h []
  .replace h:=cM (wB hb) h;iterate 2 refine gn ?_
   refine pf ?_;refine mq ?_;iterate 2 refine gn ?_
   refine pf ?_;refine mq ?_;iterate 2 refine gn ?_
   refine pf ?_;refine mq ?_;iterate 2 refine gn ?_
   refine pf ?_;refine mq ?_;iterate 2 refine gn ?_
   refine pf ?_;refine mq ?_;iterate 3 refine gn ?_
   refine pf ?_;refine mq ?_;iterate 2 refine gn ?_
   refine pf ?_;refine mq ?_;iterate 2 refine gn ?_
   refine pf ?_;refine mq ?_;iterate 8 refine gn ?_
   refine pf ?_;refine mq ?_;iterate 6 refine gn ?_
   refine pf ?_;refine mq ?_;iterate 3 refine gn ?_
   refine pf ?_;refine mq ?_;iterate 3 refine gn ?_
   refine pf ?_;refine aq (nl ?_);exact jz ((),false) h []
 .
  refine aA ?_;cases h;exact ra
def f6(k:Nat)(r4:(List Int)×bT):Nat->((List Int)×Int×Int×Int×(List (List Int)))->Option ((List Int)×Int×Int×(List (List Int)))
 |0,_=>none
 |n+1,y7=>
  if y7.2.2.2.1 < (r4.1.length:Int) then((((fR k (y7.1,y7.2.1,y7.2.2.1) 5).bind λc=>
  if c.1=true then(some (c.2.1,c.2.2.1,c.2.2.2,y7.2.2.2.2)) else((ck ((y7.2.2.2.2.length:Int) - 1)).bind λr=>
  (bY k (c.2.1,c.2.2.1,c.2.2.2) r).bind λe=>
  (aH y7.2.2.2.2 e.1).bind λj=>
  (aH r4.1 y7.2.2.2.1).bind λh=>
  (bV (bh (length j+length [h]))).bind λ_=>
  some (e.2.1,e.2.2.1,e.2.2.2,List.set y7.2.2.2.2 (Int.toNat e.1) (j++[h])))):Option ((List Int)×Int×Int×(List (List Int)))).bind λx9=>
  (ck (y7.2.2.2.1+1)).bind λl=>
  f6 k r4 n (x9.1,x9.2.1,x9.2.2.1,l,x9.2.2.2)) else(some (y7.1,y7.2.1,y7.2.2.1,y7.2.2.2.2))
def kY(k:Nat)(a0:bT)(a1:Int):Option ((List (List Int))×bT):=
 (gy k (a0.1,a0.2.1,a0.2.2) 1 3).bind λr1=>
 (bV (0≤r1.1/\bh (Int.toNat r1.1))).bind λ_=>
 (iJ k (r1.2.1,r1.2.2.1,r1.2.2.2) a1).bind λr4=>
 ((f6 k r4 k (r4.2.1,r4.2.2.1,r4.2.2.2,0,List.replicate (Int.toNat r1.1) ([]:(List Int)))):Option ((List Int)×Int×Int×(List (List Int)))).bind λx5=>
 some (x5.2.2.2,(x5.1,x5.2.1,x5.2.2.1))
theorem wj(k:Nat)(a0:bT)(c:Nat)(a1:Int)(r:(List (List Int))×bT)(h:kY k a0 a1=some r):
 cV Tryz.prog 100 [Pt c,I a1] [.obj c 74 (.agg (.pair (.rep Tl a0.1) (.pair (I a0.2.1) (.eq (.int .u64 a0.2.2)))))] (λ_:Unit=>(bF [.rep (.slice Tl) r.1],[.obj c 74 (.agg (.pair (.rep Tl r.2.1) (.pair (I r.2.2.1) (.eq (.int .u64 r.2.2.2)))))])):=by
 unfold kY at h
 replace h:=bf h
 refine cV.of 42 Tryz.func100 rfl Tryz.ntmps100 rfl λS w0=>?_
 refine sr ?_
 refine cq ?_
 refine nt ?_
 refine sr ?_
 refine mq ?_
 obtain⟨r1,W6,h⟩:=aa h
 have W8:=jW k (a0.1,a0.2.1,a0.2.2) c 1 3 r1 W6
 refine kc (av [.tmp 9,.const (.int .i64 (1)),.const (.int .i64 (3))] rfl rfl NG rfl W8) ?_
 obtain⟨u2,U,h⟩:=aa h
 refine be rfl rfl rfl (Ql (t:=.val) (d:=.slice none 0 0) rfl mh RI (ap U).1 (ap U).2) ⟨rfl,rfl,trivial⟩ λv3=>?_
 refine eL (KB (F:=[.obj c 74 (.agg (.pair (.rep Tl r1.2.1) (.pair (I r1.2.2.1) (.eq (.int .u64 r1.2.2.2)))))])) ?_
 refine aq ?_
 refine nt ?_
 refine sr ?_
 iterate 2 refine mq ?_
 obtain⟨r4,W5,h⟩:=aa h
 have W7:=s5 k (r1.2.1,r1.2.2.1,r1.2.2.2) c a1 r4 W5
 refine kb (av [.tmp 12,.tmp 13] rfl rfl Uc rfl W7) ?_
 refine aq ?_
 refine nt ?_
 refine aE (Z:=(Value×(Nat->Value))) (α:=(List Int)×Int×Int×(List (List Int))) (λz6 x5=>[(5,.eq z6.1)]) (λz6 x5=>[.obj c 74 (.agg (.pair (.rep Tl x5.1) (.pair (I x5.2.1) (.eq (.int .u64 x5.2.2.1)))))]++zn 28 z6 x5.2.2.2) h (λK h=>?_) (λz6 x5 h=>?_)
 .
  refine sr (cq (nt (ah ?_)));refine aF (Z:=(Value×(Nat->Value))) (α:=(List Int)×Int×Int×Int×(List (List Int))) (λz8 y7=>[(0,Pt c),(5,.eq z8.1),(6,.rep Tl r4.1),(7,I y7.2.2.2.1)]) (λz8 y7=>[.obj c 74 (.agg (.pair (.rep Tl y7.1) (.pair (I y7.2.1) (.eq (.int .u64 y7.2.2.1)))))]++zn 28 z8 y7.2.2.2.2) (f6 k r4) k (v3,λ_=>.slice none 0 0) (r4.2.1,r4.2.2.1,r4.2.2.2,0,List.replicate (Int.toNat r1.1) ([]:(List Int))) (λ_=>rfl) h (lT [.obj c 74 (.agg (.pair (.rep Tl r4.2.1) (.pair (I r4.2.2.1) (.eq (.int .u64 r4.2.2.2)))))] (zn 28 (v3,λ_=>.slice none 0 0) (List.replicate (Int.toNat r1.1) ([]:(List Int)))) [0] ⟨rfl,rfl,rfl,rfl,trivial⟩ rfl) (λn z8 y7 h=>?_);unfold f6 at h;refine ai (sr ?_);iterate 2 refine mq ?_
  refine ol gh ?_;refine jb (bq rfl) ?_;refine nt (ci h (λh=>?_) (λh=>?_))
  .refine sk (aE (Z:=(Value×(Nat->Value))) (α:=(List Int)×Int×Int×(List (List Int))) (λy x9=>[(0,Pt c),(5,.eq y.1),(6,.rep Tl r4.1),(7,I y7.2.2.2.1)]) (λy x9=>[.obj c 74 (.agg (.pair (.rep Tl x9.1) (.pair (I x9.2.1) (.eq (.int .u64 x9.2.2.1)))))]++zn 28 y x9.2.2.2) h (λK h=>?_) (λy x9 h=>?_))
   .refine ah (ai (sr (mq ?_)));obtain⟨j,gw,h⟩:=aa h;refine kb (av [.tmp 21,.const (.int .i64 (5))] rfl rfl QP rfl (kx k (y7.1,y7.2.1,y7.2.2.1) c 5 j gw)) ?_;refine nt (cv h (λh=>?_) (λh=>?_))
    .refine dT (bv (ce (ay ?_)));exact wV (z8,(j.2.1,j.2.2.1,j.2.2.2,y7.2.2.2.2)) h (lT [.obj c 74 (.agg (.pair (.rep Tl j.2.1) (.pair (I j.2.2.1) (.eq (.int .u64 j.2.2.2)))))] (zn 28 z8 y7.2.2.2.2) [0] ⟨rfl,rfl,rfl,rfl,trivial⟩ rfl)
    .refine sk (sr ?_);iterate 2 refine mq ?_
     refine KL (pre:=[.obj c 74 (.agg (.pair (.rep Tl j.2.1) (.pair (I j.2.2.1) (.eq (.int .u64 j.2.2.2)))))]) rfl rfl rfl rfl rfl nq ⟨rfl,trivial⟩ ?_;obtain⟨mw,Q,h⟩:=aa h;refine jb (eJ rfl Q) ?_;obtain⟨e,Y,h⟩:=aa h;refine kb (av [.tmp 23,.tmp 26] rfl rfl uU rfl (cj k (j.2.1,j.2.2.1,j.2.2.2) c mw e Y)) ?_;refine aq (nt ?_);obtain⟨x,s,h⟩:=aa h;refine gz (Ht (pre:=[.obj c 74 (.agg (.pair (.rep Tl e.2.1) (.pair (I e.2.2.1) (.eq (.int .u64 e.2.2.2)))))]) (Fa s).2) ?_;obtain⟨u,O,h⟩:=aa h;obtain⟨u16,X,h⟩:=aa h;refine KP (Δ:=[.sl (z8.2 (Int.toNat e.1)) 3 Ti x,.sl z8.1 28 .val (pw z8.2 0 y7.2.2.2.2),.obj c 74 (.agg (.pair (.rep Tl e.2.1) (.pair (I e.2.2.1) (.eq (.int .u64 e.2.2.2)))))]) (F:=(pi z8.2 0 y7.2.2.2.2).eraseIdx (Int.toNat e.1)) (Z:=Value) (λi=>[(0,Pt c),(5,.eq z8.1),(6,.rep Tl r4.1),(7,I y7.2.2.2.1)]) (λi=>[.sl z8.1 28 .val (List.set (pw z8.2 0 y7.2.2.2.2) (Int.toNat e.1) i),.sl i 3 Ti (x++[u]),.obj c 74 (.agg (.pair (.rep Tl e.2.1) (.pair (I e.2.2.1) (.eq (.int .u64 e.2.2.2)))))]) (λS w=>?_) (λl=>?_)
     .refine ot ?_;refine bj rfl rfl rfl (aS rfl) ⟨rfl,trivial⟩ ?_;refine bj rfl rfl rfl (aS rfl) ⟨rfl,trivial⟩ ?_;refine bj rfl rfl rfl (aS rfl) ⟨rfl,trivial⟩ ?_;refine bj rfl rfl rfl (aS rfl) ⟨rfl,trivial⟩ ?_;refine iK 1 rfl rfl rfl rfl (cN (t:=.val) rfl nq eM (uZ s)) ⟨rfl,rfl,trivial⟩ ?_;refine iK 1 rfl rfl rfl rfl (ii (i:=Int.toNat e.1) (off:=0) rfl eM (λ_=>rfl) rfl (dK (uZ s)).2.2 rfl) ⟨rfl,trivial⟩ ?_;refine bj rfl rfl rfl (aS rfl) ⟨rfl,trivial⟩ ?_;refine bj rfl rfl rfl (aS rfl) ⟨rfl,trivial⟩ ?_;refine bj rfl rfl rfl (aD (t:=Ti) rfl gh bP O) ⟨rfl,rfl,trivial⟩ ?_;refine bj rfl rfl rfl (an (t:=Ti) rfl bP rfl) ⟨rfl,trivial⟩ ?_;refine bj rfl rfl rfl (aU (t:=Ti) [(.tmp 37,_)] [u] rfl rfl cJ (.cons rfl .int .nil) rfl rfl) ⟨rfl,trivial⟩ ?_;refine KZ 0 rfl (λv=>[.sl v 3 Ti (x++[u])]) (λ_=>rfl) rfl rfl rfl (bi rfl rfl cJ (ap X)) ⟨rfl,rfl,trivial⟩ ?_;refine sj 12 [true,true,true,true,true,true,true,true,true,true,true,true] [40] [] [] rfl (by kernel_rfl) (by kernel_rfl) (by kernel_rfl) cF (λvs hv hB=>?_);obtain⟨w0,Xl,rfl,W4⟩:=ax hv;obtain⟨w1,Xk,rfl,W3⟩:=ax W4;obtain⟨w2,Xj,rfl,W2⟩:=ax W3;obtain⟨w3,Xi,rfl,W1⟩:=ax W2;obtain⟨w4,Xh,rfl,W0⟩:=ax W1;obtain⟨w5,Xg,rfl,WZ⟩:=ax W0;obtain⟨w6,Xf,rfl,WY⟩:=ax WZ;obtain⟨w7,Xe,rfl,zz⟩:=ax WY;obtain⟨w8,Xd,rfl,qt⟩:=ax zz;obtain⟨w9,Xb,rfl,J⟩:=ax qt;obtain⟨Xc,Xa,rfl,E⟩:=ax J;obtain⟨l,W9,rfl,D⟩:=ax E;obtain rfl:=oO D;refine⟨[0,1,2],[.sl z8.1 28 .val (pw z8.2 0 y7.2.2.2.2),.obj c 74 (.agg (.pair (.rep Tl e.2.1) (.pair (I e.2.2.1) (.eq (.int .u64 e.2.2.2))))),.sl l 3 Ti (x++[u])],by kernel_rfl,by decide,?_⟩;refine wT rfl rfl rfl rfl (cN (t:=.val) rfl nq eM (uZ s)) ⟨rfl,rfl,trivial⟩ (by kernel_rfl) ?_;refine oq 2 rfl ?_;refine Rh λo18=>?_;refine oq 1 rfl ?_;refine qm rfl rfl (iy (i:=Int.toNat e.1) rfl eM rfl (oP (uZ s)) rfl (.val o18) o18) ⟨rfl,rfl,trivial⟩ (by kernel_rfl) ?_;refine ut ?_;refine bA (SE.fin (Γ':=[(0,Pt c),(5,.eq z8.1),(6,.rep Tl r4.1),(7,I y7.2.2.2.1)]) (Δ':=[.sl z8.1 28 .val (List.set (pw z8.2 0 y7.2.2.2.2) (Int.toNat e.1) l),.sl l 3 Ti (x++[u]),.obj c 74 (.agg (.pair (.rep Tl e.2.1) (.pair (I e.2.2.1) (.eq (.int .u64 e.2.2.2)))))]) [0,1,2] ⟨rfl,rfl,rfl,rfl,trivial⟩ rfl) ?_;exact λa w st=>⟨rfl,(l),(SE.fin (Γ':=[(0,Pt c),(5,.eq z8.1),(6,.rep Tl r4.1),(7,I y7.2.2.2.1)]) (Δ':=[.sl z8.1 28 .val (List.set (pw z8.2 0 y7.2.2.2.2) (Int.toNat e.1) l),.sl l 3 Ti (x++[u]),.obj c 74 (.agg (.pair (.rep Tl e.2.1) (.pair (I e.2.2.1) (.eq (.int .u64 e.2.2.2)))))]) [0,1,2] ⟨rfl,rfl,rfl,rfl,trivial⟩ rfl) a w st⟩
     .show JN _ _ [(0,Pt c),(5,.eq z8.1),(6,.rep Tl r4.1),(7,I y7.2.2.2.1)] ([.sl z8.1 28 .val (List.set (pw z8.2 0 y7.2.2.2.2) (Int.toNat e.1) l),.sl l 3 Ti (x++[u]),.obj c 74 (.agg (.pair (.rep Tl e.2.1) (.pair (I e.2.2.1) (.eq (.int .u64 e.2.2.2)))))]++(pi z8.2 0 y7.2.2.2.2).eraseIdx (Int.toNat e.1));refine bK 1 rfl ?_;refine bA (EE (pre:=[.obj c 74 (.agg (.pair (.rep Tl e.2.1) (.pair (I e.2.2.1) (.eq (.int .u64 e.2.2.2)))))]) (z:=z8) (i:=Int.toNat e.1) (Fa s).2) ?_;refine bn ?_;exact wV ((z8.1,Du z8.2 (Int.toNat e.1) l),(e.2.1,e.2.2.1,e.2.2.2,List.set y7.2.2.2.2 (Int.toNat e.1) (x++[u]))) h (lT [.obj c 74 (.agg (.pair (.rep Tl e.2.1) (.pair (I e.2.2.1) (.eq (.int .u64 e.2.2.2)))))] (zn 28 (z8.1,Du z8.2 (Int.toNat e.1) l) (List.set y7.2.2.2.2 (Int.toNat e.1) (x++[u]))) [0] ⟨rfl,rfl,rfl,rfl,trivial⟩ rfl)
   .refine ae (mq ?_);obtain⟨mc,M,h⟩:=aa h;refine jb (aY rfl M) ?_;refine aq (nl ?_);exact wV (y,(x9.1,x9.2.1,x9.2.2.1,mc,x9.2.2.2)) h (lT [.obj c 74 (.agg (.pair (.rep Tl x9.1) (.pair (I x9.2.1) (.eq (.int .u64 x9.2.2.1)))))] (zn 28 y x9.2.2.2) [0] ⟨rfl,rfl,rfl,rfl,trivial⟩ rfl)
  .refine xa ?_;exact wV (z8,(y7.1,y7.2.1,y7.2.2.1,y7.2.2.2.2)) h (lT [.obj c 74 (.agg (.pair (.rep Tl y7.1) (.pair (I y7.2.1) (.eq (.int .u64 y7.2.2.1)))))] (zn 28 z8 y7.2.2.2.2) [0] ⟨rfl,trivial⟩ rfl)
 .
  refine sr (mq ?_);refine aq (nt (aA ?_));refine bA (KC (pre:=[.obj c 74 (.agg (.pair (.rep Tl x5.1) (.pair (I x5.2.1) (.eq (.int .u64 x5.2.2.1)))))])) ?_;refine bA (fU [4,5,41] ⟨rfl,rfl,rfl,trivial⟩) ?_;cases h;exact aV () [_] 1 ⟨rfl,trivial⟩ rfl
def f7(k:Nat)(r2:Int×bT):Nat->((List Int)×Int×Int×(List (List (List Int)))×Int)->Option ((List (List (List Int)))×(List Int)×Int×Int)
 |0,_=>none
 |n+1,c=>
  if 0 < c.2.2.2.2 then(((((if 0 < (c.2.2.2.1.length:Int) then((fR k (c.1,c.2.1,c.2.2.1) 3).bind λl=>
  some (l.2.1,l.2.2.1,l.2.2.2,l.1)) else(some (c.1,c.2.1,c.2.2.1,false))):Option ((List Int)×Int×Int×Bool)).bind λe=>
  if e.2.2.2=true then((ck ((c.2.2.2.1.length:Int) - 1)).bind λx=>
  (aH c.2.2.2.1 x).bind λu=>
  (ik k u).bind λr=>
  (bV (bh (length c.2.2.2.1+length [r]))).bind λ_=>
  some (e.1,e.2.1,e.2.2.1,c.2.2.2.1++[r])) else((kY k (e.1,e.2.1,e.2.2.1) r2.1).bind λh=>
  (bV (bh (length c.2.2.2.1+length [h.1]))).bind λ_=>
  some (h.2.1,h.2.2.1,h.2.2.2,c.2.2.2.1++[h.1]))):Option ((List Int)×Int×Int×(List (List (List Int))))).bind λj=>
  (ck (c.2.2.2.2 - 1)).bind λs=>
  f7 k r2 n (j.1,j.2.1,j.2.2.1,j.2.2.2,s)) else(some (c.2.2.2.1,c.1,c.2.1,c.2.2.1))
def kZ(k:Nat)(a0:bT)(a1:Int)(a2:Int):Option (ab×bT):=
 (gy k (a0.1,a0.2.1,a0.2.2) 1 a1).bind λr2=>
 (bY k (r2.2.1,r2.2.2.1,r2.2.2.2) 3).bind λr3=>
 (iI k (r3.2.1,r3.2.2.1,r3.2.2.2) [0,1,1,2,r3.1]).bind λr4=>
 (bY k (r4.2.1,r4.2.2.1,r4.2.2.2) 3).bind λr5=>
 (iI k (r5.2.1,r5.2.2.1,r5.2.2.2) [0,1,2,r5.1]).bind λr6=>
 (gy k (r6.2.1,r6.2.2.1,r6.2.2.2) 1 3).bind λr7=>
 (iI k (r7.2.1,r7.2.2.1,r7.2.2.2) [1,2,r7.1]).bind λr8=>
 (((gy k (r8.2.1,r8.2.2.1,r8.2.2.2) 1 a2).bind λe=>
 f7 k r2 k (e.2.1,e.2.2.1,e.2.2.2,([]:(List (List (List Int)))),e.1)):Option ((List (List (List Int)))×(List Int)×Int×Int)).bind λc=>
 some ((r2.1,r4.1,r6.1,r8.1,c.1,[]),(c.2.1,c.2.2.1,c.2.2.2))
theorem wn(k:Nat)(a0:bT)(c:Nat)(a1:Int)(a2:Int)(r:ab×bT)(h:kZ k a0 a1 a2=some r):
 cV Tryz.prog 65 [Pt c,I a1,I a2] [.obj c 74 (.agg (.pair (.rep Tl a0.1) (.pair (I a0.2.1) (.eq (.int .u64 a0.2.2)))))] (λ_:Unit=>(bF [.agg (.pair (I r.1.1) (.pair (I r.1.2.1) (.pair (I r.1.2.2.1) (.pair (I r.1.2.2.2.1) (.pair (.rep (.slice (.slice Tl)) r.1.2.2.2.2.1) (.eq (.slice none 0 0)))))))],[.obj c 74 (.agg (.pair (.rep Tl r.2.1) (.pair (I r.2.2.1) (.eq (.int .u64 r.2.2.2)))))])):=by
 unfold kZ at h
 replace h:=bf h
 refine cV.of 67 Tryz.func65 rfl Tryz.ntmps65 rfl λS w0=>?_
 refine sr ?_
 refine be rfl rfl rfl (bz rfl vo Af) trivial λb1=>?_
 refine nt ?_
 refine sr ?_
 iterate 2 refine mq ?_
 obtain⟨r2,W9,h⟩:=aa h
 have Xg:=jW k (a0.1,a0.2.1,a0.2.2) c 1 a1 r2 W9
 refine fr 1 ?_
 refine kc (av [.tmp 10,.const (.int .i64 (1)),.tmp 11] rfl rfl NG rfl Xg) ?_
 iterate 2 refine mq ?_
 obtain⟨r3,W8,h⟩:=aa h
 have Xf:=cj k (r2.2.1,r2.2.2.1,r2.2.2.2) c 3 r3 W8
 refine kb (av [.tmp 14,.const (.int .i64 (3))] rfl rfl uU rfl Xf) ?_
 refine cC rfl (aU (t:=Ti) [(.const (.int .i64 (0)),_),(.const (.int .i64 (1)),_),(.const (.int .i64 (1)),_),(.const (.int .i64 (2)),_),(.tmp 15,_)] [0,1,1,2,r3.1] rfl rfl cJ (.cons rfl .int (.cons rfl .int (.cons rfl .int (.cons rfl .int (.cons rfl .int .nil))))) rfl rfl) ⟨rfl,rfl,rfl,rfl,rfl,trivial⟩ ?_
 obtain⟨r4,W7,h⟩:=aa h
 have Xe:=mI k (r3.2.1,r3.2.2.1,r3.2.2.2) c [0,1,1,2,r3.1] r4 W7
 refine kb (av [.tmp 13,.tmp 16] rfl rfl QJ rfl Xe) ?_
 iterate 2 refine mq ?_
 obtain⟨r5,W6,h⟩:=aa h
 have Xd:=cj k (r4.2.1,r4.2.2.1,r4.2.2.2) c 3 r5 W6
 refine kb (av [.tmp 19,.const (.int .i64 (3))] rfl rfl uU rfl Xd) ?_
 refine cC rfl (aU (t:=Ti) [(.const (.int .i64 (0)),_),(.const (.int .i64 (1)),_),(.const (.int .i64 (2)),_),(.tmp 20,_)] [0,1,2,r5.1] rfl rfl cJ (.cons rfl .int (.cons rfl .int (.cons rfl .int (.cons rfl .int .nil)))) rfl rfl) ⟨rfl,rfl,rfl,rfl,trivial⟩ ?_
 obtain⟨r6,W5,h⟩:=aa h
 have Xc:=mI k (r5.2.1,r5.2.2.1,r5.2.2.2) c [0,1,2,r5.1] r6 W5
 refine kb (av [.tmp 18,.tmp 21] rfl rfl QJ rfl Xc) ?_
 iterate 2 refine mq ?_
 obtain⟨r7,W4,h⟩:=aa h
 have Xb:=jW k (r6.2.1,r6.2.2.1,r6.2.2.2) c 1 3 r7 W4
 refine kc (av [.tmp 24,.const (.int .i64 (1)),.const (.int .i64 (3))] rfl rfl NG rfl Xb) ?_
 refine jc (aU (t:=Ti) [(.const (.int .i64 (1)),_),(.const (.int .i64 (2)),_),(.tmp 25,_)] [1,2,r7.1] rfl rfl cJ (.cons rfl .int (.cons rfl .int (.cons rfl .int .nil))) rfl rfl) ?_
 obtain⟨r8,W3,h⟩:=aa h
 have Xa:=mI k (r7.2.1,r7.2.2.1,r7.2.2.2) c [1,2,r7.1] r8 W3
 refine kb (av [.tmp 23,.tmp 26] rfl rfl QJ rfl Xa) ?_
 refine cC rfl (dA [(0,.tmp 12,_),(1,.tmp 17,_),(2,.tmp 22,_),(3,.tmp 27,_)] rfl Sr vo Px (iV ⟨rfl,rfl,rfl,rfl,trivial⟩) rfl) ⟨rfl,rfl,rfl,rfl,trivial⟩ ?_
 refine be rfl rfl rfl (bz rfl vo Af) trivial λb9=>?_
 refine aO rfl rfl (aL rfl dh trivial rfl rfl) ⟨rfl,rfl,trivial⟩ ?_
 refine nt ?_
 refine aE (Z:=Value) (α:=(List (List (List Int)))×(List Int)×Int×Int) (λJ y=>[(6,Pt b1),(7,Pt b9)]) (λJ y=>[.obj b1 25 (.agg (.pair (I 0) (.pair (I 0) (.pair (I 0) (.pair (I 0) (.pair (.eq (.slice none 0 0)) (.eq (.slice none 0 0)))))))),.obj b9 25 (.agg (.pair (I r2.1) (.pair (I r4.1) (.pair (I r6.1) (.pair (I r8.1) (.pair (.eq J) (.eq (.slice none 0 0)))))))),.sl J 36 (.slice Tl) y.1,.obj c 74 (.agg (.pair (.rep Tl y.2.1) (.pair (I y.2.2.1) (.eq (.int .u64 y.2.2.2)))))]) h (λK h=>?_) (λJ y h=>?_)
 .
  refine sr ?_;iterate 2 refine mq ?_
  obtain⟨F,zz,h⟩:=aa h;refine fr 1 ?_;refine kc (av [.tmp 29,.const (.int .i64 (1)),.tmp 30] rfl rfl NG rfl (jW k (r8.2.1,r8.2.2.1,r8.2.2.2) c 1 a2 F zz)) ?_;refine aq (nt (ah ?_));refine gz (SE.nil 36 (.slice Tl)) ?_;refine aF (λu e=>[(0,Pt c),(6,Pt b1),(7,Pt b9),(8,I e.2.2.2.2)]) (λu e=>[.obj c 74 (.agg (.pair (.rep Tl e.1) (.pair (I e.2.1) (.eq (.int .u64 e.2.2.1))))),.obj b1 25 (.agg (.pair (I 0) (.pair (I 0) (.pair (I 0) (.pair (I 0) (.pair (.eq (.slice none 0 0)) (.eq (.slice none 0 0)))))))),.obj b9 25 (.agg (.pair (I r2.1) (.pair (I r4.1) (.pair (I r6.1) (.pair (I r8.1) (.pair (.eq u) (.eq (.slice none 0 0)))))))),.sl u 36 (.slice Tl) e.2.2.2.1]) (f7 k r2) k (.slice none 0 0) (F.2.1,F.2.2.1,F.2.2.2,([]:(List (List (List Int)))),F.1) (λ_=>rfl) h (SE.fin [1,3,2,0] ⟨rfl,rfl,rfl,rfl,trivial⟩ rfl) (λn u e h=>?_);unfold f7 at h;refine ai (sr (mq ?_));refine jb (iY rfl) ?_;refine nt (ci h (λh=>?_) (λh=>?_))
  .refine sk (aE (Z:=Value) (α:=(List Int)×Int×Int×(List (List (List Int)))) (λD l=>[(0,Pt c),(6,Pt b1),(7,Pt b9),(8,I e.2.2.2.2)]) (λD l=>[.obj c 74 (.agg (.pair (.rep Tl l.1) (.pair (I l.2.1) (.eq (.int .u64 l.2.2.1))))),.obj b1 25 (.agg (.pair (I 0) (.pair (I 0) (.pair (I 0) (.pair (I 0) (.pair (.eq (.slice none 0 0)) (.eq (.slice none 0 0)))))))),.obj b9 25 (.agg (.pair (I r2.1) (.pair (I r4.1) (.pair (I r6.1) (.pair (I r8.1) (.pair (.eq D) (.eq (.slice none 0 0)))))))),.sl D 36 (.slice Tl) l.2.2.2]) h (λK h=>?_) (λD l h=>?_))
   .refine ah (ai (sr (fl cu ?_)));refine fr 2 ?_;refine lo fp ?_;refine fr 3 ?_;refine ka (nV rfl rfl po) ?_;refine aq (nt ?_);refine aE (Z:=Unit) (α:=(List Int)×Int×Int×Bool) (λQ j=>[(0,Pt c),(6,Pt b1),(7,Pt b9),(8,I e.2.2.2.2),(9,I (e.2.2.2.1.length:Int)),(44,.eq (.bool j.2.2.2))]) (λQ j=>[.obj c 74 (.agg (.pair (.rep Tl j.1) (.pair (I j.2.1) (.eq (.int .u64 j.2.2.1))))),.obj b1 25 (.agg (.pair (I 0) (.pair (I 0) (.pair (I 0) (.pair (I 0) (.pair (.eq (.slice none 0 0)) (.eq (.slice none 0 0)))))))),.obj b9 25 (.agg (.pair (I r2.1) (.pair (I r4.1) (.pair (I r6.1) (.pair (I r8.1) (.pair (.eq u) (.eq (.slice none 0 0)))))))),.sl u 36 (.slice Tl) e.2.2.2.1]) h (λK h=>?_) (λQ j h=>?_)
    .refine ae (mq ?_);refine jb (iY rfl) ?_;refine mq ?_;refine cy (s:=41) rfl (λhb=>?_) (λhb=>?_)
     .replace h:=ek (wA hb) h;refine gm ?_;obtain⟨E,qt,h⟩:=aa h;refine fr 2 ?_;refine eY rfl rfl rfl rfl rfl rfl (av [.tmp 42,.const (.int .i64 (3))] rfl rfl QP rfl (kx k (e.1,e.2.1,e.2.2.1) c 3 E qt)) ⟨rfl,rfl,trivial⟩ ?_;refine pt (nl ?_);exact jz ((),(E.2.1,E.2.2.1,E.2.2.2,E.1)) h [0,3,2,1]
     .replace h:=cM (wB hb) h;iterate 2 refine gn ?_
      refine pf (nl ?_);exact jz ((),(e.1,e.2.1,e.2.2.1,false)) h [2,3,1,0]
    .refine cv h (λh=>?_) (λh=>?_)
     .refine ai (bB ?_);refine da (au rfl cu) ?_;refine ea 2 (ao rfl fp jI rfl) ?_;refine da (au rfl cu) ?_;refine ea 2 (ao rfl fp jI rfl) ?_;refine dm ?_;obtain⟨W0,X,h⟩:=aa h;refine db (eJ rfl X) ?_;obtain⟨WZ,M,h⟩:=aa h;refine eb 3 (cN (t:=(.slice Tl)) rfl po kO M) ?_;refine ea 3 (ii (i:=Int.toNat W0) (off:=0) rfl kO (λ_=>rfl) rfl (dK M).2.2 rfl) ?_;obtain⟨O,mw,h⟩:=aa h;refine da (Am (av [.tmp 52] rfl rfl TS rfl (oc k WZ O mw))) ?_;refine da (aU (t:=(.slice Tl)) [(.tmp 53,_)] [O] rfl rfl yS (.cons rfl .rep .nil) rfl rfl) ?_;refine df cF ?_;obtain⟨Xi,gw,h⟩:=aa h;refine fr 3 ?_;refine cE rfl rfl rfl (bi rfl rfl yS (ap gw)) ⟨rfl,rfl,trivial⟩ λW2=>?_;refine fl cu ?_;refine oY λo25=>?_;refine fr 3 ?_;refine aO rfl rfl (aL rfl fp o25 rfl rfl) ⟨rfl,rfl,trivial⟩ ?_;refine nt (dT (bv (ce (ay ?_))));exact jz (W2,(j.1,j.2.1,j.2.2.1,e.2.2.2.1++[O])) h [2,3,0,1]
     .refine sk (bB ?_);refine da (au rfl cu) ?_;refine ea 2 (ao rfl fp jI rfl) ?_;refine dm ?_;refine da (au rfl eW) ?_;refine ea 2 (ao rfl bP jI rfl) ?_;obtain⟨x,mc,h⟩:=aa h;refine F9 0 rfl rfl rfl rfl (av [.tmp 59,.tmp 61] rfl rfl Uk rfl (wj k (j.1,j.2.1,j.2.2.1) c r2.1 x mc)) ⟨rfl,rfl,trivial⟩ ?_;refine da (aU (t:=(.slice Tl)) [(.tmp 62,_)] [x.1] rfl rfl yS (.cons rfl .rep .nil) rfl rfl) ?_;refine Ge (Δ':=[.obj b1 25 (.agg (.pair (I 0) (.pair (I 0) (.pair (I 0) (.pair (I 0) (.pair (.eq (.slice none 0 0)) (.eq (.slice none 0 0)))))))),.obj b9 25 (.agg (.pair (I r2.1) (.pair (I r4.1) (.pair (I r6.1) (.pair (I r8.1) (.pair (.eq u) (.eq (.slice none 0 0)))))))),.sl u 36 (.slice Tl) e.2.2.2.1,.obj c 74 (.agg (.pair (.rep Tl x.2.1) (.pair (I x.2.2.1) (.eq (.int .u64 x.2.2.2)))))]) (by kernel_rfl) cF (by kernel_rfl) ?_;obtain⟨Xh,Y,h⟩:=aa h;refine fr 2 ?_;refine cE rfl rfl rfl (bi rfl rfl yS (ap Y)) ⟨rfl,rfl,trivial⟩ λW1=>?_;refine fl cu ?_;refine oY λo29=>?_;refine fr 2 ?_;refine aO rfl rfl (aL rfl fp o29 rfl rfl) ⟨rfl,rfl,trivial⟩ ?_;refine aG (bn ?_);exact jz (W1,(x.2.1,x.2.2.1,x.2.2.2,e.2.2.2.1++[x.1])) h [3,2,0,1]
   .refine ae (mq ?_);obtain⟨WY,U,h⟩:=aa h;refine jb (eJ rfl U) ?_;refine aq (nl ?_);exact jz (D,(l.1,l.2.1,l.2.2.1,l.2.2.2,WY)) h [0,1,2,3]
  .refine xa ?_;exact jz (u,(e.2.2.2.1,e.1,e.2.1,e.2.2.1)) h [1,2,3,0]
 .
  refine sr (fr 1 ?_);refine fr 2 ?_;refine eL (jv (off:=4) [] trivial rfl rfl) ?_;refine lo dh ?_;refine fr 1 ?_;refine aO rfl rfl (aL rfl dh trivial rfl rfl) ⟨rfl,rfl,trivial⟩ ?_;refine nt (aA (bA (SE.fin (Γ':=[(6,_)]) [2,0,1] ⟨rfl,trivial⟩ rfl) ?_));cases h;exact aV () [.agg (.pair (I r2.1) (.pair (I r4.1) (.pair (I r6.1) (.pair (I r8.1) (.pair (.rep (.slice (.slice Tl)) y.1) (.eq (.slice none 0 0)))))))] 1 ⟨⟨_,_,_,_,_,rfl,(.tail _ (.head _)),dh,(mU),rfl⟩,trivial⟩ rfl
def eT(k:Nat)(r2:ab×bT):Nat->((List Int)×Int×Int×(List aW)×Int)->Option ((List aW)×(List Int)×Int×Int)
 |0,_=>none
 |n+1,y7=>
  if 0 < y7.2.2.2.2 then((je k (y7.1,y7.2.1,y7.2.2.1) (r2.1.1,r2.1.2.1,r2.1.2.2.1,r2.1.2.2.2.1,r2.1.2.2.2.2.1,())).bind λr9=>
  (bV (bh (length y7.2.2.2.1+length [r9.1]))).bind λ_=>
  (ck (y7.2.2.2.2 - 1)).bind λc=>
  eT k r2 n (r9.2.1,r9.2.2.1,r9.2.2.2,y7.2.2.2.1++[r9.1],c)) else(some (y7.2.2.2.1,y7.1,y7.2.1,y7.2.2.1))
def jd(k:Nat)(a0:bT)(a1:Int)(a2:Int):Option (ab×bT):=
 (kZ k (a0.1,a0.2.1,a0.2.2) a1 a2).bind λr2=>
 (((bY k (r2.2.1,r2.2.2.1,r2.2.2.2) 4).bind λr6=>
 eT k r2 k (r6.2.1,r6.2.2.1,r6.2.2.2,([]:(List aW)),r6.1)):Option ((List aW)×(List Int)×Int×Int)).bind λx4=>
 some ((r2.1.1,r2.1.2.1,r2.1.2.2.1,r2.1.2.2.2.1,r2.1.2.2.2.2.1,x4.1),(x4.2.1,x4.2.2.1,x4.2.2.2))
theorem t7(k:Nat)(a0:bT)(c:Nat)(a1:Int)(a2:Int)(r:ab×bT)(h:jd k a0 a1 a2=some r):
 cV Tryz.prog 33 [Pt c,I a1,I a2] [.obj c 74 (.agg (.pair (.rep Tl a0.1) (.pair (I a0.2.1) (.eq (.int .u64 a0.2.2)))))] (λ_:Unit=>(bF [.rep ak r.1],[.obj c 74 (.agg (.pair (.rep Tl r.2.1) (.pair (I r.2.2.1) (.eq (.int .u64 r.2.2.2)))))])):=by
 unfold jd at h
 replace h:=bf h
 refine cV.of 28 Tryz.func33 rfl Tryz.ntmps33 rfl λS w0=>?_
 refine sr ?_
 refine be rfl rfl rfl (bz rfl vo Af) trivial λb1=>?_
 refine nt ?_
 refine sr ?_
 iterate 3 refine mq ?_
 obtain⟨r2,D,h⟩:=aa h
 have E:=wn k (a0.1,a0.2.1,a0.2.2) c a1 a2 r2 D
 refine fr 1 ?_
 refine kc (av [.tmp 9,.tmp 10,.tmp 11] rfl rfl VN rfl E) ?_
 refine be rfl rfl rfl (bz rfl vo Af) trivial λb3=>?_
 refine aO rfl rfl (aL rfl dh trivial rfl rfl) ⟨rfl,rfl,trivial⟩ ?_
 refine nt ?_
 refine aE (Z:=Value) (α:=(List aW)×(List Int)×Int×Int) (λz5 x4=>[(6,Pt b1),(7,Pt b3)]) (λz5 x4=>[.obj b1 25 (.agg (.pair (I 0) (.pair (I 0) (.pair (I 0) (.pair (I 0) (.pair (.eq (.slice none 0 0)) (.eq (.slice none 0 0)))))))),.obj b3 25 (.agg (.pair (I r2.1.1) (.pair (I r2.1.2.1) (.pair (I r2.1.2.2.1) (.pair (I r2.1.2.2.2.1) (.pair (.rep (.slice (.slice Tl)) r2.1.2.2.2.2.1) (.eq z5))))))),.sl z5 27 aJ x4.1,.obj c 74 (.agg (.pair (.rep Tl x4.2.1) (.pair (I x4.2.2.1) (.eq (.int .u64 x4.2.2.2)))))]) h (λK h=>?_) (λz5 x4 h=>?_)
 .
  refine sr (mq ?_);obtain⟨r6,y,h⟩:=aa h;refine fr 1 ?_;refine kb (av [.tmp 13,.const (.int .i64 (4))] rfl rfl uU rfl (cj k (r2.2.1,r2.2.2.1,r2.2.2.2) c 4 r6 y)) ?_;refine aq (nt (ah ?_));refine gz (SE.nil 27 aJ) ?_;refine aF (λz8 y7=>[(0,Pt c),(6,Pt b1),(7,Pt b3),(8,I y7.2.2.2.2)]) (λz8 y7=>[.obj c 74 (.agg (.pair (.rep Tl y7.1) (.pair (I y7.2.1) (.eq (.int .u64 y7.2.2.1))))),.obj b1 25 (.agg (.pair (I 0) (.pair (I 0) (.pair (I 0) (.pair (I 0) (.pair (.eq (.slice none 0 0)) (.eq (.slice none 0 0)))))))),.obj b3 25 (.agg (.pair (I r2.1.1) (.pair (I r2.1.2.1) (.pair (I r2.1.2.2.1) (.pair (I r2.1.2.2.2.1) (.pair (.rep (.slice (.slice Tl)) r2.1.2.2.2.2.1) (.eq z8))))))),.sl z8 27 aJ y7.2.2.2.1]) (eT k r2) k (.slice none 0 0) (r6.2.1,r6.2.2.1,r6.2.2.2,([]:(List aW)),r6.1) (λ_=>rfl) h (SE.fin [1,3,2,0] ⟨rfl,rfl,rfl,rfl,trivial⟩ rfl) (λn z8 y7 h=>?_);unfold eT at h;refine ai (sr (mq ?_));refine jb (iY rfl) ?_;refine nt (ci h (λh=>?_) (λh=>?_))
  .refine sk (ai (ah (bB ?_)));refine da (au rfl ge) ?_;refine ea 2 (ao rfl nJ jI rfl) ?_;refine dm ?_;refine ea 2 (ao rfl dh (mU) rfl) ?_;obtain⟨r9,u,h⟩:=aa h;refine F9 0 rfl rfl rfl rfl (bM (N:=[(.tmp 21,Pt c),(.tmp 22,.agg (.pair (I r2.1.1) (.pair (I r2.1.2.1) (.pair (I r2.1.2.2.1) (.pair (I r2.1.2.2.2.1) (.pair (.rep (.slice (.slice Tl)) r2.1.2.2.2.2.1) (.eq z8)))))))]) (av [.tmp 21,.tmp 22] rfl rfl VM rfl (t8 k (y7.1,y7.2.1,y7.2.2.1) c (r2.1.1,r2.1.2.1,r2.1.2.2.1,r2.1.2.2.2.1,r2.1.2.2.2.2.1,()) r9 u)) λ_ _ _ hn=>⟨hn.1,(Oh (t:=(.pair Ti (.pair Ti (.pair Ti (.pair Ti (.pair (.slice (.slice Tl)) .ign)))))) (x:=(r2.1.1,r2.1.2.1,r2.1.2.2.1,r2.1.2.2.2.1,r2.1.2.2.2.2.1,())) (qq (iU .int) (qq (iU .int) (qq (iU .int) (qq (iU .int) (qq (iU .rep) OM))))) hn.2.1),trivial⟩) ⟨rfl,rfl,trivial⟩ ?_;refine da (aU (t:=aJ) [(.tmp 23,_)] [r9.1] rfl rfl AZ (.cons rfl .rep .nil) rfl rfl) ?_;refine Ge (Δ':=[.obj b1 25 (.agg (.pair (I 0) (.pair (I 0) (.pair (I 0) (.pair (I 0) (.pair (.eq (.slice none 0 0)) (.eq (.slice none 0 0)))))))),.obj b3 25 (.agg (.pair (I r2.1.1) (.pair (I r2.1.2.1) (.pair (I r2.1.2.2.1) (.pair (I r2.1.2.2.2.1) (.pair (.rep (.slice (.slice Tl)) r2.1.2.2.2.2.1) (.eq z8))))))),.sl z8 27 aJ y7.2.2.2.1,.obj c 74 (.agg (.pair (.rep Tl r9.2.1) (.pair (I r9.2.2.1) (.eq (.int .u64 r9.2.2.2)))))]) (by kernel_rfl) cF (by kernel_rfl) ?_;obtain⟨F,j,h⟩:=aa h;refine fr 2 ?_;refine cE rfl rfl rfl (bi rfl rfl AZ (ap j)) ⟨rfl,rfl,trivial⟩ λs=>?_;refine fl ge ?_;refine oY λo12=>?_;refine fr 2 ?_;refine aO rfl rfl (aL rfl nJ o12 rfl rfl) ⟨rfl,rfl,trivial⟩ ?_;refine aG (aI (tn (ae (mq ?_))));obtain⟨l,e,h⟩:=aa h;refine jb (eJ rfl e) ?_;refine aq (nl ?_);exact jz (s,(r9.2.1,r9.2.2.1,r9.2.2.2,y7.2.2.2.1++[r9.1],l)) h [3,2,0,1]
  .refine xa ?_;exact jz (z8,(y7.2.2.2.1,y7.1,y7.2.1,y7.2.2.1)) h [1,2,3,0]
 .
  refine sr (fr 1 ?_);refine fr 2 ?_;refine eL (jv (off:=5) [] trivial rfl rfl) ?_;refine lo dh ?_;refine fr 1 ?_;refine aO rfl rfl (aL rfl dh trivial rfl rfl) ⟨rfl,rfl,trivial⟩ ?_;refine nt (aA (bA (fX (a:=.agg (.pair (I r2.1.1) (.pair (I r2.1.2.1) (.pair (I r2.1.2.2.1) (.pair (I r2.1.2.2.2.1) (.pair (.rep (.slice (.slice Tl)) r2.1.2.2.2.2.1) (Rs aJ x4.1))))))) (a':=.rep ak (r2.1.1,r2.1.2.1,r2.1.2.2.1,r2.1.2.2.2.1,r2.1.2.2.2.2.1,x4.1)) (iU (.agg (.pair .int (.pair .int (.pair .int (.pair .int (.pair .rep .rep)))))))) ?_));refine bA (SE.fin (Γ':=[(6,_)]) [2,0,1] ⟨rfl,trivial⟩ rfl) ?_;cases h;exact aV () [.rep ak (r2.1.1,r2.1.2.1,r2.1.2.2.1,r2.1.2.2.2.1,r2.1.2.2.2.2.1,x4.1)] 1 ⟨⟨_,_,_,_,_,rfl,(.tail _ (.head _)),dh,(mU),rfl⟩,trivial⟩ rfl
def jC(k:Nat)(a0:ab)(a1:aW)(a2:bT):Option ((List ab)×bT):=
 (jd k (a2.1,a2.2.1,a2.2.2) 4 4).bind λr3=>
 (ij k r3.1).bind λr5=>
 (bV (bh (length r5.2.2.2.2.2+length [a1]))).bind λ_=>
 some ([a0,r3.1,(r5.1,r5.2.1,r5.2.2.1,r5.2.2.2.1,r5.2.2.2.2.1,r5.2.2.2.2.2++[a1])],(r3.2.1,r3.2.2.1,r3.2.2.2))
theorem wi(k:Nat)(a0:ab)(a1:aW)(a2:bT)(c:Nat)(r:(List ab)×bT)(h:jC k a0 a1 a2=some r):
 cV Tryz.prog 13 [.rep ak a0,.rep aJ a1,Pt c] [.obj c 74 (.agg (.pair (.rep Tl a2.1) (.pair (I a2.2.1) (.eq (.int .u64 a2.2.2)))))] (λ_:Unit=>(bF [Rs ak r.1],[.obj c 74 (.agg (.pair (.rep Tl r.2.1) (.pair (I r.2.2.1) (.eq (.int .u64 r.2.2.2)))))])):=by
 unfold jC at h
 replace h:=bf h
 refine cV.of 23 Tryz.func13 rfl Tryz.ntmps13 rfl λS w0=>?_
 refine sr ?_
 refine bx λb1=>?_
 refine bx λb2=>?_
 refine cq ?_
 refine nt ?_
 refine sr ?_
 refine mq ?_
 obtain⟨r3,l,h⟩:=aa h
 have s:=t7 k (a2.1,a2.2.1,a2.2.2) c 4 4 r3 l
 refine fr 2 ?_
 refine kc (av [.tmp 9,.const (.int .i64 (4)),.const (.int .i64 (4))] rfl rfl V2 rfl s) ?_
 refine be rfl rfl rfl (bz rfl vo Af) trivial λb4=>?_
 refine aO rfl rfl (aL rfl dh rfl rfl rfl) ⟨rfl,rfl,trivial⟩ ?_
 refine nt ?_
 refine sr ?_
 refine lo dh ?_
 obtain⟨r5,j,h⟩:=aa h
 have n:=oa k r3.1 r5 j
 refine be rfl rfl rfl (av [.tmp 11] rfl rfl T9 rfl n) ⟨rfl,trivial⟩ λv6=>?_
 refine be rfl rfl rfl (bz rfl vo Af) trivial λb7=>?_
 refine aO rfl rfl (aL rfl dh trivial rfl rfl) ⟨rfl,rfl,trivial⟩ ?_
 refine nt ?_
 refine sr ?_
 refine fl ge ?_
 refine lo nJ ?_
 refine fr 4 ?_
 refine lo ny ?_
 refine ja (aU (t:=aJ) [(.tmp 15,_)] [a1] rfl rfl AZ (.cons rfl .rep .nil) rfl rfl) ?_
 obtain⟨u8,e,h⟩:=aa h
 refine fr 2 ?_
 refine cE rfl rfl rfl (bi rfl rfl AZ (ap e)) ⟨rfl,rfl,trivial⟩ λv9=>?_
 refine fl ge ?_
 refine oY λo10=>?_
 refine fr 2 ?_
 refine aO rfl rfl (aL rfl nJ o10 rfl rfl) ⟨rfl,rfl,trivial⟩ ?_
 refine nt ?_
 refine sr ?_
 refine fr 5 ?_
 refine lo dh ?_
 refine fr 4 ?_
 refine lo dh ?_
 refine fr 2 ?_
 refine fr 3 ?_
 refine eL (jv (off:=5) [17] ⟨rfl,trivial⟩ rfl rfl) ?_
 refine lo dh ?_
 refine jc (aU (t:=ak) [(.tmp 19,_),(.tmp 20,_),(.tmp 21,_)] [a0,r3.1,(r5.1,r5.2.1,r5.2.2.1,r5.2.2.2.1,r5.2.2.2.2.1,r5.2.2.2.2.2++[a1])] rfl rfl U1 (.cons rfl .rep (.cons rfl .rep (.cons trivial (.agg (.pair .int (.pair .int (.pair .int (.pair .int (.pair .rep .rep)))))) .nil))) rfl rfl) ?_
 refine aq ?_
 refine nt ?_
 refine aA ?_
 refine bA (SE.fin (Γ':=[(6,_)]) [4,0,1,2,3] ⟨rfl,trivial⟩ rfl) ?_
 cases h
 exact aV () [_] 1 ⟨rfl,trivial⟩ rfl
def gV(k:Nat)(a1:Int)(r2:(Option ab)×(List Int)×Int)(q3:ab)(y7:(List Int)×Int):Nat->(Int×Int)->Option Int
 |0,_=>none
 |n+1,c=>
  if c.2 < (r2.2.1.length:Int) then((((aH r2.2.1 c.2).bind λr=>
  (lG k q3 r).bind λu=>
  (aH u a1).bind λl=>
  (aH l y7.2).bind λj=>
  if 0≤j then((ck (c.1+1)).bind λh=>
  some h) else(some c.1)):Option (Int)).bind λs=>
  (ck (c.2+1)).bind λe=>
  gV k a1 r2 q3 y7 n (s,e)) else(some c.1)
def gW(k:Nat)(a0:ab)(a1:Int)(r2:(Option ab)×(List Int)×Int)(q3:ab):Nat->((List Int)×Int)->Option (List Int)
 |0,_=>none
 |n+1,y7=>
  if y7.2 < a0.1 then(((((gV k a1 r2 q3 y7 k (0,0)):Option (Int)).bind λh=>
  (jA k h (r2.2.1.length:Int)).bind λc=>
  (bV (bh (length y7.1+length [c]))).bind λ_=>
  some (y7.1++[c])):Option ((List Int))).bind λx9=>
  (ck (y7.2+1)).bind λe=>
  gW k a0 a1 r2 q3 n (x9,e)) else(some y7.1)
def nY(k:Nat)(a0:ab)(a1:Int):Option ((List Int)×Int):=
 (jB k a0 ([]:(List Int)) ([]:(List Int)) [a1]).bind λr2=>
 gX r2.1 (if¬(r2.2.2=0) then(some (([]:(List Int)),r2.2.2)) else(none)) (λq3=>if¬(r2.2.2=0) then(some (([]:(List Int)),r2.2.2)) else(((gW k a0 a1 r2 q3 k (([]:(List Int)),0)):Option ((List Int))).bind λx5=>
 some (x5,0)))
theorem zx(k:Nat)(a0:ab)(a1:Int)(r:(List Int)×Int)(h:nY k a0 a1=some r):
 co (eC Tryz.prog) 40 [.rep ak a0,I a1] [] (λ_:Unit=>(bF [.rep Tl r.1,I r.2],[])):=by
 unfold nY at h
 replace h:=bf h
 refine co.of 56 Tryz.func40 rfl Tryz.ntmps40 rfl λS w0=>?_
 refine sr ?_
 refine bx λb1=>?_
 refine cq ?_
 refine cq ?_
 refine nt ?_
 refine sr ?_
 refine lo dh ?_
 refine mq ?_
 refine ja (aU (t:=Ti) [(.tmp 16,_)] [a1] rfl rfl cJ (.cons rfl .int .nil) rfl rfl) ?_
 obtain⟨r2,W1,h⟩:=aa h
 have s:=lO k a0 ([]:(List Int)) ([]:(List Int)) [a1] r2 W1
 rcases hr:r2.1 with _ |q3
 .
  rw [hr] at h s;replace h:=wE h;refine aQ (Δ:=[]) (F:=_) (λ_ _ _=>aj rfl _) rfl rfl (bM (N:=[(.tmp 15,.rep ak a0),(.const (.slice none 0 0),.eq (.slice none 0 0)),(.const (.slice none 0 0),.eq (.slice none 0 0)),(.tmp 17,.rep Tl [a1])]) (bo [.tmp 15,.const (.slice none 0 0),.const (.slice none 0 0),.tmp 17] rfl rfl BW rfl s) λ_ _ _ hn=>⟨hn.1,(aK (t:=Tl) (x:=([]:(List Int))) .nil rfl rfl hn.2.1),(aK (t:=Tl) (x:=([]:(List Int))) .nil rfl rfl hn.2.2.1),hn.2.2.2.1,trivial⟩) ⟨rfl,rfl,rfl,rfl,trivial⟩ λ_=>?_;refine mq ?_;refine xr ?_;refine xr ?_;refine xr ?_;refine aq ?_;refine aq ?_;refine aq (nt (ai (sr ?_)));refine mq ?_;refine jb (dU rfl) ?_;refine nt (cn h (λh=>?_) (λh=>?_))
  .refine sr (mq ?_);refine cq ?_;refine aq (nt (rx ?_));refine bA (dS (t:=Tl) (x:=([]:(List Int))) 4 rfl .nil rfl rfl) ?_;cases h;exact rb
  .cases h
 .
  rw [hr] at h s;replace h:=wC h;refine aQ (Δ:=[]) (F:=_) (λ_ _ _=>aj rfl _) rfl rfl (bM (N:=[(.tmp 15,.rep ak a0),(.const (.slice none 0 0),.eq (.slice none 0 0)),(.const (.slice none 0 0),.eq (.slice none 0 0)),(.tmp 17,.rep Tl [a1])]) (bo [.tmp 15,.const (.slice none 0 0),.const (.slice none 0 0),.tmp 17] rfl rfl BW rfl s) λ_ _ _ hn=>⟨hn.1,(aK (t:=Tl) (x:=([]:(List Int))) .nil rfl rfl hn.2.1),(aK (t:=Tl) (x:=([]:(List Int))) .nil rfl rfl hn.2.2.1),hn.2.2.2.1,trivial⟩) ⟨rfl,rfl,rfl,rfl,trivial⟩ λz4=>?_;refine mq ?_;refine xr ?_;refine xr ?_;refine xr ?_;refine aq ?_;refine aq ?_;refine aq (nt (ai (sr ?_)));refine mq ?_;refine jb (dU rfl) ?_;refine nt (cn h (λh=>?_) (λh=>?_))
  .refine sr (mq ?_);refine cq ?_;refine aq (nt (rx ?_));refine bA (dS (t:=Tl) (x:=([]:(List Int))) 4 rfl .nil rfl rfl) ?_;cases h;exact rb
  .refine sk (sr (cq (nt ?_)));refine aE (Z:=Value) (α:=(List Int)) (λz6 x5=>[(9,.eq z6)]) (λz6 x5=>[.sl z6 3 Ti x5,.inv z4.2 (bZ k q3)]) h (λK h=>?_) (λz6 x5 h=>?_)
   .refine sr (fl eW ?_);refine fr 2 ?_;refine lo bP ?_;refine fg rfl ?_;refine nt (ah (gz (SE.nil 3 Ti) ?_));refine aF (λz8 y7=>[(1,I a1),(6,.eq (.pointer (some ⟨z4.1,0,none⟩))),(7,.rep (.slice (.int .u8)) r2.2.1),(9,.eq z8),(26,I a0.1),(27,I y7.2)]) (λz8 y7=>[.obj z4.1 135 (bb q3 z4.2),.sl z8 3 Ti y7.1,.inv z4.2 (bZ k q3)]) (gW k a0 a1 r2 q3) k (.slice none 0 0) (([]:(List Int)),0) (λ_=>rfl) h (SE.fin [2,0,3] ⟨rfl,rfl,rfl,rfl,rfl,rfl,trivial⟩ rfl) (λn z8 y7 h=>?_);unfold gW at h;refine sr (jb (bq rfl) ?_);refine nt (ai (ci h (λh=>?_) (λh=>?_)))
    .refine sk (aE (Z:=Value) (α:=(List Int)) (λe x9=>[(1,I a1),(6,.eq (.pointer (some ⟨z4.1,0,none⟩))),(7,.rep (.slice (.int .u8)) r2.2.1),(9,.eq e),(26,I a0.1),(27,I y7.2)]) (λe x9=>[.obj z4.1 135 (bb q3 z4.2),.sl e 3 Ti x9,.inv z4.2 (bZ k q3)]) h (λK h=>?_) (λe x9 h=>?_))
     .refine ah (sr (mq ?_));refine aq (nt (sr ?_));refine cq (nt ?_);refine aE (Z:=Unit) (α:=Int) (λE l=>[(1,I a1),(6,.eq (.pointer (some ⟨z4.1,0,none⟩))),(7,.rep (.slice (.int .u8)) r2.2.1),(9,.eq z8),(11,I l),(26,I a0.1),(27,I y7.2)]) (λE l=>[.obj z4.1 135 (bb q3 z4.2),.sl z8 3 Ti y7.1,.inv z4.2 (bZ k q3)]) h (λK h=>?_) (λE l h=>?_)
      .refine sr (mq ?_);refine ol Ak ?_;refine fg rfl ?_;refine nt (ah (aF (λD c=>[(1,I a1),(6,.eq (.pointer (some ⟨z4.1,0,none⟩))),(7,.rep (.slice (.int .u8)) r2.2.1),(9,.eq z8),(10,I y7.2),(11,I c.1),(26,I a0.1),(27,I y7.2),(30,.rep (.slice (.int .u8)) r2.2.1),(31,I (r2.2.1.length:Int)),(32,I c.2)]) (λD c=>[.obj z4.1 135 (bb q3 z4.2),.sl z8 3 Ti y7.1,.inv z4.2 (bZ k q3)]) (gV k a1 r2 q3 y7) k () (0,0) (λ_=>rfl) h (SE.fin [0,1,2] ⟨rfl,rfl,rfl,rfl,rfl,rfl,rfl,rfl,rfl,rfl,rfl,trivial⟩ rfl) (λn D c h=>?_)));unfold gV at h;refine sr (jb (bq rfl) ?_);refine nt (ai (ci h (λh=>?_) (λh=>?_)))
       .refine sk (aE (Z:=Unit) (α:=Int) (λy j=>[(1,I a1),(6,.eq (.pointer (some ⟨z4.1,0,none⟩))),(7,.rep (.slice (.int .u8)) r2.2.1),(9,.eq z8),(10,I y7.2),(11,I j),(26,I a0.1),(27,I y7.2),(30,.rep (.slice (.int .u8)) r2.2.1),(31,I (r2.2.1.length:Int)),(32,I c.2)]) (λy j=>[.obj z4.1 135 (bb q3 z4.2),.sl z8 3 Ti y7.1,.inv z4.2 (bZ k q3)]) h (λK h=>?_) (λy j h=>?_))
        .refine ah (sr ?_);obtain⟨WY,X,h⟩:=aa h;refine jb (aD (t:=(.int .u8)) rfl Ak py X) ?_;refine ja (an (t:=(.int .u8)) rfl py rfl) ?_;refine aq (nt (sr ?_));iterate 2 refine mq ?_
         obtain⟨W0,mc,h⟩:=aa h;refine fr 2 ?_;refine fr 1 ?_;refine aQ (Δ:=[_,_]) (F:=_) (λ_ _ _=>aj rfl _) rfl rfl (bo [.tmp 36,.tmp 37] rfl rfl En rfl (oS k q3 z4.1 z4.2 WY W0 mc)) ⟨rfl,rfl,trivial⟩ λ_=>?_;refine mq ?_;obtain⟨W3,U,h⟩:=aa h;refine jb (kT (t:=Tr) rfl Ku jK rfl rfl (mU) U) ?_;refine mq ?_;obtain⟨W2,Q,h⟩:=aa h;refine jb (kT (t:=Ti) rfl C9 bP rfl rfl (λ_=>rfl) Q) ?_;refine jb (hJ rfl) ?_;refine nt (ci h (λh=>?_) (λh=>?_))
         .refine ae (mq ?_);obtain⟨zz,O,h⟩:=aa h;refine jb (aY rfl O) ?_;refine aq (aG (bn ?_));exact jz ((),zz) h [0,2,1]
         .refine aX (bn ?_);exact jz ((),c.1) h [0,2,1]
        .refine ae ?_;obtain⟨qt,M,h⟩:=aa h;refine jb (aY rfl M) ?_;refine mq (nl ?_);exact jz ((),(j,qt)) h [0,1,2]
       .refine xa ?_;exact jz ((),c.1) h [0,1,2]
      .refine ae ?_;iterate 3 refine mq ?_
       refine ol Ak ?_;obtain⟨u,gw,h⟩:=aa h;refine jb (av [.tmp 48,.tmp 50] rfl rfl VG rfl (vX k l (r2.2.1.length:Int) u gw)) ?_;refine ja (aU (t:=Ti) [(.tmp 51,_)] [u] rfl rfl cJ (.cons rfl .int .nil) rfl rfl) ?_;obtain⟨W4,Y,h⟩:=aa h;refine fr 1 ?_;refine cE rfl rfl rfl (bi rfl rfl cJ (ap Y)) ⟨rfl,rfl,trivial⟩ λWZ=>?_;refine aq (aG (bn ?_));exact jz (WZ,y7.1++[u]) h [1,0,2]
     .refine ae ?_;obtain⟨mw,J,h⟩:=aa h;refine jb (aY rfl J) ?_;refine mq (nl ?_);exact jz (e,(x9,mw)) h [0,1,2]
    .refine xa ?_;exact jz (z8,y7.1) h [1,2]
   .refine sr (mq ?_);refine aq ?_;refine cq (nt (aA ?_));refine bA (fU [4,9,55] ⟨rfl,rfl,rfl,trivial⟩) ?_;cases h;exact rb
def dI(k:Nat)(a2:Int)(a3:Int)(r7:(List ab)×bT)(r8:Int×bT)(r9:Int×bT):Nat->Int->Option (Except Bool Unit)
 |0,_=>none
 |n+1,e=>
  if e < (r7.1.length:Int) then((aH r7.1 e).bind λM=>
  (ij k M).bind λc=>
  (aH [a2,r8.1,a2] e).bind λJ=>
  (nY k (c.1,c.2.1,c.2.2.1,c.2.2.2.1,c.2.2.2.2.1,c.2.2.2.2.2) J).bind λr=>
  (aH r7.1 e).bind λI=>
  (aH [a2,r8.1,a2] e).bind λF=>
  (nS k I F).bind λl=>
  (aH [a3,r9.1,a3] e).bind λE=>
  (lZ k (c.1,c.2.1,c.2.2.1,c.2.2.2.1,c.2.2.2.2.1,c.2.2.2.2.2) E).bind λj=>
  (aH r7.1 e).bind λD=>
  (aH [a3,r9.1,a3] e).bind λy=>
  (nT k D y).bind λh=>
  ((if¬(r.2=l.2) then(some true) else(if¬(j.2=h.2) then(some true) else(if¬(j.1=h.1) then(some true) else((fL k r.1 l.1).bind λQ=>
  if¬(Q=true) then(some true) else((aH r7.1 e).bind λu=>
  (i8 k (c.1,c.2.1,c.2.2.1,c.2.2.2.1,c.2.2.2.2.1,c.2.2.2.2.2) u).bind λO=>
  some (!O)))))):Option (Bool)).bind λx=>
  if x=true then(some (.error false)) else((ck (e+1)).bind λs=>
  dI k a2 a3 r7 r8 r9 n s)) else(some (.ok ()))
def jV(k:Nat)(a0:ab)(a1:aW)(a2:Int)(a3:Int)(a4:(List Int)):Option Bool:=
 (pW k a0).bind λr3=>
 if r3=true then((pX k).bind λr4=>
 some r4) else((ni k a4).bind λr5=>
 (jC k a0 a1 (r5.1,r5.2.1,r5.2.2)).bind λr7=>
 (bY k (r7.2.1,r7.2.2.1,r7.2.2.2) 4).bind λr8=>
 (bY k (r8.2.1,r8.2.2.1,r8.2.2.2) 3).bind λr9=>
 bE (α:=Unit) (dI k a2 a3 r7 r8 r9 k 0) (some) λ_=>
 (pX k).bind λc=>
 some c)
theorem s4(k:Nat)(a0:ab)(a1:aW)(a2:Int)(a3:Int)(a4:(List Int))(r:Bool)(h:jV k a0 a1 a2 a3 a4=some r):
 co (eC Tryz.prog) 9 [.rep ak a0,.rep aJ a1,I a2,I a3,.rep Tl a4] [] (λ_:Unit=>(bF [.eq (.bool r)],[])):=by
 unfold jV at h
 replace h:=bf h
 refine co.of 126 Tryz.func9 rfl Tryz.ntmps9 rfl λS w0=>?_
 refine sr ?_
 refine bx λb1=>?_
 refine bx λb2=>?_
 refine cq ?_
 refine nt ?_
 refine ai ?_
 refine sr ?_
 refine fr 1 ?_
 refine lo dh ?_
 obtain⟨r3,XM,h⟩:=aa h
 have XN:=BK k a0 r3 XM
 refine ja (av [.tmp 25] rfl rfl Wc rfl XN) ?_
 refine nt ?_
 refine cv h (λh=>?_) (λh=>?_)
 .
  refine sr ?_;obtain⟨r4,XL,h⟩:=aa h;refine cC rfl (bo [] rfl rfl Ue rfl (uE k r4 XL)) trivial ?_;refine aq (nt (rx ?_));cases h;exact ra
 .
  refine sk (sr (mq ?_));obtain⟨r5,XK,h⟩:=aa h;refine be rfl rfl rfl (av [.tmp 28] rfl rfl Wb rfl (wl k a4 r5 XK)) ⟨rfl,trivial⟩ λb6=>?_;refine aq (nt (sr ?_));refine fr 1 ?_;refine lo dh ?_;refine fr 2 ?_;refine lo ny ?_;refine mq ?_;obtain⟨r7,XJ,h⟩:=aa h;refine fr 2 ?_;refine kc (av [.tmp 30,.tmp 31,.tmp 32] rfl rfl Wa rfl (wi k a0 a1 (r5.1,r5.2.1,r5.2.2) b6 r7 XJ)) ?_;refine aq (nt (sr ?_));iterate 2 refine mq ?_
  obtain⟨r8,XI,h⟩:=aa h;refine kb (av [.tmp 35,.const (.int .i64 (4))] rfl rfl uU rfl (cj k (r7.2.1,r7.2.2.1,r7.2.2.2) b6 4 r8 XI)) ?_;refine mq ?_;refine jc (aU (t:=Ti) [(.tmp 34,_),(.tmp 36,_),(.tmp 37,_)] [a2,r8.1,a2] rfl rfl cJ (.cons rfl .int (.cons rfl .int (.cons rfl .int .nil))) rfl rfl) ?_;iterate 2 refine mq ?_
  obtain⟨r9,XH,h⟩:=aa h;refine kb (av [.tmp 40,.const (.int .i64 (3))] rfl rfl uU rfl (cj k (r8.2.1,r8.2.2.1,r8.2.2.2) b6 3 r9 XH)) ?_;refine mq ?_;refine jc (aU (t:=Ti) [(.tmp 39,_),(.tmp 41,_),(.tmp 42,_)] [a3,r9.1,a3] rfl rfl cJ (.cons rfl .int (.cons rfl .int (.cons rfl .int .nil))) rfl rfl) ?_;refine aq ?_;refine aq (nt ?_);refine cU (Z:=Unit) (α:=Unit) (λWZ W3=>[]) (λWZ W3=>[]) (λe=>e=r) h (λe h=>Option.some.inj h) (λK hR h=>?_) (λWZ W3 h=>?_)
  .refine sr (cq (nt (ah ?_)));refine aF (λWY j=>[(12,Rs ak r7.1),(13,.rep Tl [a2,r8.1,a2]),(14,.rep Tl [a3,r9.1,a3]),(15,I j)]) (λWY j=>[]) (dI k a2 a3 r7 r8 r9) k () 0 (λ_=>rfl) h (SE.fin [] ⟨rfl,rfl,rfl,rfl,trivial⟩ rfl) (λn WY j h=>?_);unfold dI at h;refine ai (sr ?_);iterate 2 refine mq ?_
   refine ol Ut ?_;refine jb (bq rfl) ?_;refine nt (ci h (λh=>?_) (λh=>?_))
   .refine sk (ai (ah (sr ?_)));iterate 2 refine mq ?_
    obtain⟨Xv,Xh,h⟩:=aa h;refine jb (aD (t:=ak) rfl Ut dh Xh) ?_;refine ja (an (t:=ak) rfl dh rfl) ?_;obtain⟨c,Xp,h⟩:=aa h;refine be rfl rfl rfl (av [.tmp 53] rfl rfl T9 rfl (oa k Xv c Xp)) ⟨rfl,trivial⟩ λXU=>?_;refine be rfl rfl rfl (bz rfl vo Af) trivial λD=>?_;refine aO rfl rfl (aL rfl dh trivial rfl rfl) ⟨rfl,rfl,trivial⟩ ?_;refine nt (ai (dJ 1 rfl ?_));refine gz (jv (off:=5) [] trivial rfl rfl) ?_;refine bB ?_;refine ea 0 (ao rfl dh (mU) rfl) ?_;refine dm ?_;refine dm ?_;obtain⟨W2,Xg,h⟩:=aa h;refine db (aD (t:=Ti) rfl gh bP Xg) ?_;refine da (an (t:=Ti) rfl bP rfl) ?_;obtain⟨u,Xo,h⟩:=aa h;refine db (bM (N:=[(.tmp 56,.agg (.pair (I c.1) (.pair (I c.2.1) (.pair (I c.2.2.1) (.pair (I c.2.2.2.1) (.pair (.rep (.slice (.slice Tl)) c.2.2.2.2.1) (Rs aJ c.2.2.2.2.2))))))),(.tmp 60,I W2)]) (bo [.tmp 56,.tmp 60] rfl rfl VZ rfl (zx k (c.1,c.2.1,c.2.2.1,c.2.2.2.1,c.2.2.2.2.1,c.2.2.2.2.2) W2 u Xo)) λ_ _ _ hn=>⟨(aK (t:=ak) (x:=(c.1,c.2.1,c.2.2.1,c.2.2.2.1,c.2.2.2.2.1,c.2.2.2.2.2)) (.agg (.pair .int (.pair .int (.pair .int (.pair .int (.pair .rep .rep)))))) trivial rfl hn.1),hn.2.1,trivial⟩) ?_;refine dm ?_;refine da (dz rfl rfl) ?_;refine da (dz rfl rfl) ?_;refine da (iZ rfl) ?_;refine df cF ?_;refine aq (nt (ai ?_));refine bB ?_;refine dm ?_;refine dm ?_;obtain⟨Xu,Xf,h⟩:=aa h;refine db (aD (t:=ak) rfl Ut dh Xf) ?_;refine da (an (t:=ak) rfl dh rfl) ?_;refine dm ?_;refine dm ?_;obtain⟨Xt,Xe,h⟩:=aa h;refine db (aD (t:=Ti) rfl gh bP Xe) ?_;refine da (an (t:=Ti) rfl bP rfl) ?_;obtain⟨s,Xn,h⟩:=aa h;refine db (av [.tmp 68,.tmp 72] rfl rfl VY rfl (zb k Xu Xt s Xn)) ?_;refine dm ?_;refine da (dz rfl rfl) ?_;refine da (dz rfl rfl) ?_;refine da (iZ rfl) ?_;refine df cF ?_;refine aq (nt (ai ?_));refine ot ?_;refine iK 0 rfl rfl rfl rfl (ao rfl dh (mU) rfl) ⟨rfl,trivial⟩ ?_;refine bj rfl rfl rfl (aS rfl) ⟨rfl,trivial⟩ ?_;refine bj rfl rfl rfl (aS rfl) ⟨rfl,trivial⟩ ?_;obtain⟨W1,Xd,h⟩:=aa h;refine bj rfl rfl rfl (aD (t:=Ti) rfl gh bP Xd) ⟨rfl,rfl,trivial⟩ ?_;refine bj rfl rfl rfl (an (t:=Ti) rfl bP rfl) ⟨rfl,trivial⟩ ?_;obtain⟨l,Xm,h⟩:=aa h;refine bj rfl rfl rfl (bM (N:=[(.tmp 77,.agg (.pair (I c.1) (.pair (I c.2.1) (.pair (I c.2.2.1) (.pair (I c.2.2.2.1) (.pair (.rep (.slice (.slice Tl)) c.2.2.2.2.1) (Rs aJ c.2.2.2.2.2))))))),(.tmp 81,I W1)]) (bo [.tmp 77,.tmp 81] rfl rfl TU rfl (sY k (c.1,c.2.1,c.2.2.1,c.2.2.2.1,c.2.2.2.2.1,c.2.2.2.2.2) W1 l Xm)) λ_ _ _ hn=>⟨(aK (t:=ak) (x:=(c.1,c.2.1,c.2.2.1,c.2.2.2.1,c.2.2.2.2.1,c.2.2.2.2.2)) (.agg (.pair .int (.pair .int (.pair .int (.pair .int (.pair .rep .rep)))))) trivial rfl hn.1),hn.2.1,trivial⟩) ⟨rfl,rfl,trivial⟩ ?_;refine bj rfl rfl rfl (aS rfl) ⟨rfl,trivial⟩ ?_;refine bj rfl rfl rfl (dz rfl rfl) ⟨rfl,trivial⟩ ?_;refine bj rfl rfl rfl (dz rfl rfl) ⟨rfl,trivial⟩ ?_;refine As (IM 67 (.agg (.pair (I 0) (I 0)))) (λ_=>rfl) rfl rfl rfl (bz rfl rj Hm) trivial ?_;refine sj 10 [true,true,true,true,true,true,true,true,false,true] [22] [] [] rfl (by kernel_rfl) (by kernel_rfl) (by kernel_rfl) cF (λvs hv hB=>?_)
    obtain⟨w0,XE,rfl,mw⟩:=ax hv;obtain⟨w1,XD,rfl,mc⟩:=ax mw;obtain⟨w2,XC,rfl,gw⟩:=ax mc;obtain⟨w3,XB,rfl,Y⟩:=ax gw;obtain⟨w4,XA,rfl,X⟩:=ax Y;obtain⟨w5,Xz,rfl,U⟩:=ax X;obtain⟨w6,Xy,rfl,Q⟩:=ax U;obtain⟨w7,Xx,rfl,O⟩:=ax Q;obtain⟨w8,Xw,rfl,M⟩:=ax O;obtain⟨w9,W4,rfl,E⟩:=ax M;obtain rfl:=oO E;obtain⟨y,rfl⟩:=DI hB.2.2.2.2.2.2.2.2.2.1;refine⟨[0,1],[.obj D 25 (.agg (.pair (I c.1) (.pair (I c.2.1) (.pair (I c.2.2.1) (.pair (I c.2.2.2.1) (.pair (.rep (.slice (.slice Tl)) c.2.2.2.2.1) (Rs aJ c.2.2.2.2.2))))))),.obj y 67 (.agg (.pair (I 0) (I 0)))],by kernel_rfl,by decide,?_⟩;refine oq 1 rfl ?_;refine qm rfl rfl (aL rfl mf rfl rfl rfl) ⟨rfl,rfl,trivial⟩ (by kernel_rfl) ?_;refine KI rfl rfl rfl rfl (iZ rfl) ⟨rfl,trivial⟩ (by kernel_rfl) ?_;refine ut ?_;refine bA (SE.fin (Γ':=[(12,Rs ak r7.1),(13,.rep Tl [a2,r8.1,a2]),(14,.rep Tl [a3,r9.1,a3]),(15,I j),(16,Pt D),(17,.rep Tl u.1),(18,I u.2),(19,.rep Tl s.1),(20,I s.2),(21,Pt y),(22,I l.2)]) (Δ':=[.obj y 67 (.rep bu l.1),.obj D 25 (.agg (.pair (I c.1) (.pair (I c.2.1) (.pair (I c.2.2.1) (.pair (I c.2.2.2.1) (.pair (.rep (.slice (.slice Tl)) c.2.2.2.2.1) (Rs aJ c.2.2.2.2.2)))))))]) [0,1] ⟨rfl,rfl,rfl,rfl,rfl,rfl,rfl,rfl,rfl,rfl,rfl,trivial⟩ rfl) ?_;refine tn (ai (ot ?_));refine bj rfl rfl rfl (aS rfl) ⟨rfl,trivial⟩ ?_;refine bj rfl rfl rfl (aS rfl) ⟨rfl,trivial⟩ ?_;obtain⟨Xs,Xc,h⟩:=aa h;refine bj rfl rfl rfl (aD (t:=ak) rfl Ut dh Xc) ⟨rfl,rfl,trivial⟩ ?_;refine bj rfl rfl rfl (an (t:=ak) rfl dh rfl) ⟨rfl,trivial⟩ ?_;refine bj rfl rfl rfl (aS rfl) ⟨rfl,trivial⟩ ?_;refine bj rfl rfl rfl (aS rfl) ⟨rfl,trivial⟩ ?_;obtain⟨Xr,Xb,h⟩:=aa h;refine bj rfl rfl rfl (aD (t:=Ti) rfl gh bP Xb) ⟨rfl,rfl,trivial⟩ ?_;refine bj rfl rfl rfl (an (t:=Ti) rfl bP rfl) ⟨rfl,trivial⟩ ?_;obtain⟨J,Xl,h⟩:=aa h;refine bj rfl rfl rfl (av [.tmp 89,.tmp 93] rfl rfl VX rfl (zc k Xs Xr J Xl)) ⟨rfl,rfl,trivial⟩ ?_;refine bj rfl rfl rfl (aS rfl) ⟨rfl,trivial⟩ ?_;refine bj rfl rfl rfl (dz rfl rfl) ⟨rfl,trivial⟩ ?_;refine bj rfl rfl rfl (dz rfl rfl) ⟨rfl,trivial⟩ ?_;refine As (IM 67 (.agg (.pair (I 0) (I 0)))) (λ_=>rfl) rfl rfl rfl (bz rfl rj Hm) trivial ?_;refine sj 13 [true,true,true,true,true,true,true,true,true,true,true,false,true] [24] [] [] rfl (by kernel_rfl) (by kernel_rfl) (by kernel_rfl) cF (λvs hv hB=>?_);obtain⟨w0,XE,rfl,mw⟩:=ax hv;obtain⟨w1,XD,rfl,mc⟩:=ax mw;obtain⟨w2,XC,rfl,gw⟩:=ax mc;obtain⟨w3,XB,rfl,Y⟩:=ax gw;obtain⟨w4,XA,rfl,X⟩:=ax Y;obtain⟨w5,Xz,rfl,U⟩:=ax X;obtain⟨w6,Xy,rfl,Q⟩:=ax U;obtain⟨w7,Xx,rfl,O⟩:=ax Q;obtain⟨w8,Xw,rfl,M⟩:=ax O;obtain⟨w9,W4,rfl,E⟩:=ax M;obtain⟨XT,XQ,rfl,W8⟩:=ax E;obtain⟨XS,XP,rfl,W7⟩:=ax W8;obtain⟨XR,XO,rfl,W6⟩:=ax W7;obtain rfl:=oO W6;obtain⟨qt,rfl⟩:=DI hB.2.2.2.2.2.2.2.2.2.2.2.2.1;refine⟨[0,1,2],[.obj y 67 (.rep bu l.1),.obj D 25 (.agg (.pair (I c.1) (.pair (I c.2.1) (.pair (I c.2.2.1) (.pair (I c.2.2.2.1) (.pair (.rep (.slice (.slice Tl)) c.2.2.2.2.1) (Rs aJ c.2.2.2.2.2))))))),.obj qt 67 (.agg (.pair (I 0) (I 0)))],by kernel_rfl,by decide,?_⟩
    refine oq 2 rfl ?_;refine qm rfl rfl (aL rfl mf rfl rfl rfl) ⟨rfl,rfl,trivial⟩ (by kernel_rfl) ?_;refine KI rfl rfl rfl rfl (iZ rfl) ⟨rfl,trivial⟩ (by kernel_rfl) ?_;refine ut ?_;refine bA (SE.fin (Γ':=[(12,Rs ak r7.1),(13,.rep Tl [a2,r8.1,a2]),(14,.rep Tl [a3,r9.1,a3]),(15,I j),(16,Pt D),(17,.rep Tl u.1),(18,I u.2),(19,.rep Tl s.1),(20,I s.2),(21,Pt y),(22,I l.2),(23,Pt qt),(24,I J.2)]) (Δ':=[.obj qt 67 (.rep bu J.1),.obj y 67 (.rep bu l.1),.obj D 25 (.agg (.pair (I c.1) (.pair (I c.2.1) (.pair (I c.2.2.1) (.pair (I c.2.2.2.1) (.pair (.rep (.slice (.slice Tl)) c.2.2.2.2.1) (Rs aJ c.2.2.2.2.2)))))))]) [0,1,2] ⟨rfl,rfl,rfl,rfl,rfl,rfl,rfl,rfl,rfl,rfl,rfl,rfl,rfl,trivial⟩ rfl) ?_;refine tn (aE (Z:=Unit) (α:=Bool) (λzz F=>[(12,Rs ak r7.1),(13,.rep Tl [a2,r8.1,a2]),(14,.rep Tl [a3,r9.1,a3]),(15,I j),(124,.eq (.bool F))]) (λzz F=>[]) h (λK h=>?_) (λzz F h=>?_))
    .refine bB ?_;refine dm ?_;refine dm ?_;refine db (dU rfl) ?_;refine lU rfl rfl rfl (aS rfl) ⟨rfl,trivial⟩ (λhb=>?_) (λhb=>?_)
     .replace h:=ek (MQ hb) h;iterate 3 refine dg ?_
      refine db (kS rfl) ?_;refine dm ?_;iterate 3 refine dg ?_
      refine db (kS rfl) ?_;refine dm ?_;iterate 4 refine dg ?_
      refine db (kS rfl) ?_;refine dm ?_;iterate 5 refine dg ?_
      refine df cF ?_;iterate 2 refine gn ?_
      refine pt (nl ?_);exact jz ((),true) h []
     .replace h:=cM (zw hb) h;refine bC rfl rfl rfl rfl rfl (aS rfl) ⟨rfl,rfl,trivial⟩ ?_;refine bC rfl rfl rfl rfl rfl (aS rfl) ⟨rfl,rfl,trivial⟩ ?_;refine bC rfl rfl rfl rfl rfl (dU rfl) ⟨rfl,rfl,rfl,trivial⟩ ?_;refine db (pN rfl) ?_;refine lU rfl rfl rfl (aS rfl) ⟨rfl,trivial⟩ (λhb=>?_) (λhb=>?_)
      .replace h:=ek (MQ hb) h;iterate 3 refine dg ?_
       refine db (kS rfl) ?_;refine dm ?_;iterate 4 refine dg ?_
       refine db (kS rfl) ?_;refine dm ?_;iterate 5 refine dg ?_
       refine df cF ?_;iterate 2 refine gn ?_
       refine pt (nl ?_);exact jz ((),true) h []
      .replace h:=cM (zw hb) h;refine fY 1 rfl rfl rfl rfl rfl rfl (ao rfl mf (mU) rfl) ⟨rfl,rfl,trivial⟩ ?_;refine fY 0 rfl rfl rfl rfl rfl rfl (ao rfl mf (mU) rfl) ⟨rfl,rfl,trivial⟩ ?_;refine bC rfl rfl rfl rfl rfl (DL rfl TC rfl) ⟨rfl,rfl,rfl,trivial⟩ ?_;refine db (pN rfl) ?_;refine lU rfl rfl rfl (aS rfl) ⟨rfl,trivial⟩ (λhb=>?_) (λhb=>?_)
       .replace h:=ek (MQ hb) h;iterate 4 refine dg ?_
        refine db (kS rfl) ?_;refine dm ?_;iterate 5 refine dg ?_
        refine df cF ?_;iterate 2 refine gn ?_
        refine pt (nl ?_);exact jz ((),true) h []
       .replace h:=cM (zw hb) h;refine bC rfl rfl rfl rfl rfl (aS rfl) ⟨rfl,rfl,trivial⟩ ?_;refine bC rfl rfl rfl rfl rfl (aS rfl) ⟨rfl,rfl,trivial⟩ ?_;obtain⟨XG,Xk,h⟩:=aa h;refine bC rfl rfl rfl rfl rfl (av [.tmp 111,.tmp 112] rfl rfl NJ rfl (jq k u.1 s.1 XG Xk)) ⟨rfl,rfl,rfl,trivial⟩ ?_;refine bC rfl rfl rfl rfl rfl (ff rfl) ⟨rfl,rfl,trivial⟩ ?_;refine db (pN rfl) ?_;refine lU rfl rfl rfl (aS rfl) ⟨rfl,trivial⟩ (λhb=>?_) (λhb=>?_)
        .replace h:=ek (tN hb) h;iterate 5 refine dg ?_
         refine df cF ?_;iterate 2 refine gn ?_
         refine pt (nl ?_);exact jz ((),true) h []
        .replace h:=cM (nW hb) h;refine fY 2 rfl rfl rfl rfl rfl rfl (ao rfl dh (mU) rfl) ⟨rfl,rfl,trivial⟩ ?_;refine bC rfl rfl rfl rfl rfl (aS rfl) ⟨rfl,rfl,trivial⟩ ?_;refine bC rfl rfl rfl rfl rfl (aS rfl) ⟨rfl,rfl,trivial⟩ ?_;obtain⟨W0,Xa,h⟩:=aa h;refine bC rfl rfl rfl rfl rfl (aD (t:=ak) rfl Ut dh Xa) ⟨rfl,rfl,rfl,trivial⟩ ?_;refine bC rfl rfl rfl rfl rfl (an (t:=ak) rfl dh rfl) ⟨rfl,rfl,trivial⟩ ?_;refine df cF ?_;obtain⟨W5,Xj,h⟩:=aa h;refine gb (bM (N:=[(.tmp 117,.agg (.pair (I c.1) (.pair (I c.2.1) (.pair (I c.2.2.1) (.pair (I c.2.2.2.1) (.pair (.rep (.slice (.slice Tl)) c.2.2.2.2.1) (Rs aJ c.2.2.2.2.2))))))),(.tmp 121,.rep ak W0)]) (av [.tmp 117,.tmp 121] rfl rfl V5 rfl (t5 k (c.1,c.2.1,c.2.2.1,c.2.2.2.1,c.2.2.2.2.1,c.2.2.2.2.2) W0 W5 Xj)) λ_ _ _ hn=>⟨(aK (t:=ak) (x:=(c.1,c.2.1,c.2.2.1,c.2.2.2.1,c.2.2.2.2.1,c.2.2.2.2.2)) (.agg (.pair .int (.pair .int (.pair .int (.pair .int (.pair .rep .rep)))))) trivial rfl hn.1),hn.2.1,trivial⟩) ?_;refine ga (ff rfl) ?_;refine pf (nl ?_);exact jz ((), !W5) h []
    .refine cv h (λh=>?_) (λh=>?_)
     .refine sr (cq (nt (aA (br (aR (aP ?_))))));obtain rfl:=hR _ h;exact ra
     .refine aX (aI (tn (ae (mq ?_))));obtain⟨Xq,W9,h⟩:=aa h;refine jb (aY rfl W9) ?_;refine aq (nl ?_);exact jz ((),Xq) h []
   .refine xa ?_;exact jz ((),()) h []
  .refine sr ?_;obtain⟨XF,Xi,h⟩:=aa h;refine cC rfl (bo [] rfl rfl Ue rfl (uE k XF Xi)) trivial ?_;refine aq (nt (aA ?_));cases h;exact ra
