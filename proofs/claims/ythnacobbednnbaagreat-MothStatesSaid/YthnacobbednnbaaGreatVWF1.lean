import Derived.Test.YthnacobbednnbaaGreatVWFacts
open Nat
open List hiding mem_of_getElem?
open Array hiding mem_of_getElem? mk
set_option linter.unusedSimpArgs false
set_option linter.unusedVariables false
set_option maxRecDepth 4000
set_option maxHeartbeats 1000000
namespace Go.Proofs.YthnacobbednnbaaGreat
open K Go Go.Proofs
def iG(k:Nat)(a0:ab)(y4:Int):Nat->Int->Option (Except Bool Unit)
 |0,_=>none
 |n+1,c=>
  (aH a0.2.2.2.2.1 y4).bind λl=>
  if c < (l.length:Int) then((aH a0.2.2.2.2.1 y4).bind λj=>
  (aH j c).bind λh=>
  if 20 < (h.length:Int) then(some (.error true)) else((ck (c+1)).bind λe=>
  iG k a0 y4 n e)) else(some (.ok ()))
def iH(k:Nat)(a0:ab):Nat->Int->Option (Except Bool Unit)
 |0,_=>none
 |n+1,y4=>
  ((if y4 < (a0.2.2.2.2.1.length:Int) then(some (decide (y4 < 20))) else(some false)):Option (Bool)).bind λx6=>
  if x6=true then(bE (α:=Unit) ((aH a0.2.2.2.2.1 y4).bind λh=>
  if 20 < (h.length:Int) then(some (.error true)) else(iG k a0 y4 k 0)) (λe=>some (.error e)) λ_=>
  (ck (y4+1)).bind λc=>
  iH k a0 n c) else(some (.ok ()))
def pW(k:Nat)(a0:ab):Option Bool:=
 bE (α:=Unit) (iH k a0 k 0) (some) λ_=>
 ((if 20 < (a0.2.2.2.2.1.length:Int) then(some true) else(some (decide (20 < (a0.2.2.2.2.2.length:Int))))):Option (Bool)).bind λc=>
 some c
theorem BK(k:Nat)(a0:ab)(r:Bool)(h:pW k a0=some r):
 cV Tryz.prog 10 [.rep ak a0] [] (λ_:Unit=>(bF [.eq (.bool r)],[])):=by
 unfold pW at h
 replace h:=bf h
 refine cV.of 53 Tryz.func10 rfl Tryz.ntmps10 rfl λS w0=>?_
 refine sr ?_
 refine bx λb1=>?_
 refine cq ?_
 refine nt ?_
 refine cU (Z:=Unit) (α:=Unit) (λz3 x2=>[(1,Pt b1)]) (λz3 x2=>[.obj b1 25 (.rep ak a0)]) (λe=>e=r) h (λe h=>Option.some.inj h) (λK hR h=>?_) (λz3 x2 h=>?_)
 .
  refine sr (cq (nt (ah ?_)));refine aF (λz5 y4=>[(1,Pt b1),(3,I y4)]) (λz5 y4=>[.obj b1 25 (.rep ak a0)]) (iH k a0) k () 0 (λ_=>rfl) h (SE.fin [0] ⟨rfl,rfl,trivial⟩ rfl) (λn z5 y4 h=>?_);unfold iH at h;refine ai (aE (Z:=Unit) (α:=Bool) (λz7 x6=>[(1,Pt b1),(3,I y4),(13,.eq (.bool x6))]) (λz7 x6=>[.obj b1 25 (.rep ak a0)]) h (λK h=>?_) (λz7 x6 h=>?_))
  .refine ae (mq ?_);refine fl cu ?_;refine lo fp ?_;refine ol po ?_;refine jb (bq rfl) ?_;refine mq ?_;refine cy (s:=10) rfl (λhb=>?_) (λhb=>?_)
   .replace h:=ek (wA hb) h;refine gm ?_;refine gb (bq rfl) ?_;refine pt (nl ?_);exact jz ((),decide (y4 < 20)) h [0]
   .replace h:=cM (wB hb) h;iterate 2 refine gn ?_
    refine pf (nl ?_);exact jz ((),false) h [0]
  .refine cv h (λh=>?_) (λh=>?_)
   .refine sk (cU (Z:=Unit) (α:=Unit) (λz9 x8=>[(1,Pt b1),(3,I y4)]) (λz9 x8=>[.obj b1 25 (.rep ak a0)]) (λe=>e=r) h (λe h=>hR e h) (λK hR h=>?_) (λz9 x8 h=>?_))
    .refine ah (ai (sr (fl cu ?_)));refine lo fp ?_;refine mq ?_;obtain⟨Y,J,h⟩:=aa h;refine jb (aD (t:=(.slice Tl)) rfl po kO J) ?_;refine ja (an (t:=(.slice Tl)) rfl kO rfl) ?_;refine ol nq ?_;refine jb (iY rfl) ?_;refine nt (ci h (λh=>?_) (λh=>?_))
     .refine sr (cq (nt (rx (br (aR (aP ?_))))));obtain rfl:=hR _ h;exact ra
     .refine sk (sr (cq (nt (ah ?_))));refine aF (λu c=>[(1,Pt b1),(3,I y4),(4,I c)]) (λu c=>[.obj b1 25 (.rep ak a0)]) (iG k a0 y4) k () 0 (λ_=>rfl) h (SE.fin [0] ⟨rfl,rfl,rfl,trivial⟩ rfl) (λn u c h=>?_);unfold iG at h;refine ai (sr (mq ?_));refine fl cu ?_;refine lo fp ?_;refine mq ?_;obtain⟨X,F,h⟩:=aa h;refine jb (aD (t:=(.slice Tl)) rfl po kO F) ?_;refine ja (an (t:=(.slice Tl)) rfl kO rfl) ?_;refine ol nq ?_;refine jb (bq rfl) ?_;refine nt (ci h (λh=>?_) (λh=>?_))
      .refine sk (ai (ah (sr (fl cu ?_))));refine lo fp ?_;refine mq ?_;obtain⟨U,E,h⟩:=aa h;refine jb (aD (t:=(.slice Tl)) rfl po kO E) ?_;refine ja (an (t:=(.slice Tl)) rfl kO rfl) ?_;refine mq ?_;obtain⟨Q,D,h⟩:=aa h;refine jb (aD (t:=Tl) rfl nq eM D) ?_;refine ja (an (t:=Tl) rfl eM rfl) ?_;refine ol gh ?_;refine jb (iY rfl) ?_;refine nt (ci h (λh=>?_) (λh=>?_))
       .refine sr (cq (nt (aA (br (aR (br (aR (aP ?_))))))));obtain rfl:=hR _ h;exact ra
       .refine aX (aI (tn (ae (mq ?_))));obtain⟨O,y,h⟩:=aa h;refine jb (aY rfl y) ?_;refine aq (nl ?_);exact jz ((),O) h [0]
      .refine dT (bv (bv (ce (bn ?_))));exact jz ((),()) h [0]
    .refine ae (mq ?_);obtain⟨M,x,h⟩:=aa h;refine jb (aY rfl x) ?_;refine aq (nl ?_);exact jz ((),M) h [0]
   .refine xa ?_;exact jz ((),()) h [0]
 .
  refine aE (Z:=Unit) (α:=Bool) (λl j=>[(2,.eq (.bool j))]) (λl j=>[]) h (λK h=>?_) (λl j h=>?_)
  .refine ae (fl cu ?_);refine lo fp ?_;refine ol po ?_;refine jb (iY rfl) ?_;refine mq ?_;refine cy (s:=47) rfl (λhb=>?_) (λhb=>?_)
   .replace h:=ek (wA hb) h;iterate 4 refine gn ?_
    refine pt ?_;refine aq (nl ?_);exact jz ((),true) h []
   .replace h:=cM (wB hb) h;refine ga (au rfl ge) ?_;refine eY rfl rfl rfl rfl rfl rfl (ao rfl nJ jI rfl) ⟨rfl,trivial⟩ ?_;refine ga (pP rfl rfl Da) ?_;refine gb (iY rfl) ?_;refine pf ?_;refine aq (nl ?_);exact jz ((),decide (20 < (a0.2.2.2.2.2.length:Int))) h []
  .refine aA ?_;cases h;exact ra
def dX(k:Nat)(a0:Int)(a1:Int)(a2:Int):Option Bool:=
 ((if a1≤a0 then(some (decide (a0≤a2))) else(some false)):Option (Bool)).bind λx1=>
 some x1
theorem eh(k:Nat)(a0:Int)(a1:Int)(a2:Int)(r:Bool)(h:dX k a0 a1 a2=some r):
 cV Tryz.prog 53 [I a0,I a1,I a2] [] (λ_:Unit=>(bF [.eq (.bool r)],[])):=by
 unfold dX at h
 replace h:=bf h
 refine cV.of 15 Tryz.func53 rfl Tryz.ntmps53 rfl λS w0=>?_
 refine sr ?_
 refine cq ?_
 refine nt ?_
 refine aE (Z:=Unit) (α:=Bool) (λz2 x1=>[(6,.eq (.bool x1))]) (λz2 x1=>[]) h (λK h=>?_) (λz2 x1 h=>?_)
 .
  refine ae ?_;iterate 2 refine mq ?_
  refine jb (Bh rfl) ?_;refine mq ?_;refine cy (s:=10) rfl (λhb=>?_) (λhb=>?_)
  .replace h:=ek (wA hb) h;refine gm ?_;refine gm ?_;refine gb (Bh rfl) ?_;refine pt ?_;refine aq (nl ?_);exact jz ((),decide (a0≤a2)) h []
  .replace h:=cM (wB hb) h;iterate 3 refine gn ?_
   refine pf ?_;refine aq (nl ?_);exact jz ((),false) h []
 .
  refine aA ?_;cases h;exact ra
def gU(k:Nat)(a0:Int)(a1:Int):Option Int:=
 (bV (0≤a1)).bind λ_=>
 some (E8 .u8 a0 (pZ .u8 1 a1))
theorem lC(k:Nat)(a0:Int)(a1:Int)(r:Int)(h:gU k a0 a1=some r):
 cV Tryz.prog 75 [.eq (.int .u8 a0),I a1] [] (λ_:Unit=>(bF [.eq (.int .u8 r)],[])):=by
 unfold gU at h
 replace h:=bf h
 refine cV.of 9 Tryz.func75 rfl Tryz.ntmps75 rfl λS w0=>?_
 refine sr ?_
 refine cq ?_
 refine nt ?_
 refine sr ?_
 iterate 2 refine mq ?_
 obtain⟨u1,c,h⟩:=aa h
 refine jb (O2 rfl (ap c)) ?_
 refine jb (U7 rfl) ?_
 refine aq ?_
 refine nt ?_
 refine aA ?_
 cases h
 exact ra
def fD(k:Nat)(a0:Int)(a1:Int):Option Bool:=
 (bV (0≤a1)).bind λ_=>
 some (decide ((rV .u8 (jf .u8 a0 a1) 1)=1))
theorem iE(k:Nat)(a0:Int)(a1:Int)(r:Bool)(h:fD k a0 a1=some r):
 cV Tryz.prog 97 [.eq (.int .u8 a0),I a1] [] (λ_:Unit=>(bF [.eq (.bool r)],[])):=by
 unfold fD at h
 replace h:=bf h
 refine cV.of 10 Tryz.func97 rfl Tryz.ntmps97 rfl λS w0=>?_
 refine sr ?_
 refine cq ?_
 refine nt ?_
 refine sr ?_
 iterate 2 refine mq ?_
 obtain⟨u1,c,h⟩:=aa h
 refine jb (vR rfl (ap c)) ?_
 refine jb (SI rfl) ?_
 refine jb (fV rfl) ?_
 refine aq ?_
 refine nt ?_
 refine aA ?_
 cases h
 exact ra
def dk(k:Nat)(a0:ab)(x8:(List Int)):Nat->(Int×Int)->Option (Except Int Int)
 |0,_=>none
 |n+1,y9=>
  if y9.2 < (x8.length:Int) then((aH x8 y9.2).bind λc=>
  (ck (a0.1 - 1)).bind λh=>
  (dX k c 0 h).bind λr=>
  if¬(r=true) then(some (.error 3)) else((fD k y9.1 c).bind λl=>
  if l=true then(some (.error 4)) else((gU k y9.1 c).bind λj=>
  (ck (y9.2+1)).bind λe=>
  dk k a0 x8 n (j,e)))) else(some (.ok y9.1))
def dn(k:Nat)(a0:ab)(a1:(List (List Int))):Nat->(Int×Int)->Option (Except Int Unit)
 |0,_=>none
 |n+1,y4=>
  if y4.2 < (a1.length:Int) then(bE (α:=Int) ((aH a1 y4.2).bind λx8=>
  dk k a0 x8 k (y4.1,0)) (λe=>some (.error e)) λx6=>
  (ck (y4.2+1)).bind λc=>
  dn k a0 a1 n (x6,c)) else(some (.ok ()))
def jT(k:Nat)(a0:ab)(a1:(List (List Int))):Option Int:=
 if 3 < (a1.length:Int) then(some 6) else(bE (α:=Unit) (dn k a0 a1 k (0,0)) (some) λ_=>
 some 0)
theorem uR(k:Nat)(a0:ab)(a1:(List (List Int)))(r:Int)(h:jT k a0 a1=some r):
 cV Tryz.prog 54 [.rep ak a0,.rep (.slice Tl) a1] [] (λ_:Unit=>(bF [I r],[])):=by
 unfold jT at h
 replace h:=bf h
 refine cV.of 39 Tryz.func54 rfl Tryz.ntmps54 rfl λS w0=>?_
 refine sr ?_
 refine bx λb1=>?_
 refine cq ?_
 refine nt ?_
 refine ai ?_
 refine sr ?_
 refine mq ?_
 refine ol nq ?_
 refine jb (iY rfl) ?_
 refine nt ?_
 refine ci h (λh=>?_) (λh=>?_)
 .
  refine sr (cq (nt (rx ?_)));cases h;exact ra
 .
  refine sk (sr (cq (nt ?_)));refine cU (Z:=Unit) (α:=Unit) (λz3 x2=>[]) (λz3 x2=>[]) (λe=>e=r) h (λe h=>Option.some.inj h) (λK hR h=>?_) (λz3 x2 h=>?_)
  .refine sr (mq ?_);refine ol nq ?_;refine fg rfl ?_;refine nt (ah (aF (λz5 y4=>[(2,Pt b1),(5,.eq (.int .u8 y4.1)),(13,.rep (.slice Tl) a1),(14,I (a1.length:Int)),(15,I y4.2)]) (λz5 y4=>[.obj b1 25 (.rep ak a0)]) (dn k a0 a1) k () (0,0) (λ_=>rfl) h (SE.fin [0] ⟨rfl,rfl,rfl,rfl,rfl,trivial⟩ rfl) (λn z5 y4 h=>?_)));unfold dn at h;refine sr (jb (bq rfl) ?_);refine nt (ai (ci h (λh=>?_) (λh=>?_)))
   .refine sk (cU (Z:=Unit) (α:=Int) (λz7 x6=>[(2,Pt b1),(5,.eq (.int .u8 x6)),(13,.rep (.slice Tl) a1),(14,I (a1.length:Int)),(15,I y4.2)]) (λz7 x6=>[.obj b1 25 (.rep ak a0)]) (λe=>e=r) h (λe h=>hR e h) (λK hR h=>?_) (λz7 x6 h=>?_))
    .refine ah (sr ?_);obtain⟨x8,X,h⟩:=aa h;refine jb (aD (t:=Tl) rfl nq eM X) ?_;refine ja (an (t:=Tl) rfl eM rfl) ?_;refine aq (nt (sr ?_));refine mq ?_;refine ol gh ?_;refine fg rfl ?_;refine nt (ah (aF (λj y9=>[(2,Pt b1),(5,.eq (.int .u8 y9.1)),(13,.rep (.slice Tl) a1),(14,I (a1.length:Int)),(15,I y4.2),(19,.rep Tl x8),(20,I (x8.length:Int)),(21,I y9.2)]) (λj y9=>[.obj b1 25 (.rep ak a0)]) (dk k a0 x8) k () (y4.1,0) (λ_=>rfl) h (SE.fin [0] ⟨rfl,rfl,rfl,rfl,rfl,rfl,rfl,rfl,trivial⟩ rfl) (λn j y9 h=>?_)));unfold dk at h;refine sr (jb (bq rfl) ?_);refine nt (ai (ci h (λh=>?_) (λh=>?_)))
     .refine sk (ai (ah (sr ?_)));obtain⟨c,y,h⟩:=aa h;refine jb (aD (t:=Ti) rfl gh bP y) ?_;refine ja (an (t:=Ti) rfl bP rfl) ?_;refine aq (nt (ai (sr ?_)));refine mq ?_;refine fl eW ?_;refine lo bP ?_;obtain⟨O,x,h⟩:=aa h;refine jb (eJ rfl x) ?_;obtain⟨U,F,h⟩:=aa h;refine jc (av [.tmp 25,.const (.int .i64 (0)),.tmp 28] rfl rfl zT rfl (eh k c 0 O U F)) ?_;refine ja (ff rfl) ?_;refine nt (cw h (λh=>?_) (λh=>?_))
      .refine sr (cq (nt (rx (br (aR (br (aR (aP ?_))))))));obtain rfl:=hR _ h;exact ra
      .refine sk (ai (sr ?_));iterate 2 refine mq ?_
       obtain⟨Q,E,h⟩:=aa h;refine jb (av [.tmp 31,.tmp 32] rfl rfl JU rfl (iE k y9.1 c Q E)) ?_;refine nt (cv h (λh=>?_) (λh=>?_))
       .refine sr (cq (nt (rx (br (aR (br (aR (aP ?_))))))));obtain rfl:=hR _ h;exact ra
       .refine sk (ae ?_);iterate 2 refine mq ?_
        obtain⟨l,D,h⟩:=aa h;refine jb (av [.tmp 34,.tmp 35] rfl rfl QM rfl (lC k y9.1 c l D)) ?_;refine aq (aG (aI (tn (ae ?_))));obtain⟨M,u,h⟩:=aa h;refine jb (aY rfl u) ?_;refine mq (nl ?_);exact jz ((),(l,M)) h [0]
     .refine dT (bv (bv (ce (bn ?_))));exact jz ((),y9.1) h [0]
    .refine ae ?_;obtain⟨J,s,h⟩:=aa h;refine jb (aY rfl s) ?_;refine mq (nl ?_);exact jz ((),(x6,J)) h [0]
   .refine xa ?_;exact jz ((),()) h []
  .refine sr (cq (nt (aA ?_)));cases h;exact ra
def ia(k:Nat)(a0:ab)(a1:aW):Option Int:=
 (((ck (a0.1 - 1)).bind λx5=>
 (dX k a1.1 0 x5).bind λr6=>
 if¬(r6=true) then(some true) else((dX k a1.2.1 0 (a0.2.2.2.2.1.length:Int)).bind λr7=>
 some (!r7))):Option (Bool)).bind λx3=>
 if x3=true then(some 3) else(some 0)
theorem rO(k:Nat)(a0:ab)(a1:aW)(r:Int)(h:ia k a0 a1=some r):
 cV Tryz.prog 55 [.rep ak a0,.rep aJ a1] [] (λ_:Unit=>(bF [I r],[])):=by
 unfold ia at h
 replace h:=bf h
 refine cV.of 21 Tryz.func55 rfl Tryz.ntmps55 rfl λS w0=>?_
 refine sr ?_
 refine bx λb1=>?_
 refine bx λb2=>?_
 refine cq ?_
 refine nt ?_
 refine ai ?_
 refine aE (Z:=Unit) (α:=Bool) (λz4 x3=>[(20,.eq (.bool x3))]) (λz4 x3=>[]) h (λK h=>?_) (λz4 x3 h=>?_)
 .
  refine ae (fl zO ?_);refine lo bP ?_;refine fl eW ?_;refine fr 1 ?_;refine lo bP ?_;obtain⟨x5,c,h⟩:=aa h;refine jb (eJ rfl c) ?_;obtain⟨r6,j,h⟩:=aa h;refine jc (av [.tmp 6,.const (.int .i64 (0)),.tmp 9] rfl rfl zT rfl (eh k a1.1 0 x5 r6 j)) ?_;refine ja (ff rfl) ?_;refine mq ?_;refine cy (s:=12) rfl (λhb=>?_) (λhb=>?_)
  .replace h:=ek (tN hb) h;iterate 7 refine gn ?_
   refine pt (nl ?_);exact jz ((),true) h []
  .replace h:=cM (nW hb) h;refine ga (au rfl zN) ?_;refine fr 1 ?_;refine eY rfl rfl rfl rfl rfl rfl (ao rfl bP jI rfl) ⟨rfl,trivial⟩ ?_;refine ga (au rfl cu) ?_;refine fr 1 ?_;refine eY rfl rfl rfl rfl rfl rfl (ao rfl fp jI rfl) ⟨rfl,trivial⟩ ?_;refine ga (pP rfl rfl po) ?_;obtain⟨r7,e,h⟩:=aa h;refine gc (av [.tmp 14,.const (.int .i64 (0)),.tmp 17] rfl rfl zT rfl (eh k a1.2.1 0 (a0.2.2.2.2.1.length:Int) r7 e)) ?_;refine ga (ff rfl) ?_;refine pf (nl ?_);exact jz ((), !r7) h []
 .
  refine cv h (λh=>?_) (λh=>?_)
  .refine sr (cq (nt (rx ?_)));cases h;exact ra
  .refine sk (sr (cq (nt (aA ?_))));cases h;exact ra
def fK(k:Nat)(a0:ab):Nat->Int->Option (Except Int Unit)
 |0,_=>none
 |n+1,c=>
  if c < (a0.2.2.2.2.1.length:Int) then((aH a0.2.2.2.2.1 c).bind λj=>
  (jT k a0 j).bind λe=>
  if¬(e=0) then(some (.error e)) else((ck (c+1)).bind λh=>
  fK k a0 n h)) else(some (.ok ()))
def fJ(k:Nat)(a0:ab):Nat->Int->Option (Except Int Unit)
 |0,_=>none
 |n+1,c=>
  if c < (a0.2.2.2.2.2.length:Int) then((aH a0.2.2.2.2.2 c).bind λj=>
  (ia k a0 j).bind λe=>
  if¬(e=0) then(some (.error e)) else((ck (c+1)).bind λh=>
  fJ k a0 n h)) else(some (.ok ()))
def nZ(k:Nat)(a0:ab):Option Int:=
 (((dX k a0.1 1 5).bind λr4=>
 if¬(r4=true) then(some true) else((dX k a0.2.1 0 3).bind λr5=>
 if¬(r5=true) then(some true) else((dX k a0.2.2.1 0 3).bind λr6=>
 if¬(r6=true) then(some true) else((dX k a0.2.2.2.1 1 3).bind λr7=>
 some (!r7))))):Option (Bool)).bind λx2=>
 if x2=true then(some 1) else(if(a0.2.2.2.2.1.length:Int) < 1 then(some 7) else(if 6 < (a0.2.2.2.2.1.length:Int) then(some 6) else(bE (α:=Unit) (fK k a0 k 0) (some) λ_=>
 if 8 < (a0.2.2.2.2.2.length:Int) then(some 6) else(bE (α:=Unit) (fJ k a0 k 0) (some) λ_=>
 some 0))))
theorem zy(k:Nat)(a0:ab)(r:Int)(h:nZ k a0=some r):
 cV Tryz.prog 19 [.rep ak a0] [] (λ_:Unit=>(bF [I r],[])):=by
 unfold nZ at h
 replace h:=bf h
 refine cV.of 73 Tryz.func19 rfl Tryz.ntmps19 rfl λS w0=>?_
 refine sr ?_
 refine bx λb1=>?_
 refine cq ?_
 refine nt ?_
 refine ai ?_
 refine aE (Z:=Unit) (α:=Bool) (λz3 x2=>[(1,Pt b1),(31,.eq (.bool x2))]) (λz3 x2=>[.obj b1 25 (.rep ak a0)]) h (λK h=>?_) (λz3 x2 h=>?_)
 .
  refine ae (fl eW ?_);refine lo bP ?_;obtain⟨r4,WY,h⟩:=aa h;refine jc (av [.tmp 11,.const (.int .i64 (1)),.const (.int .i64 (5))] rfl rfl zT rfl (eh k a0.1 1 5 r4 WY)) ?_;refine ja (ff rfl) ?_;refine mq ?_;refine cy (s:=14) rfl (λhb=>?_) (λhb=>?_)
  .replace h:=ek (tN hb) h;iterate 4 refine gn ?_
   refine pt ?_;refine mq ?_;iterate 4 refine gn ?_
   refine pt ?_;refine mq ?_;iterate 4 refine gn ?_
   refine pt (nl ?_);exact jz ((),true) h [0]
  .replace h:=cM (nW hb) h;refine ga (au rfl qd) ?_;refine eY rfl rfl rfl rfl rfl rfl (ao rfl bP jI rfl) ⟨rfl,trivial⟩ ?_;obtain⟨r5,zz,h⟩:=aa h;refine gc (av [.tmp 16,.const (.int .i64 (0)),.const (.int .i64 (3))] rfl rfl zT rfl (eh k a0.2.1 0 3 r5 zz)) ?_;refine ga (ff rfl) ?_;refine pf ?_;refine mq ?_;refine cy (s:=20) rfl (λhb=>?_) (λhb=>?_)
   .replace h:=ek (tN hb) h;iterate 4 refine gn ?_
    refine pt ?_;refine mq ?_;iterate 4 refine gn ?_
    refine pt (nl ?_);exact jz ((),true) h [0]
   .replace h:=cM (nW hb) h;refine ga (au rfl rY) ?_;refine eY rfl rfl rfl rfl rfl rfl (ao rfl bP jI rfl) ⟨rfl,trivial⟩ ?_;obtain⟨r6,qt,h⟩:=aa h;refine gc (av [.tmp 22,.const (.int .i64 (0)),.const (.int .i64 (3))] rfl rfl zT rfl (eh k a0.2.2.1 0 3 r6 qt)) ?_;refine ga (ff rfl) ?_;refine pf ?_;refine mq ?_;refine cy (s:=26) rfl (λhb=>?_) (λhb=>?_)
    .replace h:=ek (tN hb) h;iterate 4 refine gn ?_
     refine pt (nl ?_);exact jz ((),true) h [0]
    .replace h:=cM (nW hb) h;refine ga (au rfl ud) ?_;refine eY rfl rfl rfl rfl rfl rfl (ao rfl bP jI rfl) ⟨rfl,trivial⟩ ?_;obtain⟨r7,mw,h⟩:=aa h;refine gc (av [.tmp 28,.const (.int .i64 (1)),.const (.int .i64 (3))] rfl rfl zT rfl (eh k a0.2.2.2.1 1 3 r7 mw)) ?_;refine ga (ff rfl) ?_;refine pf (nl ?_);exact jz ((), !r7) h [0]
 .
  refine cv h (λh=>?_) (λh=>?_)
  .refine sr (cq (nt (rx ?_)));cases h;exact ra
  .refine sk (ai (sr (fl cu ?_)));refine lo fp ?_;refine ol po ?_;refine aq (nt (ah (sr ?_)));refine mq ?_;refine jb (bq rfl) ?_;refine aq (nt ?_);refine ci h (λh=>?_) (λh=>?_)
   .refine sr (cq (nt (aA (aR (aP ?_)))));cases h;exact ra
   .refine sr (mq ?_);refine jb (iY rfl) ?_;refine aq (nt ?_);refine ci h (λh=>?_) (λh=>?_)
    .refine sr (cq (nt (aA (aR (aP ?_)))));cases h;exact ra
    .refine aX (aI (tn (cU (Z:=Unit) (α:=Unit) (λz9 x8=>[(1,Pt b1)]) (λz9 x8=>[.obj b1 25 (.rep ak a0)]) (λe=>e=r) h (λe h=>Option.some.inj h) (λK hR h=>?_) (λz9 x8 h=>?_))))
     .refine sr (fl cu ?_);refine lo fp ?_;refine ol po ?_;refine fg rfl ?_;refine nt (ah (aF (λx j=>[(1,Pt b1),(42,.rep (.slice (.slice Tl)) a0.2.2.2.2.1),(43,I (a0.2.2.2.2.1.length:Int)),(44,I j)]) (λx j=>[.obj b1 25 (.rep ak a0)]) (fK k a0) k () 0 (λ_=>rfl) h (SE.fin [0] ⟨rfl,rfl,rfl,rfl,trivial⟩ rfl) (λn x j h=>?_)));unfold fK at h;refine sr (jb (bq rfl) ?_);refine nt (ai (ci h (λh=>?_) (λh=>?_)))
      .refine sk (ai (ah (sr ?_)));obtain⟨Y,J,h⟩:=aa h;refine jb (aD (t:=(.slice Tl)) rfl po kO J) ?_;refine ja (an (t:=(.slice Tl)) rfl kO rfl) ?_;refine aq (nt (sr ?_));refine lo dh ?_;refine mq ?_;obtain⟨mc,O,h⟩:=aa h;refine jb (av [.tmp 48,.tmp 49] rfl rfl VT rfl (uR k a0 Y mc O)) ?_;refine aq (nt (sr ?_));refine mq ?_;refine jb (dU rfl) ?_;refine nt (cn h (λh=>?_) (λh=>?_))
       .refine sr (mq ?_);refine aq (nt (aA (br (aR (aP ?_)))));obtain rfl:=hR _ h;exact ra
       .refine aX (aI (tn (ae ?_)));obtain⟨X,F,h⟩:=aa h;refine jb (aY rfl F) ?_;refine mq (nl ?_);exact jz ((),X) h [0]
      .refine xa ?_;exact jz ((),()) h [0]
     .refine ai (sr (fl ge ?_));refine lo nJ ?_;refine ol Da ?_;refine jb (iY rfl) ?_;refine nt (ci h (λh=>?_) (λh=>?_))
      .refine sr (cq (nt (rx ?_)));cases h;exact ra
      .refine sk (cU (Z:=Unit) (α:=Unit) (λu y=>[]) (λu y=>[]) (λe=>e=r) h (λe h=>Option.some.inj h) (λK hR h=>?_) (λu y h=>?_))
       .refine sr (fl ge ?_);refine lo nJ ?_;refine ol Da ?_;refine fg rfl ?_;refine nt (ah (aF (λl c=>[(1,Pt b1),(60,Rs aJ a0.2.2.2.2.2),(61,I (a0.2.2.2.2.2.length:Int)),(62,I c)]) (λl c=>[.obj b1 25 (.rep ak a0)]) (fJ k a0) k () 0 (λ_=>rfl) h (SE.fin [0] ⟨rfl,rfl,rfl,rfl,trivial⟩ rfl) (λn l c h=>?_)));unfold fJ at h;refine sr (jb (bq rfl) ?_);refine nt (ai (ci h (λh=>?_) (λh=>?_)))
        .refine sk (ai (ah (sr ?_)));obtain⟨U,E,h⟩:=aa h;refine jb (aD (t:=aJ) rfl Da ny E) ?_;refine ja (an (t:=aJ) rfl ny rfl) ?_;refine be rfl rfl rfl (bz rfl Gg Og) trivial λWZ=>?_;refine aO rfl rfl (aL rfl ny rfl rfl rfl) ⟨rfl,rfl,trivial⟩ ?_;refine nt (sr (fr 1 ?_));refine lo dh ?_;refine fr 1 ?_;refine lo ny ?_;obtain⟨gw,M,h⟩:=aa h;refine jb (av [.tmp 66,.tmp 67] rfl rfl VS rfl (rO k a0 U gw M)) ?_;refine aq (nt (sr ?_));refine mq ?_;refine jb (dU rfl) ?_;refine nt (cn h (λh=>?_) (λh=>?_))
         .refine sr (mq ?_);refine aq (nt (aA (br (aR (aP ?_)))));obtain rfl:=hR _ h;exact ra
         .refine aX (aI (tn (ae ?_)));obtain⟨Q,D,h⟩:=aa h;refine jb (aY rfl D) ?_;refine mq (nl ?_);exact jz ((),Q) h [1]
        .refine xa ?_;exact jz ((),()) h []
       .refine sr (cq (nt (aA ?_)));cases h;exact ra
def cS(k:Nat)(a0:ab)(a1:Int):Nat->((List Int)×Int)->Option (List Int)
 |0,_=>none
 |n+1,y5=>
  if y5.2 < 5 then((((bV (0≤y5.2/\y5.2 < 5)).bind λ_=>
  (fD k a1 y5.2).bind λe=>
  if e=true then((bV (0≤y5.2/\y5.2 < 5)).bind λ_=>
  some (List.set (List.set y5.1 (Int.toNat y5.2) (-1:Int)) (Int.toNat y5.2) a0.2.1)) else(some (List.set y5.1 (Int.toNat y5.2) (-1:Int)))):Option ((List Int))).bind λx7=>
  (ck (y5.2+1)).bind λc=>
  cS k a0 a1 n (x7,c)) else(some y5.1)
def fj(k:Nat)(a0:ab)(a1:Int):Option (List Int):=
 ((cS k a0 a1 k ([0,0,0,0,0],0)):Option ((List Int))).bind λx3=>
 some x3
theorem rL{M:Md Tryz.prog}{bm:Nat}{c0 c1 c2 c3 c4 c5:Value}(hK:Kn M bm 0 [c0,c1,c2,c3,c4,c5])(k:Nat)(a0:ab)(a1:Int)(r:(List Int))(h:fj k a0 a1=some r):
 co M 94 [.rep (.mo (Pv bm) [c0,c1,c2,c3,c4,c5] ak) a0,.eq (.int .u8 a1)] [] (λ_:Unit=>(bF [.rep Tr r],[])):=by
 unfold fj at h
 replace h:=bf h
 refine co.of 24 Tryz.func94 rfl Tryz.ntmps94 rfl λS w0=>?_
 refine sr ?_
 refine be rfl rfl rfl (bz rfl Lc Of) trivial λb1=>?_
 refine nt ?_
 refine sr ?_
 refine be rfl rfl rfl (bz rfl Lc Of) trivial λb2=>?_
 refine nt ?_
 refine aE (Z:=Unit) (α:=(List Int)) (λz4 x3=>[(4,Pt b1),(5,Pt b2)]) (λz4 x3=>[.obj b1 82 (.rep Tr [0,0,0,0,0]),.obj b2 82 (.rep Tr x3)]) h (λK h=>?_) (λz4 x3 h=>?_)
 .
  refine sr (fg rfl ?_);refine nt (ah (aF (λz6 y5=>[(0,.rep (.mo (Pv bm) [c0,c1,c2,c3,c4,c5] ak) a0),(1,.eq (.int .u8 a1)),(4,Pt b1),(5,Pt b2),(7,I y5.2)]) (λz6 y5=>[.obj b1 82 (.rep Tr [0,0,0,0,0]),.obj b2 82 (.rep Tr y5.1)]) (cS k a0 a1) k () ([0,0,0,0,0],0) (λ_=>rfl) h (SE.fin [1,0] ⟨rfl,rfl,rfl,rfl,rfl,trivial⟩ rfl) (λn z6 y5 h=>?_)));unfold cS at h;refine sr (jb (bq rfl) ?_);refine nt (ai (ci h (λh=>?_) (λh=>?_)))
  .refine sk (aE (Z:=Unit) (α:=(List Int)) (λz8 x7=>[(0,.rep (.mo (Pv bm) [c0,c1,c2,c3,c4,c5] ak) a0),(1,.eq (.int .u8 a1)),(4,Pt b1),(5,Pt b2),(7,I y5.2)]) (λz8 x7=>[.obj b1 82 (.rep Tr [0,0,0,0,0]),.obj b2 82 (.rep Tr x7)]) h (λK h=>?_) (λz8 x7 h=>?_))
   .refine ah (sr (mq ?_));refine aq (nt (sr ?_));refine mq ?_;obtain⟨u9,e,h⟩:=aa h;refine jb (eA rfl C9 bP (ap e).1 (ap e).2) ?_;refine fr 1 ?_;refine aO rfl rfl (iz (t:=Ti) (off:=0) (i:=y5.2) (N:=5) rfl bP .int rfl rfl rfl rfl (ap e).1 (ap e).2 rfl) ⟨rfl,rfl,trivial⟩ ?_;refine nt (sr ?_);iterate 2 refine mq ?_
    obtain⟨u,l,h⟩:=aa h;refine jb (av [.tmp 12,.tmp 13] rfl rfl JU rfl (iE k a1 y5.2 u l)) ?_;refine nt (cv h (λh=>?_) (λh=>?_))
    .refine ae ?_;iterate 2 refine mq ?_
     refine ja (mt rfl) ?_;refine ja (iD rfl iP) ?_;refine ja (jt 1 false rfl qd rfl rfl) ?_;refine ja (km (t:=Ti) rfl bP (hK.sub 1 1 rfl (le_of_ble_eq_true rfl)) rfl rfl) ?_;obtain⟨x,c,h⟩:=aa h;refine jb (eA rfl C9 bP (ap c).1 (ap c).2) ?_;refine aO rfl rfl (iz (t:=Ti) (off:=0) (i:=y5.2) (N:=5) rfl bP .int rfl rfl rfl rfl (ap c).1 (ap c).2 rfl) ⟨rfl,rfl,trivial⟩ ?_;refine aG (bn ?_);exact jz ((),List.set (List.set y5.1 (Int.toNat y5.2) (-1:Int)) (Int.toNat y5.2) a0.2.1) h [1,0]
    .refine aX (bn ?_);exact jz ((),List.set y5.1 (Int.toNat y5.2) (-1:Int)) h [1,0]
   .refine ae ?_;obtain⟨s,j,h⟩:=aa h;refine jb (aY rfl j) ?_;refine mq (nl ?_);exact jz ((),(x7,s)) h [0,1]
  .refine xa ?_;exact jz ((),y5.1) h [0,1]
 .
  refine sr (fr 1 ?_);refine lo jK ?_;refine fr 1 ?_;refine aO rfl rfl (aL rfl jK rfl rfl rfl) ⟨rfl,rfl,trivial⟩ ?_;refine nt (aA ?_);obtain rfl:=Option.some.inj h;exact aV () [.rep Tr x3] 0 ⟨⟨_,_,_,_,_,rfl,(.head _),jK,(mU),rfl⟩,trivial⟩ rfl
def dr(k:Nat)(a0:(List Int))(a1:Int):Nat->Int->Option (Except Int Unit)
 |0,_=>none
 |n+1,y3=>
  if y3 < (a0.length:Int) then((aH a0 y3).bind λx5=>
  if a1=x5 then(some (.error y3)) else((ck (y3+1)).bind λx6=>
  dr k a0 a1 n x6)) else(some (.ok ()))
def ie(k:Nat)(a0:(List Int))(a1:Int):Option Int:=
 bE (α:=Unit) (dr k a0 a1 k 0) (some) λ_=>
 some (-1:Int)
theorem nL(k:Nat)(a0:(List Int))(a1:Int)(r:Int)(h:ie k a0 a1=some r):
 cV Tryz.prog 62 [.rep Tl a0,I a1] [] (λ_:Unit=>(bF [I r],[])):=by
 unfold ie at h
 replace h:=bf h
 refine cV.of 19 Tryz.func62 rfl Tryz.ntmps62 rfl λS w0=>?_
 refine sr ?_
 refine cq ?_
 refine nt ?_
 refine cU (Z:=Unit) (α:=Unit) (λz2 x1=>[]) (λz2 x1=>[]) (λe=>e=r) h (λe h=>Option.some.inj h) (λK hR h=>?_) (λz2 x1 h=>?_)
 .
  refine sr (mq ?_);refine ol gh ?_;refine fg rfl ?_;refine nt (ah (aF (λz4 y3=>[(0,.rep Tl a0),(1,I a1),(7,I (a0.length:Int)),(8,I y3)]) (λz4 y3=>[]) (dr k a0 a1) k () 0 (λ_=>rfl) h (SE.fin [] ⟨rfl,rfl,rfl,rfl,trivial⟩ rfl) (λn z4 y3 h=>?_)));unfold dr at h;refine sr (jb (bq rfl) ?_);refine nt (ai (ci h (λh=>?_) (λh=>?_)))
  .refine sk (ai (ah (sr (mq ?_))));refine aq (nt (sr ?_));iterate 3 refine mq ?_
   obtain⟨x5,j,h⟩:=aa h;refine jb (aD (t:=Ti) rfl gh bP j) ?_;refine ja (an (t:=Ti) rfl bP rfl) ?_;refine jb (fV rfl) ?_;refine nt (ci h (λh=>?_) (λh=>?_))
   .refine sr (mq ?_);refine aq (nt (aA (br (aR (aP ?_)))));obtain rfl:=hR _ h;exact ra
   .refine aX (aI (tn (ae ?_)));obtain⟨x6,c,h⟩:=aa h;refine jb (aY rfl c) ?_;refine mq (nl ?_);exact jz ((),x6) h []
  .refine xa ?_;exact jz ((),()) h []
 .
  refine sr (cq (nt (aA ?_)));cases h;exact ra
def l6(k:Nat)(a0:Int):Option Bool:=
 some (!decide (a0=a0))
theorem ta(k:Nat)(a0:Int)(r:Bool)(h:l6 k a0=some r):
 cV Tryz.prog 173 [I a0] [] (λ_:Unit=>(bF [.eq (.bool r)],[])):=by
 unfold l6 at h
 replace h:=bf h
 refine cV.of 6 Tryz.func173 rfl Tryz.ntmps173 rfl λS w0=>?_
 refine sr ?_
 refine cq ?_
 refine nt ?_
 refine sr ?_
 iterate 2 refine mq ?_
 refine jb (dU rfl) ?_
 refine aq ?_
 refine nt ?_
 refine aA ?_
 cases h
 exact ra
def qf(k:Nat)(a0:Int)(a1:Int):Option Bool:=
 (((l6 k a0).bind λr3=>
 if r3=true then((l6 k a1).bind λr4=>
 if¬(r4=true) then(some true) else(some (decide (a0 < a1)))) else(some (decide (a0 < a1)))):Option (Bool)).bind λx1=>
 some x1
theorem Cf(k:Nat)(a0:Int)(a1:Int)(r:Bool)(h:qf k a0 a1=some r):
 cV Tryz.prog 163 [I a0,I a1] [] (λ_:Unit=>(bF [.eq (.bool r)],[])):=by
 unfold qf at h
 replace h:=bf h
 refine cV.of 17 Tryz.func163 rfl Tryz.ntmps163 rfl λS w0=>?_
 refine sr ?_
 refine cq ?_
 refine nt ?_
 refine aE (Z:=Unit) (α:=Bool) (λz2 x1=>[(4,.eq (.bool x1))]) (λz2 x1=>[]) h (λK h=>?_) (λz2 x1 h=>?_)
 .
  refine ae (mq ?_);obtain⟨r3,e,h⟩:=aa h;refine ja (av [.tmp 5] rfl rfl O7 rfl (ta k a0 r3 e)) ?_;refine mq ?_;refine cy (s:=7) rfl (λhb=>?_) (λhb=>?_)
  .replace h:=ek (Lx hb) h;refine gm ?_;obtain⟨r4,c,h⟩:=aa h;refine ga (av [.tmp 8] rfl rfl O7 rfl (ta k a1 r4 c)) ?_;refine ga (ff rfl) ?_;refine pt ?_;refine mq ?_;refine cy (s:=12) rfl (λhb=>?_) (λhb=>?_)
   .replace h:=ek (tN hb) h;iterate 3 refine gn ?_
    refine pt ?_;refine aq (nl ?_);exact jz ((),true) h []
   .replace h:=cM (nW hb) h;refine gm ?_;refine gm ?_;refine gb (bq rfl) ?_;refine pf ?_;refine aq (nl ?_);exact jz ((),decide (a0 < a1)) h []
  .replace h:=cM (Ly hb) h;iterate 3 refine gn ?_
   refine pf ?_;refine mq ?_;refine gm ?_;refine gm ?_;refine gb (bq rfl) ?_;refine pf ?_;refine aq (nl ?_);exact jz ((),decide (a0 < a1)) h []
 .
  refine aA ?_;cases h;exact ra
def bQ(k:Nat)(a1:Int):Nat->((List Int)×Int)->Option (List Int)
 |0,_=>none
 |n+1,y6=>
  ((if a1 < y6.2 then((aH y6.1 y6.2).bind λu=>
  (ck (y6.2 - 1)).bind λs=>
  (aH y6.1 s).bind λr=>
  (qf k u r).bind λx=>
  some x) else(some false)):Option (Bool)).bind λx8=>
  if x8=true then((ck (y6.2 - 1)).bind λe=>
  (ck (y6.2 - 1)).bind λl=>
  (aH y6.1 l).bind λc=>
  (aH y6.1 y6.2).bind λj=>
  (aH y6.1 y6.2).bind λD=>
  (aH (List.set y6.1 (Int.toNat y6.2) c) e).bind λy=>
  (ck (y6.2 - 1)).bind λh=>
  bQ k a1 n (List.set (List.set y6.1 (Int.toNat y6.2) c) (Int.toNat e) j,h)) else(some y6.1)
def bD(k:Nat)(a1:Int)(a2:Int):Nat->((List Int)×Int)->Option (List Int)
 |0,_=>none
 |n+1,y2=>
  if y2.2 < a2 then(((bQ k a1 k (y2.1,y2.2)):Option ((List Int))).bind λx4=>
  (ck (y2.2+1)).bind λc=>
  bD k a1 a2 n (x4,c)) else(some y2.1)
def cg(k:Nat)(a0:(List Int))(a1:Int)(a2:Int):Option (List Int):=
 (ck (a1+1)).bind λx1=>
 bD k a1 a2 k (a0,x1)
theorem j7(k:Nat)(a0:(List Int))(c:Value)(a1:Int)(a2:Int)(r:(List Int))(h:cg k a0 a1 a2=some r):
 cV Tryz.prog 157 [.eq c,I a1,I a2] [.sl c 3 Ti a0] (λ_:Unit=>(bF [],[.sl c 3 Ti r])):=by
 unfold cg at h
 replace h:=bf h
 refine cV.of 49 Tryz.func157 rfl Tryz.ntmps157 rfl λS w0=>?_
 refine sr ?_
 refine mq ?_
 obtain⟨x1,Xd,h⟩:=aa h
 refine jb (aY rfl Xd) ?_
 refine aq ?_
 refine nt ?_
 refine ah ?_
 refine aF (λz3 y2=>[(0,.eq c),(1,I a1),(2,I a2),(6,I y2.2)]) (λz3 y2=>[.sl c 3 Ti y2.1]) (bD k a1 a2) k () (a0,x1) (λ_=>rfl) h (SE.fin [0] ⟨rfl,rfl,rfl,rfl,trivial⟩ rfl) (λn z3 y2 h=>?_)
 unfold bD at h
 refine ai ?_
 refine sr ?_
 iterate 2 refine mq ?_
 refine jb (bq rfl) ?_
 refine nt ?_
 refine ci h (λh=>?_) (λh=>?_)
 .
  refine sk (aE (Z:=Unit) (α:=(List Int)) (λz5 x4=>[(0,.eq c),(1,I a1),(2,I a2),(6,I y2.2)]) (λz5 x4=>[.sl c 3 Ti x4]) h (λK h=>?_) (λz5 x4 h=>?_))
  .refine ah (sr (mq ?_));refine aq (nt (ah ?_));refine aF (λz7 y6=>[(0,.eq c),(1,I a1),(2,I a2),(6,I y2.2),(7,I y6.2)]) (λz7 y6=>[.sl c 3 Ti y6.1]) (bQ k a1) k () (y2.1,y2.2) (λ_=>rfl) h (SE.fin [0] ⟨rfl,rfl,rfl,rfl,rfl,trivial⟩ rfl) (λn z7 y6 h=>?_);unfold bQ at h;refine ai (aE (Z:=Unit) (α:=Bool) (λz9 x8=>[(0,.eq c),(1,I a1),(2,I a2),(6,I y2.2),(7,I y6.2),(30,.eq (.bool x8))]) (λz9 x8=>[.sl c 3 Ti y6.1]) h (λK h=>?_) (λz9 x8 h=>?_))
   .refine bB ?_;refine dm ?_;refine dm ?_;refine db (iY rfl) ?_;refine lU rfl rfl rfl (aS rfl) ⟨rfl,trivial⟩ (λhb=>?_) (λhb=>?_)
    .replace h:=ek (wA hb) h;refine bC rfl rfl rfl rfl rfl (aS rfl) ⟨rfl,rfl,trivial⟩ ?_;refine bC rfl rfl rfl rfl rfl (aS rfl) ⟨rfl,rfl,trivial⟩ ?_;obtain⟨W3,x,h⟩:=aa h;refine fY 0 rfl rfl rfl rfl rfl rfl (cN (t:=Ti) rfl gh bP x) ⟨rfl,rfl,rfl,trivial⟩ ?_;refine fY 0 rfl rfl rfl rfl rfl rfl (ii (i:=Int.toNat y6.2) (off:=0) rfl bP (λ_=>rfl) rfl (dK x).2.2 rfl) ⟨rfl,rfl,trivial⟩ ?_;refine bC rfl rfl rfl rfl rfl (aS rfl) ⟨rfl,rfl,trivial⟩ ?_;refine bC rfl rfl rfl rfl rfl (aS rfl) ⟨rfl,rfl,trivial⟩ ?_;obtain⟨W2,qt,h⟩:=aa h;refine bC rfl rfl rfl rfl rfl (eJ rfl qt) ⟨rfl,rfl,rfl,trivial⟩ ?_;obtain⟨W1,u,h⟩:=aa h;refine fY 0 rfl rfl rfl rfl rfl rfl (cN (t:=Ti) rfl gh bP u) ⟨rfl,rfl,rfl,trivial⟩ ?_;refine fY 0 rfl rfl rfl rfl rfl rfl (ii (i:=Int.toNat W2) (off:=0) rfl bP (λ_=>rfl) rfl (dK u).2.2 rfl) ⟨rfl,rfl,trivial⟩ ?_;refine df cF ?_;obtain⟨F,zz,h⟩:=aa h;refine gb (av [.tmp 23,.tmp 28] rfl rfl TX rfl (Cf k W3 W1 F zz)) ?_;refine pt (nl ?_);exact jz ((),F) h [0]
    .replace h:=cM (wB hb) h;iterate 9 refine dg ?_
     refine df cF ?_;refine gn ?_;refine pf (nl ?_);exact jz ((),false) h [0]
   .refine cv h (λh=>?_) (λh=>?_)
    .refine sk (ai (ah (ot ?_)));refine bj rfl rfl rfl (aS rfl) ⟨rfl,trivial⟩ ?_;refine bj rfl rfl rfl (aS rfl) ⟨rfl,trivial⟩ ?_;refine bj rfl rfl rfl (aS rfl) ⟨rfl,trivial⟩ ?_;refine bj rfl rfl rfl (aS rfl) ⟨rfl,trivial⟩ ?_;obtain⟨y,mw,h⟩:=aa h;refine bj rfl rfl rfl (eJ rfl mw) ⟨rfl,rfl,trivial⟩ ?_;refine bj rfl rfl rfl (aS rfl) ⟨rfl,trivial⟩ ?_;refine bj rfl rfl rfl (aS rfl) ⟨rfl,trivial⟩ ?_;obtain⟨W0,mc,h⟩:=aa h;refine bj rfl rfl rfl (eJ rfl mc) ⟨rfl,rfl,trivial⟩ ?_;obtain⟨E,s,h⟩:=aa h;refine iK 0 rfl rfl rfl rfl (cN (t:=Ti) rfl gh bP s) ⟨rfl,rfl,trivial⟩ ?_;refine iK 0 rfl rfl rfl rfl (ii (i:=Int.toNat W0) (off:=0) rfl bP (λ_=>rfl) rfl (dK s).2.2 rfl) ⟨rfl,trivial⟩ ?_;refine bj rfl rfl rfl (aS rfl) ⟨rfl,trivial⟩ ?_;refine bj rfl rfl rfl (aS rfl) ⟨rfl,trivial⟩ ?_;obtain⟨D,l,h⟩:=aa h;refine iK 0 rfl rfl rfl rfl (cN (t:=Ti) rfl gh bP l) ⟨rfl,rfl,trivial⟩ ?_;refine iK 0 rfl rfl rfl rfl (ii (i:=Int.toNat y6.2) (off:=0) rfl bP (λ_=>rfl) rfl (dK l).2.2 rfl) ⟨rfl,trivial⟩ ?_;obtain⟨Xl,j,h⟩:=aa h;refine iK 0 rfl rfl rfl rfl (cN (t:=Ti) rfl gh bP j) ⟨rfl,rfl,trivial⟩ ?_;refine sj 15 [true,true,false,false,false,true,true,true,true,true,true,true,true,true,true] [48] [] [] rfl (by kernel_rfl) (by kernel_rfl) (by kernel_rfl) cF (λvs hv hB=>?_);obtain⟨w0,Xz,rfl,Xc⟩:=ax hv;obtain⟨w1,Xy,rfl,Xb⟩:=ax Xc;obtain⟨w2,Xx,rfl,Xa⟩:=ax Xb;obtain⟨w3,Xw,rfl,W9⟩:=ax Xa;obtain⟨w4,Xv,rfl,W8⟩:=ax W9;obtain⟨w5,Xu,rfl,W7⟩:=ax W8;obtain⟨w6,Xt,rfl,W6⟩:=ax W7;obtain⟨w7,Xs,rfl,W5⟩:=ax W6;obtain⟨w8,Xr,rfl,W4⟩:=ax W5;obtain⟨w9,Xj,rfl,X⟩:=ax W4;obtain⟨Xq,Xi,rfl,U⟩:=ax X;obtain⟨Xp,Xh,rfl,Q⟩:=ax U;obtain⟨Xo,Xg,rfl,O⟩:=ax Q;obtain⟨Xn,Xf,rfl,M⟩:=ax O;obtain⟨Xm,Xe,rfl,J⟩:=ax M;obtain rfl:=oO J;refine⟨[0],[.sl c 3 Ti y6.1],by kernel_rfl,by decide,?_⟩;refine qm rfl rfl (iy (i:=Int.toNat y6.2) rfl bP rfl (oP j) rfl .int rfl) ⟨rfl,rfl,trivial⟩ (by kernel_rfl) ?_;obtain⟨Xk,e,h⟩:=aa h;refine wT rfl rfl rfl rfl (cN (t:=Ti) rfl gh bP e) ⟨rfl,rfl,trivial⟩ (by kernel_rfl) ?_;refine qm rfl rfl (iy (i:=Int.toNat y) rfl bP rfl (oP e) rfl .int rfl) ⟨rfl,rfl,trivial⟩ (by kernel_rfl) ?_;refine ut ?_;refine bA (SE.fin (Γ':=[(0,.eq c),(1,I a1),(2,I a2),(6,I y2.2),(7,I y6.2)]) (Δ':=[.sl c 3 Ti (List.set (List.set y6.1 (Int.toNat y6.2) E) (Int.toNat y) D)]) [0] ⟨rfl,rfl,rfl,rfl,rfl,trivial⟩ rfl) ?_;refine aI (tn (ae (mq ?_)));obtain⟨WZ,gw,h⟩:=aa h;refine jb (eJ rfl gw) ?_;refine aq (nl ?_);exact jz ((),(List.set (List.set y6.1 (Int.toNat y6.2) E) (Int.toNat y) D,WZ)) h [0]
    .refine dT (bv (bv (ce (bn ?_))));exact jz ((),y6.1) h [0]
  .refine ae (mq ?_);obtain⟨WY,Y,h⟩:=aa h;refine jb (aY rfl Y) ?_;refine aq (nl ?_);exact jz ((),(x4,WY)) h [0]
 .
  refine dT (bv (bv (ce (lu ?_))));cases h;exact aV () [] 1 trivial rfl
def lE(k:Nat)(a0:Int):Option Int:=
 ((if 4294967296≤a0 then(some (jf .u64 a0 32,32)) else(some (a0,0))):Option (Int×Int)).bind λx1=>
 ((if 65536≤x1.1 then((ck (x1.2+16)).bind λx5=>
 some (jf .u64 x1.1 16,x5)) else(some (x1.1,x1.2))):Option (Int×Int)).bind λx3=>
 ((if 256≤x3.1 then((ck (x3.2+8)).bind λx8=>
 some (jf .u64 x3.1 8,x8)) else(some (x3.1,x3.2))):Option (Int×Int)).bind λx6=>
 (Ed Nq (IntKind.u8.wrap x6.1)).bind λx9=>
 (ck (x9.toNat:Int)).bind λe=>
 (ck (x6.2+e)).bind λc=>
 some c
theorem rU(k:Nat)(a0:Int)(r:Int)(h:lE k a0=some r):
 cV Tryz.prog 167 [.eq (.int .u64 a0)] [] (λ_:Unit=>(bF [I r],[])):=by
 unfold lE at h
 replace h:=bf h
 refine cV.of 25 Tryz.func167 rfl Tryz.ntmps167 rfl λS w0=>?_
 refine sr ?_
 refine cq ?_
 refine nt ?_
 refine aE (Z:=Unit) (α:=Int×Int) (λz2 x1=>[(0,.eq (.int .u64 x1.1)),(2,I x1.2)]) (λz2 x1=>[]) h (λK h=>?_) (λz2 x1 h=>?_)
 .
  refine sr (mq ?_);refine jb (hJ rfl) ?_;refine nt (ci h (λh=>?_) (λh=>?_))
  .refine sr (mq ?_);refine cC rfl (vR rfl (by decide)) ⟨rfl,rfl,trivial⟩ ?_;refine aq (nt (ae ?_));refine cq (nl ?_);exact jz ((),(jf .u64 a0 32,32)) h []
  .refine aX (ay ?_);exact jz ((),(a0,0)) h []
 .
  refine aE (Z:=Unit) (α:=Int×Int) (λz4 x3=>[(0,.eq (.int .u64 x3.1)),(2,I x3.2)]) (λz4 x3=>[]) h (λK h=>?_) (λz4 x3 h=>?_)
  .refine sr (mq ?_);refine jb (hJ rfl) ?_;refine nt (ci h (λh=>?_) (λh=>?_))
   .refine sr (mq ?_);refine cC rfl (vR rfl (by decide)) ⟨rfl,rfl,trivial⟩ ?_;refine aq (nt (ae ?_));refine mq ?_;obtain⟨x5,n,h⟩:=aa h;refine jb (aY rfl n) ?_;refine aq (nl ?_);exact jz ((),(jf .u64 x1.1 16,x5)) h []
   .refine aX (ay ?_);exact jz ((),(x1.1,x1.2)) h []
  .refine aE (Z:=Unit) (α:=Int×Int) (λz7 x6=>[(0,.eq (.int .u64 x6.1)),(2,I x6.2)]) (λz7 x6=>[]) h (λK h=>?_) (λz7 x6 h=>?_)
   .refine sr (mq ?_);refine jb (hJ rfl) ?_;refine nt (ci h (λh=>?_) (λh=>?_))
    .refine sr (mq ?_);refine cC rfl (vR rfl (by decide)) ⟨rfl,rfl,trivial⟩ ?_;refine aq (nt (ae ?_));refine mq ?_;obtain⟨x8,l,h⟩:=aa h;refine jb (aY rfl l) ?_;refine aq (nl ?_);exact jz ((),(jf .u64 x3.1 8,x8)) h []
    .refine aX (ay ?_);exact jz ((),(x3.1,x3.2)) h []
   .refine sr ?_;iterate 2 refine mq ?_
    refine ja (tL rfl UR U5) ?_;obtain⟨x9,j,h⟩:=aa h;refine ja (Bi rfl U9 j) ?_;obtain⟨u,e,h⟩:=aa h;refine ja (Bj rfl U5 U3 e) ?_;obtain⟨s,c,h⟩:=aa h;refine jb (aY rfl c) ?_;refine aq (nt (aA ?_));cases h;exact ra
def qM(k:Nat)(a0:Int):Option Int:=
 (lE k a0).bind λr1=>
 some r1
theorem Ew(k:Nat)(a0:Int)(r:Int)(h:qM k a0=some r):
 cV Tryz.prog 156 [.eq (.int .u64 a0)] [] (λ_:Unit=>(bF [I r],[])):=by
 unfold qM at h
 replace h:=bf h
 refine cV.of 8 Tryz.func156 rfl Tryz.ntmps156 rfl λS w0=>?_
 refine sr ?_
 refine cq ?_
 refine nt ?_
 refine ai ?_
 refine KV (λhb=>(by cases hb)) (λhb=>?_)
 refine sk ?_
 refine sr ?_
 refine mq ?_
 obtain⟨r1,c,h⟩:=aa h
 have e:=rU k a0 r1 c
 refine ja (av [.tmp 6] rfl rfl TW rfl e) ?_
 refine aq ?_
 refine nt ?_
 refine aA ?_
 cases h
 exact ra
def cP(k:Nat)(a0:(List Int))(a1:Int)(a2:Int)(a3:Int):Nat->Unit->Option (List Int)
 |0,_=>none
 |n+1,y1=>
  (ck (a2 - a1)).bind λx3=>
  if x3≤12 then((cg k a0 a1 a2).bind λr4=>
  some r4) else(if a3=0 then(none) else(none))
def c8(k:Nat)(a0:(List Int))(a1:Int)(a2:Int)(a3:Int):Option (List Int):=
 cP k a0 a1 a2 a3 k ()
theorem mV(k:Nat)(a0:(List Int))(c:Value)(a1:Int)(a2:Int)(a3:Int)(r:(List Int))(h:c8 k a0 a1 a2 a3=some r):
 cV Tryz.prog 155 [.eq c,I a1,I a2,I a3] [.sl c 3 Ti a0] (λ_:Unit=>(bF [],[.sl c 3 Ti r])):=by
 unfold c8 at h
 replace h:=bf h
 refine cV.of 134 Tryz.func155 rfl Tryz.ntmps155 rfl λS w0=>?_
 refine sr ?_
 refine cq ?_
 refine nt ?_
 refine sr ?_
 refine cq ?_
 refine nt ?_
 refine ah ?_
 refine aF (λz2 y1=>[(0,.eq c),(1,I a1),(2,I a2),(3,I a3),(8,.eq (.bool true)),(9,.eq (.bool true))]) (λz2 y1=>[.sl c 3 Ti a0]) (cP k a0 a1 a2 a3) k () () (λ_=>rfl) h (SE.fin [0] ⟨rfl,rfl,rfl,rfl,rfl,rfl,trivial⟩ rfl) (λn z2 y1 h=>?_)
 unfold cP at h
 refine ah ?_
 refine sr ?_
 iterate 2 refine mq ?_
 obtain⟨x3,e,h⟩:=aa h
 refine jb (eJ rfl e) ?_
 refine aq ?_
 refine nt ?_
 refine ai ?_
 refine sr ?_
 refine mq ?_
 refine jb (Bh rfl) ?_
 refine nt ?_
 refine ci h (λh=>?_) (λh=>?_)
 .
  refine sr ?_;iterate 3 refine mq ?_
  obtain⟨r4,j,h⟩:=aa h;refine kc (av [.tmp 24,.tmp 25,.tmp 26] rfl rfl TY rfl (j7 k a0 c a1 a2 r4 j)) ?_;refine nt (rx (aR (aP (aR ?_))));cases h;exact aV () [] 1 trivial rfl
 .
  refine sk (ai (sr (mq ?_)));refine jb (fV rfl) ?_;refine nt (ci h (λh=>?_) (λh=>?_))
  .cases h
  .cases h
def gG(k:Nat)(a0:(List Int)):Option (List Int):=
 (qM k (IntKind.u64.wrap (a0.length:Int))).bind λr1=>
 (c8 k a0 0 (a0.length:Int) r1).bind λr2=>
 some r2
theorem uM(k:Nat)(a0:(List Int))(c:Value)(r:(List Int))(h:gG k a0=some r):
 cV Tryz.prog 142 [.eq c] [.sl c 3 Ti a0] (λ_:Unit=>(bF [],[.sl c 3 Ti r])):=by
 unfold gG at h
 replace h:=bf h
 refine cV.of 11 Tryz.func142 rfl Tryz.ntmps142 rfl λS w0=>?_
 refine sr ?_
 refine mq ?_
 refine ka (nV rfl rfl gh) ?_
 refine aq ?_
 refine nt ?_
 refine ae ?_
 iterate 3 refine mq ?_
 refine ja (tL rfl U3 Wm) ?_
 obtain⟨r1,j,h⟩:=aa h
 have n:=Ew k (IntKind.u64.wrap (a0.length:Int)) r1 j
 refine ja (av [.tmp 8] rfl rfl TZ rfl n) ?_
 obtain⟨r2,e,h⟩:=aa h
 have l:=mV k a0 c 0 (a0.length:Int) r1 r2 e
 refine nD rfl rfl rfl (av [.tmp 5,.const (.int .i64 (0)),.tmp 6,.tmp 9] rfl rfl T8 rfl l) ⟨rfl,rfl,rfl,rfl,trivial⟩ ?_
 refine aG ?_
 refine lu ?_
 cases h
 exact aV () [] 1 trivial rfl
def cT(k:Nat)(a1:Int)(x3:(List (List Int))):Nat->Int->Option (Except (Int ⊕ (List Int)) Unit)
 |0,_=>none
 |n+1,y4=>
  if y4 < (x3.length:Int) then((aH x3 y4).bind λx6=>
  (ie k x6 a1).bind λr7=>
  if 0≤r7 then(((if 0 < r7 then((ck (r7 - 1)).bind λs=>
  (aH x6 s).bind λe=>
  (bV (bh (length ([]:(List Int))+length [e]))).bind λ_=>
  some (([]:(List Int))++[e])) else(some ([]:(List Int)))):Option ((List Int))).bind λx8=>
  (((ck (r7+1)).bind λl=>
  if l < (x6.length:Int) then((ck (r7+1)).bind λj=>
  (aH x6 j).bind λc=>
  (bV (bh (length x8+length [c]))).bind λ_=>
  some (x8++[c])) else(some x8)):Option ((List Int))).bind λr=>
  (gG k r).bind λu=>
  some (.error (Sum.inr u:(Int ⊕ (List Int))))) else((ck (y4+1)).bind λh=>
  cT k a1 x3 n h)) else(some (.ok ()))
def eG(k:Nat):Nat->ab->Int->Int->Option ((Int ⊕ (List Int)))
 |0,_,_,_=>none
 |m0+1,a0,a1,a2=>
  bE (α:=Unit) ((aH a0.2.2.2.2.1 a2).bind λx3=>
  cT k a1 x3 k 0) (some) λ_=>
  ((if 0 < a2 then((ck (a2 - 1)).bind λh=>
  ((eG k m0) a0 a1 h).bind λc=>
  if L1 c=true then((ck (1+(Sj c))).bind λe=>
  some e) else(some 1)) else(some 1)):Option (Int)).bind λj=>
  some (Sum.inl j:(Int ⊕ (List Int)))
theorem mB{M:Md Tryz.prog}{bm:Nat}{c0 c1 c2 c3 c4 c5:Value}(hK:Kn M bm 0 [c0,c1,c2,c3,c4,c5])(k:Nat):
 ∀(n:Nat) (a0:ab) (a1:Int) (a2:Int) (r:(Int ⊕ (List Int))),eG k n a0 a1 a2=some r->co M 115 [.rep (.mo (Pv bm) [c0,c1,c2,c3,c4,c5] ak) a0,I a1,I a2] ([]) (λ_:Unit=>(bF [.rep (.pl 163 165 Tl) r],[])):=by
 intro n
 induction n with
 |zero=>intro a0 a1 a2 r h;cases h
 |succ m0 ih=>
  intro a0 a1 a2 r h;rw [eG] at h;replace h:=bf h;refine co.of 80 Tryz.func115 rfl Tryz.ntmps115 rfl λS w0=>?_;refine sr (cq (nt ?_));refine cU (Z:=Unit) (α:=Unit) (λz2 x1=>[(0,.rep (.mo (Pv bm) [c0,c1,c2,c3,c4,c5] ak) a0),(1,I a1),(2,I a2)]) (λz2 x1=>[]) (λe=>e=r) h (λe h=>Option.some.inj h) (λK hR h=>?_) (λz2 x1 h=>?_)
  .refine sr (mq ?_);refine ja (mt rfl) ?_;refine ja (iD rfl iP) ?_;refine ja (jt 1 false rfl cu rfl rfl) ?_;refine ja (km (t:=(.slice (.slice Tl))) rfl fp (hK.sub 4 1 rfl (le_of_ble_eq_true rfl)) rfl rfl) ?_;refine mq ?_;obtain⟨x3,W3,h⟩:=aa h;refine jb (aD (t:=(.slice Tl)) rfl po kO W3) ?_;refine ja (an (t:=(.slice Tl)) rfl kO rfl) ?_;refine ol nq ?_;refine fg rfl ?_;refine nt (ah (aF (λz5 y4=>[(0,.rep (.mo (Pv bm) [c0,c1,c2,c3,c4,c5] ak) a0),(1,I a1),(2,I a2),(21,.rep (.slice Tl) x3),(22,I (x3.length:Int)),(23,I y4)]) (λz5 y4=>[]) (cT k a1 x3) k () 0 (λ_=>rfl) h (SE.fin [] ⟨rfl,rfl,rfl,rfl,rfl,rfl,trivial⟩ rfl) (λn z5 y4 h=>?_)));unfold cT at h;refine sr (jb (bq rfl) ?_);refine nt (ai (ci h (λh=>?_) (λh=>?_)))
   .refine sk (ai (ah (sr ?_)));obtain⟨x6,W2,h⟩:=aa h;refine jb (aD (t:=Tl) rfl nq eM W2) ?_;refine ja (an (t:=Tl) rfl eM rfl) ?_;refine aq (nt (sr ?_));iterate 2 refine mq ?_
    obtain⟨r7,W4,h⟩:=aa h;refine jb (av [.tmp 27,.tmp 28] rfl rfl TP rfl (nL k x6 a1 r7 W4)) ?_;refine aq (nt (sr ?_));refine mq ?_;refine jb (hJ rfl) ?_;refine nt (ci h (λh=>?_) (λh=>?_))
    .refine sr (cq (nt ?_));refine aE (Z:=Value) (α:=(List Int)) (λz9 x8=>[(8,.rep Tl x6),(9,I r7),(10,.eq z9)]) (λz9 x8=>[.sl z9 3 Ti x8]) h (λK h=>?_) (λz9 x8 h=>?_)
     .refine sr (mq ?_);refine jb (iY rfl) ?_;refine nt (ci h (λh=>?_) (λh=>?_))
      .refine ae ?_;iterate 3 refine mq ?_
       obtain⟨W7,U,h⟩:=aa h;refine jb (eJ rfl U) ?_;obtain⟨x,Q,h⟩:=aa h;refine jb (aD (t:=Ti) rfl gh bP Q) ?_;refine ja (an (t:=Ti) rfl bP rfl) ?_;refine ja (aU (t:=Ti) [(.tmp 39,_)] [x] rfl rfl cJ (.cons rfl .int .nil) rfl rfl) ?_;refine eL (SE.nil 3 Ti) ?_;obtain⟨W9,Y,h⟩:=aa h;refine cE rfl rfl rfl (bi rfl rfl cJ (ap Y)) ⟨rfl,rfl,trivial⟩ λWZ=>?_;refine aq (nl ?_);exact jz (WZ,([]:(List Int))++[x]) h [0]
      .refine aX (ay (bA (SE.nil 3 Ti) ?_));exact jz ((.slice none 0 0),([]:(List Int))) h [0]
     .refine aE (Z:=Value) (α:=(List Int)) (λc j=>[(10,.eq c)]) (λc j=>[.sl c 3 Ti j]) h (λK h=>?_) (λc j h=>?_)
      .refine sr (mq ?_);obtain⟨W6,O,h⟩:=aa h;refine jb (aY rfl O) ?_;refine mq ?_;refine ol gh ?_;refine jb (bq rfl) ?_;refine nt (ci h (λh=>?_) (λh=>?_))
       .refine ae ?_;iterate 3 refine mq ?_
        obtain⟨W5,J,h⟩:=aa h;refine jb (aY rfl J) ?_;obtain⟨u,F,h⟩:=aa h;refine jb (aD (t:=Ti) rfl gh bP F) ?_;refine ja (an (t:=Ti) rfl bP rfl) ?_;refine ja (aU (t:=Ti) [(.tmp 52,_)] [u] rfl rfl cJ (.cons rfl .int .nil) rfl rfl) ?_;obtain⟨W8,X,h⟩:=aa h;refine cE rfl rfl rfl (bi rfl rfl cJ (ap X)) ⟨rfl,rfl,trivial⟩ λWY=>?_;refine aq (nl ?_);exact jz (WY,x8++[u]) h [0]
       .refine aX (ay ?_);exact jz (z9,x8) h [0]
      .refine sr (mq ?_);obtain⟨W1,mc,h⟩:=aa h;refine ka (av [.tmp 55] rfl rfl Ua rfl (uM k j c W1 mc)) ?_;refine nt (sr (mq ?_));refine eL (fU [10,55,57] ⟨rfl,rfl,rfl,trivial⟩) ?_;refine ja (dA [(0,.tmp 57,_)] rfl Sz OO Q1 (iV ⟨rfl,trivial⟩) rfl) ?_;refine ja (MB (t0:=163) (t:=Ti) rfl Wi) ?_;refine aq (nt (aA (br (aR (aP ?_)))));obtain rfl:=hR _ h;exact ra
    .refine aX (aI (tn (ae ?_)));obtain⟨zz,E,h⟩:=aa h;refine jb (aY rfl E) ?_;refine mq (nl ?_);exact jz ((),zz) h []
   .refine xa ?_;exact jz ((),()) h []
  .refine sr (cq (nt ?_));refine aE (Z:=Unit) (α:=Int) (λs l=>[(11,I l)]) (λs l=>[]) h (λK h=>?_) (λs l h=>?_)
   .refine sr (mq ?_);refine jb (iY rfl) ?_;refine nt (ci h (λh=>?_) (λh=>?_))
    .refine sr ?_;iterate 3 refine mq ?_
     obtain⟨qt,D,h⟩:=aa h;refine jb (eJ rfl D) ?_;obtain⟨W0,gw,h⟩:=aa h;refine jc (bo [.tmp 64,.tmp 65,.tmp 67] rfl rfl JV rfl (ih a0 a1 qt W0 gw)) ?_;refine cC rfl (EW rfl Ii (by decide)) ⟨rfl,trivial⟩ ?_;refine mq ?_;refine xr ?_;refine xr ?_;refine be rfl rfl rfl (bz rfl HK Pz) trivial λXa=>?_;refine aO rfl rfl (aL rfl OY trivial rfl rfl) ⟨rfl,rfl,trivial⟩ ?_;refine aq (nt (sr ?_));refine mq (nt ?_);refine cv h (λh=>?_) (λh=>?_)
     .refine ae (mq ?_);refine fl Fo ?_;refine lo bP ?_;obtain⟨mw,y,h⟩:=aa h;refine jb (aY rfl y) ?_;refine aq (nl ?_);exact jz ((),mw) h []
     .refine aX (ay ?_);exact jz ((),1) h []
    .refine aX (ay ?_);exact jz ((),1) h []
   .refine sr (mq ?_);refine ja (dA [(0,.tmp 77,_)] rfl SA HK Q2 (iV ⟨rfl,trivial⟩) rfl) ?_;refine ja (MC (t1:=165) (t:=Ti) rfl Wj) ?_;refine aq (nt (aA ?_));cases h;exact ra
def jp(k:Nat)(a0:Pj):Option (List Int):=
 some ([]:(List Int))
theorem rN(k:Nat)(a0:Pj)(r:(List Int))(h:jp k a0=some r):
 cV Tryz.prog 191 [.rep RY a0] [] (λ_:Unit=>(bF [.rep Tl r],[])):=by
 unfold jp at h
 replace h:=bf h
 refine cV.of 3 Tryz.func191 rfl Tryz.ntmps191 rfl λS w0=>?_
 refine sr ?_
 refine bx λb1=>?_
 refine cq ?_
 refine nt ?_
 refine sr ?_
 refine cq ?_
 refine nt ?_
 refine aA ?_
 refine bA (dS (t:=Tl) (x:=([]:(List Int))) 2 rfl .nil rfl rfl) ?_
 cases h
 exact ra
def jo(k:Nat)(a0:Pi):Option (List Int):=
 some a0
theorem rJ(k:Nat)(a0:Pi)(r:(List Int))(h:jo k a0=some r):
 cV Tryz.prog 192 [.rep RX a0] [] (λ_:Unit=>(bF [.rep Tl r],[])):=by
 unfold jo at h
 replace h:=bf h
 refine cV.of 5 Tryz.func192 rfl Tryz.ntmps192 rfl λS w0=>?_
 refine sr ?_
 refine bx λb1=>?_
 refine cq ?_
 refine nt ?_
 refine sr ?_
 refine fl ND ?_
 refine lo eM ?_
 refine aq ?_
 refine nt ?_
 refine aA ?_
 cases h
 exact ra
def cp(k:Nat)(a0:ab)(a1:(List Int))(r5:(List Int)):Nat->Int->Option (Except Int Unit)
 |0,_=>none
 |n+1,y6=>
  if y6 < (r5.length:Int) then((aH r5 y6).bind λx8=>
  (bV (0≤x8/\x8 < 5)).bind λ_=>
  (aH a1 x8).bind λe=>
  if(k9 0 a0.2.1)≤e then(some (.error x8)) else((ck (y6+1)).bind λc=>
  cp k a0 a1 r5 n c)) else(some (.ok ()))
def dH(k:Nat)(a0:ab)(a1:(List Int))(a2:Int)(a3:Int):Option Int:=
 bE (α:=Unit) ((eG k k a0 a2 a3).bind λr4=>
 (J4 r4 (λn=>jp k n) (λl=>jo k l)).bind λr5=>
 cp k a0 a1 r5 k 0) (some) λ_=>
 some (-1:Int)
theorem kW{M:Md Tryz.prog}{bm:Nat}{c0 c1 c2 c3 c4 c5:Value}(hK:Kn M bm 0 [c0,c1,c2,c3,c4,c5])(k:Nat)(a0:ab)(a1:(List Int))(a2:Int)(a3:Int)(r:Int)(h:dH k a0 a1 a2 a3=some r):
    co M 105 [.rep (.mo (Pv bm) [c0,c1,c2,c3,c4,c5] ak) a0,.rep Tr a1,.eq (.int .i64 a2),.eq (.int .i64 a3)] [] (λ_:Unit=>(bF [.eq (.int .i64 r)],[])):=by
  unfold dH at h
  replace h:=bf h
  refine co.of 33 Tryz.func105 rfl Tryz.ntmps105 rfl λS w0=>?_
  refine ai ?_
  refine ae ?_
  refine be rfl rfl rfl (yb rfl rfl) ⟨rfl,trivial⟩ λb1=>?_
  refine FY rfl ?_
  refine aG ?_
  refine ay ?_
  show JC _ _ _ _ _
  refine cU (Z:=Unit) (α:=Unit) (λz3 x2=>[]) (λz3 x2=>[]) (λe=>e=r) h (λe h=>Option.some.inj h) (λK hR h=>?_) (λz3 x2 h=>?_)
  .
    refine ai ?_
    refine ae ?_
    refine iR rfl rfl ?_
    refine iR rfl rfl ?_
    refine iR rfl rfl ?_
    obtain⟨r4,D,h⟩:=aa h
    have E:=mB hK k k a0 a2 a3 r4 D
    refine cC rfl (bo [.tmp 11,.tmp 12,.tmp 13] rfl rfl JV rfl E) ⟨rfl,rfl,rfl,trivial⟩ ?_
    obtain⟨r5,c,h⟩:=aa h
    refine cC rfl (MD (r:=.rep Tl r5) rfl rfl xt xq (λn hd=>.agI (rN k n r5 (by rw [hd] at c;exact c))) (λl hd=>.agS (rJ k l r5 (by rw [hd] at c;exact c)))) ⟨rfl,trivial⟩ ?_
    refine cC rfl (pP rfl rfl gh) ⟨rfl,trivial⟩ ?_
    refine fg rfl ?_
    refine aG ?_
    refine ay ?_
    show JC _ _ _ _ _
    refine ah ?_
    refine aF (λz7 y6=>[(0,.rep (.mo (Pv bm) [c0,c1,c2,c3,c4,c5] ak) a0),(5,.eq (Pv b1)),(15,.rep Tl r5),(16,.eq (.int .i64 (r5.length:Int))),(17,.eq (.int .i64 y6))]) (λz7 y6=>[.obj b1 82 (.rep Tr a1)]) (cp k a0 a1 r5) k () 0 (λ_=>rfl) h (SE.fin [0] ⟨rfl,rfl,rfl,rfl,rfl,trivial⟩ rfl) (λn z7 y6 h=>?_)
    unfold cp at h
    refine ai ?_
    refine ae ?_
    refine cC rfl (bq rfl) ⟨rfl,rfl,trivial⟩ ?_
    refine aG ?_
    refine ay ?_
    show JC _ _ _ _ _
    refine ai ?_
    refine j6 rfl (λhb=>?_) (λhb=>?_)
    . replace h:=ek (wA hb) h
      refine aX ?_
      refine ay ?_
      show JC _ _ _ _ _
      refine ai ?_
      refine ah ?_
      refine ai ?_
      refine ae ?_
      obtain⟨x8,y,h⟩:=aa h
      refine cC rfl (aD (t:=Ti) rfl gh bP y) ⟨rfl,rfl,trivial⟩ ?_
      refine cC rfl (an (t:=Ti) rfl bP rfl) ⟨rfl,trivial⟩ ?_
      refine wU rfl rfl ?_
      refine aG ?_
      refine ay ?_
      show JC _ _ _ _ _
      refine ai ?_
      refine bB ?_
      refine gg rfl rfl rfl (aS rfl) ⟨rfl,trivial⟩ ?_
      obtain⟨u9,u,h⟩:=aa h
      refine gg rfl rfl rfl (eA rfl C9 bP (ap u).1 (ap u).2) ⟨rfl,rfl,trivial⟩ ?_
      obtain⟨F,s,h⟩:=aa h
      refine Au 0 rfl rfl rfl rfl (oG (t:=Ti) (off:=0) (i:=x8) (N:=5) rfl bP (λ_=>rfl) rfl rfl rfl rfl s) ⟨rfl,trivial⟩ ?_
      refine gg rfl rfl rfl (aS rfl) ⟨rfl,trivial⟩ ?_
      refine gg rfl rfl rfl (mt rfl) ⟨rfl,trivial⟩ ?_
      refine gg rfl rfl rfl (iD rfl iP) ⟨rfl,trivial⟩ ?_
      refine gg rfl rfl rfl (jt 1 false rfl qd rfl rfl) ⟨rfl,trivial⟩ ?_
      refine gg rfl rfl rfl (km (t:=Ti) rfl bP (hK.sub 1 1 rfl (le_of_ble_eq_true rfl)) rfl rfl) ⟨rfl,trivial⟩ ?_
      refine gg rfl rfl rfl (EV rfl rfl) ⟨rfl,rfl,trivial⟩ ?_
      refine EI (by kernel_rfl) cF ?_
      refine cC rfl (hJ rfl) ⟨rfl,rfl,trivial⟩ ?_
      refine aG ?_
      refine ay ?_
      show JC _ _ _ _ _
      refine j6 rfl (λhb=>?_) (λhb=>?_)
      . replace h:=ek (wA hb) h
        refine ai ?_
        refine ae ?_
        refine iR rfl rfl ?_
        refine wU rfl rfl ?_
        refine aG ?_
        refine ay ?_
        show JC _ _ _ _ _
        refine aA ?_
        refine aR ?_
        refine aP ?_
        refine aP ?_
        refine aR ?_
        refine aP ?_
        obtain rfl:=hR _ h
        exact aV () [_] 0 ⟨rfl,trivial⟩ rfl
      . replace h:=cM (wB hb) h
        refine aX ?_
        refine aI ?_
        refine ay ?_
        show JC _ _ _ _ _
        refine ae ?_
        obtain⟨x,j,h⟩:=aa h
        refine cC rfl (aY rfl j) ⟨rfl,rfl,trivial⟩ ?_
        refine iR rfl rfl ?_
        refine aG ?_
        refine ay ?_
        exact wV ((),x) h (SE.fin [0] ⟨rfl,rfl,rfl,rfl,rfl,trivial⟩ rfl)
    . replace h:=cM (wB hb) h
      refine dT ?_
      refine bv ?_
      refine bv ?_
      refine ce ?_
      refine ay ?_
      exact wV ((),()) h (SE.fin [] trivial rfl)
  .
    refine ai ?_
    refine ae ?_
    refine FY rfl ?_
    refine aG ?_
    refine ay ?_
    show JC _ _ _ _ _
    refine aA ?_
    obtain rfl:=Option.some.inj h
    exact aV () [_] 0 ⟨rfl,trivial⟩ rfl
def cL(k:Nat)(a0:ab)(a1:(List Int))(a2:Int):Nat->((List Int)×Int)->Option (List Int)
 |0,_=>none
 |n+1,y6=>
  if y6.2 < a0.1 then((((eG k k a0 y6.2 a2).bind λc=>
  if L1 c=true then(if a0.2.2.2.1≤(Sj c) then((bV (0≤y6.2/\y6.2 < 5)).bind λ_=>
  some (List.set y6.1 (Int.toNat y6.2) (-1:Int))) else(some y6.1)) else(if¬(L1 c=true) then((bV (0≤y6.2/\y6.2 < 5)).bind λ_=>
  (aH a1 y6.2).bind λl=>
  if 0≤l then((bV (0≤y6.2/\y6.2 < 5)).bind λ_=>
  (aH a1 y6.2).bind λj=>
  (ck (j+1)).bind λh=>
  (bV (0≤y6.2/\y6.2 < 5)).bind λ_=>
  some (List.set y6.1 (Int.toNat y6.2) h)) else((dH k a0 a1 y6.2 a2).bind λr=>
  if 0≤r then((bV (0≤y6.2/\y6.2 < 5)).bind λ_=>
  some (List.set y6.1 (Int.toNat y6.2) 0)) else(some y6.1))) else(some y6.1))):Option ((List Int))).bind λx8=>
  (ck (y6.2+1)).bind λe=>
  cL k a0 a1 a2 n (x8,e)) else(some y6.1)
def iF(k:Nat)(a0:ab)(a1:(List Int))(a2:Int):Option (List Int):=
 ((cL k a0 a1 a2 k (a1,0)):Option ((List Int))).bind λx4=>
 some x4
theorem sV{M:Md Tryz.prog}{bm:Nat}{c0 c1 c2 c3 c4 c5:Value}(hK:Kn M bm 0 [c0,c1,c2,c3,c4,c5])(k:Nat)(a0:ab)(a1:(List Int))(a2:Int)(r:(List Int))(h:iF k a0 a1 a2=some r):
 co M 95 [.rep (.mo (Pv bm) [c0,c1,c2,c3,c4,c5] ak) a0,.rep Tr a1,I a2] [] (λ_:Unit=>(bF [.rep Tr r],[])):=by
 unfold iF at h
 replace h:=bf h
 refine co.of 60 Tryz.func95 rfl Tryz.ntmps95 rfl λS w0=>?_
 refine sr ?_
 refine bx λb1=>?_
 refine be rfl rfl rfl (bz rfl Lc Of) trivial λb2=>?_
 refine nt ?_
 refine sr ?_
 refine fr 1 ?_
 refine lo jK ?_
 refine be rfl rfl rfl (bz rfl Lc Of) trivial λb3=>?_
 refine aO rfl rfl (aL rfl jK rfl rfl rfl) ⟨rfl,rfl,trivial⟩ ?_
 refine nt ?_
 refine aE (Z:=Unit) (α:=(List Int)) (λz5 x4=>[(6,Pt b2),(7,Pt b3)]) (λz5 x4=>[.obj b2 82 (.rep Tr [0,0,0,0,0]),.obj b3 82 (.rep Tr x4)]) h (λK h=>?_) (λz5 x4 h=>?_)
 .
  refine sr (mq ?_);refine ja (mt rfl) ?_;refine ja (iD rfl iP) ?_;refine ja (jt 1 false rfl eW rfl rfl) ?_;refine ja (km (t:=Ti) rfl bP (hK.sub 0 1 rfl (le_of_ble_eq_true rfl)) rfl rfl) ?_;refine fg rfl ?_;refine nt (ah (aF (λz7 y6=>[(0,.rep (.mo (Pv bm) [c0,c1,c2,c3,c4,c5] ak) a0),(2,I a2),(4,Pt b1),(6,Pt b2),(7,Pt b3),(16,I a0.1),(17,I y6.2)]) (λz7 y6=>[.obj b1 82 (.rep Tr a1),.obj b2 82 (.rep Tr [0,0,0,0,0]),.obj b3 82 (.rep Tr y6.1)]) (cL k a0 a1 a2) k () (a1,0) (λ_=>rfl) h (SE.fin [1,2,0] ⟨rfl,rfl,rfl,rfl,rfl,rfl,rfl,trivial⟩ rfl) (λn z7 y6 h=>?_)));unfold cL at h;refine sr (jb (bq rfl) ?_);refine nt (ai (ci h (λh=>?_) (λh=>?_)))
  .refine sk (aE (Z:=Unit) (α:=(List Int)) (λz9 x8=>[(0,.rep (.mo (Pv bm) [c0,c1,c2,c3,c4,c5] ak) a0),(2,I a2),(4,Pt b1),(6,Pt b2),(7,Pt b3),(16,I a0.1),(17,I y6.2)]) (λz9 x8=>[.obj b1 82 (.rep Tr a1),.obj b2 82 (.rep Tr [0,0,0,0,0]),.obj b3 82 (.rep Tr x8)]) h (λK h=>?_) (λz9 x8 h=>?_))
   .refine ah (sr (mq ?_));refine aq (nt (sr ?_));iterate 3 refine mq ?_
    obtain⟨U,F,h⟩:=aa h;refine jc (bo [.tmp 20,.tmp 21,.tmp 22] rfl rfl JV rfl (mB hK k k a0 y6.2 a2 U F)) ?_;refine nt (ah (sr (cC rfl (EW rfl Ii (by decide)) ⟨rfl,trivial⟩ ?_)));refine xr ?_;refine xr ?_;refine nt (cv h (λh=>?_) (λh=>?_))
    .refine sr (be rfl rfl rfl (bz rfl HK Pz) trivial λWY=>?_);refine aO rfl rfl (aL rfl OY trivial rfl rfl) ⟨rfl,rfl,trivial⟩ ?_;refine nt (ai (bB ?_));refine da (au rfl Fo) ?_;refine ea 0 (ao rfl bP jI rfl) ?_;refine dm ?_;refine da (mt rfl) ?_;refine da (iD rfl iP) ?_;refine da (jt 1 false rfl ud rfl rfl) ?_;refine da (km (t:=Ti) rfl bP (hK.sub 3 1 rfl (le_of_ble_eq_true rfl)) rfl rfl) ?_;refine df cF ?_;refine jb (hJ rfl) ?_;refine nt (ci h (λh=>?_) (λh=>?_))
     .refine ae (mq ?_);obtain⟨qt,j,h⟩:=aa h;refine jb (eA rfl C9 bP (ap j).1 (ap j).2) ?_;refine fr 3 ?_;refine aO rfl rfl (iz (t:=Ti) (off:=0) (i:=y6.2) (N:=5) rfl bP .int rfl rfl rfl rfl (ap j).1 (ap j).2 rfl) ⟨rfl,rfl,trivial⟩ ?_;refine aG (aI (bn ?_));exact jz ((),List.set y6.1 (Int.toNat y6.2) (-1:Int)) h [2,3,0]
     .refine aX (aI (bn ?_));exact jz ((),y6.1) h [1,2,3]
    .refine sr (cC rfl (MH rfl PW (by decide)) ⟨rfl,trivial⟩ ?_);refine xr ?_;refine xr ?_;refine nt (cw h (λh=>?_) (λh=>?_))
     .refine sr (be rfl rfl rfl (bz rfl OO Ur) trivial λzz=>?_);refine aO rfl rfl (aL rfl RZ trivial rfl rfl) ⟨rfl,rfl,trivial⟩ ?_;refine nt (sr (mq ?_));obtain⟨mw,s,h⟩:=aa h;refine jb (eA rfl C9 bP (ap s).1 (ap s).2) ?_;obtain⟨Y,D,h⟩:=aa h;refine fr 1 ?_;refine ka (oG (t:=Ti) (off:=0) (i:=y6.2) (N:=5) rfl bP (λ_=>rfl) rfl rfl rfl rfl D) ?_;refine jb (hJ rfl) ?_;refine nt (ci h (λh=>?_) (λh=>?_))
      .refine ae ?_;iterate 2 refine mq ?_
       obtain⟨u16,l,h⟩:=aa h;refine jb (eA rfl C9 bP (ap l).1 (ap l).2) ?_;obtain⟨X,y,h⟩:=aa h;refine ka (oG (t:=Ti) (off:=0) (i:=y6.2) (N:=5) rfl bP (λ_=>rfl) rfl rfl rfl rfl y) ?_;obtain⟨O,x,h⟩:=aa h;refine jb (aY rfl x) ?_;obtain⟨mc,e,h⟩:=aa h;refine jb (eA rfl C9 bP (ap e).1 (ap e).2) ?_;refine fr 3 ?_;refine aO rfl rfl (iz (t:=Ti) (off:=0) (i:=y6.2) (N:=5) rfl bP .int rfl rfl rfl rfl (ap e).1 (ap e).2 rfl) ⟨rfl,rfl,trivial⟩ ?_;refine aG (aI (bn ?_));exact jz ((),List.set y6.1 (Int.toNat y6.2) O) h [1,3,0]
      .refine sr (mq ?_);refine lo jK ?_;iterate 2 refine mq ?_
       obtain⟨Q,E,h⟩:=aa h;refine cC rfl (bo [.tmp 50,.tmp 51,.tmp 52,.tmp 53] rfl rfl Pg rfl (kW hK k a0 a1 y6.2 a2 Q E)) ⟨rfl,rfl,rfl,rfl,trivial⟩ ?_;refine jb (hJ rfl) ?_;refine nt (ci h (λh=>?_) (λh=>?_))
       .refine ae (mq ?_);obtain⟨gw,c,h⟩:=aa h;refine jb (eA rfl C9 bP (ap c).1 (ap c).2) ?_;refine fr 3 ?_;refine aO rfl rfl (iz (t:=Ti) (off:=0) (i:=y6.2) (N:=5) rfl bP .int rfl rfl rfl rfl (ap c).1 (ap c).2 rfl) ⟨rfl,rfl,trivial⟩ ?_;refine aG (aI (bn ?_));exact jz ((),List.set y6.1 (Int.toNat y6.2) 0) h [1,3,0]
       .refine aX (aI (bn ?_));exact jz ((),y6.1) h [0,2,3]
     .refine aX (aI (bn ?_));exact jz ((),y6.1) h [0,1,2]
   .refine ae ?_;obtain⟨J,u,h⟩:=aa h;refine jb (aY rfl u) ?_;refine mq (nl ?_);exact jz ((),(x8,J)) h [0,1,2]
  .refine xa ?_;exact jz ((),y6.1) h [1,2]
 .
  refine sr (fr 1 ?_);refine lo jK ?_;refine fr 1 ?_;refine aO rfl rfl (aL rfl jK rfl rfl rfl) ⟨rfl,rfl,trivial⟩ ?_;refine nt (aA ?_);obtain rfl:=Option.some.inj h;exact aV () [.rep Tr x4] 0 ⟨⟨_,_,_,_,_,rfl,(.head _),jK,(mU),rfl⟩,trivial⟩ rfl
def nz(k:Nat)(a0:List Int):Option (List Int):=
 (bV (bh (length a0))).bind λ_=>some a0
theorem tz(k:Nat)(a0:List Int)(r:List Int)(h:nz k a0=some r):
 cV Tryz.prog 50 [.rep Tl a0] [] (λz:Value=>(bF [.eq z],[.sl z 3 Ti r])):=by
 unfold nz at h
 replace h:=bf h
 refine cV.of 8 Tryz.func50 rfl Tryz.ntmps50 rfl λS w0=>?_
 obtain⟨u1,c,h⟩:=aa h
 cases h
 refine sr ?_
 refine cq ?_
 refine nt ?_
 refine ai ?_
 refine sr ?_
 refine mq ?_
 refine aQ (Δ:=[]) (F:=_) (λ_ _ _=>aj rfl _) rfl rfl (MF rfl gh) ⟨rfl,rfl,trivial⟩ λb=>?_
 refine nt ?_
 refine j6 rfl (λhb=>?_) (λhb=>?_)
 .
  refine sr (cq (nt (rx ?_)));obtain rfl:=b.2 hb;refine bA (SE.nil 3 Ti) ?_;exact aV (.slice none 0 0) [.eq (.slice none 0 0)] 1 ⟨rfl,trivial⟩ rfl
 .
  refine sk (sr (be rfl rfl rfl (iC (t:=Ti) [] [] rfl rfl cJ .nil rfl rfl) trivial λv1=>?_));refine mq ?_;refine cE rfl rfl rfl (bi rfl rfl cJ (by simpa using ap c)) ⟨rfl,rfl,trivial⟩ λv2=>?_;refine aq (nt (aA ?_));exact aV v2 [.eq v2] 1 ⟨rfl,trivial⟩ rfl
def dP(k:Nat)(a0:(List Int))(a1:(List Int)):Nat->Int->Option (Except Bool Unit)
 |0,_=>none
 |n+1,y3=>
  if y3 < (a0.length:Int) then((aH a0 y3).bind λx5=>
  (aH a1 y3).bind λx6=>
  if¬(x5=x6) then(some (.error false)) else((ck (y3+1)).bind λx7=>
  dP k a0 a1 n x7)) else(some (.ok ()))
def fL(k:Nat)(a0:(List Int))(a1:(List Int)):Option Bool:=
 if¬((a0.length:Int)=(a1.length:Int)) then(some false) else(bE (α:=Unit) (dP k a0 a1 k 0) (some) λ_=>
 some true)
theorem jq(k:Nat)(a0:(List Int))(a1:(List Int))(r:Bool)(h:fL k a0 a1=some r):
 cV Tryz.prog 23 [.rep Tl a0,.rep Tl a1] [] (λ_:Unit=>(bF [.eq (.bool r)],[])):=by
 unfold fL at h
 replace h:=bf h
 refine cV.of 26 Tryz.func23 rfl Tryz.ntmps23 rfl λS w0=>?_
 refine sr ?_
 refine cq ?_
 refine nt ?_
 refine ai ?_
 refine sr ?_
 refine mq ?_
 refine ol gh ?_
 refine mq ?_
 refine ol gh ?_
 refine jb (dU rfl) ?_
 refine nt ?_
 refine cn h (λh=>?_) (λh=>?_)
 .
  refine sr (cq (nt (rx ?_)));cases h;exact ra
 .
  refine sk (cU (Z:=Unit) (α:=Unit) (λz2 x1=>[]) (λz2 x1=>[]) (λe=>e=r) h (λe h=>Option.some.inj h) (λK hR h=>?_) (λz2 x1 h=>?_))
  .refine sr (cq (nt (ah ?_)));refine aF (λz4 y3=>[(0,.rep Tl a0),(1,.rep Tl a1),(5,I y3)]) (λz4 y3=>[]) (dP k a0 a1) k () 0 (λ_=>rfl) h (SE.fin [] ⟨rfl,rfl,rfl,trivial⟩ rfl) (λn z4 y3 h=>?_);unfold dP at h;refine ai (sr ?_);iterate 2 refine mq ?_
   refine ol gh ?_;refine jb (bq rfl) ?_;refine nt (ci h (λh=>?_) (λh=>?_))
   .refine sk (ai (ah (ai (bB ?_))));refine dm ?_;refine dm ?_;obtain⟨x5,l,h⟩:=aa h;refine db (aD (t:=Ti) rfl gh bP l) ?_;refine da (an (t:=Ti) rfl bP rfl) ?_;refine dm ?_;refine dm ?_;obtain⟨x6,j,h⟩:=aa h;refine db (aD (t:=Ti) rfl gh bP j) ?_;refine da (an (t:=Ti) rfl bP rfl) ?_;refine df cF ?_;refine jb (dU rfl) ?_;refine nt (cn h (λh=>?_) (λh=>?_))
    .refine sr (cq (nt (aA (br (aR (aP ?_))))));obtain rfl:=hR _ h;exact ra
    .refine aX (aI (tn (ae (mq ?_))));obtain⟨x7,c,h⟩:=aa h;refine jb (aY rfl c) ?_;refine aq (nl ?_);exact jz ((),x7) h []
   .refine xa ?_;exact jz ((),()) h []
  .refine sr (cq (nt (aA ?_)));cases h;exact ra
def dF(k:Nat)(a0:(List (List Int)))(a1:(List (List Int))):Nat->Int->Option (Except Bool Unit)
 |0,_=>none
 |n+1,y3=>
  if y3 < (a0.length:Int) then((aH a0 y3).bind λx5=>
  (aH a1 y3).bind λx6=>
  (fL k x5 x6).bind λr7=>
  if¬(r7=true) then(some (.error false)) else((ck (y3+1)).bind λx8=>
  dF k a0 a1 n x8)) else(some (.ok ()))
def fQ(k:Nat)(a0:(List (List Int)))(a1:(List (List Int))):Option Bool:=
 if¬((a0.length:Int)=(a1.length:Int)) then(some false) else(bE (α:=Unit) (dF k a0 a1 k 0) (some) λ_=>
 some true)
theorem kw(k:Nat)(a0:(List (List Int)))(a1:(List (List Int)))(r:Bool)(h:fQ k a0 a1=some r):
 cV Tryz.prog 21 [.rep (.slice Tl) a0,.rep (.slice Tl) a1] [] (λ_:Unit=>(bF [.eq (.bool r)],[])):=by
 unfold fQ at h
 replace h:=bf h
 refine cV.of 27 Tryz.func21 rfl Tryz.ntmps21 rfl λS w0=>?_
 refine sr ?_
 refine cq ?_
 refine nt ?_
 refine ai ?_
 refine sr ?_
 refine mq ?_
 refine ol nq ?_
 refine mq ?_
 refine ol nq ?_
 refine jb (dU rfl) ?_
 refine nt ?_
 refine cn h (λh=>?_) (λh=>?_)
 .
  refine sr (cq (nt (rx ?_)));cases h;exact ra
 .
  refine sk (cU (Z:=Unit) (α:=Unit) (λz2 x1=>[]) (λz2 x1=>[]) (λe=>e=r) h (λe h=>Option.some.inj h) (λK hR h=>?_) (λz2 x1 h=>?_))
  .refine sr (cq (nt (ah ?_)));refine aF (λz4 y3=>[(0,.rep (.slice Tl) a0),(1,.rep (.slice Tl) a1),(5,I y3)]) (λz4 y3=>[]) (dF k a0 a1) k () 0 (λ_=>rfl) h (SE.fin [] ⟨rfl,rfl,rfl,trivial⟩ rfl) (λn z4 y3 h=>?_);unfold dF at h;refine ai (sr ?_);iterate 2 refine mq ?_
   refine ol nq ?_;refine jb (bq rfl) ?_;refine nt (ci h (λh=>?_) (λh=>?_))
   .refine sk (ai (ah (ai (bB ?_))));refine dm ?_;refine dm ?_;obtain⟨x5,l,h⟩:=aa h;refine db (aD (t:=Tl) rfl nq eM l) ?_;refine da (an (t:=Tl) rfl eM rfl) ?_;refine dm ?_;refine dm ?_;obtain⟨x6,j,h⟩:=aa h;refine db (aD (t:=Tl) rfl nq eM j) ?_;refine da (an (t:=Tl) rfl eM rfl) ?_;refine df cF ?_;obtain⟨r7,s,h⟩:=aa h;refine jb (av [.tmp 20,.tmp 24] rfl rfl NJ rfl (jq k x5 x6 r7 s)) ?_;refine ja (ff rfl) ?_;refine nt (cw h (λh=>?_) (λh=>?_))
    .refine sr (cq (nt (aA (br (aR (aP ?_))))));obtain rfl:=hR _ h;exact ra
    .refine aX (aI (tn (ae (mq ?_))));obtain⟨x8,c,h⟩:=aa h;refine jb (aY rfl c) ?_;refine aq (nl ?_);exact jz ((),x8) h []
   .refine xa ?_;exact jz ((),()) h []
  .refine sr (cq (nt (aA ?_)));cases h;exact ra
def dC{σ:Type}(k:Nat)(a0:Int)(a3:Int)(self:Int->Int->σ->Option (Bool×σ)):Nat->(Int×σ)->Option (Except (Bool×σ) (σ))
 |0,_=>none
 |n+1,y5=>
  if y5.1 < a3 then((gU k a0 y5.1).bind λr7=>
  (ck (y5.1+1)).bind λx8=>
  (self r7 x8 y5.2).bind λr9=>
  if¬(r9.1=true) then(some (.error (false,r9.2))) else((ck (y5.1+1)).bind λc=>
  dC k a0 a3 self n (c,r9.2))) else(some (.ok y5.2))
def dG{σ:Type}(k:Nat)(Y:σ->Int->Option (σ×Bool))(a3:Int):Nat->Int->Int->σ->Option (Bool×σ)
 |0,_,_,_=>none
 |m0+1,a0,a1,s0=>
  (Y s0 a0).bind λr1=>
  if¬(r1.2=true) then(some (false,r1.1)) else(bE (α:=σ) (dC k a0 a3 (dG k Y a3 m0) k (a1,r1.1)) (some) λx3=>
  some (true,x3))
theorem tY{M:Md Tryz.prog}{σ Z:Type}(E:Z->σ->List D)(l:Nat)(Y:σ->Int->Option (σ×Bool))(k:Nat)(u:Nat)(a3:Int)(j:Nat)(c:Nat)(hY:∀z s p r,Y s p=some r->YT M l [.eq (.int .u8 p)] (E z s) (λz':Z=>(.eq (.bool r.2),E z' r.1))):
 ∀(n:Nat) (a0:Int) (a1:Int) (z0:Z) (s0:σ) (r:Bool×σ),dG k Y a3 n a0 a1 s0=some r->co M 107 [.eq (.int .u8 a0),I a1,Pt u,Pt j,Pt c] ([.obj u 122 (.eq (.func (.yield l) #[] #[])),.obj j 3 (I a3),.obj c 121 (.eq (.func (.func 107) #[] #[(Pv u),(Pv j),(Pv c)]))]++E z0 s0) (λz:Z=>(bF [.eq (.bool r.1)],[.obj u 122 (.eq (.func (.yield l) #[] #[])),.obj j 3 (I a3),.obj c 121 (.eq (.func (.func 107) #[] #[(Pv u),(Pv j),(Pv c)]))]++E z r.2)):=by
 intro n
 induction n with
 |zero=>intro a0 a1 z0 s0 r h;cases h
 |succ m0 ih=>
  intro a0 a1 z0 s0 r h;rw [dG] at h;replace h:=bf h;refine co.of 27 Tryz.func107 rfl Tryz.ntmps107 rfl λS w0=>?_;refine sr (cq (nt (ai (sr ?_))));refine lo R2 ?_;refine mq ?_;obtain⟨r1,U,h⟩:=aa h;refine fr 2 ?_;refine fr 2 ?_;refine fr 2 ?_;refine KJ [.obj u 122 (.eq (.func (.yield l) #[] #[])),.obj j 3 (I a3),.obj c 121 (.eq (.func (.func 107) #[] #[(Pv u),(Pv j),(Pv c)]))] rfl rfl rfl (Mc [.tmp 10] rfl rfl rfl (hY z0 s0 a0 r1 U)) ⟨rfl,rfl,trivial⟩ λz2=>?_;refine ja (ff rfl) ?_;refine nt (cw h (λh=>?_) (λh=>?_))
  .refine sr (cq (nt (rx ?_)));cases h;exact vm z2 [_] ⟨rfl,trivial⟩ rfl
  .refine sk (cU (Z:=Z) (α:=σ) (λz4 x3=>[]) (λz4 x3=>[.obj u 122 (.eq (.func (.yield l) #[] #[])),.obj j 3 (I a3),.obj c 121 (.eq (.func (.func 107) #[] #[(Pv u),(Pv j),(Pv c)]))]++E z4 x3) (λe=>e=r) h (λe h=>Option.some.inj h) (λK hR h=>?_) (λz4 x3 h=>?_))
   .refine sr (mq ?_);refine aq (nt (ah ?_));refine aF (Z:=Z) (α:=Int×σ) (λz6 y5=>[(0,.eq (.int .u8 a0)),(3,Pt j),(4,Pt c),(8,I y5.1)]) (λz6 y5=>[.obj j 3 (I a3),.obj c 121 (.eq (.func (.func 107) #[] #[(Pv u),(Pv j),(Pv c)])),.obj u 122 (.eq (.func (.yield l) #[] #[]))]++E z6 y5.2) (dC k a0 a3 (dG k Y a3 m0)) k z2 (a1,r1.1) (λ_=>rfl) h (lT [.obj u 122 (.eq (.func (.yield l) #[] #[])),.obj j 3 (I a3),.obj c 121 (.eq (.func (.func 107) #[] #[(Pv u),(Pv j),(Pv c)]))] (E z2 r1.1) [1,2,0] ⟨rfl,rfl,rfl,rfl,trivial⟩ rfl) (λn z6 y5 h=>?_);unfold dC at h;refine ai (sr (mq ?_));refine lo bP ?_;refine jb (bq rfl) ?_;refine nt (ci h (λh=>?_) (λh=>?_))
    .refine sk (ai (ah (ai (bB ?_))));refine ea 1 (ao rfl Il jI rfl) ?_;refine dm ?_;refine dm ?_;obtain⟨r7,Q,h⟩:=aa h;refine db (av [.tmp 20,.tmp 21] rfl rfl QM rfl (lC k a0 y5.1 r7 Q)) ?_;refine dm ?_;obtain⟨x8,J,h⟩:=aa h;refine db (aY rfl J) ?_;refine df cF ?_;obtain⟨r9,O,h⟩:=aa h;refine fr 1 ?_;refine fr 1 ?_;refine fr 2 ?_;refine CQ rfl rfl rfl (sP (fs:=[]) (cs:=[(Pv u),(Pv j),(Pv c)]) (ags:=[.eq (.int .u8 r7),I x8]) [.tmp 22,.tmp 24] rfl rfl O9 rfl (ih r7 x8 z6 y5.2 r9 O)) ⟨rfl,rfl,rfl,trivial⟩ λx=>?_;refine ja (ff rfl) ?_;refine nt (cw h (λh=>?_) (λh=>?_))
     .refine sr (cq (nt (aA (br (aR (aP ?_))))));obtain rfl:=hR _ h;exact vm x [_] ⟨rfl,trivial⟩ rfl
     .refine aX (aI (tn (ae (mq ?_))));obtain⟨F,y,h⟩:=aa h;refine jb (aY rfl y) ?_;refine aq (nl ?_);exact wV (x,(F,r9.2)) h (lT [.obj u 122 (.eq (.func (.yield l) #[] #[])),.obj j 3 (I a3),.obj c 121 (.eq (.func (.func 107) #[] #[(Pv u),(Pv j),(Pv c)]))] (E x r9.2) [1,2,0] ⟨rfl,rfl,rfl,rfl,trivial⟩ rfl)
    .refine xa ?_;exact wV (z6,y5.2) h (lT [.obj j 3 (I a3),.obj c 121 (.eq (.func (.func 107) #[] #[(Pv u),(Pv j),(Pv c)])),.obj u 122 (.eq (.func (.yield l) #[] #[]))] (E z6 y5.2) [2,0,1] trivial rfl)
   .refine sr (cq (nt (aA ?_)));cases h;exact vm z4 [_] ⟨rfl,trivial⟩ rfl
def kX{σ:Type}(k:Nat)(Y:σ->Int->Option (σ×Bool))(a1:Int)(s0:σ):Option (σ):=
 (dG k Y a1 k 0 0 s0).bind λr3=>
 some r3.2
theorem pV{M:Md Tryz.prog}{σ Z:Type}(E:Z->σ->List D)(l:Nat)(Y:σ->Int->Option (σ×Bool))(k:Nat)(a1:Int)(c:Nat)(hY:∀z s p r,Y s p=some r->YT M l [.eq (.int .u8 p)] (E z s) (λz':Z=>(.eq (.bool r.2),E z' r.1))):
 ∀(z0:Z) (s0:σ) (r:σ),kX k Y a1 s0=some r->co M 106 [.eq (.func (.yield l) #[] #[]),Pt c] ([.obj c 3 (I a1)]++E z0 s0) (λz:Z=>(bF [],[.obj c 3 (I a1)]++E z r)):=by
 intro z0 s0 r h
 unfold kX at h
 replace h:=bf h
 refine co.of 7 Tryz.func106 rfl Tryz.ntmps106 rfl λS w0=>?_
 refine sr ?_
 refine bx λb1=>?_
 refine nt ?_
 refine sr ?_
 refine be rfl rfl rfl (bz rfl RN Us) trivial λb2=>?_
 refine nt ?_
 refine sr ?_
 refine jc (tJ [] [.tmp 2,.tmp 1,.tmp 3] [] [(Pv b1),(Pv c),(Pv b2)] rfl rfl rfl) ?_
 refine aO rfl rfl (aL rfl Il rfl rfl rfl) ⟨rfl,rfl,trivial⟩ ?_
 refine nt ?_
 refine ae ?_
 refine lo Il ?_
 obtain⟨r3,e,h⟩:=aa h
 have j:=tY E l Y k b1 a1 c b2 hY k 0 0 z0 s0 r3 e
 refine fr 2 ?_
 refine fr 2 ?_
 refine CQ rfl rfl rfl (sP (fs:=[]) (cs:=[(Pv b1),(Pv c),(Pv b2)]) (ags:=[.eq (.int .u8 0),I 0]) [.const (.int .u8 (0)),.const (.int .i64 (0))] rfl rfl O9 rfl j) ⟨rfl,rfl,rfl,trivial⟩ λz4=>?_
 refine aG ?_
 refine lu ?_
 refine bA (lT (Γ':=[]) [.obj b1 122 (.eq (.func (.yield l) #[] #[])),.obj c 3 (I a1),.obj b2 121 (.eq (.func (.func 107) #[] #[(Pv b1),(Pv c),(Pv b2)]))] (E z4 r3.2) [1] trivial rfl) ?_
 cases h
 exact vm z4 [] trivial rfl
theorem sX(a0:Int):cV Tryz.prog 84 [I a0] [] (λz:Nat=>(bF [.eq (.func (.func 106) #[] #[(Pv z)])],[.obj z 3 (I a0)])):=by
 refine cV.of 4 Tryz.func84 rfl Tryz.ntmps84 rfl λS w0=>?_;refine sr (bx λz=>?_);refine cq (nt (sr ?_));refine ja (tJ [] [.tmp 1] [] [(Pv z)] rfl rfl rfl) ?_;refine aq (nt (aA ?_));exact aV z [_] 1 ⟨rfl,trivial⟩ rfl
def eu(k:Nat)(a0:(List Int)):Nat->(Int×Int)->Option Int
 |0,_=>none
 |n+1,y4=>
  if y4.2 < (a0.length:Int) then((aH a0 y4.2).bind λx6=>
  (ck (y4.2+1)).bind λx7=>
  eu k a0 n (qR y4.1 x6,x7)) else(some y4.1)
def jx(k:Nat)(a0:(List Int)):Option Int:=
 if(a0.length:Int) < 1 then(none) else((aH a0 0).bind λx1=>
 ((eu k a0 k (x1,1)):Option (Int)).bind λx2=>
 some x2)
theorem pC(k:Nat)(a0:(List Int))(r:Int)(h:jx k a0=some r):
 cV Tryz.prog 61 [.rep Tl a0] [] (λ_:Unit=>(bF [I r],[])):=by
 unfold jx at h
 replace h:=bf h
 refine cV.of 25 Tryz.func61 rfl Tryz.ntmps61 rfl λS w0=>?_
 refine sr ?_
 refine cq ?_
 refine nt ?_
 refine ai ?_
 refine sr ?_
 refine mq ?_
 refine ol gh ?_
 refine jb (bq rfl) ?_
 refine nt ?_
 refine ci h (λh=>?_) (λh=>?_)
 .
  cases h
 .
  refine sk (sr (mq ?_));obtain⟨x1,j,h⟩:=aa h;refine jb (aD (t:=Ti) rfl gh bP j) ?_;refine ja (an (t:=Ti) rfl bP rfl) ?_;refine aq (nt ?_);refine aE (Z:=Unit) (α:=Int) (λz3 x2=>[(3,I x2)]) (λz3 x2=>[]) h (λK h=>?_) (λz3 x2 h=>?_)
  .refine sr (cq (nt (ah ?_)));refine aF (λz5 y4=>[(0,.rep Tl a0),(3,I y4.1),(4,I y4.2)]) (λz5 y4=>[]) (eu k a0) k () (x1,1) (λ_=>rfl) h (SE.fin [] ⟨rfl,rfl,rfl,trivial⟩ rfl) (λn z5 y4 h=>?_);unfold eu at h;refine ai (sr ?_);iterate 2 refine mq ?_
   refine ol gh ?_;refine jb (bq rfl) ?_;refine nt (ci h (λh=>?_) (λh=>?_))
   .refine sk (ai (ah (ae ?_)));iterate 3 refine mq ?_
    obtain⟨x6,e,h⟩:=aa h;refine jb (aD (t:=Ti) rfl gh bP e) ?_;refine ja (an (t:=Ti) rfl bP rfl) ?_;refine jb (O3 rfl rfl) ?_;refine aq (aG (aI (tn (ae ?_))));refine mq ?_;obtain⟨x7,c,h⟩:=aa h;refine jb (aY rfl c) ?_;refine aq (nl ?_);exact jz ((),(qR y4.1 x6,x7)) h []
   .refine xa ?_;exact jz ((),y4.1) h []
  .refine sr (mq ?_);refine aq (nt (aA ?_));cases h;exact ra
def jm(k:Nat)(a0:Int):Nat->((List Int)×Int)->Option (List Int)
 |0,_=>none
 |n+1,y3=>
  if y3.2 < 5 then((((fD k a0 y3.2).bind λr7=>
  if r7=true then((bV (bh (length y3.1+length [y3.2]))).bind λ_=>
  some (y3.1++[y3.2])) else(some y3.1)):Option ((List Int))).bind λx5=>
  (ck (y3.2+1)).bind λc=>
  jm k a0 n (x5,c)) else(some y3.1)
def jQ(k:Nat)(a0:Int):Option (List Int):=
 ((jm k a0 k (([]:(List Int)),0)):Option ((List Int))).bind λx1=>
 some x1
theorem lD(k:Nat)(a0:Int)(r:(List Int))(h:jQ k a0=some r):
 cV Tryz.prog 69 [.eq (.int .u8 a0)] [] (λ_:Unit=>(bF [.rep Tl r],[])):=by
 unfold jQ at h
 replace h:=bf h
 refine cV.of 17 Tryz.func69 rfl Tryz.ntmps69 rfl λS w0=>?_
 refine sr ?_
 refine cq ?_
 refine nt ?_
 refine sr ?_
 refine cq ?_
 refine nt ?_
 refine aE (Z:=Value) (α:=(List Int)) (λz2 x1=>[(3,.eq z2)]) (λz2 x1=>[.sl z2 3 Ti x1]) h (λK h=>?_) (λz2 x1 h=>?_)
 .
  refine sr (fg rfl ?_);refine nt (ah (gz (SE.nil 3 Ti) ?_));refine aF (λz4 y3=>[(0,.eq (.int .u8 a0)),(3,.eq z4),(5,I y3.2)]) (λz4 y3=>[.sl z4 3 Ti y3.1]) (jm k a0) k (.slice none 0 0) (([]:(List Int)),0) (λ_=>rfl) h (SE.fin [0] ⟨rfl,rfl,rfl,trivial⟩ rfl) (λn z4 y3 h=>?_);unfold jm at h;refine sr (jb (bq rfl) ?_);refine nt (ai (ci h (λh=>?_) (λh=>?_)))
  .refine sk (aE (Z:=Value) (α:=(List Int)) (λz6 x5=>[(0,.eq (.int .u8 a0)),(3,.eq z6),(5,I y3.2)]) (λz6 x5=>[.sl z6 3 Ti x5]) h (λK h=>?_) (λz6 x5 h=>?_))
   .refine ah (sr (mq ?_));refine aq (nt (sr ?_));iterate 2 refine mq ?_
    obtain⟨r7,l,h⟩:=aa h;refine jb (av [.tmp 8,.tmp 9] rfl rfl JU rfl (iE k a0 y3.2 r7 l)) ?_;refine nt (cv h (λh=>?_) (λh=>?_))
    .refine ae ?_;iterate 2 refine mq ?_
     refine ja (aU (t:=Ti) [(.tmp 12,_)] [y3.2] rfl rfl cJ (.cons rfl .int .nil) rfl rfl) ?_;obtain⟨u8,j,h⟩:=aa h;refine cE rfl rfl rfl (bi rfl rfl cJ (ap j)) ⟨rfl,rfl,trivial⟩ λv9=>?_;refine aq (aG (bn ?_));exact jz (v9,y3.1++[y3.2]) h [0]
    .refine aX (bn ?_);exact jz (z4,y3.1) h [0]
   .refine ae ?_;obtain⟨e,c,h⟩:=aa h;refine jb (aY rfl c) ?_;refine mq (nl ?_);exact jz (z6,(x5,e)) h [0]
  .refine xa ?_;exact jz (z4,y3.1) h [0]
 .
  refine sr (mq ?_);refine aq (nt (aA ?_));refine bA (fU [2,3,16] ⟨rfl,rfl,rfl,trivial⟩) ?_;cases h;exact ra
def gI(k:Nat):Nat->((List Int)×Int×Int)->Option (List Int)
 |0,_=>none
 |n+1,y2=>
  if y2.2.1 < y2.2.2 then((aH y2.1 y2.2.2).bind λx4=>
  (aH y2.1 y2.2.1).bind λx5=>
  (aH y2.1 y2.2.1).bind λx6=>
  (aH (List.set y2.1 (Int.toNat y2.2.1) x4) y2.2.2).bind λx7=>
  (ck (y2.2.1+1)).bind λx8=>
  (ck (y2.2.2 - 1)).bind λx9=>
  gI k n (List.set (List.set y2.1 (Int.toNat y2.2.1) x4) (Int.toNat y2.2.2) x5,x8,x9)) else(some y2.1)
def lx(k:Nat)(a0:(List Int)):Option (List Int):=
 (ck ((a0.length:Int) - 1)).bind λx1=>
 gI k k (a0,0,x1)
theorem rz(k:Nat)(a0:(List Int))(c:Value)(r:(List Int))(h:lx k a0=some r):
 cV Tryz.prog 80 [.eq c] [.sl c 3 Ti a0] (λ_:Unit=>(bF [],[.sl c 3 Ti r])):=by
 unfold lx at h
 replace h:=bf h
 refine cV.of 28 Tryz.func80 rfl Tryz.ntmps80 rfl λS w0=>?_
 refine sr ?_
 refine mq ?_
 refine ka (nV rfl rfl gh) ?_
 obtain⟨x1,mc,h⟩:=aa h
 refine jb (eJ rfl mc) ?_
 refine cq ?_
 refine aq ?_
 refine nt ?_
 refine ah ?_
 refine aF (λz3 y2=>[(0,.eq c),(2,I y2.2.1),(3,I y2.2.2)]) (λz3 y2=>[.sl c 3 Ti y2.1]) (gI k) k () (a0,0,x1) (λ_=>rfl) h (SE.fin [0] ⟨rfl,rfl,rfl,trivial⟩ rfl) (λn z3 y2 h=>?_)
 unfold gI at h
 refine ai ?_
 refine sr ?_
 iterate 2 refine mq ?_
 refine jb (bq rfl) ?_
 refine nt ?_
 refine ci h (λh=>?_) (λh=>?_)
 .
  refine sk (ai (ah (ot ?_)));refine bj rfl rfl rfl (aS rfl) ⟨rfl,trivial⟩ ?_;refine bj rfl rfl rfl (aS rfl) ⟨rfl,trivial⟩ ?_;refine bj rfl rfl rfl (aS rfl) ⟨rfl,trivial⟩ ?_;refine bj rfl rfl rfl (aS rfl) ⟨rfl,trivial⟩ ?_;refine bj rfl rfl rfl (aS rfl) ⟨rfl,trivial⟩ ?_;refine bj rfl rfl rfl (aS rfl) ⟨rfl,trivial⟩ ?_;obtain⟨x4,D,h⟩:=aa h;refine iK 0 rfl rfl rfl rfl (cN (t:=Ti) rfl gh bP D) ⟨rfl,rfl,trivial⟩ ?_;refine iK 0 rfl rfl rfl rfl (ii (i:=Int.toNat y2.2.2) (off:=0) rfl bP (λ_=>rfl) rfl (dK D).2.2 rfl) ⟨rfl,trivial⟩ ?_;refine bj rfl rfl rfl (aS rfl) ⟨rfl,trivial⟩ ?_;refine bj rfl rfl rfl (aS rfl) ⟨rfl,trivial⟩ ?_;obtain⟨x5,y,h⟩:=aa h;refine iK 0 rfl rfl rfl rfl (cN (t:=Ti) rfl gh bP y) ⟨rfl,rfl,trivial⟩ ?_;refine iK 0 rfl rfl rfl rfl (ii (i:=Int.toNat y2.2.1) (off:=0) rfl bP (λ_=>rfl) rfl (dK y).2.2 rfl) ⟨rfl,trivial⟩ ?_;obtain⟨x6,x,h⟩:=aa h;refine iK 0 rfl rfl rfl rfl (cN (t:=Ti) rfl gh bP x) ⟨rfl,rfl,trivial⟩ ?_;refine sj 13 [true,true,false,false,true,true,true,true,true,true,true,true,true] [27] [] [] rfl (by kernel_rfl) (by kernel_rfl) (by kernel_rfl) cF (λvs hv hB=>?_);obtain⟨w0,Xa,rfl,Y⟩:=ax hv;obtain⟨w1,W9,rfl,X⟩:=ax Y;obtain⟨w2,W8,rfl,U⟩:=ax X;obtain⟨w3,W7,rfl,Q⟩:=ax U;obtain⟨w4,W6,rfl,O⟩:=ax Q;obtain⟨w5,W5,rfl,M⟩:=ax O;obtain⟨w6,W4,rfl,J⟩:=ax M;obtain⟨w7,W3,rfl,F⟩:=ax J;obtain⟨w8,W2,rfl,E⟩:=ax F;obtain⟨w9,WY,rfl,s⟩:=ax E;obtain⟨W1,zz,rfl,l⟩:=ax s;obtain⟨W0,qt,rfl,j⟩:=ax l;obtain⟨WZ,mw,rfl,e⟩:=ax j;obtain rfl:=oO e;refine⟨[0],[.sl c 3 Ti y2.1],by kernel_rfl,by decide,?_⟩;refine qm rfl rfl (iy (i:=Int.toNat y2.2.1) rfl bP rfl (oP x) rfl .int rfl) ⟨rfl,rfl,trivial⟩ (by kernel_rfl) ?_;obtain⟨x7,u,h⟩:=aa h;refine wT rfl rfl rfl rfl (cN (t:=Ti) rfl gh bP u) ⟨rfl,rfl,trivial⟩ (by kernel_rfl) ?_;refine qm rfl rfl (iy (i:=Int.toNat y2.2.2) rfl bP rfl (oP u) rfl .int rfl) ⟨rfl,rfl,trivial⟩ (by kernel_rfl) ?_;refine ut ?_;refine bA (SE.fin (Γ':=[(0,.eq c),(2,I y2.2.1),(3,I y2.2.2)]) (Δ':=[.sl c 3 Ti (List.set (List.set y2.1 (Int.toNat y2.2.1) x4) (Int.toNat y2.2.2) x5)]) [0] ⟨rfl,rfl,rfl,trivial⟩ rfl) ?_;refine aI (tn (ae (mq ?_)));obtain⟨x8,gw,h⟩:=aa h;refine jb (aY rfl gw) ?_;refine mq ?_;obtain⟨x9,Z,h⟩:=aa h;refine jb (eJ rfl Z) ?_;refine aq ?_;refine aq (nl ?_);exact jz ((),(List.set (List.set y2.1 (Int.toNat y2.2.1) x4) (Int.toNat y2.2.2) x5,x8,x9)) h [0]
 .
  refine dT (bv (bv (ce (lu ?_))));cases h;exact aV () [] 1 trivial rfl
def ew(k:Nat)(a0:(List Int)):Nat->(Int×Int)->Option Int
 |0,_=>none
 |n+1,y4=>
  if y4.2 < (a0.length:Int) then((aH a0 y4.2).bind λx6=>
  (ck (y4.2+1)).bind λx7=>
  ew k a0 n (k9 y4.1 x6,x7)) else(some y4.1)
def kQ(k:Nat)(a0:(List Int)):Option Int:=
 if(a0.length:Int) < 1 then(none) else((aH a0 0).bind λx1=>
 ((ew k a0 k (x1,1)):Option (Int)).bind λx2=>
 some x2)
theorem vB(k:Nat)(a0:(List Int))(r:Int)(h:kQ k a0=some r):
 cV Tryz.prog 83 [.rep Tl a0] [] (λ_:Unit=>(bF [I r],[])):=by
 unfold kQ at h
 replace h:=bf h
 refine cV.of 25 Tryz.func83 rfl Tryz.ntmps83 rfl λS w0=>?_
 refine sr ?_
 refine cq ?_
 refine nt ?_
 refine ai ?_
 refine sr ?_
 refine mq ?_
 refine ol gh ?_
 refine jb (bq rfl) ?_
 refine nt ?_
 refine ci h (λh=>?_) (λh=>?_)
 .
  cases h
 .
  refine sk (sr (mq ?_));obtain⟨x1,j,h⟩:=aa h;refine jb (aD (t:=Ti) rfl gh bP j) ?_;refine ja (an (t:=Ti) rfl bP rfl) ?_;refine aq (nt ?_);refine aE (Z:=Unit) (α:=Int) (λz3 x2=>[(3,I x2)]) (λz3 x2=>[]) h (λK h=>?_) (λz3 x2 h=>?_)
  .refine sr (cq (nt (ah ?_)));refine aF (λz5 y4=>[(0,.rep Tl a0),(3,I y4.1),(4,I y4.2)]) (λz5 y4=>[]) (ew k a0) k () (x1,1) (λ_=>rfl) h (SE.fin [] ⟨rfl,rfl,rfl,trivial⟩ rfl) (λn z5 y4 h=>?_);unfold ew at h;refine ai (sr ?_);iterate 2 refine mq ?_
   refine ol gh ?_;refine jb (bq rfl) ?_;refine nt (ci h (λh=>?_) (λh=>?_))
   .refine sk (ai (ah (ae ?_)));iterate 3 refine mq ?_
    obtain⟨x6,e,h⟩:=aa h;refine jb (aD (t:=Ti) rfl gh bP e) ?_;refine ja (an (t:=Ti) rfl bP rfl) ?_;refine jb (EV rfl rfl) ?_;refine aq (aG (aI (tn (ae ?_))));refine mq ?_;obtain⟨x7,c,h⟩:=aa h;refine jb (aY rfl c) ?_;refine aq (nl ?_);exact jz ((),(k9 y4.1 x6,x7)) h []
   .refine xa ?_;exact jz ((),y4.1) h []
  .refine sr (mq ?_);refine aq (nt (aA ?_));cases h;exact ra
def mF(k:Nat)(a0:Int)(a1:Int)(a2:Bool):Option aW:=
 some (a0,a1,a2)
theorem nA(k:Nat)(a0:Int)(a1:Int)(a2:Bool)(r:aW)(h:mF k a0 a1 a2=some r):
 cV Tryz.prog 29 [I a0,I a1,.eq (.bool a2)] [] (λ_:Unit=>(bF [.rep aJ r],[])):=by
 unfold mF at h
 replace h:=bf h
 refine cV.of 11 Tryz.func29 rfl Tryz.ntmps29 rfl λS w0=>?_
 refine sr ?_
 refine be rfl rfl rfl (bz rfl Gg Og) trivial λb1=>?_
 refine nt ?_
 refine sr ?_
 iterate 3 refine mq ?_
 refine jc (dA [(0,.tmp 7,_),(1,.tmp 8,_),(2,.tmp 9,_)] rfl Sl Gg Po (iV ⟨rfl,rfl,rfl,trivial⟩) rfl) ?_
 refine aO rfl rfl (aL rfl ny trivial rfl rfl) ⟨rfl,rfl,trivial⟩ ?_
 refine nt ?_
 refine aA ?_
 refine bA (fX (a:=.agg (.pair (I a0) (.pair (I a1) (.eq (.bool a2))))) (a':=.rep aJ (a0,a1,a2)) (iU (.agg (.pair .int (.pair .int .bool))))) ?_
 cases h
 exact aV () [.rep aJ (a0,a1,a2)] 0 ⟨⟨_,_,_,_,_,rfl,(.head _),ny,(mU),rfl⟩,trivial⟩ rfl
def jD(k:Nat)(a0:(List aW)):Option ab:=
 (mF k 1 2 true).bind λr2=>
 (mF k 2 1 false).bind λr3=>
 (mF k 3 3 false).bind λr4=>
 (bV (bh (length [r2,r3,r4]+length a0))).bind λ_=>
 some (4,1,1,2,[[[0,1,2],[3]],[[0,1],[2,3]],[[1,2,3]],[[1,3],[2]]],[r2,r3,r4]++a0)
theorem iO(k:Nat)(a0:(List aW))(r:ab)(h:jD k a0=some r):
 cV Tryz.prog 44 [Rs aJ a0] [] (λ_:Unit=>(bF [.rep ak r],[])):=by
 unfold jD at h
 replace h:=bf h
 refine cV.of 24 Tryz.func44 rfl Tryz.ntmps44 rfl λS w0=>?_
 refine sr ?_
 refine be rfl rfl rfl (bz rfl vo Af) trivial λb1=>?_
 refine nt ?_
 refine sr ?_
 obtain⟨r2,l,h⟩:=aa h
 have u:=nA k 1 2 true r2 l
 refine jc (av [.const (.int .i64 (1)),.const (.int .i64 (2)),.const (.bool true)] rfl rfl QQ rfl u) ?_
 obtain⟨r3,j,h⟩:=aa h
 have s:=nA k 2 1 false r3 j
 refine jc (av [.const (.int .i64 (2)),.const (.int .i64 (1)),.const (.bool false)] rfl rfl QQ rfl s) ?_
 obtain⟨r4,e,h⟩:=aa h
 have n:=nA k 3 3 false r4 e
 refine jc (av [.const (.int .i64 (3)),.const (.int .i64 (3)),.const (.bool false)] rfl rfl QQ rfl n) ?_
 refine be rfl rfl rfl (iC (t:=aJ) [(.tmp 4,_),(.tmp 5,_),(.tmp 6,_)] [r2,r3,r4] rfl rfl AZ (.cons rfl .rep (.cons rfl .rep (.cons rfl .rep .nil))) rfl rfl) ⟨rfl,rfl,rfl,trivial⟩ λv5=>?_
 refine aq ?_
 refine nt ?_
 refine sr ?_
 refine jc (aU (t:=Ti) [(.const (.int .i64 (0)),_),(.const (.int .i64 (1)),_),(.const (.int .i64 (2)),_)] [0,1,2] rfl rfl cJ (.cons rfl .int (.cons rfl .int (.cons rfl .int .nil))) rfl rfl) ?_
 refine ja (aU (t:=Ti) [(.const (.int .i64 (3)),_)] [3] rfl rfl cJ (.cons rfl .int .nil) rfl rfl) ?_
 refine jb (aU (t:=Tl) [(.tmp 8,_),(.tmp 9,_)] [[0,1,2],[3]] rfl rfl mh (.cons rfl .rep (.cons rfl .rep .nil)) rfl rfl) ?_
 refine jb (aU (t:=Ti) [(.const (.int .i64 (0)),_),(.const (.int .i64 (1)),_)] [0,1] rfl rfl cJ (.cons rfl .int (.cons rfl .int .nil)) rfl rfl) ?_
 refine jb (aU (t:=Ti) [(.const (.int .i64 (2)),_),(.const (.int .i64 (3)),_)] [2,3] rfl rfl cJ (.cons rfl .int (.cons rfl .int .nil)) rfl rfl) ?_
 refine jb (aU (t:=Tl) [(.tmp 11,_),(.tmp 12,_)] [[0,1],[2,3]] rfl rfl mh (.cons rfl .rep (.cons rfl .rep .nil)) rfl rfl) ?_
 refine jc (aU (t:=Ti) [(.const (.int .i64 (1)),_),(.const (.int .i64 (2)),_),(.const (.int .i64 (3)),_)] [1,2,3] rfl rfl cJ (.cons rfl .int (.cons rfl .int (.cons rfl .int .nil))) rfl rfl) ?_
 refine ja (aU (t:=Tl) [(.tmp 14,_)] [[1,2,3]] rfl rfl mh (.cons rfl .rep .nil) rfl rfl) ?_
 refine jb (aU (t:=Ti) [(.const (.int .i64 (1)),_),(.const (.int .i64 (3)),_)] [1,3] rfl rfl cJ (.cons rfl .int (.cons rfl .int .nil)) rfl rfl) ?_
 refine ja (aU (t:=Ti) [(.const (.int .i64 (2)),_)] [2] rfl rfl cJ (.cons rfl .int .nil) rfl rfl) ?_
 refine jb (aU (t:=Tl) [(.tmp 16,_),(.tmp 17,_)] [[1,3],[2]] rfl rfl mh (.cons rfl .rep (.cons rfl .rep .nil)) rfl rfl) ?_
 refine cC rfl (aU (t:=(.slice Tl)) [(.tmp 10,_),(.tmp 13,_),(.tmp 15,_),(.tmp 18,_)] [[[0,1,2],[3]],[[0,1],[2,3]],[[1,2,3]],[[1,3],[2]]] rfl rfl yS (.cons rfl .rep (.cons rfl .rep (.cons rfl .rep (.cons rfl .rep .nil)))) rfl rfl) ⟨rfl,rfl,rfl,rfl,trivial⟩ ?_
 iterate 2 refine mq ?_
 obtain⟨u6,c,h⟩:=aa h
 refine cE rfl rfl rfl (bi rfl rfl AZ (ap c)) ⟨rfl,rfl,trivial⟩ λv7=>?_
 refine eL (fU [22] ⟨rfl,trivial⟩) ?_
 refine cC rfl (dA [(0,.const (.int .i64 (4)),_),(1,.const (.int .i64 (1)),_),(2,.const (.int .i64 (1)),_),(3,.const (.int .i64 (2)),_),(4,.tmp 19,_),(5,.tmp 22,_)] rfl Sr vo Px (iV ⟨rfl,rfl,rfl,rfl,rfl,rfl,trivial⟩) rfl) ⟨rfl,rfl,rfl,rfl,rfl,rfl,trivial⟩ ?_
 refine aO rfl rfl (aL rfl dh trivial rfl rfl) ⟨rfl,rfl,trivial⟩ ?_
 refine nt ?_
 refine aA ?_
 refine bA (fX (a:=.agg (.pair (I 4) (.pair (I 1) (.pair (I 1) (.pair (I 2) (.pair (.rep (.slice (.slice Tl)) [[[0,1,2],[3]],[[0,1],[2,3]],[[1,2,3]],[[1,3],[2]]]) (Rs aJ ([r2,r3,r4]++a0)))))))) (a':=.rep ak (4,1,1,2,[[[0,1,2],[3]],[[0,1],[2,3]],[[1,2,3]],[[1,3],[2]]],[r2,r3,r4]++a0)) (iU (.agg (.pair .int (.pair .int (.pair .int (.pair .int (.pair .rep .rep)))))))) ?_
 cases h
 exact aV () [.rep ak (4,1,1,2,[[[0,1,2],[3]],[[0,1],[2,3]],[[1,2,3]],[[1,3],[2]]],[r2,r3,r4]++a0)] 0 ⟨⟨_,_,_,_,_,rfl,(.head _),dh,(mU),rfl⟩,trivial⟩ rfl
def lP(k:Nat)(a0:Int):Option Int:=
 (jQ k a0).bind λr1=>
 some (r1.length:Int)
theorem o8(k:Nat)(a0:Int)(r:Int)(h:lP k a0=some r):
 cV Tryz.prog 89 [.eq (.int .u8 a0)] [] (λ_:Unit=>(bF [I r],[])):=by
 unfold lP at h
 replace h:=bf h
 refine cV.of 6 Tryz.func89 rfl Tryz.ntmps89 rfl λS w0=>?_
 refine sr ?_
 refine cq ?_
 refine nt ?_
 refine sr ?_
 refine mq ?_
 obtain⟨r1,c,h⟩:=aa h
 have e:=lD k a0 r1 c
 refine ja (av [.tmp 3] rfl rfl QN rfl e) ?_
 refine ol gh ?_
 refine aq ?_
 refine nt ?_
 refine aA ?_
 cases h
 exact ra
def oL(k:Nat)(a0:Int)(a1:Int):Option Int:=
 (lP k a0).bind λr1=>
 (lP k a1).bind λr2=>
 (ck (r1 - r2)).bind λx3=>
 some x3
theorem uQ(k:Nat)(a0:Int)(a1:Int)(c:Nat)(r:Int)(h:oL k a0 a1=some r):
 cV Tryz.prog 104 [.eq (.int .u8 a0),.eq (.int .u8 a1),Pt c] [.obj c 104 (.eq (.func (.func 89) #[] #[]))] (λ_:Unit=>(bF [I r],[.obj c 104 (.eq (.func (.func 89) #[] #[]))])):=by
 unfold oL at h
 replace h:=bf h
 refine cV.of 13 Tryz.func104 rfl Tryz.ntmps104 rfl λS w0=>?_
 refine sr ?_
 refine cq ?_
 refine nt ?_
 refine ai ?_
 refine bB ?_
 refine ea 0 (ao rfl OZ jI rfl) ?_
 refine dm ?_
 obtain⟨r1,l,h⟩:=aa h
 have s:=o8 k a0 r1 l
 refine db (vc (fs:=[]) (cs:=[]) (ags:=[.eq (.int .u8 a0)]) [.tmp 7] rfl rfl TF rfl s) ?_
 refine ea 0 (ao rfl OZ jI rfl) ?_
 refine dm ?_
 refine df cF ?_
 obtain⟨r2,j,h⟩:=aa h
 have n:=o8 k a1 r2 j
 refine jb (vc (fs:=[]) (cs:=[]) (ags:=[.eq (.int .u8 a1)]) [.tmp 10] rfl rfl TF rfl n) ?_
 obtain⟨x3,e,h⟩:=aa h
 refine jb (eJ rfl e) ?_
 refine aq ?_
 refine nt ?_
 refine aA ?_
 cases h
 exact aV () [_] 1 ⟨rfl,trivial⟩ rfl
def gJ(k:Nat)(a0:(List Int)):Nat->(Int×Int)->Option Int
 |0,_=>none
 |n+1,y4=>
  if y4.2 < (a0.length:Int) then((((aH a0 y4.2).bind λx8=>
  (oL k x8 y4.1).bind λr9=>
  if r9 < 0 then((aH a0 y4.2).bind λe=>
  some e) else(some y4.1)):Option (Int)).bind λx6=>
  (ck (y4.2+1)).bind λc=>
  gJ k a0 n (x6,c)) else(some y4.1)
def ly(k:Nat)(a0:(List Int)):Option Int:=
 if(a0.length:Int) < 1 then(none) else((aH a0 0).bind λx1=>
 ((gJ k a0 k (x1,1)):Option (Int)).bind λx2=>
 some x2)
theorem rA(k:Nat)(a0:(List Int))(c_a1_0:Nat)(r:Int)(h:ly k a0=some r):
 cV Tryz.prog 103 [.rep (.slice (.int .u8)) a0,.eq (.func (.func 104) #[] #[(Pv c_a1_0)])] [.obj c_a1_0 104 (.eq (.func (.func 89) #[] #[]))] (λ_:Unit=>(bF [.eq (.int .u8 r)],[.obj c_a1_0 104 (.eq (.func (.func 89) #[] #[]))])):=by
 unfold ly at h
 replace h:=bf h
 refine cV.of 33 Tryz.func103 rfl Tryz.ntmps103 rfl λS w0=>?_
 refine sr ?_
 refine cq ?_
 refine nt ?_
 refine ai ?_
 refine sr ?_
 refine mq ?_
 refine ol Ak ?_
 refine jb (bq rfl) ?_
 refine nt ?_
 refine ci h (λh=>?_) (λh=>?_)
 .
  cases h
 .
  refine sk (sr (mq ?_));obtain⟨x1,u,h⟩:=aa h;refine jb (aD (t:=(.int .u8)) rfl Ak py u) ?_;refine ja (an (t:=(.int .u8)) rfl py rfl) ?_;refine aq (nt ?_);refine aE (Z:=Unit) (α:=Int) (λz3 x2=>[(5,.eq (.int .u8 x2))]) (λz3 x2=>[.obj c_a1_0 104 (.eq (.func (.func 89) #[] #[]))]) h (λK h=>?_) (λz3 x2 h=>?_)
  .refine sr (cq (nt (ah ?_)));refine aF (λz5 y4=>[(0,.rep (.slice (.int .u8)) a0),(1,.eq (.func (.func 104) #[] #[(Pv c_a1_0)])),(5,.eq (.int .u8 y4.1)),(6,I y4.2)]) (λz5 y4=>[.obj c_a1_0 104 (.eq (.func (.func 89) #[] #[]))]) (gJ k a0) k () (x1,1) (λ_=>rfl) h (SE.fin [0] ⟨rfl,rfl,rfl,rfl,trivial⟩ rfl) (λn z5 y4 h=>?_);unfold gJ at h;refine ai (sr ?_);iterate 2 refine mq ?_
   refine ol Ak ?_;refine jb (bq rfl) ?_;refine nt (ci h (λh=>?_) (λh=>?_))
   .refine sk (aE (Z:=Unit) (α:=Int) (λz7 x6=>[(0,.rep (.slice (.int .u8)) a0),(1,.eq (.func (.func 104) #[] #[(Pv c_a1_0)])),(5,.eq (.int .u8 x6)),(6,I y4.2)]) (λz7 x6=>[.obj c_a1_0 104 (.eq (.func (.func 89) #[] #[]))]) h (λK h=>?_) (λz7 x6 h=>?_))
    .refine ah (sr ?_);iterate 3 refine mq ?_
     obtain⟨x8,s,h⟩:=aa h;refine jb (aD (t:=(.int .u8)) rfl Ak py s) ?_;refine ja (an (t:=(.int .u8)) rfl py rfl) ?_;refine mq ?_;obtain⟨r9,x,h⟩:=aa h;refine kc (vc (fs:=[]) (cs:=[(Pv c_a1_0)]) (ags:=[.eq (.int .u8 x8),.eq (.int .u8 y4.1)]) [.tmp 24,.tmp 25] rfl rfl Ug rfl (uQ k x8 y4.1 c_a1_0 r9 x)) ?_;refine jb (bq rfl) ?_;refine nt (ci h (λh=>?_) (λh=>?_))
     .refine ae ?_;iterate 2 refine mq ?_
      obtain⟨l,e,h⟩:=aa h;refine jb (aD (t:=(.int .u8)) rfl Ak py e) ?_;refine ja (an (t:=(.int .u8)) rfl py rfl) ?_;refine aq (aG (bn ?_));exact jz ((),l) h [0]
     .refine aX (bn ?_);exact jz ((),y4.1) h [0]
    .refine ae (mq ?_);obtain⟨j,c,h⟩:=aa h;refine jb (aY rfl c) ?_;refine aq (nl ?_);exact jz ((),(x6,j)) h [0]
   .refine xa ?_;exact jz ((),y4.1) h [0]
  .refine sr (mq ?_);refine aq (nt (aA ?_));cases h;exact aV () [_] 1 ⟨rfl,trivial⟩ rfl
def rM(k:Nat)(a0:(List Int)):Option Int:=
 (ly k a0).bind λr2=>
 some r2
theorem xw(k:Nat)(a0:(List Int))(r:Int)(h:rM k a0=some r):
 cV Tryz.prog 71 [.rep (.slice (.int .u8)) a0,.eq (.func (.func 89) #[] #[])] [] (λ_:Unit=>(bF [.eq (.int .u8 r)],[])):=by
 unfold rM at h
 replace h:=bf h
 refine cV.of 8 Tryz.func71 rfl Tryz.ntmps71 rfl λS w0=>?_
 refine sr ?_
 refine bx λb1=>?_
 refine cq ?_
 refine nt ?_
 refine sr ?_
 refine mq ?_
 refine ja (tJ [] [.tmp 3] [] [(Pv b1)] rfl rfl rfl) ?_
 obtain⟨r2,c,h⟩:=aa h
 have e:=rA k a0 b1 r2 c
 refine kb (av [.tmp 5,.tmp 6] rfl rfl Uh rfl e) ?_
 refine aq ?_
 refine nt ?_
 refine aA ?_
 cases h
 exact ra
def ni(k:Nat)(a0:(List Int)):Option bT:=
 some (a0,0,1)
theorem wl(k:Nat)(a0:(List Int))(r:bT)(h:ni k a0=some r):
 cV Tryz.prog 12 [.rep Tl a0] [] (λz:Nat=>(bF [Pt z],[.obj z 74 (.agg (.pair (.rep Tl r.1) (.pair (I r.2.1) (.eq (.int .u64 r.2.2)))))])):=by
 unfold ni at h
 replace h:=bf h
 refine cV.of 6 Tryz.func12 rfl Tryz.ntmps12 rfl λS w0=>?_
 refine sr ?_
 refine cq ?_
 refine nt ?_
 refine sr ?_
 refine mq ?_
 refine jb (dA [(0,.tmp 3,_),(2,.const (.int .u64 (1)),_)] rfl U6 UX Up (iV ⟨rfl,rfl,trivial⟩) rfl) ?_
 refine be rfl rfl rfl (yb rfl trivial) ⟨rfl,trivial⟩ λb1=>?_
 refine aq ?_
 refine nt ?_
 refine aA ?_
 cases h
 exact aV b1 [Pt b1] 1 ⟨rfl,trivial⟩ rfl
def jX(k:Nat)(a0:(List Int)):Option (List Int):=
 (bV (bh (length ([]:(List Int))+length a0))).bind λ_=>
 some (([]:(List Int))++a0)
theorem uT(k:Nat)(a0:(List Int))(r:(List Int))(h:jX k a0=some r):
 cV Tryz.prog 16 [.rep Tl a0] [] (λz:Value=>(bF [.eq z],[.sl z 3 Ti r])):=by
 unfold jX at h
 replace h:=bf h
 refine cV.of 6 Tryz.func16 rfl Tryz.ntmps16 rfl λS w0=>?_
 refine sr ?_
 refine cq ?_
 refine nt ?_
 refine sr ?_
 refine be rfl rfl rfl (iC (t:=Ti) [] ([]:(List Int)) rfl rfl cJ .nil rfl rfl) trivial λv1=>?_
 refine mq ?_
 obtain⟨u2,c,h⟩:=aa h
 refine cE rfl rfl rfl (bi rfl rfl cJ (ap c)) ⟨rfl,rfl,trivial⟩ λv3=>?_
 refine aq ?_
 refine nt ?_
 refine aA ?_
 cases h
 exact aV v3 [.eq v3] 1 ⟨rfl,trivial⟩ rfl
def d5(k:Nat)(a0:(List (List Int))):Nat->((List (List Int))×Int)->Option (List (List Int))
 |0,_=>none
 |n+1,y3=>
  if y3.2 < (a0.length:Int) then((aH a0 y3.2).bind λx5=>
  (jX k x5).bind λr6=>
  (bV (bh (length y3.1+length [r6]))).bind λ_=>
  (ck (y3.2+1)).bind λc=>
  d5 k a0 n (y3.1++[r6],c)) else(some y3.1)
def ik(k:Nat)(a0:(List (List Int))):Option (List (List Int)):=
 ((d5 k a0 k (([]:(List (List Int))),0)):Option ((List (List Int)))).bind λx1=>
 some x1
theorem oc(k:Nat)(a0:(List (List Int)))(r:(List (List Int)))(h:ik k a0=some r):
 cV Tryz.prog 47 [.rep (.slice Tl) a0] [] (λz:Value=>(bF [.eq z],[.sl z 28 Tl r])):=by
 unfold ik at h
 replace h:=bf h
 refine cV.of 20 Tryz.func47 rfl Tryz.ntmps47 rfl λS w0=>?_
 refine sr ?_
 refine cq ?_
 refine nt ?_
 refine sr ?_
 refine cq ?_
 refine nt ?_
 refine aE (Z:=Value) (α:=(List (List Int))) (λz2 x1=>[(3,.eq z2)]) (λz2 x1=>[.sl z2 28 Tl x1]) h (λK h=>?_) (λz2 x1 h=>?_)
 .
  refine sr (cq (nt (ah ?_)));refine gz (SE.nil 28 Tl) ?_;refine aF (λz4 y3=>[(0,.rep (.slice Tl) a0),(3,.eq z4),(4,I y3.2)]) (λz4 y3=>[.sl z4 28 Tl y3.1]) (d5 k a0) k (.slice none 0 0) (([]:(List (List Int))),0) (λ_=>rfl) h (SE.fin [0] ⟨rfl,rfl,rfl,trivial⟩ rfl) (λn z4 y3 h=>?_);unfold d5 at h;refine ai (sr ?_);iterate 2 refine mq ?_
  refine ol nq ?_;refine jb (bq rfl) ?_;refine nt (ci h (λh=>?_) (λh=>?_))
  .refine sk (ai (ah (ae ?_)));iterate 3 refine mq ?_
   obtain⟨x5,j,h⟩:=aa h;refine jb (aD (t:=Tl) rfl nq eM j) ?_;refine ja (an (t:=Tl) rfl eM rfl) ?_;obtain⟨r6,s,h⟩:=aa h;refine be rfl rfl rfl (av [.tmp 15] rfl rfl V9 rfl (uT k x5 r6 s)) ⟨rfl,trivial⟩ λv7=>?_;refine eL (fU [16] ⟨rfl,trivial⟩) ?_;refine ja (aU (t:=Tl) [(.tmp 16,_)] [r6] rfl rfl mh (.cons rfl .rep .nil) rfl rfl) ?_;obtain⟨u8,l,h⟩:=aa h;refine cE rfl rfl rfl (bi rfl rfl mh (ap l)) ⟨rfl,rfl,trivial⟩ λv9=>?_;refine aq (aG (aI (tn (ae ?_))));refine mq ?_;obtain⟨e,c,h⟩:=aa h;refine jb (aY rfl c) ?_;refine aq (nl ?_);exact jz (v9,(y3.1++[r6],e)) h [0]
  .refine xa ?_;exact jz (z4,y3.1) h [0]
 .
  refine sr (mq ?_);refine aq (nt (aA ?_));cases h;exact aV z2 [.eq z2] 1 ⟨rfl,trivial⟩ rfl
def dZ(k:Nat)(a0:ab):Nat->((List (List (List Int)))×Int)->Option (List (List (List Int)))
 |0,_=>none
 |n+1,y9=>
  if y9.2 < (a0.2.2.2.2.1.length:Int) then((aH a0.2.2.2.2.1 y9.2).bind λh=>
  (ik k h).bind λc=>
  (bV (bh (length y9.1+length [c]))).bind λ_=>
  (ck (y9.2+1)).bind λe=>
  dZ k a0 n (y9.1++[c],e)) else(some y9.1)
def ij(k:Nat)(a0:ab):Option ab:=
 (bV (bh (length ([]:(List aW))+length a0.2.2.2.2.2))).bind λ_=>
 ((dZ k a0 k (([]:(List (List (List Int)))),0)):Option ((List (List (List Int))))).bind λx7=>
 some (a0.1,a0.2.1,a0.2.2.1,a0.2.2.2.1,x7,([]:(List aW))++a0.2.2.2.2.2)
theorem oa(k:Nat)(a0:ab)(r:ab)(h:ij k a0=some r):
 cV Tryz.prog 15 [.rep ak a0] [] (λz:Value=>(bF [.agg (.pair (I r.1) (.pair (I r.2.1) (.pair (I r.2.2.1) (.pair (I r.2.2.2.1) (.pair (.rep (.slice (.slice Tl)) r.2.2.2.2.1) (.eq z))))))],[.sl z 27 aJ r.2.2.2.2.2])):=by
 unfold ij at h
 replace h:=bf h
 refine cV.of 30 Tryz.func15 rfl Tryz.ntmps15 rfl λS w0=>?_
 refine sr ?_
 refine bx λb1=>?_
 refine be rfl rfl rfl (bz rfl vo Af) trivial λb2=>?_
 refine nt ?_
 refine sr ?_
 refine fl cu ?_
 refine fr 1 ?_
 refine lo fp ?_
 refine aq ?_
 refine nt ?_
 refine sr ?_
 refine be rfl rfl rfl (iC (t:=aJ) [] ([]:(List aW)) rfl rfl AZ .nil rfl rfl) trivial λv3=>?_
 refine fl ge ?_
 refine fr 1 ?_
 refine lo nJ ?_
 obtain⟨u4,E,h⟩:=aa h
 refine fr 1 ?_
 refine cE rfl rfl rfl (bi rfl rfl AZ (ap E)) ⟨rfl,rfl,trivial⟩ λv5=>?_
 refine fl cu ?_
 refine fr 1 ?_
 refine aO rfl rfl (aL rfl fp rfl rfl rfl) ⟨rfl,rfl,trivial⟩ ?_
 refine fl ge ?_
 refine fr 1 ?_
 refine oY λo6=>?_
 refine fr 1 ?_
 refine aO rfl rfl (aL rfl nJ o6 rfl rfl) ⟨rfl,rfl,trivial⟩ ?_
 refine nt ?_
 refine aE (Z:=Value) (α:=(List (List (List Int)))) (λz8 x7=>[(1,Pt b1),(2,Pt b2)]) (λz8 x7=>[.obj b1 25 (.agg (.pair (I a0.1) (.pair (I a0.2.1) (.pair (I a0.2.2.1) (.pair (I a0.2.2.2.1) (.pair (.eq z8) (.eq v5))))))),.sl z8 36 (.slice Tl) x7,.sl v5 27 aJ (([]:(List aW))++a0.2.2.2.2.2),.obj b2 25 (.agg (.pair (I 0) (.pair (I 0) (.pair (I 0) (.pair (I 0) (.pair (.eq (.slice none 0 0)) (.eq (.slice none 0 0))))))))]) h (λK h=>?_) (λz8 x7 h=>?_)
 .
  refine sr (cq (nt (ah ?_)));refine gz (SE.nil 36 (.slice Tl)) ?_;refine dJ 1 rfl ?_;refine gz (fX (a:=.agg (.pair (.rep Ti a0.1) (.pair (.rep Ti a0.2.1) (.pair (.rep Ti a0.2.2.1) (.pair (.rep Ti a0.2.2.2.1) (.pair (.eq (.slice none 0 0)) (.eq v5))))))) (a':=.agg (.pair (I a0.1) (.pair (I a0.2.1) (.pair (I a0.2.2.1) (.pair (I a0.2.2.2.1) (.pair (.eq (.slice none 0 0)) (.eq v5))))))) (AE.agg (AE.pair AE.int (AE.pair AE.int (AE.pair AE.int (AE.pair AE.int AE.rfl)))))) ?_;refine aF (λc y9=>[(1,Pt b1),(2,Pt b2),(3,.rep (.slice (.slice Tl)) a0.2.2.2.2.1),(4,I y9.2)]) (λc y9=>[.obj b1 25 (.agg (.pair (I a0.1) (.pair (I a0.2.1) (.pair (I a0.2.2.1) (.pair (I a0.2.2.2.1) (.pair (.eq c) (.eq v5))))))),.sl c 36 (.slice Tl) y9.1,.sl v5 27 aJ (([]:(List aW))++a0.2.2.2.2.2),.obj b2 25 (.agg (.pair (I 0) (.pair (I 0) (.pair (I 0) (.pair (I 0) (.pair (.eq (.slice none 0 0)) (.eq (.slice none 0 0))))))))]) (dZ k a0) k (.slice none 0 0) (([]:(List (List (List Int)))),0) (λ_=>rfl) h (SE.fin [0,1,2,3] ⟨rfl,rfl,rfl,rfl,trivial⟩ rfl) (λn c y9 h=>?_);unfold dZ at h;refine ai (sr ?_);iterate 2 refine mq ?_
  refine ol po ?_;refine jb (bq rfl) ?_;refine nt (ci h (λh=>?_) (λh=>?_))
  .refine sk (ai (ah (bB ?_)));refine da (au rfl cu) ?_;refine ea 0 (ao rfl fp jI rfl) ?_;refine dm ?_;refine dm ?_;obtain⟨y,l,h⟩:=aa h;refine db (aD (t:=(.slice Tl)) rfl po kO l) ?_;refine da (an (t:=(.slice Tl)) rfl kO rfl) ?_;obtain⟨e,u,h⟩:=aa h;refine da (Am (av [.tmp 24] rfl rfl TS rfl (oc k y e u))) ?_;refine da (aU (t:=(.slice Tl)) [(.tmp 25,_)] [e] rfl rfl yS (.cons rfl .rep .nil) rfl rfl) ?_;refine df cF ?_;obtain⟨F,s,h⟩:=aa h;refine fr 1 ?_;refine cE rfl rfl rfl (bi rfl rfl yS (ap s)) ⟨rfl,rfl,trivial⟩ λD=>?_;refine fl cu ?_;refine oY λo15=>?_;refine fr 1 ?_;refine aO rfl rfl (aL rfl fp o15 rfl rfl) ⟨rfl,rfl,trivial⟩ ?_;refine aG (aI (tn (ae (mq ?_))));obtain⟨x,j,h⟩:=aa h;refine jb (aY rfl j) ?_;refine aq (nl ?_);exact jz (D,(y9.1++[e],x)) h [0,1,2,3]
  .refine xa ?_;exact jz (c,y9.1) h [0,1,2,3]
 .
  refine sr (lo dh ?_);refine fr 3 ?_;refine aO rfl rfl (aL rfl dh trivial rfl rfl) ⟨rfl,rfl,trivial⟩ ?_;refine nt (aA (bK 2 rfl ?_));refine bA (jv (off:=4) [] trivial rfl rfl) ?_;refine bA (SE.fin (Γ':=[(2,_)]) [2,0,1] ⟨rfl,trivial⟩ rfl) ?_;cases h;exact aV v5 [.agg (.pair (I a0.1) (.pair (I a0.2.1) (.pair (I a0.2.2.1) (.pair (I a0.2.2.2.1) (.pair (.rep (.slice (.slice Tl)) x7) (.eq v5))))))] 1 ⟨⟨_,_,_,_,_,rfl,(.tail _ (.head _)),dh,(mU),rfl⟩,trivial⟩ rfl
def i9(k:Nat)(a0:bT):Option (Int×bT):=
 ((if a0.2.1 < (a0.1.length:Int) then((aH a0.1 a0.2.1).bind λx3=>
 some (IntKind.u64.wrap ((IntKind.u64.wrap ((IntKind.u64.wrap (a0.2.2 * 6364136223846793005))+1442695040888963407))+(IntKind.u64.wrap ((IntKind.u64.wrap x3) * 2862933555777941757))))) else(some (IntKind.u64.wrap ((IntKind.u64.wrap (a0.2.2 * 6364136223846793005))+1442695040888963407)))):Option (Int)).bind λx1=>
 (ck (a0.2.1+1)).bind λx4=>
 some (jf .u64 (t9 .u64 (IntKind.u64.wrap ((t9 .u64 x1 (jf .u64 x1 29)) * 2685821657736338717)) (jf .u64 (IntKind.u64.wrap ((t9 .u64 x1 (jf .u64 x1 29)) * 2685821657736338717)) 32)) 8,(a0.1,x4,x1))
theorem t6(k:Nat)(a0:bT)(c:Nat)(r:Int×bT)(h:i9 k a0=some r):
 cV Tryz.prog 59 [Pt c] [.obj c 74 (.agg (.pair (.rep Tl a0.1) (.pair (I a0.2.1) (.eq (.int .u64 a0.2.2)))))] (λ_:Unit=>(bF [.eq (.int .u64 r.1)],[.obj c 74 (.agg (.pair (.rep Tl r.2.1) (.pair (I r.2.2.1) (.eq (.int .u64 r.2.2.2)))))])):=by
 unfold i9 at h
 replace h:=bf h
 refine cV.of 67 Tryz.func59 rfl Tryz.ntmps59 rfl λS w0=>?_
 refine sr ?_
 refine cq ?_
 refine nt ?_
 refine sr ?_
 iterate 2 refine mq ?_
 refine ja (cY rfl) ?_
 refine fl uc ?_
 refine lo Gq ?_
 refine jb (DO rfl) ?_
 refine jb (I0 rfl) ?_
 refine ja (cY rfl) ?_
 refine fl uc ?_
 refine aO rfl rfl (aL rfl Gq rfl rfl rfl) ⟨rfl,rfl,trivial⟩ ?_
 refine nt ?_
 refine aE (Z:=Unit) (α:=Int) (λz2 x1=>[(0,Pt c)]) (λz2 x1=>[.obj c 74 (.agg (.pair (.rep Tl a0.1) (.pair (I a0.2.1) (.eq (.int .u64 x1)))))]) h (λK h=>?_) (λz2 x1 h=>?_)
 .
  refine ai (bB ?_);refine dm ?_;refine da (cY rfl) ?_;refine da (au rfl zM) ?_;refine ea 0 (ao rfl bP jI rfl) ?_;refine dm ?_;refine da (cY rfl) ?_;refine da (au rfl JL) ?_;refine ea 0 (ao rfl eM jI rfl) ?_;refine da (pP rfl rfl gh) ?_;refine df cF ?_;refine jb (bq rfl) ?_;refine nt (ci h (λh=>?_) (λh=>?_))
  .refine bB ?_;refine dm ?_;refine dm ?_;refine da (cY rfl) ?_;refine da (au rfl uc) ?_;refine ea 0 (ao rfl Gq jI rfl) ?_;refine dm ?_;refine da (cY rfl) ?_;refine da (au rfl JL) ?_;refine ea 0 (ao rfl eM jI rfl) ?_;refine dm ?_;refine da (cY rfl) ?_;refine da (au rfl zM) ?_;refine ea 0 (ao rfl bP jI rfl) ?_;obtain⟨x3,j,h⟩:=aa h;refine db (aD (t:=Ti) rfl gh bP j) ?_;refine da (an (t:=Ti) rfl bP rfl) ?_;refine da (tL rfl U3 UR) ?_;refine db (DO rfl) ?_;refine db (I0 rfl) ?_;refine df cF ?_;refine ja (cY rfl) ?_;refine fl uc ?_;refine aO rfl rfl (aL rfl Gq rfl rfl rfl) ⟨rfl,rfl,trivial⟩ ?_;refine nl ?_;exact jz ((),IntKind.u64.wrap ((IntKind.u64.wrap ((IntKind.u64.wrap (a0.2.2 * 6364136223846793005))+1442695040888963407))+(IntKind.u64.wrap ((IntKind.u64.wrap x3) * 2862933555777941757)))) h [0]
  .refine aX (ay ?_);exact jz ((),IntKind.u64.wrap ((IntKind.u64.wrap (a0.2.2 * 6364136223846793005))+1442695040888963407)) h [0]
 .
  refine sr (mq ?_);refine ja (cY rfl) ?_;refine fl zM ?_;refine lo bP ?_;obtain⟨x4,e,h⟩:=aa h;refine jb (aY rfl e) ?_;refine ja (cY rfl) ?_;refine fl zM ?_;refine aO rfl rfl (aL rfl bP rfl rfl rfl) ⟨rfl,rfl,trivial⟩ ?_;refine nt (ai (bB ?_));refine dm ?_;refine da (cY rfl) ?_;refine da (au rfl uc) ?_;refine ea 0 (ao rfl Gq jI rfl) ?_;refine dm ?_;refine da (cY rfl) ?_;refine da (au rfl uc) ?_;refine ea 0 (ao rfl Gq jI rfl) ?_;refine gg rfl rfl rfl (vR rfl (by decide)) ⟨rfl,rfl,trivial⟩ ?_;refine df cF ?_;refine jb (O1 rfl) ?_;refine aq (nt (sr ?_));refine mq ?_;refine jb (DO rfl) ?_;refine aq (nt (sr ?_));iterate 2 refine mq ?_
  refine cC rfl (vR rfl (by decide)) ⟨rfl,rfl,trivial⟩ ?_;refine jb (O1 rfl) ?_;refine cC rfl (vR rfl (by decide)) ⟨rfl,rfl,trivial⟩ ?_;refine aq (nt (aA ?_));cases h;exact aV () [_] 1 ⟨rfl,trivial⟩ rfl
def bY(k:Nat)(a0:bT)(a1:Int):Option (Int×bT):=
 if a1 < 1 then(some (0,(a0.1,a0.2.1,a0.2.2))) else((i9 k (a0.1,a0.2.1,a0.2.2)).bind λr1=>
 (ck (a1+1)).bind λx2=>
 (bV ((IntKind.u64.wrap x2)≠0)).bind λ_=>
 (ck (Int.tmod r1.1 (IntKind.u64.wrap x2))).bind λx4=>
 some (x4,(r1.2.1,r1.2.2.1,r1.2.2.2)))
theorem cj(k:Nat)(a0:bT)(c:Nat)(a1:Int)(r:Int×bT)(h:bY k a0 a1=some r):
 cV Tryz.prog 24 [Pt c,I a1] [.obj c 74 (.agg (.pair (.rep Tl a0.1) (.pair (I a0.2.1) (.eq (.int .u64 a0.2.2)))))] (λ_:Unit=>(bF [I r.1],[.obj c 74 (.agg (.pair (.rep Tl r.2.1) (.pair (I r.2.2.1) (.eq (.int .u64 r.2.2.2)))))])):=by
 unfold bY at h
 replace h:=bf h
 refine cV.of 14 Tryz.func24 rfl Tryz.ntmps24 rfl λS w0=>?_
 refine sr ?_
 refine cq ?_
 refine nt ?_
 refine ai ?_
 refine sr ?_
 refine mq ?_
 refine jb (bq rfl) ?_
 refine nt ?_
 refine ci h (λh=>?_) (λh=>?_)
 .
  refine sr (cq (nt (rx ?_)));cases h;exact aV () [_] 1 ⟨rfl,trivial⟩ rfl
 .
  refine sk (sr (mq ?_));obtain⟨r1,n,h⟩:=aa h;refine ka (av [.tmp 7] rfl rfl VO rfl (t6 k (a0.1,a0.2.1,a0.2.2) c r1 n)) ?_;refine mq ?_;obtain⟨x2,j,h⟩:=aa h;refine jb (aY rfl j) ?_;refine ja (tL rfl U3 UR) ?_;obtain⟨u3,l,h⟩:=aa h;refine jb (SG rfl (ap l)) ?_;obtain⟨x4,e,h⟩:=aa h;refine ja (Bj rfl UR U3 e) ?_;refine aq (nt (aA ?_));cases h;exact aV () [_] 1 ⟨rfl,trivial⟩ rfl
def fR(k:Nat)(a0:bT)(a1:Int):Option (Bool×bT):=
 (ck (a1 - 1)).bind λx1=>
 (bY k (a0.1,a0.2.1,a0.2.2) x1).bind λr2=>
 some (decide (r2.1=0),(r2.2.1,r2.2.2.1,r2.2.2.2))
theorem kx(k:Nat)(a0:bT)(c:Nat)(a1:Int)(r:Bool×bT)(h:fR k a0 a1=some r):
 cV Tryz.prog 46 [Pt c,I a1] [.obj c 74 (.agg (.pair (.rep Tl a0.1) (.pair (I a0.2.1) (.eq (.int .u64 a0.2.2)))))] (λ_:Unit=>(bF [.eq (.bool r.1)],[.obj c 74 (.agg (.pair (.rep Tl r.2.1) (.pair (I r.2.2.1) (.eq (.int .u64 r.2.2.2)))))])):=by
 unfold fR at h
 replace h:=bf h
 refine cV.of 10 Tryz.func46 rfl Tryz.ntmps46 rfl λS w0=>?_
 refine sr ?_
 refine cq ?_
 refine nt ?_
 refine sr ?_
 iterate 2 refine mq ?_
 obtain⟨x1,e,h⟩:=aa h
 refine jb (eJ rfl e) ?_
 obtain⟨r2,j,h⟩:=aa h
 have l:=cj k (a0.1,a0.2.1,a0.2.2) c x1 r2 j
 refine kb (av [.tmp 5,.tmp 7] rfl rfl uU rfl l) ?_
 refine jb (fV rfl) ?_
 refine aq ?_
 refine nt ?_
 refine aA ?_
 cases h
 exact aV () [_] 1 ⟨rfl,trivial⟩ rfl
def gy(k:Nat)(a0:bT)(a1:Int)(a2:Int):Option (Int×bT):=
 (ck (a2 - a1)).bind λx1=>
 (bY k (a0.1,a0.2.1,a0.2.2) x1).bind λr2=>
 (ck (a1+r2.1)).bind λx3=>
 some (x3,(r2.2.1,r2.2.2.1,r2.2.2.2))
theorem jW(k:Nat)(a0:bT)(c:Nat)(a1:Int)(a2:Int)(r:Int×bT)(h:gy k a0 a1 a2=some r):
 cV Tryz.prog 98 [Pt c,I a1,I a2] [.obj c 74 (.agg (.pair (.rep Tl a0.1) (.pair (I a0.2.1) (.eq (.int .u64 a0.2.2)))))] (λ_:Unit=>(bF [I r.1],[.obj c 74 (.agg (.pair (.rep Tl r.2.1) (.pair (I r.2.2.1) (.eq (.int .u64 r.2.2.2)))))])):=by
 unfold gy at h
 replace h:=bf h
 refine cV.of 14 Tryz.func98 rfl Tryz.ntmps98 rfl λS w0=>?_
 refine sr ?_
 refine cq ?_
 refine nt ?_
 refine sr ?_
 iterate 4 refine mq ?_
 obtain⟨x1,j,h⟩:=aa h
 refine jb (eJ rfl j) ?_
 obtain⟨r2,l,h⟩:=aa h
 have n:=cj k (a0.1,a0.2.1,a0.2.2) c x1 r2 l
 refine kb (av [.tmp 8,.tmp 11] rfl rfl uU rfl n) ?_
 obtain⟨x3,e,h⟩:=aa h
 refine jb (aY rfl e) ?_
 refine aq ?_
 refine nt ?_
 refine aA ?_
 cases h
 exact aV () [_] 1 ⟨rfl,trivial⟩ rfl
def iI(k:Nat)(a0:bT)(a1:(List Int)):Option (Int×bT):=
 (ck ((a1.length:Int) - 1)).bind λx1=>
 (bY k (a0.1,a0.2.1,a0.2.2) x1).bind λr2=>
 (aH a1 r2.1).bind λx3=>
 some (x3,(r2.2.1,r2.2.2.1,r2.2.2.2))
theorem mI(k:Nat)(a0:bT)(c:Nat)(a1:(List Int))(r:Int×bT)(h:iI k a0 a1=some r):
 cV Tryz.prog 99 [Pt c,.rep Tl a1] [.obj c 74 (.agg (.pair (.rep Tl a0.1) (.pair (I a0.2.1) (.eq (.int .u64 a0.2.2)))))] (λ_:Unit=>(bF [I r.1],[.obj c 74 (.agg (.pair (.rep Tl r.2.1) (.pair (I r.2.2.1) (.eq (.int .u64 r.2.2.2)))))])):=by
 unfold iI at h
 replace h:=bf h
 refine cV.of 13 Tryz.func99 rfl Tryz.ntmps99 rfl λS w0=>?_
 refine sr ?_
 refine cq ?_
 refine nt ?_
 refine sr ?_
 iterate 3 refine mq ?_
 refine ol gh ?_
 obtain⟨x1,j,h⟩:=aa h
 refine jb (eJ rfl j) ?_
 obtain⟨r2,l,h⟩:=aa h
 have n:=cj k (a0.1,a0.2.1,a0.2.2) c x1 r2 l
 refine kb (av [.tmp 6,.tmp 9] rfl rfl uU rfl n) ?_
 obtain⟨x3,e,h⟩:=aa h
 refine jb (aD (t:=Ti) rfl gh bP e) ?_
 refine ja (an (t:=Ti) rfl bP rfl) ?_
 refine aq ?_
 refine nt ?_
 refine aA ?_
 cases h
 exact aV () [_] 1 ⟨rfl,trivial⟩ rfl
def eF(k:Nat)(a1:Int):Nat->((List Int)×Int×Int×(List Int)×Int)->Option ((List Int)×(List Int)×Int×Int)
 |0,_=>none
 |n+1,y3=>
  if y3.2.2.2.2 < a1 then((bY k (y3.1,y3.2.1,y3.2.2.1) y3.2.2.2.2).bind λr5=>
  (bV (bh (length y3.2.2.2.1+length [y3.2.2.2.2]))).bind λ_=>
  (aH (y3.2.2.2.1++[y3.2.2.2.2]) r5.1).bind λx8=>
  (aH (y3.2.2.2.1++[y3.2.2.2.2]) y3.2.2.2.2).bind λx9=>
  (aH (List.set (y3.2.2.2.1++[y3.2.2.2.2]) (Int.toNat y3.2.2.2.2) x8) r5.1).bind λe=>
  (ck (y3.2.2.2.2+1)).bind λc=>
  eF k a1 n (r5.2.1,r5.2.2.1,r5.2.2.2,List.set (List.set (y3.2.2.2.1++[y3.2.2.2.2]) (Int.toNat y3.2.2.2.2) x8) (Int.toNat r5.1) y3.2.2.2.2,c)) else(some (y3.2.2.2.1,y3.1,y3.2.1,y3.2.2.1))
def iJ(k:Nat)(a0:bT)(a1:Int):Option ((List Int)×bT):=
 ((eF k a1 k (a0.1,a0.2.1,a0.2.2,([]:(List Int)),0)):Option ((List Int)×(List Int)×Int×Int)).bind λx1=>
 some (x1.1,(x1.2.1,x1.2.2.1,x1.2.2.2))
theorem s5(k:Nat)(a0:bT)(c:Nat)(a1:Int)(r:(List Int)×bT)(h:iJ k a0 a1=some r):
 cV Tryz.prog 117 [Pt c,I a1] [.obj c 74 (.agg (.pair (.rep Tl a0.1) (.pair (I a0.2.1) (.eq (.int .u64 a0.2.2)))))] (λ_:Unit=>(bF [.rep Tl r.1],[.obj c 74 (.agg (.pair (.rep Tl r.2.1) (.pair (I r.2.2.1) (.eq (.int .u64 r.2.2.2)))))])):=by
 unfold iJ at h
 replace h:=bf h
 refine cV.of 32 Tryz.func117 rfl Tryz.ntmps117 rfl λS w0=>?_
 refine sr ?_
 refine cq ?_
 refine nt ?_
 refine sr ?_
 refine cq ?_
 refine nt ?_
 refine aE (Z:=Value) (α:=(List Int)×(List Int)×Int×Int) (λz2 x1=>[(5,.eq z2)]) (λz2 x1=>[.sl z2 3 Ti x1.1,.obj c 74 (.agg (.pair (.rep Tl x1.2.1) (.pair (I x1.2.2.1) (.eq (.int .u64 x1.2.2.2)))))]) h (λK h=>?_) (λz2 x1 h=>?_)
 .
  refine sr (cq (nt (ah ?_)));refine gz (SE.nil 3 Ti) ?_;refine aF (λz4 y3=>[(0,Pt c),(1,I a1),(5,.eq z4),(6,I y3.2.2.2.2)]) (λz4 y3=>[.obj c 74 (.agg (.pair (.rep Tl y3.1) (.pair (I y3.2.1) (.eq (.int .u64 y3.2.2.1))))),.sl z4 3 Ti y3.2.2.2.1]) (eF k a1) k (.slice none 0 0) (a0.1,a0.2.1,a0.2.2,([]:(List Int)),0) (λ_=>rfl) h (SE.fin [1,0] ⟨rfl,rfl,rfl,rfl,trivial⟩ rfl) (λn z4 y3 h=>?_);unfold eF at h;refine ai (sr ?_);iterate 2 refine mq ?_
  refine jb (bq rfl) ?_;refine nt (ci h (λh=>?_) (λh=>?_))
  .refine sk (ai (ah (sr ?_)));iterate 2 refine mq ?_
   obtain⟨r5,y,h⟩:=aa h;refine kb (av [.tmp 13,.tmp 14] rfl rfl uU rfl (cj k (y3.1,y3.2.1,y3.2.2.1) c y3.2.2.2.2 r5 y)) ?_;refine aq (nt (sr ?_));iterate 2 refine mq ?_
   refine ja (aU (t:=Ti) [(.tmp 17,_)] [y3.2.2.2.2] rfl rfl cJ (.cons rfl .int .nil) rfl rfl) ?_;obtain⟨u6,x,h⟩:=aa h;refine fr 1 ?_;refine cE rfl rfl rfl (bi rfl rfl cJ (ap x)) ⟨rfl,rfl,trivial⟩ λv7=>?_;refine aq (nt (ae ?_));iterate 6 refine mq ?_
   obtain⟨x8,l,h⟩:=aa h;refine kb (cN (t:=Ti) rfl gh bP l) ?_;refine ka (ii (i:=Int.toNat r5.1) (off:=0) rfl bP (λ_=>rfl) rfl (dK l).2.2 rfl) ?_;refine mq ?_;obtain⟨x9,j,h⟩:=aa h;refine kb (cN (t:=Ti) rfl gh bP j) ?_;refine aO rfl rfl (iy (i:=Int.toNat y3.2.2.2.2) rfl bP rfl (oP j) rfl .int rfl) ⟨rfl,rfl,trivial⟩ ?_;obtain⟨D,e,h⟩:=aa h;refine kb (cN (t:=Ti) rfl gh bP e) ?_;refine aO rfl rfl (iy (i:=Int.toNat r5.1) rfl bP rfl (oP e) rfl .int rfl) ⟨rfl,rfl,trivial⟩ ?_;refine aG (aI (tn (ae (mq ?_))));obtain⟨u,s,h⟩:=aa h;refine jb (aY rfl s) ?_;refine aq (nl ?_);exact jz (v7,(r5.2.1,r5.2.2.1,r5.2.2.2,List.set (List.set (y3.2.2.2.1++[y3.2.2.2.2]) (Int.toNat y3.2.2.2.2) x8) (Int.toNat r5.1) y3.2.2.2.2,u)) h [1,0]
  .refine xa ?_;exact jz (z4,(y3.2.2.2.1,y3.1,y3.2.1,y3.2.2.1)) h [1,0]
 .
  refine sr (mq ?_);refine aq (nt (aA ?_));refine bA (fU [4,5,31] ⟨rfl,rfl,rfl,trivial⟩) ?_;cases h;exact aV () [_] 1 ⟨rfl,trivial⟩ rfl
def je(k:Nat)(a0:bT)(a1:zU):Option (aW×bT):=
 (ck (a1.1 - 1)).bind λx3=>
 (bY k (a0.1,a0.2.1,a0.2.2) x3).bind λr4=>
 (bY k (r4.2.1,r4.2.2.1,r4.2.2.2) (a1.2.2.2.2.1.length:Int)).bind λr5=>
 (fR k (r5.2.1,r5.2.2.1,r5.2.2.2) 2).bind λr6=>
 some ((r4.1,r5.1,r6.1),(r6.2.1,r6.2.2.1,r6.2.2.2))
theorem t8(k:Nat)(a0:bT)(c:Nat)(a1:zU)(r:aW×bT)(h:je k a0 a1=some r):
 cV Tryz.prog 67 [Pt c,.rep EP a1] [.obj c 74 (.agg (.pair (.rep Tl a0.1) (.pair (I a0.2.1) (.eq (.int .u64 a0.2.2)))))] (λ_:Unit=>(bF [.rep aJ r.1],[.obj c 74 (.agg (.pair (.rep Tl r.2.1) (.pair (I r.2.2.1) (.eq (.int .u64 r.2.2.2)))))])):=by
 unfold je at h
 replace h:=bf h
 refine cV.of 18 Tryz.func67 rfl Tryz.ntmps67 rfl λS w0=>?_
 refine sr ?_
 refine bx λb1=>?_
 refine be rfl rfl rfl (bz rfl Gg Og) trivial λb2=>?_
 refine nt ?_
 refine ai ?_
 refine HC [1,2,3,5,6,7,8,10,0,4,9,11,12,13] (by kernel_rfl) ?_
 refine bj rfl rfl rfl (au rfl eW) ⟨rfl,trivial⟩ ?_
 refine iK 1 rfl rfl rfl rfl (ao rfl bP jI rfl) ⟨rfl,trivial⟩ ?_
 obtain⟨x3,E,h⟩:=aa h
 refine bj rfl rfl rfl (eJ rfl E) ⟨rfl,rfl,trivial⟩ ?_
 refine bj rfl rfl rfl (aS rfl) ⟨rfl,trivial⟩ ?_
 refine bj rfl rfl rfl (au rfl cu) ⟨rfl,trivial⟩ ?_
 refine iK 1 rfl rfl rfl rfl (ao rfl fp jI rfl) ⟨rfl,trivial⟩ ?_
 refine bj rfl rfl rfl (pP rfl rfl po) ⟨rfl,trivial⟩ ?_
 refine bj rfl rfl rfl (aS rfl) ⟨rfl,trivial⟩ ?_
 refine bj rfl rfl rfl (aS rfl) ⟨rfl,trivial⟩ ?_
 refine sj 9 [true,true,true,false,false,false,false,false,true] [9,14] [1] [.obj b1 25 (.rep EP a1)] rfl (by kernel_rfl) (by kernel_rfl) (by kernel_rfl) cF (λvs hv hB=>?_)
 obtain⟨w0,WY,rfl,D⟩:=ax hv
 obtain⟨w1,zz,rfl,y⟩:=ax D
 obtain⟨w2,qt,rfl,x⟩:=ax y
 obtain⟨w3,mw,rfl,u⟩:=ax x
 obtain⟨w4,mc,rfl,s⟩:=ax u
 obtain⟨w5,gw,rfl,n⟩:=ax s
 obtain⟨w6,Z,rfl,l⟩:=ax n
 obtain⟨w7,Y,rfl,j⟩:=ax l
 obtain⟨w8,X,rfl,e⟩:=ax j
 obtain rfl:=oO e
 refine⟨[1,0,2],[.obj b2 27 (.agg (.pair (I 0) (.pair (I 0) (.eq (.bool false))))),.obj c 74 (.agg (.pair (.rep Tl a0.1) (.pair (I a0.2.1) (.eq (.int .u64 a0.2.2)))))],by kernel_rfl,by decide,?_⟩
 obtain⟨r4,M,h⟩:=aa h
 have U:=cj k (a0.1,a0.2.1,a0.2.2) c x3 r4 M
 refine oq 1 rfl ?_
 refine wT rfl rfl rfl rfl (av [.tmp 5,.tmp 8] rfl rfl uU rfl U) ⟨rfl,rfl,trivial⟩ (by kernel_rfl) ?_
 obtain⟨r5,J,h⟩:=aa h
 have Q:=cj k (r4.2.1,r4.2.2.1,r4.2.2.2) c (a1.2.2.2.2.1.length:Int) r5 J
 refine wT rfl rfl rfl rfl (av [.tmp 10,.tmp 13] rfl rfl uU rfl Q) ⟨rfl,rfl,trivial⟩ (by kernel_rfl) ?_
 refine Ri (by kernel_rfl) ?_
 obtain⟨r6,F,h⟩:=aa h
 have O:=kx k (r5.2.1,r5.2.2.1,r5.2.2.2) c 2 r6 F
 refine fr 1 ?_
 refine kb (av [.tmp 15,.const (.int .i64 (2))] rfl rfl QP rfl O) ?_
 refine jc (dA [(0,.tmp 9,_),(1,.tmp 14,_),(2,.tmp 16,_)] rfl Sl Gg Po (iV ⟨rfl,rfl,rfl,trivial⟩) rfl) ?_
 refine fr 2 ?_
 refine aO rfl rfl (aL rfl ny trivial rfl rfl) ⟨rfl,rfl,trivial⟩ ?_
 refine nt ?_
 refine aA ?_
 refine bA (fX (a:=.agg (.pair (I r4.1) (.pair (I r5.1) (.eq (.bool r6.1))))) (a':=.rep aJ (r4.1,r5.1,r6.1)) (iU (.agg (.pair .int (.pair .int .bool))))) ?_
 refine bA (SE.fin (Γ':=[(4,_)]) [1,0,2] ⟨rfl,trivial⟩ rfl) ?_
 cases h
 exact aV () [.rep aJ (r4.1,r5.1,r6.1)] 1 ⟨⟨_,_,_,_,_,rfl,(.tail _ (.head _)),ny,(mU),rfl⟩,trivial⟩ rfl
def fP(k:Nat)(a0:Int)(a1:Int)(a2:Int):Option Bool:=
 ((if a1≤a0 then(some (decide (a0≤a2))) else(some false)):Option (Bool)).bind λx1=>
 some x1
theorem ig(k:Nat)(a0:Int)(a1:Int)(a2:Int)(r:Bool)(h:fP k a0 a1 a2=some r):
 cV Tryz.prog 56 [I a0,I a1,I a2] [] (λ_:Unit=>(bF [.eq (.bool r)],[])):=by
 unfold fP at h
 replace h:=bf h
 refine cV.of 15 Tryz.func56 rfl Tryz.ntmps56 rfl λS w0=>?_
 refine sr ?_
 refine cq ?_
 refine nt ?_
 refine aE (Z:=Unit) (α:=Bool) (λz2 x1=>[(6,.eq (.bool x1))]) (λz2 x1=>[]) h (λK h=>?_) (λz2 x1 h=>?_)
 .
  refine ae ?_;iterate 2 refine mq ?_
  refine jb (hJ rfl) ?_;refine mq ?_;refine cy (s:=10) rfl (λhb=>?_) (λhb=>?_)
  .replace h:=ek (wA hb) h;refine gm ?_;refine gm ?_;refine gb (Bh rfl) ?_;refine pt ?_;refine aq (nl ?_);exact jz ((),decide (a0≤a2)) h []
  .replace h:=cM (wB hb) h;iterate 3 refine gn ?_
   refine pf ?_;refine aq (nl ?_);exact jz ((),false) h []
 .
  refine aA ?_;cases h;exact ra
def ee(k:Nat)(a0:ab)(a1:Int):Option Bool:=
 (fP k a1 0 (IntKind.i64.wrap (a0.1 - 1))).bind λr2=>
 some r2
theorem kg(k:Nat)(a0:ab)(a1:Int)(r:Bool)(h:ee k a0 a1=some r):
 cV Tryz.prog 76 [.rep ak a0,I a1] [] (λ_:Unit=>(bF [.eq (.bool r)],[])):=by
 unfold ee at h
 replace h:=bf h
 refine cV.of 10 Tryz.func76 rfl Tryz.ntmps76 rfl λS w0=>?_
 refine sr ?_
 refine bx λb1=>?_
 refine cq ?_
 refine nt ?_
 refine sr ?_
 refine mq ?_
 refine fl eW ?_
 refine lo bP ?_
 refine jb (Qj rfl) ?_
 obtain⟨r2,c,h⟩:=aa h
 have e:=ig k a1 0 (IntKind.i64.wrap (a0.1 - 1)) r2 c
 refine jc (av [.tmp 5,.const (.int .i64 (0)),.tmp 8] rfl rfl G1 rfl e) ?_
 refine aq ?_
 refine nt ?_
 refine aA ?_
 cases h
 exact ra
def iv(k:Nat)(a0:(List Int))(a1:Int):Nat->Int->Option (Except Bool Unit)
 |0,_=>none
 |n+1,y3=>
  if y3 < (a0.length:Int) then((aH a0 y3).bind λx5=>
  if x5=a1 then(some (.error true)) else((ck (y3+1)).bind λx6=>
  iv k a0 a1 n x6)) else(some (.ok ()))
def oC(k:Nat)(a0:(List Int))(a1:Int):Option Bool:=
 bE (α:=Unit) (iv k a0 a1 k 0) (some) λ_=>
 some false
theorem rC(k:Nat)(a0:(List Int))(a1:Int)(r:Bool)(h:oC k a0 a1=some r):
 cV Tryz.prog 77 [.rep Tl a0,I a1] [] (λ_:Unit=>(bF [.eq (.bool r)],[])):=by
 unfold oC at h
 replace h:=bf h
 refine cV.of 18 Tryz.func77 rfl Tryz.ntmps77 rfl λS w0=>?_
 refine sr ?_
 refine cq ?_
 refine nt ?_
 refine cU (Z:=Unit) (α:=Unit) (λz2 x1=>[]) (λz2 x1=>[]) (λe=>e=r) h (λe h=>Option.some.inj h) (λK hR h=>?_) (λz2 x1 h=>?_)
 .
  refine sr (cq (nt (ah ?_)));refine aF (λz4 y3=>[(0,.rep Tl a0),(1,I a1),(5,I y3)]) (λz4 y3=>[]) (iv k a0 a1) k () 0 (λ_=>rfl) h (SE.fin [] ⟨rfl,rfl,rfl,trivial⟩ rfl) (λn z4 y3 h=>?_);unfold iv at h;refine ai (sr ?_);iterate 2 refine mq ?_
  refine ol gh ?_;refine jb (bq rfl) ?_;refine nt (ci h (λh=>?_) (λh=>?_))
  .refine sk (ai (ah (sr ?_)));iterate 2 refine mq ?_
   obtain⟨x5,j,h⟩:=aa h;refine jb (aD (t:=Ti) rfl gh bP j) ?_;refine ja (an (t:=Ti) rfl bP rfl) ?_;refine mq ?_;refine jb (fV rfl) ?_;refine nt (ci h (λh=>?_) (λh=>?_))
   .refine sr (cq (nt (aA (br (aR (aP ?_))))));obtain rfl:=hR _ h;exact ra
   .refine aX (aI (tn (ae (mq ?_))));obtain⟨x6,c,h⟩:=aa h;refine jb (aY rfl c) ?_;refine aq (nl ?_);exact jz ((),x6) h []
  .refine xa ?_;exact jz ((),()) h []
 .
  refine sr (cq (nt (aA ?_)));cases h;exact ra
def dM(k:Nat)(a0:ab)(a1:(List (List Int)))(y4:(List Int)×Int):Nat->((List Int)×Int)->Option (Except Int (List Int))
 |0,_=>none
 |n+1,y8=>
  (aH a1 y4.2).bind λu=>
  if y8.2 < (u.length:Int) then((aH a1 y4.2).bind λs=>
  (aH s y8.2).bind λr=>
  (ee k a0 r).bind λy=>
  if¬(y=true) then(some (.error 3)) else((aH a1 y4.2).bind λl=>
  (aH l y8.2).bind λj=>
  (oC k y8.1 j).bind λx=>
  if x=true then(some (.error 4)) else((aH a1 y4.2).bind λh=>
  (aH h y8.2).bind λc=>
  (bV (bh (length y8.1+length [c]))).bind λ_=>
  (ck (y8.2+1)).bind λe=>
  dM k a0 a1 y4 n (y8.1++[c],e)))) else(some (.ok y8.1))
def dN(k:Nat)(a0:ab)(a1:(List (List Int))):Nat->((List Int)×Int)->Option (Except Int Unit)
 |0,_=>none
 |n+1,y4=>
  if y4.2 < (a1.length:Int) then(bE (α:=(List Int)) (dM k a0 a1 y4 k (y4.1,0)) (λe=>some (.error e)) λx6=>
  (ck (y4.2+1)).bind λc=>
  dN k a0 a1 n (x6,c)) else(some (.ok ()))
def jM(k:Nat)(a0:ab)(a1:(List (List Int))):Option Int:=
 if 3 < (a1.length:Int) then(some 6) else(bE (α:=Unit) (dN k a0 a1 k (([]:(List Int)),0)) (some) λ_=>
 some 0)
theorem uO(k:Nat)(a0:ab)(a1:(List (List Int)))(r:Int)(h:jM k a0 a1=some r):
 cV Tryz.prog 57 [.rep ak a0,.rep (.slice Tl) a1] [] (λ_:Unit=>(bF [I r],[])):=by
 unfold jM at h
 replace h:=bf h
 refine cV.of 55 Tryz.func57 rfl Tryz.ntmps57 rfl λS w0=>?_
 refine sr ?_
 refine bx λb1=>?_
 refine cq ?_
 refine nt ?_
 refine ai ?_
 refine sr ?_
 refine mq ?_
 refine ol nq ?_
 refine jb (iY rfl) ?_
 refine nt ?_
 refine ci h (λh=>?_) (λh=>?_)
 .
  refine sr (cq (nt (rx ?_)));cases h;exact ra
 .
  refine sk (sr (cq (nt ?_)));refine cU (Z:=Unit) (α:=Unit) (λz3 x2=>[]) (λz3 x2=>[]) (λe=>e=r) h (λe h=>Option.some.inj h) (λK hR h=>?_) (λz3 x2 h=>?_)
  .refine sr (cq (nt (ah ?_)));refine gz (SE.nil 3 Ti) ?_;refine aF (λz5 y4=>[(1,.rep (.slice Tl) a1),(2,Pt b1),(5,.eq z5),(6,I y4.2)]) (λz5 y4=>[.obj b1 25 (.rep ak a0),.sl z5 3 Ti y4.1]) (dN k a0 a1) k (.slice none 0 0) (([]:(List Int)),0) (λ_=>rfl) h (SE.fin [1,0] ⟨rfl,rfl,rfl,rfl,trivial⟩ rfl) (λn z5 y4 h=>?_);unfold dN at h;refine ai (sr ?_);iterate 2 refine mq ?_
   refine ol nq ?_;refine jb (bq rfl) ?_;refine nt (ci h (λh=>?_) (λh=>?_))
   .refine sk (cU (Z:=Value) (α:=(List Int)) (λz7 x6=>[(1,.rep (.slice Tl) a1),(2,Pt b1),(5,.eq z7),(6,I y4.2)]) (λz7 x6=>[.obj b1 25 (.rep ak a0),.sl z7 3 Ti x6]) (λe=>e=r) h (λe h=>hR e h) (λK hR h=>?_) (λz7 x6 h=>?_))
    .refine ah (sr (cq (nt (ah ?_))));refine aF (λz9 y8=>[(1,.rep (.slice Tl) a1),(2,Pt b1),(5,.eq z9),(6,I y4.2),(7,I y8.2)]) (λz9 y8=>[.obj b1 25 (.rep ak a0),.sl z9 3 Ti y8.1]) (dM k a0 a1 y4) k z5 (y4.1,0) (λ_=>rfl) h (SE.fin [0,1] ⟨rfl,rfl,rfl,rfl,rfl,trivial⟩ rfl) (λn z9 y8 h=>?_);unfold dM at h;refine ai (sr ?_);iterate 3 refine mq ?_
     obtain⟨WZ,J,h⟩:=aa h;refine jb (aD (t:=Tl) rfl nq eM J) ?_;refine ja (an (t:=Tl) rfl eM rfl) ?_;refine ol gh ?_;refine jb (bq rfl) ?_;refine nt (ci h (λh=>?_) (λh=>?_))
     .refine sk (ai (ah (ai (ai (bB ?_)))));refine ea 0 (ao rfl dh (mU) rfl) ?_;refine dm ?_;refine dm ?_;obtain⟨WY,F,h⟩:=aa h;refine db (aD (t:=Tl) rfl nq eM F) ?_;refine da (an (t:=Tl) rfl eM rfl) ?_;refine dm ?_;obtain⟨Y,E,h⟩:=aa h;refine db (aD (t:=Ti) rfl gh bP E) ?_;refine da (an (t:=Ti) rfl bP rfl) ?_;refine df cF ?_;obtain⟨mw,Q,h⟩:=aa h;refine jb (av [.tmp 26,.tmp 33] rfl rfl QL rfl (kg k a0 Y mw Q)) ?_;refine ja (ff rfl) ?_;refine nt (cw h (λh=>?_) (λh=>?_))
      .refine sr (cq (nt (rx (br (aR (br (aR (aP ?_))))))));obtain rfl:=hR _ h;exact ra
      .refine sk (ai (sr ?_));iterate 3 refine mq ?_
       obtain⟨zz,D,h⟩:=aa h;refine jb (aD (t:=Tl) rfl nq eM D) ?_;refine ja (an (t:=Tl) rfl eM rfl) ?_;refine mq ?_;obtain⟨j,y,h⟩:=aa h;refine jb (aD (t:=Ti) rfl gh bP y) ?_;refine ja (an (t:=Ti) rfl bP rfl) ?_;obtain⟨mc,O,h⟩:=aa h;refine fr 1 ?_;refine kb (kB (N:=[(.tmp 36,.eq z9),(.tmp 43,I j)]) (av [.tmp 36,.tmp 43] rfl rfl QK rfl (rC k y8.1 j mc O)) (λ_ _ _ hv hn=>⟨(lend hn.1 hv),hn.2.1,trivial⟩) (λ_=>⟨rfl,oe⟩)) ?_;refine nt (cv h (λh=>?_) (λh=>?_))
       .refine sr (cq (nt (rx (br (aR (br (aR (aP ?_))))))));obtain rfl:=hR _ h;exact ra
       .refine sk (ae ?_);iterate 3 refine mq ?_
        obtain⟨qt,x,h⟩:=aa h;refine jb (aD (t:=Tl) rfl nq eM x) ?_;refine ja (an (t:=Tl) rfl eM rfl) ?_;refine mq ?_;obtain⟨c,u,h⟩:=aa h;refine jb (aD (t:=Ti) rfl gh bP u) ?_;refine ja (an (t:=Ti) rfl bP rfl) ?_;refine ja (aU (t:=Ti) [(.tmp 52,_)] [c] rfl rfl cJ (.cons rfl .int .nil) rfl rfl) ?_;obtain⟨W0,M,h⟩:=aa h;refine cE rfl rfl rfl (bi rfl rfl cJ (ap M)) ⟨rfl,rfl,trivial⟩ λgw=>?_;refine aq (aG (aI (tn (ae ?_))));refine mq ?_;obtain⟨X,s,h⟩:=aa h;refine jb (aY rfl s) ?_;refine aq (nl ?_);exact jz (gw,(y8.1++[c],X)) h [1,0]
     .refine dT (bv (bv (ce (bn ?_))));exact jz (z9,y8.1) h [0,1]
    .refine ae (mq ?_);obtain⟨U,l,h⟩:=aa h;refine jb (aY rfl l) ?_;refine aq (nl ?_);exact jz (z7,(x6,U)) h [0,1]
   .refine xa ?_;exact jz ((),()) h []
  .refine sr (cq (nt (aA ?_)));cases h;exact ra
def fO(k:Nat)(a0:ab)(a1:Int):Option Bool:=
 (fP k a1 0 (a0.2.2.2.2.1.length:Int)).bind λr2=>
 some r2
theorem nR(k:Nat)(a0:ab)(a1:Int)(r:Bool)(h:fO k a0 a1=some r):
 cV Tryz.prog 64 [.rep ak a0,I a1] [] (λ_:Unit=>(bF [.eq (.bool r)],[])):=by
 unfold fO at h
 replace h:=bf h
 refine cV.of 10 Tryz.func64 rfl Tryz.ntmps64 rfl λS w0=>?_
 refine sr ?_
 refine bx λb1=>?_
 refine cq ?_
 refine nt ?_
 refine sr ?_
 refine mq ?_
 refine fl cu ?_
 refine lo fp ?_
 refine ol po ?_
 obtain⟨r2,c,h⟩:=aa h
 have e:=ig k a1 0 (a0.2.2.2.2.1.length:Int) r2 c
 refine jc (av [.tmp 5,.const (.int .i64 (0)),.tmp 8] rfl rfl G1 rfl e) ?_
 refine aq ?_
 refine nt ?_
 refine aA ?_
 cases h
 exact ra
def g9(k:Nat)(a0:ab)(a1:aW):Option Int:=
 (((ee k a0 a1.1).bind λr5=>
 if¬(r5=true) then(some true) else((fO k a0 a1.2.1).bind λr6=>
 some (!r6))):Option (Bool)).bind λx3=>
 if x3=true then(some 3) else(some 0)
theorem rD(k:Nat)(a0:ab)(a1:aW)(r:Int)(h:g9 k a0 a1=some r):
 cV Tryz.prog 58 [.rep ak a0,.rep aJ a1] [] (λ_:Unit=>(bF [I r],[])):=by
 unfold g9 at h
 replace h:=bf h
 refine cV.of 17 Tryz.func58 rfl Tryz.ntmps58 rfl λS w0=>?_
 refine sr ?_
 refine bx λb1=>?_
 refine bx λb2=>?_
 refine cq ?_
 refine nt ?_
 refine ai ?_
 refine aE (Z:=Unit) (α:=Bool) (λz4 x3=>[(16,.eq (.bool x3))]) (λz4 x3=>[]) h (λK h=>?_) (λz4 x3 h=>?_)
 .
  refine ae (fr 1 ?_);refine lo dh ?_;refine fl zO ?_;refine fr 1 ?_;refine lo bP ?_;obtain⟨r5,e,h⟩:=aa h;refine jb (av [.tmp 5,.tmp 7] rfl rfl QL rfl (kg k a0 a1.1 r5 e)) ?_;refine ja (ff rfl) ?_;refine mq ?_;refine cy (s:=10) rfl (λhb=>?_) (λhb=>?_)
  .replace h:=ek (tN hb) h;iterate 5 refine gn ?_
   refine pt (nl ?_);exact jz ((),true) h []
  .replace h:=cM (nW hb) h;refine fr 1 ?_;refine eY rfl rfl rfl rfl rfl rfl (ao rfl dh (mU) rfl) ⟨rfl,trivial⟩ ?_;refine ga (au rfl zN) ?_;refine fr 1 ?_;refine eY rfl rfl rfl rfl rfl rfl (ao rfl bP jI rfl) ⟨rfl,trivial⟩ ?_;obtain⟨r6,c,h⟩:=aa h;refine gb (av [.tmp 11,.tmp 13] rfl rfl TN rfl (nR k a0 a1.2.1 r6 c)) ?_;refine ga (ff rfl) ?_;refine pf (nl ?_);exact jz ((), !r6) h []
 .
  refine cv h (λh=>?_) (λh=>?_)
  .refine sr (cq (nt (rx ?_)));cases h;exact ra
  .refine sk (sr (cq (nt (aA ?_))));cases h;exact ra
def fB(k:Nat)(a0:ab):Nat->Int->Option (Except Int Unit)
 |0,_=>none
 |n+1,c=>
  if c < (a0.2.2.2.2.1.length:Int) then((aH a0.2.2.2.2.1 c).bind λj=>
  (jM k a0 j).bind λe=>
  if¬(e=0) then(some (.error e)) else((ck (c+1)).bind λh=>
  fB k a0 n h)) else(some (.ok ()))
def fA(k:Nat)(a0:ab):Nat->Int->Option (Except Int Unit)
 |0,_=>none
 |n+1,c=>
  if c < (a0.2.2.2.2.2.length:Int) then((aH a0.2.2.2.2.2 c).bind λj=>
  (g9 k a0 j).bind λe=>
  if¬(e=0) then(some (.error e)) else((ck (c+1)).bind λh=>
  fA k a0 n h)) else(some (.ok ()))
def nU(k:Nat)(a0:ab):Option Int:=
 (((fP k a0.1 1 5).bind λr4=>
 if¬(r4=true) then(some true) else((fP k a0.2.1 0 3).bind λr5=>
 if¬(r5=true) then(some true) else((fP k a0.2.2.1 0 3).bind λr6=>
 if¬(r6=true) then(some true) else((fP k a0.2.2.2.1 1 3).bind λr7=>
 some (!r7))))):Option (Bool)).bind λx2=>
 if x2=true then(some 1) else(if(a0.2.2.2.2.1.length:Int)=0 then(some 7) else(if 6 < (a0.2.2.2.2.1.length:Int) then(some 6) else(bE (α:=Unit) (fB k a0 k 0) (some) λ_=>
 if 8 < (a0.2.2.2.2.2.length:Int) then(some 6) else(bE (α:=Unit) (fA k a0 k 0) (some) λ_=>
 some 0))))
theorem zd(k:Nat)(a0:ab)(r:Int)(h:nU k a0=some r):
 cV Tryz.prog 20 [.rep ak a0] [] (λ_:Unit=>(bF [I r],[])):=by
 unfold nU at h
 replace h:=bf h
 refine cV.of 75 Tryz.func20 rfl Tryz.ntmps20 rfl λS w0=>?_
 refine sr ?_
 refine bx λb1=>?_
 refine cq ?_
 refine nt ?_
 refine ai ?_
 refine aE (Z:=Unit) (α:=Bool) (λz3 x2=>[(1,Pt b1),(28,.eq (.bool x2))]) (λz3 x2=>[.obj b1 25 (.rep ak a0)]) h (λK h=>?_) (λz3 x2 h=>?_)
 .
  refine ae (fl eW ?_);refine lo bP ?_;obtain⟨r4,WY,h⟩:=aa h;refine jc (av [.tmp 8,.const (.int .i64 (1)),.const (.int .i64 (5))] rfl rfl G1 rfl (ig k a0.1 1 5 r4 WY)) ?_;refine ja (ff rfl) ?_;refine mq ?_;refine cy (s:=11) rfl (λhb=>?_) (λhb=>?_)
  .replace h:=ek (tN hb) h;iterate 4 refine gn ?_
   refine pt ?_;refine mq ?_;iterate 4 refine gn ?_
   refine pt ?_;refine mq ?_;iterate 4 refine gn ?_
   refine pt (nl ?_);exact jz ((),true) h [0]
  .replace h:=cM (nW hb) h;refine ga (au rfl qd) ?_;refine eY rfl rfl rfl rfl rfl rfl (ao rfl bP jI rfl) ⟨rfl,trivial⟩ ?_;obtain⟨r5,zz,h⟩:=aa h;refine gc (av [.tmp 13,.const (.int .i64 (0)),.const (.int .i64 (3))] rfl rfl G1 rfl (ig k a0.2.1 0 3 r5 zz)) ?_;refine ga (ff rfl) ?_;refine pf ?_;refine mq ?_;refine cy (s:=17) rfl (λhb=>?_) (λhb=>?_)
   .replace h:=ek (tN hb) h;iterate 4 refine gn ?_
    refine pt ?_;refine mq ?_;iterate 4 refine gn ?_
    refine pt (nl ?_);exact jz ((),true) h [0]
   .replace h:=cM (nW hb) h;refine ga (au rfl rY) ?_;refine eY rfl rfl rfl rfl rfl rfl (ao rfl bP jI rfl) ⟨rfl,trivial⟩ ?_;obtain⟨r6,qt,h⟩:=aa h;refine gc (av [.tmp 19,.const (.int .i64 (0)),.const (.int .i64 (3))] rfl rfl G1 rfl (ig k a0.2.2.1 0 3 r6 qt)) ?_;refine ga (ff rfl) ?_;refine pf ?_;refine mq ?_;refine cy (s:=23) rfl (λhb=>?_) (λhb=>?_)
    .replace h:=ek (tN hb) h;iterate 4 refine gn ?_
     refine pt (nl ?_);exact jz ((),true) h [0]
    .replace h:=cM (nW hb) h;refine ga (au rfl ud) ?_;refine eY rfl rfl rfl rfl rfl rfl (ao rfl bP jI rfl) ⟨rfl,trivial⟩ ?_;obtain⟨r7,mw,h⟩:=aa h;refine gc (av [.tmp 25,.const (.int .i64 (1)),.const (.int .i64 (3))] rfl rfl G1 rfl (ig k a0.2.2.2.1 1 3 r7 mw)) ?_;refine ga (ff rfl) ?_;refine pf (nl ?_);exact jz ((), !r7) h [0]
 .
  refine cv h (λh=>?_) (λh=>?_)
  .refine sr (cq (nt (rx ?_)));cases h;exact ra
  .refine sk (ai (sr (fl cu ?_)));refine lo fp ?_;refine ol po ?_;refine jb (fV rfl) ?_;refine nt (ci h (λh=>?_) (λh=>?_))
   .refine sr (cq (nt (rx ?_)));cases h;exact ra
   .refine sk (ai (sr (fl cu ?_)));refine lo fp ?_;refine ol po ?_;refine jb (iY rfl) ?_;refine nt (ci h (λh=>?_) (λh=>?_))
    .refine sr (cq (nt (rx ?_)));cases h;exact ra
    .refine sk (cU (Z:=Unit) (α:=Unit) (λz9 x8=>[(1,Pt b1)]) (λz9 x8=>[.obj b1 25 (.rep ak a0)]) (λe=>e=r) h (λe h=>Option.some.inj h) (λK hR h=>?_) (λz9 x8 h=>?_))
     .refine sr (cq (nt (ah ?_)));refine aF (λx j=>[(1,Pt b1),(3,I j)]) (λx j=>[.obj b1 25 (.rep ak a0)]) (fB k a0) k () 0 (λ_=>rfl) h (SE.fin [0] ⟨rfl,rfl,trivial⟩ rfl) (λn x j h=>?_);unfold fB at h;refine ai (sr (mq ?_));refine fl cu ?_;refine lo fp ?_;refine ol po ?_;refine jb (bq rfl) ?_;refine nt (ci h (λh=>?_) (λh=>?_))
      .refine sk (ai (ah (ai (bB ?_))));refine ea 0 (ao rfl dh (mU) rfl) ?_;refine da (au rfl cu) ?_;refine ea 0 (ao rfl fp jI rfl) ?_;refine dm ?_;obtain⟨Y,J,h⟩:=aa h;refine db (aD (t:=(.slice Tl)) rfl po kO J) ?_;refine da (an (t:=(.slice Tl)) rfl kO rfl) ?_;refine df cF ?_;obtain⟨mc,O,h⟩:=aa h;refine jb (av [.tmp 44,.tmp 49] rfl rfl VQ rfl (uO k a0 Y mc O)) ?_;refine aq (nt (sr ?_));refine mq ?_;refine jb (dU rfl) ?_;refine nt (cn h (λh=>?_) (λh=>?_))
       .refine sr (mq ?_);refine aq (nt (aA (br (aR (aP ?_)))));obtain rfl:=hR _ h;exact ra
       .refine aX (aI (tn (ae (mq ?_))));obtain⟨X,F,h⟩:=aa h;refine jb (aY rfl F) ?_;refine aq (nl ?_);exact jz ((),X) h [0]
      .refine xa ?_;exact jz ((),()) h [0]
     .refine ai (sr (fl ge ?_));refine lo nJ ?_;refine ol Da ?_;refine jb (iY rfl) ?_;refine nt (ci h (λh=>?_) (λh=>?_))
      .refine sr (cq (nt (rx ?_)));cases h;exact ra
      .refine sk (cU (Z:=Unit) (α:=Unit) (λu y=>[]) (λu y=>[]) (λe=>e=r) h (λe h=>Option.some.inj h) (λK hR h=>?_) (λu y h=>?_))
       .refine sr (cq (nt (ah ?_)));refine aF (λl c=>[(1,Pt b1),(5,I c)]) (λl c=>[.obj b1 25 (.rep ak a0)]) (fA k a0) k () 0 (λ_=>rfl) h (SE.fin [0] ⟨rfl,rfl,trivial⟩ rfl) (λn l c h=>?_);unfold fA at h;refine ai (sr (mq ?_));refine fl ge ?_;refine lo nJ ?_;refine ol Da ?_;refine jb (bq rfl) ?_;refine nt (ci h (λh=>?_) (λh=>?_))
        .refine sk (ai (ah (ai (bB ?_))));refine ea 0 (ao rfl dh (mU) rfl) ?_;refine da (au rfl ge) ?_;refine ea 0 (ao rfl nJ jI rfl) ?_;refine dm ?_;obtain⟨U,E,h⟩:=aa h;refine db (aD (t:=aJ) rfl Da ny E) ?_;refine da (an (t:=aJ) rfl ny rfl) ?_;refine df cF ?_;obtain⟨gw,M,h⟩:=aa h;refine jb (av [.tmp 65,.tmp 70] rfl rfl VP rfl (rD k a0 U gw M)) ?_;refine aq (nt (sr ?_));refine mq ?_;refine jb (dU rfl) ?_;refine nt (cn h (λh=>?_) (λh=>?_))
         .refine sr (mq ?_);refine aq (nt (aA (br (aR (aP ?_)))));obtain rfl:=hR _ h;exact ra
         .refine aX (aI (tn (ae (mq ?_))));obtain⟨Q,D,h⟩:=aa h;refine jb (aY rfl D) ?_;refine aq (nl ?_);exact jz ((),Q) h [0]
        .refine xa ?_;exact jz ((),()) h []
       .refine sr (cq (nt (aA ?_)));cases h;exact ra
def eg(k:Nat)(a2:Int)(e:(List Int)):Nat->Int->Option (Except ((List Int)×Bool) Unit)
 |0,_=>none
 |n+1,c=>
  if c < (e.length:Int) then((aH e c).bind λD=>
  if¬(D=a2) then((ck (c+1)).bind λy=>
  eg k a2 e n y) else(((if 0 < c then((ck (c - 1)).bind λx=>
  (aH e x).bind λl=>
  (bV (bh (length ([]:(List Int))+length [l]))).bind λ_=>
  some (([]:(List Int))++[l])) else(some ([]:(List Int)))):Option ((List Int))).bind λh=>
  (((ck (c+1)).bind λs=>
  if s < (e.length:Int) then((ck (c+1)).bind λr=>
  (aH e r).bind λj=>
  (bV (bh (length h+length [j]))).bind λ_=>
  some (h++[j])) else(some h)):Option ((List Int))).bind λu=>
  some (.error (u,true)))) else(some (.ok ()))
def eP(k:Nat)(a0:ab)(a1:Int)(a2:Int):Nat->Int->Option (Except ((List Int)×Bool) Unit)
 |0,_=>none
 |n+1,y4=>
  (aH a0.2.2.2.2.1 a1).bind λx6=>
  if y4 < (x6.length:Int) then(bE (α:=Unit) ((aH a0.2.2.2.2.1 a1).bind λx9=>
  (aH x9 y4).bind λh=>
  eg k a2 h k 0) (λe=>some (.error e)) λ_=>
  (ck (y4+1)).bind λc=>
  eP k a0 a1 a2 n c) else(some (.ok ()))
def kj(k:Nat)(a0:ab)(a1:Int)(a2:Int):Option ((List Int)×Bool):=
 bE (α:=Unit) (eP k a0 a1 a2 k 0) (some) λ_=>
 some (([]:(List Int)),false)
theorem qW(k:Nat)(a0:ab)(a1:Int)(a2:Int)(r:(List Int)×Bool)(h:kj k a0 a1 a2=some r):
 cV Tryz.prog 81 [.rep ak a0,I a1,I a2] [] (λ_:Unit=>(bF [.rep Tl r.1,.eq (.bool r.2)],[])):=by
 unfold kj at h
 replace h:=bf h
 refine cV.of 66 Tryz.func81 rfl Tryz.ntmps81 rfl λS w0=>?_
 refine sr ?_
 refine bx λb1=>?_
 refine cq ?_
 refine cq ?_
 refine nt ?_
 refine cU (Z:=Unit) (α:=Unit) (λz3 x2=>[]) (λz3 x2=>[]) (λe=>e=r) h (λe h=>Option.some.inj h) (λK hR h=>?_) (λz3 x2 h=>?_)
 .
  refine sr (cq (nt (ah ?_)));refine aF (λz5 y4=>[(1,I a1),(2,I a2),(3,Pt b1),(8,I y4)]) (λz5 y4=>[.obj b1 25 (.rep ak a0)]) (eP k a0 a1 a2) k () 0 (λ_=>rfl) h (SE.fin [0] ⟨rfl,rfl,rfl,rfl,trivial⟩ rfl) (λn z5 y4 h=>?_);unfold eP at h;refine ai (sr (mq ?_));refine fl cu ?_;refine lo fp ?_;refine mq ?_;obtain⟨x6,W2,h⟩:=aa h;refine jb (aD (t:=(.slice Tl)) rfl po kO W2) ?_;refine ja (an (t:=(.slice Tl)) rfl kO rfl) ?_;refine ol nq ?_;refine jb (bq rfl) ?_;refine nt (ci h (λh=>?_) (λh=>?_))
  .refine sk (cU (Z:=Unit) (α:=Unit) (λz8 x7=>[(1,I a1),(2,I a2),(3,Pt b1),(8,I y4)]) (λz8 x7=>[.obj b1 25 (.rep ak a0)]) (λe=>e=r) h (λe h=>hR e h) (λK hR h=>?_) (λz8 x7 h=>?_))
   .refine ah (sr (fl cu ?_));refine lo fp ?_;refine mq ?_;obtain⟨x9,W1,h⟩:=aa h;refine jb (aD (t:=(.slice Tl)) rfl po kO W1) ?_;refine ja (an (t:=(.slice Tl)) rfl kO rfl) ?_;refine mq ?_;obtain⟨y,mc,h⟩:=aa h;refine jb (aD (t:=Tl) rfl nq eM mc) ?_;refine ja (an (t:=Tl) rfl eM rfl) ?_;refine aq (nt (sr ?_));refine cq (nt (ah ?_));refine aF (λD s=>[(1,I a1),(2,I a2),(3,Pt b1),(8,I y4),(9,.rep Tl y),(10,I s)]) (λD s=>[.obj b1 25 (.rep ak a0)]) (eg k a2 y) k () 0 (λ_=>rfl) h (SE.fin [0] ⟨rfl,rfl,rfl,rfl,rfl,rfl,trivial⟩ rfl) (λn D s h=>?_);unfold eg at h;refine ai (sr ?_);iterate 2 refine mq ?_
    refine ol gh ?_;refine jb (bq rfl) ?_;refine nt (ci h (λh=>?_) (λh=>?_))
    .refine sk (ai (ah (ai (sr ?_))));iterate 2 refine mq ?_
     obtain⟨W6,gw,h⟩:=aa h;refine jb (aD (t:=Ti) rfl gh bP gw) ?_;refine ja (an (t:=Ti) rfl bP rfl) ?_;refine mq ?_;refine jb (dU rfl) ?_;refine nt (cn h (λh=>?_) (λh=>?_))
     .refine dT (bv (ce (tn (ae (mq ?_)))));obtain⟨WY,Y,h⟩:=aa h;refine jb (aY rfl Y) ?_;refine aq (nl ?_);exact jz ((),WY) h [0]
     .refine sk (sr (cq (nt ?_)));refine aE (Z:=Value) (α:=(List Int)) (λc j=>[(9,.rep Tl y),(10,I s),(11,.eq c)]) (λc j=>[.sl c 3 Ti j]) h (λK h=>?_) (λc j h=>?_)
      .refine sr (mq ?_);refine jb (iY rfl) ?_;refine nt (ci h (λh=>?_) (λh=>?_))
       .refine ae ?_;iterate 3 refine mq ?_
        obtain⟨W5,X,h⟩:=aa h;refine jb (eJ rfl X) ?_;obtain⟨F,U,h⟩:=aa h;refine jb (aD (t:=Ti) rfl gh bP U) ?_;refine ja (an (t:=Ti) rfl bP rfl) ?_;refine ja (aU (t:=Ti) [(.tmp 49,_)] [F] rfl rfl cJ (.cons rfl .int .nil) rfl rfl) ?_;refine eL (SE.nil 3 Ti) ?_;obtain⟨W8,qt,h⟩:=aa h;refine cE rfl rfl rfl (bi rfl rfl cJ (ap qt)) ⟨rfl,rfl,trivial⟩ λW0=>?_;refine aq (nl ?_);exact jz (W0,([]:(List Int))++[F]) h [0]
       .refine aX (ay (bA (SE.nil 3 Ti) ?_));exact jz ((.slice none 0 0),([]:(List Int))) h [0]
      .refine aE (Z:=Value) (α:=(List Int)) (λl u=>[(11,.eq l)]) (λl u=>[.sl l 3 Ti u]) h (λK h=>?_) (λl u h=>?_)
       .refine sr (mq ?_);obtain⟨W4,Q,h⟩:=aa h;refine jb (aY rfl Q) ?_;refine mq ?_;refine ol gh ?_;refine jb (bq rfl) ?_;refine nt (ci h (λh=>?_) (λh=>?_))
        .refine ae ?_;iterate 3 refine mq ?_
         obtain⟨W3,O,h⟩:=aa h;refine jb (aY rfl O) ?_;obtain⟨E,M,h⟩:=aa h;refine jb (aD (t:=Ti) rfl gh bP M) ?_;refine ja (an (t:=Ti) rfl bP rfl) ?_;refine ja (aU (t:=Ti) [(.tmp 62,_)] [E] rfl rfl cJ (.cons rfl .int .nil) rfl rfl) ?_;obtain⟨W7,mw,h⟩:=aa h;refine cE rfl rfl rfl (bi rfl rfl cJ (ap mw)) ⟨rfl,rfl,trivial⟩ λWZ=>?_;refine aq (nl ?_);exact jz (WZ,j++[E]) h [0]
        .refine aX (ay ?_);exact jz (c,j) h [0]
       .refine sr (mq ?_);refine aq ?_;refine cq (nt (aA (br (aR (br (aR (aP ?_)))))));refine bA (fU [6,11,65] ⟨rfl,rfl,rfl,trivial⟩) ?_;obtain rfl:=hR _ h;exact rb
    .refine dT (bv (bv (ce (bn ?_))));exact jz ((),()) h [0]
   .refine ae (mq ?_);obtain⟨zz,J,h⟩:=aa h;refine jb (aY rfl J) ?_;refine aq (nl ?_);exact jz ((),zz) h [0]
  .refine xa ?_;exact jz ((),()) h []
 .
  refine sr (cq ?_);refine cq (nt (aA ?_));refine bA (dS (t:=Tl) (x:=([]:(List Int))) 6 rfl .nil rfl rfl) ?_;cases h;exact rb
def fx(k:Nat)(a0:ab)(a2:Int):Nat->(Int×Int)->Option (Except Int Int)
 |0,_=>none
 |n+1,y4=>
  if 0≤y4.2 then((kj k a0 y4.2 a2).bind λr6=>
  if r6.2=true then(some (.error y4.1)) else((ck (y4.1+1)).bind λx7=>
  (ck (y4.2 - 1)).bind λx8=>
  fx k a0 a2 n (x7,x8))) else(some (.ok y4.1))
def pJ(k:Nat)(a0:ab)(a1:Int)(a2:Int):Option Int:=
 bE (α:=Int) (fx k a0 a2 k (0,a1)) (some) λx2=>
 some x2
theorem A7(k:Nat)(a0:ab)(a1:Int)(a2:Int)(r:Int)(h:pJ k a0 a1 a2=some r):
 cV Tryz.prog 116 [.rep ak a0,I a1,I a2] [] (λ_:Unit=>(bF [I r],[])):=by
 unfold pJ at h
 replace h:=bf h
 refine cV.of 28 Tryz.func116 rfl Tryz.ntmps116 rfl λS w0=>?_
 refine sr ?_
 refine bx λb1=>?_
 refine cq ?_
 refine nt ?_
 refine sr ?_
 refine cq ?_
 refine nt ?_
 refine cU (Z:=Unit) (α:=Int) (λz3 x2=>[(7,I x2)]) (λz3 x2=>[]) (λe=>e=r) h (λe h=>Option.some.inj h) (λK hR h=>?_) (λz3 x2 h=>?_)
 .
  refine sr (mq ?_);refine aq (nt (ah ?_));refine aF (λz5 y4=>[(2,I a2),(3,Pt b1),(7,I y4.1),(8,I y4.2)]) (λz5 y4=>[.obj b1 25 (.rep ak a0)]) (fx k a0 a2) k () (0,a1) (λ_=>rfl) h (SE.fin [0] ⟨rfl,rfl,rfl,rfl,trivial⟩ rfl) (λn z5 y4 h=>?_);unfold fx at h;refine ai (sr (mq ?_));refine jb (hJ rfl) ?_;refine nt (ci h (λh=>?_) (λh=>?_))
  .refine sk (ai (ah (ai (sr (lo dh ?_)))));iterate 2 refine mq ?_
   obtain⟨r6,l,h⟩:=aa h;refine jc (av [.tmp 17,.tmp 18,.tmp 19] rfl rfl TK rfl (qW k a0 y4.2 a2 r6 l)) ?_;refine mq ?_;refine xr ?_;refine xr ?_;refine aq ?_;refine aq (nt (sr ?_));refine mq (nt ?_);refine cv h (λh=>?_) (λh=>?_)
   .refine sr (mq ?_);refine aq (nt (rx (br (aR (aP ?_)))));obtain rfl:=hR _ h;exact ra
   .refine sk (ae (mq ?_));obtain⟨x7,j,h⟩:=aa h;refine jb (aY rfl j) ?_;refine aq (aG (aI (tn (ae ?_))));refine mq ?_;obtain⟨x8,c,h⟩:=aa h;refine jb (eJ rfl c) ?_;refine aq (nl ?_);exact jz ((),(x7,x8)) h [0]
  .refine xa ?_;exact jz ((),y4.1) h []
 .
  refine sr (mq ?_);refine aq (nt (aA ?_));cases h;exact ra
def gi(k:Nat)(a0:ab)(a2:(List Int))(r8:(List Int)×Bool):Nat->(Int×Int)->Option Int
 |0,_=>none
 |n+1,c=>
  if c.2 < (r8.1.length:Int) then((((aH r8.1 c.2).bind λj=>
  (aH a2 j).bind λh=>
  if a0.2.1≤h then(some 0) else(some c.1)):Option (Int)).bind λl=>
  (ck (c.2+1)).bind λe=>
  gi k a0 a2 r8 n (l,e)) else(some c.1)
def gk(k:Nat)(a0:ab)(a1:Int)(a2:(List Int)):Nat->((List Int)×Int)->Option (List Int)
 |0,_=>none
 |n+1,y4=>
  if y4.2 < a0.1 then((((kj k a0 a1 y4.2).bind λr8=>
  ((if¬(r8.2=true) then((pJ k a0 a1 y4.2).bind λs=>
  some (decide (a0.2.2.2.1≤s))) else(some false)):Option (Bool)).bind λx9=>
  if x9=true then((bV (bh (length y4.1+length [(-1:Int)]))).bind λ_=>
  some (y4.1++[(-1:Int)])) else(if¬(r8.2=true) then((aH a2 y4.2).bind λh=>
  (bV (bh (length y4.1+length [h]))).bind λ_=>
  some (y4.1++[h])) else((aH a2 y4.2).bind λr=>
  if 0≤r then((aH a2 y4.2).bind λl=>
  (ck (l+1)).bind λe=>
  (bV (bh (length y4.1+length [e]))).bind λ_=>
  some (y4.1++[e])) else(((gi k a0 a2 r8 k ((-1:Int),0)):Option (Int)).bind λc=>
  (bV (bh (length y4.1+length [c]))).bind λ_=>
  some (y4.1++[c]))))):Option ((List Int))).bind λx6=>
  (ck (y4.2+1)).bind λj=>
  gk k a0 a1 a2 n (x6,j)) else(some y4.1)
def pI(k:Nat)(a0:ab)(a1:Int)(a2:(List Int)):Option (List Int):=
 ((gk k a0 a1 a2 k (([]:(List Int)),0)):Option ((List Int))).bind λx2=>
 some x2
theorem A6(k:Nat)(a0:ab)(a1:Int)(a2:(List Int))(r:(List Int))(h:pI k a0 a1 a2=some r):
 cV Tryz.prog 96 [.rep ak a0,I a1,.rep Tl a2] [] (λ_:Unit=>(bF [.rep Tl r],[])):=by
 unfold pI at h
 replace h:=bf h
 refine cV.of 86 Tryz.func96 rfl Tryz.ntmps96 rfl λS w0=>?_
 refine sr ?_
 refine bx λb1=>?_
 refine cq ?_
 refine nt ?_
 refine sr ?_
 refine cq ?_
 refine nt ?_
 refine aE (Z:=Value) (α:=(List Int)) (λz3 x2=>[(7,.eq z3)]) (λz3 x2=>[.sl z3 3 Ti x2]) h (λK h=>?_) (λz3 x2 h=>?_)
 .
  refine sr (cq (nt (ah ?_)));refine gz (SE.nil 3 Ti) ?_;refine aF (λz5 y4=>[(1,I a1),(2,.rep Tl a2),(3,Pt b1),(7,.eq z5),(8,I y4.2)]) (λz5 y4=>[.obj b1 25 (.rep ak a0),.sl z5 3 Ti y4.1]) (gk k a0 a1 a2) k (.slice none 0 0) (([]:(List Int)),0) (λ_=>rfl) h (SE.fin [1,0] ⟨rfl,rfl,rfl,rfl,rfl,trivial⟩ rfl) (λn z5 y4 h=>?_);unfold gk at h;refine ai (sr (mq ?_));refine fl eW ?_;refine lo bP ?_;refine jb (bq rfl) ?_;refine nt (ci h (λh=>?_) (λh=>?_))
  .refine sk (aE (Z:=Value) (α:=(List Int)) (λz7 x6=>[(1,I a1),(2,.rep Tl a2),(3,Pt b1),(7,.eq z7),(8,I y4.2)]) (λz7 x6=>[.obj b1 25 (.rep ak a0),.sl z7 3 Ti x6]) h (λK h=>?_) (λz7 x6 h=>?_))
   .refine ah (sr (lo dh ?_));iterate 2 refine mq ?_
    obtain⟨r8,W4,h⟩:=aa h;refine jc (av [.tmp 20,.tmp 21,.tmp 22] rfl rfl TK rfl (qW k a0 a1 y4.2 r8 W4)) ?_;refine mq ?_;refine xr ?_;refine xr ?_;refine aq ?_;refine aq (nt (ah ?_));refine aE (Z:=Unit) (α:=Bool) (λx x9=>[(1,I a1),(2,.rep Tl a2),(3,Pt b1),(7,.eq z5),(8,I y4.2),(9,.rep Tl r8.1),(10,.eq (.bool r8.2)),(46,.eq (.bool x9))]) (λx x9=>[.obj b1 25 (.rep ak a0),.sl z5 3 Ti y4.1]) h (λK h=>?_) (λx x9 h=>?_)
    .refine bB ?_;refine dm ?_;refine da (ff rfl) ?_;refine lU rfl rfl rfl (aS rfl) ⟨rfl,trivial⟩ (λhb=>?_) (λhb=>?_)
     .replace h:=ek (tN hb) h;refine fY 0 rfl rfl rfl rfl rfl rfl (ao rfl dh (mU) rfl) ⟨rfl,rfl,trivial⟩ ?_;refine bC rfl rfl rfl rfl rfl (aS rfl) ⟨rfl,rfl,trivial⟩ ?_;refine bC rfl rfl rfl rfl rfl (aS rfl) ⟨rfl,rfl,trivial⟩ ?_;obtain⟨E,zz,h⟩:=aa h;refine bC rfl rfl rfl rfl rfl (av [.tmp 50,.tmp 51,.tmp 52] rfl rfl Ud rfl (A7 k a0 a1 y4.2 E zz)) ⟨rfl,rfl,rfl,rfl,trivial⟩ ?_;refine bC rfl rfl rfl rfl rfl (au rfl ud) ⟨rfl,rfl,trivial⟩ ?_;refine fY 0 rfl rfl rfl rfl rfl rfl (ao rfl bP jI rfl) ⟨rfl,rfl,trivial⟩ ?_;refine df cF ?_;refine gb (hJ rfl) ?_;refine pt ?_;refine aq (nl ?_);exact jz ((),decide (a0.2.2.2.1≤E)) h [0,1]
     .replace h:=cM (nW hb) h;iterate 6 refine dg ?_
      refine df cF ?_;refine gn ?_;refine pf ?_;refine aq (nl ?_);exact jz ((),false) h [0,1]
    .refine cv h (λh=>?_) (λh=>?_)
     .refine ae (mq ?_);refine ja (aU (t:=Ti) [(.const (.int .i64 (-1)),_)] [(-1:Int)] rfl rfl cJ (.cons rfl .int .nil) rfl rfl) ?_;obtain⟨Xc,qt,h⟩:=aa h;refine fr 1 ?_;refine cE rfl rfl rfl (bi rfl rfl cJ (ap qt)) ⟨rfl,rfl,trivial⟩ λW3=>?_;refine aq (aG (aI (bn ?_)));exact jz (W3,y4.1++[(-1:Int)]) h [1,0]
     .refine sr (mq ?_);refine ja (ff rfl) ?_;refine aq (nt ?_);refine cw h (λh=>?_) (λh=>?_)
      .refine ae ?_;iterate 3 refine mq ?_
       obtain⟨D,Y,h⟩:=aa h;refine jb (aD (t:=Ti) rfl gh bP Y) ?_;refine ja (an (t:=Ti) rfl bP rfl) ?_;refine ja (aU (t:=Ti) [(.tmp 68,_)] [D] rfl rfl cJ (.cons rfl .int .nil) rfl rfl) ?_;obtain⟨Xb,mw,h⟩:=aa h;refine fr 1 ?_;refine cE rfl rfl rfl (bi rfl rfl cJ (ap mw)) ⟨rfl,rfl,trivial⟩ λW2=>?_;refine aq (aG (aI (bn ?_)));exact jz (W2,y4.1++[D]) h [1,0]
      .refine sr ?_;iterate 2 refine mq ?_
       obtain⟨W8,X,h⟩:=aa h;refine jb (aD (t:=Ti) rfl gh bP X) ?_;refine ja (an (t:=Ti) rfl bP rfl) ?_;refine jb (hJ rfl) ?_;refine aq (nt ?_);refine ci h (λh=>?_) (λh=>?_)
       .refine ae ?_;iterate 3 refine mq ?_
        obtain⟨W7,U,h⟩:=aa h;refine jb (aD (t:=Ti) rfl gh bP U) ?_;refine ja (an (t:=Ti) rfl bP rfl) ?_;obtain⟨y,Q,h⟩:=aa h;refine jb (aY rfl Q) ?_;refine ja (aU (t:=Ti) [(.tmp 82,_)] [y] rfl rfl cJ (.cons rfl .int .nil) rfl rfl) ?_;obtain⟨Xa,mc,h⟩:=aa h;refine fr 1 ?_;refine cE rfl rfl rfl (bi rfl rfl cJ (ap mc)) ⟨rfl,rfl,trivial⟩ λW1=>?_;refine aq (aG (aI (bn ?_)));exact jz (W1,y4.1++[y]) h [1,0]
       .refine sr (cq (nt ?_));refine aE (Z:=Unit) (α:=Int) (λu e=>[(1,I a1),(2,.rep Tl a2),(3,Pt b1),(7,.eq z5),(8,I y4.2),(11,I e)]) (λu e=>[.obj b1 25 (.rep ak a0),.sl z5 3 Ti y4.1]) h (λK h=>?_) (λu e h=>?_)
        .refine sr (cq (nt (ah ?_)));refine aF (λs c=>[(1,I a1),(2,.rep Tl a2),(3,Pt b1),(7,.eq z5),(8,I y4.2),(9,.rep Tl r8.1),(11,I c.1),(12,I c.2)]) (λs c=>[.obj b1 25 (.rep ak a0),.sl z5 3 Ti y4.1]) (gi k a0 a2 r8) k () ((-1:Int),0) (λ_=>rfl) h (SE.fin [0,1] ⟨rfl,rfl,rfl,rfl,rfl,rfl,rfl,rfl,trivial⟩ rfl) (λn s c h=>?_);unfold gi at h;refine ai (sr ?_);iterate 2 refine mq ?_
         refine ol gh ?_;refine jb (bq rfl) ?_;refine nt (ci h (λh=>?_) (λh=>?_))
         .refine sk (aE (Z:=Unit) (α:=Int) (λl j=>[(1,I a1),(2,.rep Tl a2),(3,Pt b1),(7,.eq z5),(8,I y4.2),(9,.rep Tl r8.1),(11,I j),(12,I c.2)]) (λl j=>[.obj b1 25 (.rep ak a0),.sl z5 3 Ti y4.1]) h (λK h=>?_) (λl j h=>?_))
          .refine ah (ai (bB ?_));refine dm ?_;refine dm ?_;refine dm ?_;obtain⟨W6,O,h⟩:=aa h;refine db (aD (t:=Ti) rfl gh bP O) ?_;refine da (an (t:=Ti) rfl bP rfl) ?_;obtain⟨W5,M,h⟩:=aa h;refine db (aD (t:=Ti) rfl gh bP M) ?_;refine da (an (t:=Ti) rfl bP rfl) ?_;refine da (au rfl qd) ?_;refine ea 0 (ao rfl bP jI rfl) ?_;refine df cF ?_;refine jb (hJ rfl) ?_;refine nt (ci h (λh=>?_) (λh=>?_))
           .refine ae (cq (aG (bn ?_)));exact jz ((),0) h [0,1]
           .refine aX (bn ?_);exact jz ((),c.1) h [0,1]
          .refine ae (mq ?_);obtain⟨WZ,J,h⟩:=aa h;refine jb (aY rfl J) ?_;refine aq (nl ?_);exact jz ((),(j,WZ)) h [0,1]
         .refine xa ?_;exact jz ((),c.1) h [0,1]
        .refine ae ?_;iterate 2 refine mq ?_
         refine ja (aU (t:=Ti) [(.tmp 43,_)] [e] rfl rfl cJ (.cons rfl .int .nil) rfl rfl) ?_;obtain⟨W9,gw,h⟩:=aa h;refine fr 1 ?_;refine cE rfl rfl rfl (bi rfl rfl cJ (ap gw)) ⟨rfl,rfl,trivial⟩ λW0=>?_;refine aq (aG (aI (bn ?_)));exact jz (W0,y4.1++[e]) h [1,0]
   .refine ae (mq ?_);obtain⟨WY,F,h⟩:=aa h;refine jb (aY rfl F) ?_;refine aq (nl ?_);exact jz (z7,(x6,WY)) h [0,1]
  .refine xa ?_;exact jz (z5,y4.1) h [1]
 .
  refine sr (mq ?_);refine aq (nt (aA ?_));refine bA (fU [6,7,85] ⟨rfl,rfl,rfl,trivial⟩) ?_;cases h;exact ra
def gq(k:Nat)(a0:ab)(a1:(List Int)):Nat->((List Int)×Int)->Option (List Int)
 |0,_=>none
 |n+1,y4=>
  if y4.2 < a0.1 then((((oC k a1 y4.2).bind λr8=>
  if r8=true then((bV (bh (length y4.1+length [a0.2.1]))).bind λ_=>
  some (y4.1++[a0.2.1])) else((bV (bh (length y4.1+length [(-1:Int)]))).bind λ_=>
  some (y4.1++[(-1:Int)]))):Option ((List Int))).bind λx6=>
  (ck (y4.2+1)).bind λc=>
  gq k a0 a1 n (x6,c)) else(some y4.1)
def gp(k:Nat)(a0:ab):Nat->((List (List Int))×Int)->Option (List (List Int))
 |0,_=>none
 |n+1,c=>
  if c.2 < (a0.2.2.2.2.1.length:Int) then((aH c.1 c.2).bind λj=>
  (pI k a0 c.2 j).bind λe=>
  (bV (bh (length c.1+length [e]))).bind λ_=>
  (ck (c.2+1)).bind λh=>
  gp k a0 n (c.1++[e],h)) else(some c.1)
def kR(k:Nat)(a0:ab)(a1:(List Int)):Option (List (List Int)):=
 ((gq k a0 a1 k (([]:(List Int)),0)):Option ((List Int))).bind λx2=>
 ((gp k a0 k ([x2],0)):Option ((List (List Int)))).bind λc=>
 some c
theorem pK(k:Nat)(a0:ab)(a1:(List Int))(r:(List (List Int)))(h:kR k a0 a1=some r):
 cV Tryz.prog 52 [.rep ak a0,.rep Tl a1] [] (λ_:Unit=>(bF [.rep (.slice Tl) r],[])):=by
 unfold kR at h
 replace h:=bf h
 refine cV.of 46 Tryz.func52 rfl Tryz.ntmps52 rfl λS w0=>?_
 refine sr ?_
 refine bx λb1=>?_
 refine cq ?_
 refine nt ?_
 refine sr ?_
 refine cq ?_
 refine nt ?_
 refine aE (Z:=Value) (α:=(List Int)) (λz3 x2=>[(2,Pt b1),(5,.eq z3)]) (λz3 x2=>[.obj b1 25 (.rep ak a0),.sl z3 3 Ti x2]) h (λK h=>?_) (λz3 x2 h=>?_)
 .
  refine sr (cq (nt (ah ?_)));refine gz (SE.nil 3 Ti) ?_;refine aF (λz5 y4=>[(1,.rep Tl a1),(2,Pt b1),(5,.eq z5),(6,I y4.2)]) (λz5 y4=>[.obj b1 25 (.rep ak a0),.sl z5 3 Ti y4.1]) (gq k a0 a1) k (.slice none 0 0) (([]:(List Int)),0) (λ_=>rfl) h (SE.fin [1,0] ⟨rfl,rfl,rfl,rfl,trivial⟩ rfl) (λn z5 y4 h=>?_);unfold gq at h;refine ai (sr (mq ?_));refine fl eW ?_;refine lo bP ?_;refine jb (bq rfl) ?_;refine nt (ci h (λh=>?_) (λh=>?_))
  .refine sk (aE (Z:=Value) (α:=(List Int)) (λz7 x6=>[(1,.rep Tl a1),(2,Pt b1),(5,.eq z7),(6,I y4.2)]) (λz7 x6=>[.obj b1 25 (.rep ak a0),.sl z7 3 Ti x6]) h (λK h=>?_) (λz7 x6 h=>?_))
   .refine ah (sr ?_);iterate 2 refine mq ?_
    obtain⟨r8,mc,h⟩:=aa h;refine jb (av [.tmp 15,.tmp 16] rfl rfl QK rfl (rC k a1 y4.2 r8 mc)) ?_;refine nt (cv h (λh=>?_) (λh=>?_))
    .refine ae (mq ?_);refine fl qd ?_;refine lo bP ?_;refine ja (aU (t:=Ti) [(.tmp 20,_)] [a0.2.1] rfl rfl cJ (.cons rfl .int .nil) rfl rfl) ?_;obtain⟨u9,gw,h⟩:=aa h;refine fr 1 ?_;refine cE rfl rfl rfl (bi rfl rfl cJ (ap gw)) ⟨rfl,rfl,trivial⟩ λY=>?_;refine aq (aG (bn ?_));exact jz (Y,y4.1++[a0.2.1]) h [1,0]
    .refine ae (mq ?_);refine ja (aU (t:=Ti) [(.const (.int .i64 (-1)),_)] [(-1:Int)] rfl rfl cJ (.cons rfl .int .nil) rfl rfl) ?_;obtain⟨qt,E,h⟩:=aa h;refine fr 1 ?_;refine cE rfl rfl rfl (bi rfl rfl cJ (ap E)) ⟨rfl,rfl,trivial⟩ λX=>?_;refine aq (aG (bn ?_));exact jz (X,y4.1++[(-1:Int)]) h [1,0]
   .refine ae (mq ?_);obtain⟨O,y,h⟩:=aa h;refine jb (aY rfl y) ?_;refine aq (nl ?_);exact jz (z7,(x6,O)) h [0,1]
  .refine xa ?_;exact jz (z5,y4.1) h [0,1]
 .
  refine sr (mq ?_);refine fr 1 ?_;refine eL (fU [5,26] ⟨rfl,rfl,trivial⟩) ?_;refine be rfl rfl rfl (iC (t:=Tl) [(.tmp 26,_)] [x2] rfl rfl mh (.cons rfl .rep .nil) rfl rfl) ⟨rfl,trivial⟩ λU=>?_;refine aq (nt ?_);refine aE (Z:=Value) (α:=(List (List Int))) (λj s=>[(7,.eq j)]) (λj s=>[.sl j 28 Tl s]) h (λK h=>?_) (λj s h=>?_)
  .refine sr (cq (nt (ah ?_)));refine aF (λe c=>[(2,Pt b1),(7,.eq e),(8,I c.2)]) (λe c=>[.obj b1 25 (.rep ak a0),.sl e 28 Tl c.1]) (gp k a0) k U ([x2],0) (λ_=>rfl) h (SE.fin [1,0] ⟨rfl,rfl,rfl,trivial⟩ rfl) (λn e c h=>?_);unfold gp at h;refine ai (sr (mq ?_));refine fl cu ?_;refine lo fp ?_;refine ol po ?_;refine jb (bq rfl) ?_;refine nt (ci h (λh=>?_) (λh=>?_))
   .refine sk (ai (ah (bB ?_)));refine dm ?_;refine ea 0 (ao rfl dh (mU) rfl) ?_;refine dm ?_;refine dm ?_;refine dm ?_;obtain⟨M,l,h⟩:=aa h;refine eb 1 (cN (t:=Tl) rfl nq eM l) ?_;refine ea 1 (ii (i:=Int.toNat c.2) (off:=0) rfl eM (λ_=>rfl) rfl (dK l).2.2 rfl) ?_;obtain⟨u,F,h⟩:=aa h;refine dc (av [.tmp 36,.tmp 37,.tmp 41] rfl rfl VA rfl (A6 k a0 c.2 M u F)) ?_;refine da (aU (t:=Tl) [(.tmp 42,_)] [u] rfl rfl mh (.cons rfl .rep .nil) rfl rfl) ?_;refine df cF ?_;obtain⟨mw,D,h⟩:=aa h;refine fr 1 ?_;refine cE rfl rfl rfl (bi rfl rfl mh (ap D)) ⟨rfl,rfl,trivial⟩ λQ=>?_;refine aq (aG (aI (tn (ae ?_))));refine mq ?_;obtain⟨J,x,h⟩:=aa h;refine jb (aY rfl x) ?_;refine aq (nl ?_);exact jz (Q,(c.1++[u],J)) h [1,0]
   .refine xa ?_;exact jz (e,c.1) h [1]
  .refine sr (mq ?_);refine aq (nt (aA ?_));refine bA (fU [4,7,45] ⟨rfl,rfl,rfl,trivial⟩) ?_;cases h;exact ra
def dE(k:Nat)(a0:ab)(a1:ab):Nat->Int->Option (Except Bool Unit)
 |0,_=>none
 |n+1,y7=>
  if y7 < (a0.2.2.2.2.1.length:Int) then((aH a0.2.2.2.2.1 y7).bind λx9=>
  (aH a1.2.2.2.2.1 y7).bind λe=>
  (fQ k x9 e).bind λh=>
  if¬(h=true) then(some (.error false)) else((ck (y7+1)).bind λc=>
  dE k a0 a1 n c)) else(some (.ok ()))
def dD(k:Nat)(a0:ab)(a1:ab):Nat->Int->Option (Except Bool Unit)
 |0,_=>none
 |n+1,c=>
  if c < (a0.2.2.2.2.2.length:Int) then((aH a0.2.2.2.2.2 c).bind λj=>
  (aH a1.2.2.2.2.2 c).bind λh=>
  if¬(j=h) then(some (.error false)) else((ck (c+1)).bind λe=>
  dD k a0 a1 n e)) else(some (.ok ()))
def i8(k:Nat)(a0:ab)(a1:ab):Option Bool:=
 ((if¬(a0.1=a1.1) then(some true) else(if¬(a0.2.1=a1.2.1) then(some true) else(if¬(a0.2.2.1=a1.2.2.1) then(some true) else(if¬(a0.2.2.2.1=a1.2.2.2.1) then(some true) else(if¬((a0.2.2.2.2.1.length:Int)=(a1.2.2.2.2.1.length:Int)) then(some true) else(some (!decide ((a0.2.2.2.2.2.length:Int)=(a1.2.2.2.2.2.length:Int))))))))):Option (Bool)).bind λx3=>
 if x3=true then(some false) else(bE (α:=Unit) (dE k a0 a1 k 0) (some) λ_=>
 bE (α:=Unit) (dD k a0 a1 k 0) (some) λ_=>
 some true)
theorem t5(k:Nat)(a0:ab)(a1:ab)(r:Bool)(h:i8 k a0 a1=some r):
 cV Tryz.prog 22 [.rep ak a0,.rep ak a1] [] (λ_:Unit=>(bF [.eq (.bool r)],[])):=by
 unfold i8 at h
 replace h:=bf h
 refine cV.of 88 Tryz.func22 rfl Tryz.ntmps22 rfl λS w0=>?_
 refine sr ?_
 refine bx λb1=>?_
 refine bx λb2=>?_
 refine cq ?_
 refine nt ?_
 refine ai ?_
 refine aE (Z:=Unit) (α:=Bool) (λz4 x3=>[(2,Pt b1),(3,Pt b2),(50,.eq (.bool x3))]) (λz4 x3=>[.obj b1 25 (.rep ak a0),.obj b2 25 (.rep ak a1)]) h (λK h=>?_) (λz4 x3 h=>?_)
 .
  refine ae (fl eW ?_);refine fr 1 ?_;refine lo bP ?_;refine fl eW ?_;refine fr 1 ?_;refine lo bP ?_;refine jb (dU rfl) ?_;refine mq ?_;refine cy (s:=12) rfl (λhb=>?_) (λhb=>?_)
  .replace h:=ek (MQ hb) h;iterate 5 refine gn ?_
   refine pt ?_;refine mq ?_;iterate 5 refine gn ?_
   refine pt ?_;refine mq ?_;iterate 5 refine gn ?_
   refine pt ?_;refine mq ?_;iterate 7 refine gn ?_
   refine pt ?_;refine mq ?_;iterate 7 refine gn ?_
   refine pt (nl ?_);exact jz ((),true) h [1,0]
  .replace h:=cM (zw hb) h;refine ga (au rfl qd) ?_;refine fr 1 ?_;refine eY rfl rfl rfl rfl rfl rfl (ao rfl bP jI rfl) ⟨rfl,trivial⟩ ?_;refine ga (au rfl qd) ?_;refine fr 1 ?_;refine eY rfl rfl rfl rfl rfl rfl (ao rfl bP jI rfl) ⟨rfl,trivial⟩ ?_;refine gb (dU rfl) ?_;refine pf ?_;refine mq ?_;refine cy (s:=19) rfl (λhb=>?_) (λhb=>?_)
   .replace h:=ek (MQ hb) h;iterate 5 refine gn ?_
    refine pt ?_;refine mq ?_;iterate 5 refine gn ?_
    refine pt ?_;refine mq ?_;iterate 7 refine gn ?_
    refine pt ?_;refine mq ?_;iterate 7 refine gn ?_
    refine pt (nl ?_);exact jz ((),true) h [1,0]
   .replace h:=cM (zw hb) h;refine ga (au rfl rY) ?_;refine fr 1 ?_;refine eY rfl rfl rfl rfl rfl rfl (ao rfl bP jI rfl) ⟨rfl,trivial⟩ ?_;refine ga (au rfl rY) ?_;refine fr 1 ?_;refine eY rfl rfl rfl rfl rfl rfl (ao rfl bP jI rfl) ⟨rfl,trivial⟩ ?_;refine gb (dU rfl) ?_;refine pf ?_;refine mq ?_;refine cy (s:=26) rfl (λhb=>?_) (λhb=>?_)
    .replace h:=ek (MQ hb) h;iterate 5 refine gn ?_
     refine pt ?_;refine mq ?_;iterate 7 refine gn ?_
     refine pt ?_;refine mq ?_;iterate 7 refine gn ?_
     refine pt (nl ?_);exact jz ((),true) h [1,0]
    .replace h:=cM (zw hb) h;refine ga (au rfl ud) ?_;refine fr 1 ?_;refine eY rfl rfl rfl rfl rfl rfl (ao rfl bP jI rfl) ⟨rfl,trivial⟩ ?_;refine ga (au rfl ud) ?_;refine fr 1 ?_;refine eY rfl rfl rfl rfl rfl rfl (ao rfl bP jI rfl) ⟨rfl,trivial⟩ ?_;refine gb (dU rfl) ?_;refine pf ?_;refine mq ?_;refine cy (s:=33) rfl (λhb=>?_) (λhb=>?_)
     .replace h:=ek (MQ hb) h;iterate 7 refine gn ?_
      refine pt ?_;refine mq ?_;iterate 7 refine gn ?_
      refine pt (nl ?_);exact jz ((),true) h [1,0]
     .replace h:=cM (zw hb) h;refine ga (au rfl cu) ?_;refine fr 1 ?_;refine eY rfl rfl rfl rfl rfl rfl (ao rfl fp jI rfl) ⟨rfl,trivial⟩ ?_;refine ga (pP rfl rfl po) ?_;refine ga (au rfl cu) ?_;refine fr 1 ?_;refine eY rfl rfl rfl rfl rfl rfl (ao rfl fp jI rfl) ⟨rfl,trivial⟩ ?_;refine ga (pP rfl rfl po) ?_;refine gb (dU rfl) ?_;refine pf ?_;refine mq ?_;refine cy (s:=42) rfl (λhb=>?_) (λhb=>?_)
      .replace h:=ek (MQ hb) h;iterate 7 refine gn ?_
       refine pt (nl ?_);exact jz ((),true) h [1,0]
      .replace h:=cM (zw hb) h;refine ga (au rfl ge) ?_;refine fr 1 ?_;refine eY rfl rfl rfl rfl rfl rfl (ao rfl nJ jI rfl) ⟨rfl,trivial⟩ ?_;refine ga (pP rfl rfl Da) ?_;refine ga (au rfl ge) ?_;refine fr 1 ?_;refine eY rfl rfl rfl rfl rfl rfl (ao rfl nJ jI rfl) ⟨rfl,trivial⟩ ?_;refine ga (pP rfl rfl Da) ?_;refine gb (dU rfl) ?_;refine pf (nl ?_);exact jz ((), !decide ((a0.2.2.2.2.2.length:Int)=(a1.2.2.2.2.2.length:Int))) h [1,0]
 .
  refine cv h (λh=>?_) (λh=>?_)
  .refine sr (cq (nt (rx ?_)));cases h;exact ra
  .refine sk (cU (Z:=Unit) (α:=Unit) (λz6 x5=>[(2,Pt b1),(3,Pt b2)]) (λz6 x5=>[.obj b1 25 (.rep ak a0),.obj b2 25 (.rep ak a1)]) (λe=>e=r) h (λe h=>Option.some.inj h) (λK hR h=>?_) (λz6 x5 h=>?_))
   .refine sr (cq (nt (ah ?_)));refine aF (λz8 y7=>[(2,Pt b1),(3,Pt b2),(5,I y7)]) (λz8 y7=>[.obj b1 25 (.rep ak a0),.obj b2 25 (.rep ak a1)]) (dE k a0 a1) k () 0 (λ_=>rfl) h (SE.fin [0,1] ⟨rfl,rfl,rfl,trivial⟩ rfl) (λn z8 y7 h=>?_);unfold dE at h;refine ai (sr (mq ?_));refine fl cu ?_;refine lo fp ?_;refine ol po ?_;refine jb (bq rfl) ?_;refine nt (ci h (λh=>?_) (λh=>?_))
    .refine sk (ai (ah (ai (bB ?_))));refine da (au rfl cu) ?_;refine ea 0 (ao rfl fp jI rfl) ?_;refine dm ?_;obtain⟨x9,X,h⟩:=aa h;refine db (aD (t:=(.slice Tl)) rfl po kO X) ?_;refine da (an (t:=(.slice Tl)) rfl kO rfl) ?_;refine da (au rfl cu) ?_;refine ea 1 (ao rfl fp jI rfl) ?_;refine dm ?_;obtain⟨Q,F,h⟩:=aa h;refine db (aD (t:=(.slice Tl)) rfl po kO F) ?_;refine da (an (t:=(.slice Tl)) rfl kO rfl) ?_;refine df cF ?_;obtain⟨U,J,h⟩:=aa h;refine jb (av [.tmp 62,.tmp 67] rfl rfl QR rfl (kw k x9 Q U J)) ?_;refine ja (ff rfl) ?_;refine nt (cw h (λh=>?_) (λh=>?_))
     .refine sr (cq (nt (aA (br (aR (aP ?_))))));obtain rfl:=hR _ h;exact ra
     .refine aX (aI (tn (ae (mq ?_))));obtain⟨O,E,h⟩:=aa h;refine jb (aY rfl E) ?_;refine aq (nl ?_);exact jz ((),O) h [0,1]
    .refine xa ?_;exact jz ((),()) h [0,1]
   .refine cU (Z:=Unit) (α:=Unit) (λl u=>[]) (λl u=>[]) (λe=>e=r) h (λe h=>Option.some.inj h) (λK hR h=>?_) (λl u h=>?_)
    .refine sr (cq (nt (ah ?_)));refine aF (λj c=>[(2,Pt b1),(3,Pt b2),(6,I c)]) (λj c=>[.obj b1 25 (.rep ak a0),.obj b2 25 (.rep ak a1)]) (dD k a0 a1) k () 0 (λ_=>rfl) h (SE.fin [0,1] ⟨rfl,rfl,rfl,trivial⟩ rfl) (λn j c h=>?_);unfold dD at h;refine ai (sr (mq ?_));refine fl ge ?_;refine lo nJ ?_;refine ol Da ?_;refine jb (bq rfl) ?_;refine nt (ci h (λh=>?_) (λh=>?_))
     .refine sk (ai (ah (ai (bB ?_))));refine da (au rfl ge) ?_;refine ea 0 (ao rfl nJ jI rfl) ?_;refine dm ?_;obtain⟨gw,D,h⟩:=aa h;refine db (aD (t:=aJ) rfl Da ny D) ?_;refine da (an (t:=aJ) rfl ny rfl) ?_;refine da (au rfl ge) ?_;refine ea 1 (ao rfl nJ jI rfl) ?_;refine dm ?_;obtain⟨Y,y,h⟩:=aa h;refine db (aD (t:=aJ) rfl Da ny y) ?_;refine da (an (t:=aJ) rfl ny rfl) ?_;refine df cF ?_;refine jb (DL rfl Vz rfl) ?_;refine nt (cn h (λh=>?_) (λh=>?_))
      .refine sr (cq (nt (aA (br (aR (aP ?_))))));obtain rfl:=hR _ h;exact ra
      .refine aX (aI (tn (ae (mq ?_))));obtain⟨M,x,h⟩:=aa h;refine jb (aY rfl x) ?_;refine aq (nl ?_);exact jz ((),M) h [0,1]
     .refine xa ?_;exact jz ((),()) h []
    .refine sr (cq (nt (aA ?_)));cases h;exact ra
def iw(k:Nat)(a0:Int)(a1:(List Int))(self:Int->(List Int)->Option ((List (List Int)))):Nat->((List (List Int))×Int)->Option (List (List Int))
 |0,_=>none
 |n+1,y9=>
  if y9.2 < a0 then((bV (bh (length ([]:(List Int))+length a1))).bind λ_=>
  (bV (bh (length (([]:(List Int))++a1)+length [y9.2]))).bind λ_=>
  (self a0 ((([]:(List Int))++a1)++[y9.2])).bind λc=>
  (bV (bh (length y9.1+length c))).bind λ_=>
  (ck (y9.2+1)).bind λe=>
  iw k a0 a1 self n (y9.1++c,e)) else(some y9.1)
def lM(k:Nat):Nat->Int->(List Int)->Option ((List (List Int)))
 |0,_,_=>none
 |m0+1,a0,a1=>
  ((if 0 < (a1.length:Int) then((ck ((a1.length:Int) - 1)).bind λx4=>
  (aH a1 x4).bind λx5=>
  (ck (x5+1)).bind λx6=>
  some x6) else(some 0)):Option (Int)).bind λx2=>
  ((iw k a0 a1 (lM k m0) k ([a1],x2)):Option ((List (List Int)))).bind λx7=>
  some x7
theorem Dx(k:Nat):
 ∀(n:Nat) (a0:Int) (a1:(List Int)) (r:(List (List Int))),lM k n a0 a1=some r->cV Tryz.prog 34 [I a0,.rep Tl a1] ([]) (λ_:Unit=>(bF [.rep (.slice Tl) r],[])):=by
 intro n
 induction n with
 |zero=>intro a0 a1 r h;cases h
 |succ m0 ih=>
  intro a0 a1 r h;rw [lM] at h;replace h:=bf h;refine cV.of 37 Tryz.func34 rfl Tryz.ntmps34 rfl λS w0=>?_;refine sr (cq (nt (sr ?_)));refine mq ?_;refine be rfl rfl rfl (iC (t:=Tl) [(.tmp 8,_)] [a1] rfl rfl mh (.cons rfl .rep .nil) rfl rfl) ⟨rfl,trivial⟩ λv1=>?_;refine aq (nt (sr ?_));refine cq (nt ?_);refine aE (Z:=Unit) (α:=Int) (λz3 x2=>[(0,I a0),(1,.rep Tl a1),(5,.eq v1),(6,I x2)]) (λz3 x2=>[.sl v1 28 Tl [a1]]) h (λK h=>?_) (λz3 x2 h=>?_)
  .refine sr (mq ?_);refine ol gh ?_;refine jb (iY rfl) ?_;refine nt (ci h (λh=>?_) (λh=>?_))
   .refine ae ?_;iterate 2 refine mq ?_
    refine ol gh ?_;obtain⟨x4,J,h⟩:=aa h;refine jb (eJ rfl J) ?_;obtain⟨x5,F,h⟩:=aa h;refine jb (aD (t:=Ti) rfl gh bP F) ?_;refine ja (an (t:=Ti) rfl bP rfl) ?_;obtain⟨x6,E,h⟩:=aa h;refine jb (aY rfl E) ?_;refine aq (nl ?_);exact jz ((),x6) h [0]
   .refine aX (ay ?_);exact jz ((),0) h [0]
  .refine aE (Z:=Value) (α:=(List (List Int))) (λz8 x7=>[(5,.eq z8)]) (λz8 x7=>[.sl z8 28 Tl x7]) h (λK h=>?_) (λz8 x7 h=>?_)
   .refine sr (mq ?_);refine aq (nt (ah ?_));refine aF (λc y9=>[(0,I a0),(1,.rep Tl a1),(5,.eq c),(7,I y9.2)]) (λc y9=>[.sl c 28 Tl y9.1]) (iw k a0 a1 (lM k m0)) k v1 ([a1],x2) (λ_=>rfl) h (SE.fin [0] ⟨rfl,rfl,rfl,rfl,trivial⟩ rfl) (λn c y9 h=>?_);unfold iw at h;refine ai (sr ?_);iterate 2 refine mq ?_
    refine jb (bq rfl) ?_;refine nt (ci h (λh=>?_) (λh=>?_))
    .refine sk (ai (ah (ae ?_)));iterate 2 refine mq ?_
     refine be rfl rfl rfl (iC (t:=Ti) [] ([]:(List Int)) rfl rfl cJ .nil rfl rfl) trivial λQ=>?_;refine mq ?_;obtain⟨Y,u,h⟩:=aa h;refine cE rfl rfl rfl (bi rfl rfl cJ (ap u)) ⟨rfl,rfl,trivial⟩ λO=>?_;refine mq ?_;refine ja (aU (t:=Ti) [(.tmp 31,_)] [y9.2] rfl rfl cJ (.cons rfl .int .nil) rfl rfl) ?_;obtain⟨X,s,h⟩:=aa h;refine cE rfl rfl rfl (bi rfl rfl cJ (ap s)) ⟨rfl,rfl,trivial⟩ λM=>?_;refine eL (fU [33] ⟨rfl,trivial⟩) ?_;obtain⟨e,x,h⟩:=aa h;refine jb (av [.tmp 27,.tmp 33] rfl rfl TV rfl (ih a0 ((([]:(List Int))++a1)++[y9.2]) e x)) ?_;obtain⟨U,l,h⟩:=aa h;refine cE rfl rfl rfl (bi rfl rfl mh (ap l)) ⟨rfl,rfl,trivial⟩ λD=>?_;refine aq (aG (aI (tn (ae ?_))));refine mq ?_;obtain⟨y,j,h⟩:=aa h;refine jb (aY rfl j) ?_;refine aq (nl ?_);exact jz (D,(y9.1++e,y)) h [0]
    .refine xa ?_;exact jz (c,y9.1) h [0]
   .refine sr (mq ?_);refine aq (nt (aA ?_));refine bA (fU [4,5,36] ⟨rfl,rfl,rfl,trivial⟩) ?_;cases h;exact ra
def nQ(k:Nat)(a0:ab)(a1:(List (List Int)))(a2:aW):Option Bool:=
 (aH a1 a2.2.1).bind λx3=>
 (aH x3 a2.1).bind λx4=>
 some (decide (a2.2.2=(decide (a0.2.2.1≤x4))))
theorem za(k:Nat)(a0:ab)(a1:(List (List Int)))(a2:aW)(r:Bool)(h:nQ k a0 a1 a2=some r):
 cV Tryz.prog 102 [.rep ak a0,.rep (.slice Tl) a1,.rep aJ a2] [] (λ_:Unit=>(bF [.eq (.bool r)],[])):=by
 unfold nQ at h
 replace h:=bf h
 refine cV.of 22 Tryz.func102 rfl Tryz.ntmps102 rfl λS w0=>?_
 refine sr ?_
 refine bx λb1=>?_
 refine bx λb2=>?_
 refine cq ?_
 refine nt ?_
 refine ai ?_
 refine bB ?_
 refine da (au rfl JP) ?_
 refine ea 0 (ao rfl Wy jI rfl) ?_
 refine dm ?_
 refine da (au rfl zN) ?_
 refine ea 0 (ao rfl bP jI rfl) ?_
 obtain⟨x3,e,h⟩:=aa h
 refine db (aD (t:=Tl) rfl nq eM e) ?_
 refine da (an (t:=Tl) rfl eM rfl) ?_
 refine da (au rfl zO) ?_
 refine ea 0 (ao rfl bP jI rfl) ?_
 obtain⟨x4,c,h⟩:=aa h
 refine db (aD (t:=Ti) rfl gh bP c) ?_
 refine da (an (t:=Ti) rfl bP rfl) ?_
 refine da (au rfl rY) ?_
 refine ea 1 (ao rfl bP jI rfl) ?_
 refine db (hJ rfl) ?_
 refine df cF ?_
 refine jb (Qn rfl U4) ?_
 refine aq ?_
 refine nt ?_
 refine aA ?_
 cases h
 exact ra
def c9(k:Nat)(a0:ab)(a1:(List Int))(e:(List (List Int))):Nat->(Bool×Int)->Option Bool
 |0,_=>none
 |n+1,c=>
  if c.2 < (a0.2.2.2.2.2.length:Int) then(((if c.1=true then((oC k a1 c.2).bind λs=>
  if s=true then(some true) else((aH a0.2.2.2.2.2 c.2).bind λj=>
  (nQ k a0 e j).bind λr=>
  some r)) else(some false)):Option (Bool)).bind λl=>
  (ck (c.2+1)).bind λh=>
  c9 k a0 a1 e n (l,h)) else(some c.1)
def dw(k:Nat)(a0:ab)(a1:(List Int))(r2:(List (List Int))):Nat->((List (List Int))×Int)->Option (List (List Int))
 |0,_=>none
 |n+1,y5=>
  if y5.2 < (r2.length:Int) then((((aH r2 y5.2).bind λx9=>
  (kR k a0 x9).bind λj=>
  ((c9 k a0 a1 j k (true,0)):Option (Bool)).bind λh=>
  if h=true then((aH r2 y5.2).bind λc=>
  (bV (bh (length y5.1+length [c]))).bind λ_=>
  some (y5.1++[c])) else(some y5.1)):Option ((List (List Int)))).bind λx7=>
  (ck (y5.2+1)).bind λe=>
  dw k a0 a1 r2 n (x7,e)) else(some y5.1)
def iW(k:Nat)(a0:ab)(a1:(List Int)):Option (List (List Int)):=
 (lM k k a0.1 ([]:(List Int))).bind λr2=>
 ((dw k a0 a1 r2 k (([]:(List (List Int))),0)):Option ((List (List Int)))).bind λx3=>
 some x3
theorem tC(k:Nat)(a0:ab)(a1:(List Int))(r:(List (List Int)))(h:iW k a0 a1=some r):
 cV Tryz.prog 70 [.rep ak a0,.rep Tl a1] [] (λ_:Unit=>(bF [.rep (.slice Tl) r],[])):=by
 unfold iW at h
 replace h:=bf h
 refine cV.of 58 Tryz.func70 rfl Tryz.ntmps70 rfl λS w0=>?_
 refine sr ?_
 refine bx λb1=>?_
 refine cq ?_
 refine nt ?_
 refine sr ?_
 refine cq ?_
 refine nt ?_
 refine sr ?_
 refine fl eW ?_
 refine lo bP ?_
 obtain⟨r2,WZ,h⟩:=aa h
 have W0:=Dx k k a0.1 ([]:(List Int)) r2 WZ
 refine jb (bM (N:=[(.tmp 12,I a0.1),(.const (.slice none 0 0),.eq (.slice none 0 0))]) (av [.tmp 12,.const (.slice none 0 0)] rfl rfl TV rfl W0) λ_ _ _ hn=>⟨hn.1,(aK (t:=Tl) (x:=([]:(List Int))) .nil rfl rfl hn.2.1),trivial⟩) ?_
 refine aq ?_
 refine nt ?_
 refine aE (Z:=Value) (α:=(List (List Int))) (λz4 x3=>[(5,.eq z4)]) (λz4 x3=>[.sl z4 28 Tl x3]) h (λK h=>?_) (λz4 x3 h=>?_)
 .
  refine sr (cq (nt (ah ?_)));refine gz (SE.nil 28 Tl) ?_;refine aF (λz6 y5=>[(1,.rep Tl a1),(2,Pt b1),(5,.eq z6),(6,.rep (.slice Tl) r2),(7,I y5.2)]) (λz6 y5=>[.obj b1 25 (.rep ak a0),.sl z6 28 Tl y5.1]) (dw k a0 a1 r2) k (.slice none 0 0) (([]:(List (List Int))),0) (λ_=>rfl) h (SE.fin [1,0] ⟨rfl,rfl,rfl,rfl,rfl,trivial⟩ rfl) (λn z6 y5 h=>?_);unfold dw at h;refine ai (sr ?_);iterate 2 refine mq ?_
  refine ol nq ?_;refine jb (bq rfl) ?_;refine nt (ci h (λh=>?_) (λh=>?_))
  .refine sk (aE (Z:=Value) (α:=(List (List Int))) (λz8 x7=>[(1,.rep Tl a1),(2,Pt b1),(5,.eq z8),(6,.rep (.slice Tl) r2),(7,I y5.2)]) (λz8 x7=>[.obj b1 25 (.rep ak a0),.sl z8 28 Tl x7]) h (λK h=>?_) (λz8 x7 h=>?_))
   .refine ah (ai (bB ?_));refine ea 0 (ao rfl dh (mU) rfl) ?_;refine dm ?_;refine dm ?_;obtain⟨x9,WY,h⟩:=aa h;refine db (aD (t:=Tl) rfl nq eM WY) ?_;refine da (an (t:=Tl) rfl eM rfl) ?_;refine df cF ?_;obtain⟨e,Y,h⟩:=aa h;refine jb (av [.tmp 20,.tmp 24] rfl rfl QO rfl (pK k a0 x9 e Y)) ?_;refine aq ?_;refine cq (nt ?_);refine aE (Z:=Unit) (α:=Bool) (λy l=>[(1,.rep Tl a1),(2,Pt b1),(5,.eq z6),(6,.rep (.slice Tl) r2),(7,I y5.2),(9,.eq (.bool l))]) (λy l=>[.obj b1 25 (.rep ak a0),.sl z6 28 Tl y5.1]) h (λK h=>?_) (λy l h=>?_)
    .refine sr (cq (nt (ah ?_)));refine aF (λu c=>[(1,.rep Tl a1),(2,Pt b1),(5,.eq z6),(6,.rep (.slice Tl) r2),(7,I y5.2),(8,.rep (.slice Tl) e),(9,.eq (.bool c.1)),(10,I c.2)]) (λu c=>[.obj b1 25 (.rep ak a0),.sl z6 28 Tl y5.1]) (c9 k a0 a1 e) k () (true,0) (λ_=>rfl) h (SE.fin [0,1] ⟨rfl,rfl,rfl,rfl,rfl,rfl,rfl,rfl,trivial⟩ rfl) (λn u c h=>?_);unfold c9 at h;refine ai (sr (mq ?_));refine fl ge ?_;refine lo nJ ?_;refine ol Da ?_;refine jb (bq rfl) ?_;refine nt (ci h (λh=>?_) (λh=>?_))
     .refine sk (aE (Z:=Unit) (α:=Bool) (λs j=>[(1,.rep Tl a1),(2,Pt b1),(5,.eq z6),(6,.rep (.slice Tl) r2),(7,I y5.2),(8,.rep (.slice Tl) e),(9,.eq (.bool j)),(10,I c.2)]) (λs j=>[.obj b1 25 (.rep ak a0),.sl z6 28 Tl y5.1]) h (λK h=>?_) (λs j h=>?_))
      .refine ah (bB ?_);refine dm ?_;refine lU rfl rfl rfl (aS rfl) ⟨rfl,trivial⟩ (λhb=>?_) (λhb=>?_)
       .replace h:=ek (Lx hb) h;refine bC rfl rfl rfl rfl rfl (aS rfl) ⟨rfl,rfl,trivial⟩ ?_;refine bC rfl rfl rfl rfl rfl (aS rfl) ⟨rfl,rfl,trivial⟩ ?_;obtain⟨zz,X,h⟩:=aa h;refine bC rfl rfl rfl rfl rfl (av [.tmp 35,.tmp 36] rfl rfl QK rfl (rC k a1 c.2 zz X)) ⟨rfl,rfl,rfl,trivial⟩ ?_;refine K3 rfl rfl rfl rfl rfl (aS rfl) ⟨rfl,rfl,trivial⟩ (λhb=>?_) (λhb=>?_)
        .replace h:=ek (Lx hb) h;iterate 7 refine dg ?_
         refine df cF ?_;refine gn ?_;refine gb (kS rfl) ?_;refine pt ?_;refine aq (aG (bn ?_));exact jz ((),true) h [0,1]
        .replace h:=cM (Ly hb) h;refine fY 0 rfl rfl rfl rfl rfl rfl (ao rfl dh (mU) rfl) ⟨rfl,rfl,trivial⟩ ?_;refine bC rfl rfl rfl rfl rfl (aS rfl) ⟨rfl,rfl,trivial⟩ ?_;refine bC rfl rfl rfl rfl rfl (au rfl ge) ⟨rfl,rfl,trivial⟩ ?_;refine fY 0 rfl rfl rfl rfl rfl rfl (ao rfl nJ jI rfl) ⟨rfl,rfl,trivial⟩ ?_;refine bC rfl rfl rfl rfl rfl (aS rfl) ⟨rfl,rfl,trivial⟩ ?_;obtain⟨mw,O,h⟩:=aa h;refine bC rfl rfl rfl rfl rfl (aD (t:=aJ) rfl Da ny O) ⟨rfl,rfl,rfl,trivial⟩ ?_;refine bC rfl rfl rfl rfl rfl (an (t:=aJ) rfl ny rfl) ⟨rfl,rfl,trivial⟩ ?_;refine df cF ?_;obtain⟨E,U,h⟩:=aa h;refine gc (av [.tmp 39,.tmp 40,.tmp 45] rfl rfl Ui rfl (za k a0 e mw E U)) ?_;refine gb (pN rfl) ?_;refine pt ?_;refine aq (aG (bn ?_));exact jz ((),E) h [0,1]
       .replace h:=cM (Ly hb) h;iterate 4 refine dg ?_
        refine du ?_;refine du ?_;refine du ?_;refine du ?_;refine du ?_;refine du ?_;refine du ?_;refine df cF ?_;refine gu ?_;refine gn ?_;refine pf ?_;refine aq (aG (bn ?_));exact jz ((),false) h [0,1]
      .refine ae (mq ?_);obtain⟨mc,M,h⟩:=aa h;refine jb (aY rfl M) ?_;refine aq (nl ?_);exact jz ((),(j,mc)) h [0,1]
     .refine xa ?_;exact jz ((),c.1) h [0,1]
    .refine sr (mq (nt ?_));refine cv h (λh=>?_) (λh=>?_)
     .refine ae ?_;iterate 3 refine mq ?_
      obtain⟨D,J,h⟩:=aa h;refine jb (aD (t:=Tl) rfl nq eM J) ?_;refine ja (an (t:=Tl) rfl eM rfl) ?_;refine ja (aU (t:=Tl) [(.tmp 54,_)] [D] rfl rfl mh (.cons rfl .rep .nil) rfl rfl) ?_;obtain⟨W1,Q,h⟩:=aa h;refine fr 1 ?_;refine cE rfl rfl rfl (bi rfl rfl mh (ap Q)) ⟨rfl,rfl,trivial⟩ λqt=>?_;refine aq (aG (bn ?_));exact jz (qt,y5.1++[D]) h [1,0]
     .refine aX (bn ?_);exact jz (z6,y5.1) h [0,1]
   .refine ae (mq ?_);obtain⟨gw,F,h⟩:=aa h;refine jb (aY rfl F) ?_;refine aq (nl ?_);exact jz (z8,(x7,gw)) h [0,1]
  .refine xa ?_;exact jz (z6,y5.1) h [1]
 .
  refine sr (mq ?_);refine aq (nt (aA ?_));refine bA (fU [4,5,57] ⟨rfl,rfl,rfl,trivial⟩) ?_;cases h;exact ra
def kh(k:Nat)(a0:ab)(a1:Bool):Option ((List (List Int))×Int):=
 (nU k a0).bind λr2=>
 if¬(r2=0) then(some (([]:(List (List Int))),r2)) else(if¬(a1=true) then(some (([]:(List (List Int))),3)) else((iW k a0 ([]:(List Int))).bind λr3=>
 if(r3.length:Int)=0 then(some (([]:(List (List Int))),9)) else(some (r3,0))))
theorem qV(k:Nat)(a0:ab)(a1:Bool)(r:(List (List Int))×Int)(h:kh k a0 a1=some r):
 cV Tryz.prog 63 [.rep ak a0,.eq (.bool a1)] [] (λ_:Unit=>(bF [.rep (.slice Tl) r.1,I r.2],[])):=by
 unfold kh at h
 replace h:=bf h
 refine cV.of 21 Tryz.func63 rfl Tryz.ntmps63 rfl λS w0=>?_
 refine sr ?_
 refine bx λb1=>?_
 refine cq ?_
 refine cq ?_
 refine nt ?_
 refine ai ?_
 refine sr ?_
 refine lo dh ?_
 obtain⟨r2,e,h⟩:=aa h
 have j:=zd k a0 r2 e
 refine ja (av [.tmp 8] rfl rfl V6 rfl j) ?_
 refine aq ?_
 refine nt ?_
 refine sr ?_
 refine mq ?_
 refine jb (dU rfl) ?_
 refine nt ?_
 refine cn h (λh=>?_) (λh=>?_)
 .
  refine sr (mq ?_);refine cq ?_;refine aq (nt (rx ?_));refine bA (dS (t:=(.slice Tl)) (x:=([]:(List (List Int)))) 4 rfl .nil rfl rfl) ?_;cases h;exact rb
 .
  refine sk (ai (sr (mq ?_)));refine ja (ff rfl) ?_;refine nt (cw h (λh=>?_) (λh=>?_))
  .refine sr (cq ?_);refine cq (nt (rx ?_));refine bA (dS (t:=(.slice Tl)) (x:=([]:(List (List Int)))) 4 rfl .nil rfl rfl) ?_;cases h;exact rb
  .refine sk (sr (lo dh ?_));obtain⟨r3,c,h⟩:=aa h;refine jb (bM (N:=[(.tmp 15,.rep ak a0),(.const (.slice none 0 0),.eq (.slice none 0 0))]) (av [.tmp 15,.const (.slice none 0 0)] rfl rfl VL rfl (tC k a0 ([]:(List Int)) r3 c)) λ_ _ _ hn=>⟨hn.1,(aK (t:=Tl) (x:=([]:(List Int))) .nil rfl rfl hn.2.1),trivial⟩) ?_;refine aq (nt (ai (sr ?_)));refine mq ?_;refine ol nq ?_;refine jb (fV rfl) ?_;refine nt (ci h (λh=>?_) (λh=>?_))
   .refine sr (cq ?_);refine cq (nt (rx ?_));refine bA (dS (t:=(.slice Tl)) (x:=([]:(List (List Int)))) 4 rfl .nil rfl rfl) ?_;cases h;exact rb
   .refine sk (sr (mq ?_));refine aq ?_;refine cq (nt (aA ?_));cases h;exact rb
def iN(k:Nat)(a0:(List (List Int)))(a1:Int):Nat->Int->Option (Except Int Unit)
 |0,_=>none
 |n+1,y3=>
  if y3 < (a0.length:Int) then((aH a0 y3).bind λx5=>
  (aH x5 a1).bind λx6=>
  if 0≤x6 then(some (.error y3)) else((ck (y3+1)).bind λx7=>
  iN k a0 a1 n x7)) else(some (.ok ()))
def nP(k:Nat)(a0:(List (List Int)))(a1:Int):Option Int:=
 bE (α:=Unit) (iN k a0 a1 k 0) (some) λ_=>
 some (-1:Int)
theorem yZ(k:Nat)(a0:(List (List Int)))(a1:Int)(r:Int)(h:nP k a0 a1=some r):
 cV Tryz.prog 78 [.rep (.slice Tl) a0,I a1] [] (λ_:Unit=>(bF [I r],[])):=by
 unfold nP at h
 replace h:=bf h
 refine cV.of 21 Tryz.func78 rfl Tryz.ntmps78 rfl λS w0=>?_
 refine sr ?_
 refine cq ?_
 refine nt ?_
 refine cU (Z:=Unit) (α:=Unit) (λz2 x1=>[]) (λz2 x1=>[]) (λe=>e=r) h (λe h=>Option.some.inj h) (λK hR h=>?_) (λz2 x1 h=>?_)
 .
  refine sr (cq (nt (ah ?_)));refine aF (λz4 y3=>[(0,.rep (.slice Tl) a0),(1,I a1),(5,I y3)]) (λz4 y3=>[]) (iN k a0 a1) k () 0 (λ_=>rfl) h (SE.fin [] ⟨rfl,rfl,rfl,trivial⟩ rfl) (λn z4 y3 h=>?_);unfold iN at h;refine ai (sr ?_);iterate 2 refine mq ?_
  refine ol nq ?_;refine jb (bq rfl) ?_;refine nt (ci h (λh=>?_) (λh=>?_))
  .refine sk (ai (ah (sr ?_)));iterate 2 refine mq ?_
   obtain⟨x5,l,h⟩:=aa h;refine jb (aD (t:=Tl) rfl nq eM l) ?_;refine ja (an (t:=Tl) rfl eM rfl) ?_;refine mq ?_;obtain⟨x6,j,h⟩:=aa h;refine jb (aD (t:=Ti) rfl gh bP j) ?_;refine ja (an (t:=Ti) rfl bP rfl) ?_;refine jb (hJ rfl) ?_;refine nt (ci h (λh=>?_) (λh=>?_))
   .refine sr (mq ?_);refine aq (nt (aA (br (aR (aP ?_)))));obtain rfl:=hR _ h;exact ra
   .refine aX (aI (tn (ae (mq ?_))));obtain⟨x7,c,h⟩:=aa h;refine jb (aY rfl c) ?_;refine aq (nl ?_);exact jz ((),x7) h []
  .refine xa ?_;exact jz ((),()) h []
 .
  refine sr (cq (nt (aA ?_)));cases h;exact ra
def jA(k:Nat)(a0:Int)(a1:Int):Option Int:=
 if a0=a1 then((ck (0+1)).bind λx1=>
 (ck (x1+1)).bind λx2=>
 if x2=0 then(some 2) else(if x2=1 then(some 3) else(some 1))) else(if 0 < a0 then((ck (0+1)).bind λx3=>
 if x3=0 then(some 2) else(if x3=1 then(some 3) else(some 1))) else(if 0=0 then(some 2) else(if 0=1 then(some 3) else(some 1))))
theorem vX(k:Nat)(a0:Int)(a1:Int)(r:Int)(h:jA k a0 a1=some r):
 cV Tryz.prog 82 [I a0,I a1] [] (λ_:Unit=>(bF [I r],[])):=by
 unfold jA at h
 replace h:=bf h
 refine cV.of 22 Tryz.func82 rfl Tryz.ntmps82 rfl λS w0=>?_
 refine sr ?_
 refine cq ?_
 refine nt ?_
 refine sr ?_
 refine cq ?_
 refine nt ?_
 refine ai ?_
 refine ah ?_
 refine ai ?_
 refine ah ?_
 refine ai ?_
 refine ah ?_
 refine ai ?_
 refine ai ?_
 refine sr ?_
 iterate 2 refine mq ?_
 refine jb (fV rfl) ?_
 refine aq ?_
 refine nt ?_
 refine ci h (λh=>?_) (λh=>?_)
 .
  refine dT (bv (bv (ce (tn (ae (mq ?_))))));obtain⟨x1,j,h⟩:=aa h;refine jb (aY rfl j) ?_;refine aq (aG (aI (tn (sr ?_))));refine mq ?_;obtain⟨x2,e,h⟩:=aa h;refine jb (aY rfl e) ?_;refine aq (nt (dT (ce (tn (ai (sr ?_))))));refine mq (nt (ah (sr ?_)));refine jb (fV rfl) ?_;refine aq (nt ?_);refine ci h (λh=>?_) (λh=>?_)
  .refine sr (cq (nt (aA (aR (aP ?_)))));cases h;exact ra
  .refine sr (jb (fV rfl) ?_);refine aq (nt ?_);refine ci h (λh=>?_) (λh=>?_)
   .refine sr (cq (nt (aA (aR (aP ?_)))));cases h;exact ra
   .refine aX (aI (tn (sr (cq (nt (aA ?_))))));cases h;exact ra
 .
  refine sk (sr (mq ?_));refine jb (iY rfl) ?_;refine aq (nt ?_);refine ci h (λh=>?_) (λh=>?_)
  .refine dT (bv (qo (eq_false (by decide)) ?_));refine bv (ce (tn (sr (mq ?_))));obtain⟨x3,c,h⟩:=aa h;refine jb (aY rfl c) ?_;refine aq (nt (dT (ce (tn (ai (sr ?_))))));refine mq (nt (ah (sr ?_)));refine jb (fV rfl) ?_;refine aq (nt ?_);refine ci h (λh=>?_) (λh=>?_)
   .refine sr (cq (nt (aA (aR (aP ?_)))));cases h;exact ra
   .refine sr (jb (fV rfl) ?_);refine aq (nt ?_);refine ci h (λh=>?_) (λh=>?_)
    .refine sr (cq (nt (aA (aR (aP ?_)))));cases h;exact ra
    .refine aX (aI (tn (sr (cq (nt (aA ?_))))));cases h;exact ra
  .refine sk (dT (qo (eq_false (by decide)) ?_));refine bv (qo (eq_false (by decide)) ?_);refine bv (ce (tn (ai (sr (mq (nt (ah (sr ?_))))))));refine jb (fV rfl) ?_;refine aq (nt ?_);refine ci h (λh=>?_) (λh=>?_)
   .refine sr (cq (nt (aA (aR (aP ?_)))));cases h;exact ra
   .refine sr (jb (fV rfl) ?_);refine aq (nt ?_);refine ci h (λh=>?_) (λh=>?_)
    .refine sr (cq (nt (aA (aR (aP ?_)))));cases h;exact ra
    .refine aX (aI (tn (sr (cq (nt (aA ?_))))));cases h;exact ra
def gQ(k:Nat)(a0:ab)(a1:Int)(r3:(List (List Int))×Int)(y6:(List Int)×Int):Nat->(Int×Int)->Option Int
 |0,_=>none
 |n+1,c=>
  if c.2 < (r3.1.length:Int) then((((aH r3.1 c.2).bind λr=>
  (kR k a0 r).bind λu=>
  (aH u a1).bind λl=>
  (aH l y6.2).bind λj=>
  if 0≤j then((ck (c.1+1)).bind λh=>
  some h) else(some c.1)):Option (Int)).bind λs=>
  (ck (c.2+1)).bind λe=>
  gQ k a0 a1 r3 y6 n (s,e)) else(some c.1)
def gR(k:Nat)(a0:ab)(a1:Int)(r3:(List (List Int))×Int):Nat->((List Int)×Int)->Option (List Int)
 |0,_=>none
 |n+1,y6=>
  if y6.2 < a0.1 then(((((gQ k a0 a1 r3 y6 k (0,0)):Option (Int)).bind λc=>
  if c=0 then((bV (bh (length y6.1+length [(2:Int)]))).bind λ_=>
  some (y6.1++[2])) else(if c=(r3.1.length:Int) then((bV (bh (length y6.1+length [(1:Int)]))).bind λ_=>
  some (y6.1++[1])) else((bV (bh (length y6.1+length [(3:Int)]))).bind λ_=>
  some (y6.1++[3])))):Option ((List Int))).bind λx8=>
  (ck (y6.2+1)).bind λe=>
  gR k a0 a1 r3 n (x8,e)) else(some y6.1)
def nS(k:Nat)(a0:ab)(a1:Int):Option ((List Int)×Int):=
 (fO k a0 a1).bind λr2=>
 (kh k a0 r2).bind λr3=>
 if¬(r3.2=0) then(some (([]:(List Int)),r3.2)) else(((gR k a0 a1 r3 k (([]:(List Int)),0)):Option ((List Int))).bind λx4=>
 some (x4,0))
theorem zb(k:Nat)(a0:ab)(a1:Int)(r:(List Int)×Int)(h:nS k a0 a1=some r):
 cV Tryz.prog 41 [.rep ak a0,I a1] [] (λ_:Unit=>(bF [.rep Tl r.1,I r.2],[])):=by
 unfold nS at h
 replace h:=bf h
 refine cV.of 67 Tryz.func41 rfl Tryz.ntmps41 rfl λS w0=>?_
 refine sr ?_
 refine bx λb1=>?_
 refine cq ?_
 refine cq ?_
 refine nt ?_
 refine ai ?_
 refine bB ?_
 refine ea 0 (ao rfl dh (mU) rfl) ?_
 refine ea 0 (ao rfl dh (mU) rfl) ?_
 refine dm ?_
 obtain⟨r2,W1,h⟩:=aa h
 have W3:=nR k a0 a1 r2 W1
 refine db (av [.tmp 14,.tmp 15] rfl rfl TN rfl W3) ?_
 obtain⟨r3,W0,h⟩:=aa h
 have W2:=qV k a0 r2 r3 W0
 refine db (av [.tmp 13,.tmp 16] rfl rfl TO rfl W2) ?_
 refine dm ?_
 refine da (dz rfl rfl) ?_
 refine da (dz rfl rfl) ?_
 refine da (iZ rfl) ?_
 refine df cF ?_
 refine aq ?_
 refine nt ?_
 refine ai ?_
 refine sr ?_
 refine mq ?_
 refine jb (dU rfl) ?_
 refine nt ?_
 refine cn h (λh=>?_) (λh=>?_)
 .
  refine sr (mq ?_);refine cq ?_;refine aq (nt (rx ?_));refine bA (dS (t:=Tl) (x:=([]:(List Int))) 4 rfl .nil rfl rfl) ?_;cases h;exact rb
 .
  refine sk (sr (cq (nt ?_)));refine aE (Z:=Value) (α:=(List Int)) (λz5 x4=>[(8,.eq z5)]) (λz5 x4=>[.sl z5 3 Ti x4]) h (λK h=>?_) (λz5 x4 h=>?_)
  .refine sr (cq (nt (ah ?_)));refine gz (SE.nil 3 Ti) ?_;refine aF (λz7 y6=>[(1,I a1),(2,Pt b1),(6,.rep (.slice Tl) r3.1),(8,.eq z7),(9,I y6.2)]) (λz7 y6=>[.obj b1 25 (.rep ak a0),.sl z7 3 Ti y6.1]) (gR k a0 a1 r3) k (.slice none 0 0) (([]:(List Int)),0) (λ_=>rfl) h (SE.fin [1,0] ⟨rfl,rfl,rfl,rfl,rfl,trivial⟩ rfl) (λn z7 y6 h=>?_);unfold gR at h;refine ai (sr (mq ?_));refine fl eW ?_;refine lo bP ?_;refine jb (bq rfl) ?_;refine nt (ci h (λh=>?_) (λh=>?_))
   .refine sk (aE (Z:=Value) (α:=(List Int)) (λz9 x8=>[(1,I a1),(2,Pt b1),(6,.rep (.slice Tl) r3.1),(8,.eq z9),(9,I y6.2)]) (λz9 x8=>[.obj b1 25 (.rep ak a0),.sl z9 3 Ti x8]) h (λK h=>?_) (λz9 x8 h=>?_))
    .refine ah (sr (cq (nt ?_)));refine aE (Z:=Unit) (α:=Int) (λu j=>[(1,I a1),(2,Pt b1),(6,.rep (.slice Tl) r3.1),(8,.eq z7),(9,I y6.2),(10,I j)]) (λu j=>[.obj b1 25 (.rep ak a0),.sl z7 3 Ti y6.1]) h (λK h=>?_) (λu j h=>?_)
     .refine sr (cq (nt (ah ?_)));refine aF (λs c=>[(1,I a1),(2,Pt b1),(6,.rep (.slice Tl) r3.1),(8,.eq z7),(9,I y6.2),(10,I c.1),(11,I c.2)]) (λs c=>[.obj b1 25 (.rep ak a0),.sl z7 3 Ti y6.1]) (gQ k a0 a1 r3 y6) k () (0,0) (λ_=>rfl) h (SE.fin [0,1] ⟨rfl,rfl,rfl,rfl,rfl,rfl,rfl,trivial⟩ rfl) (λn s c h=>?_);unfold gQ at h;refine ai (sr ?_);iterate 2 refine mq ?_
      refine ol nq ?_;refine jb (bq rfl) ?_;refine nt (ci h (λh=>?_) (λh=>?_))
      .refine sk (aE (Z:=Unit) (α:=Int) (λl e=>[(1,I a1),(2,Pt b1),(6,.rep (.slice Tl) r3.1),(8,.eq z7),(9,I y6.2),(10,I e),(11,I c.2)]) (λl e=>[.obj b1 25 (.rep ak a0),.sl z7 3 Ti y6.1]) h (λK h=>?_) (λl e h=>?_))
       .refine ah (ai (bB ?_));refine ea 0 (ao rfl dh (mU) rfl) ?_;refine dm ?_;refine dm ?_;obtain⟨mw,M,h⟩:=aa h;refine db (aD (t:=Tl) rfl nq eM M) ?_;refine da (an (t:=Tl) rfl eM rfl) ?_;obtain⟨WZ,X,h⟩:=aa h;refine db (av [.tmp 35,.tmp 39] rfl rfl QO rfl (pK k a0 mw WZ X)) ?_;refine dm ?_;obtain⟨W5,J,h⟩:=aa h;refine db (aD (t:=Tl) rfl nq eM J) ?_;refine da (an (t:=Tl) rfl eM rfl) ?_;refine dm ?_;refine df cF ?_;obtain⟨W4,F,h⟩:=aa h;refine jb (aD (t:=Ti) rfl gh bP F) ?_;refine ja (an (t:=Ti) rfl bP rfl) ?_;refine jb (hJ rfl) ?_;refine nt (ci h (λh=>?_) (λh=>?_))
        .refine ae (mq ?_);obtain⟨mc,E,h⟩:=aa h;refine jb (aY rfl E) ?_;refine aq (aG (bn ?_));exact jz ((),mc) h [0,1]
        .refine aX (bn ?_);exact jz ((),c.1) h [0,1]
       .refine ae (mq ?_);obtain⟨gw,D,h⟩:=aa h;refine jb (aY rfl D) ?_;refine aq (nl ?_);exact jz ((),(e,gw)) h [0,1]
      .refine xa ?_;exact jz ((),c.1) h [0,1]
     .refine sr (mq (nt (ah (sr ?_))));refine jb (fV rfl) ?_;refine aq (nt ?_);refine ci h (λh=>?_) (λh=>?_)
      .refine ae (mq ?_);refine ja (aU (t:=Ti) [(.const (.int .i64 (2)),_)] [2] rfl rfl cJ (.cons rfl .int .nil) rfl rfl) ?_;obtain⟨W8,U,h⟩:=aa h;refine fr 1 ?_;refine cE rfl rfl rfl (bi rfl rfl cJ (ap U)) ⟨rfl,rfl,trivial⟩ λWY=>?_;refine aq (aG (aI (bn ?_)));exact jz (WY,y6.1++[2]) h [1,0]
      .refine sr (mq ?_);refine ol nq ?_;refine jb (fV rfl) ?_;refine aq (nt ?_);refine ci h (λh=>?_) (λh=>?_)
       .refine ae (mq ?_);refine ja (aU (t:=Ti) [(.const (.int .i64 (1)),_)] [1] rfl rfl cJ (.cons rfl .int .nil) rfl rfl) ?_;obtain⟨W7,Q,h⟩:=aa h;refine fr 1 ?_;refine cE rfl rfl rfl (bi rfl rfl cJ (ap Q)) ⟨rfl,rfl,trivial⟩ λzz=>?_;refine aq (aG (aI (bn ?_)));exact jz (zz,y6.1++[1]) h [1,0]
       .refine ae (mq ?_);refine ja (aU (t:=Ti) [(.const (.int .i64 (3)),_)] [3] rfl rfl cJ (.cons rfl .int .nil) rfl rfl) ?_;obtain⟨W6,O,h⟩:=aa h;refine fr 1 ?_;refine cE rfl rfl rfl (bi rfl rfl cJ (ap O)) ⟨rfl,rfl,trivial⟩ λqt=>?_;refine aq (aG (aI (bn ?_)));exact jz (qt,y6.1++[3]) h [1,0]
    .refine ae (mq ?_);obtain⟨Y,y,h⟩:=aa h;refine jb (aY rfl y) ?_;refine aq (nl ?_);exact jz (z9,(x8,Y)) h [0,1]
   .refine xa ?_;exact jz (z7,y6.1) h [1]
  .refine sr (mq ?_);refine aq ?_;refine cq (nt (aA ?_));refine bA (fU [4,8,66] ⟨rfl,rfl,rfl,trivial⟩) ?_;cases h;exact rb
def fy(k:Nat)(a0:ab)(a1:Int)(r4:(List (List Int))×Int):Nat->(Int×Int×Int)->Option (Int×Int)
 |0,_=>none
 |n+1,y9=>
  if y9.2.2 < (r4.1.length:Int) then((((aH r4.1 y9.2.2).bind λj=>
  (kR k a0 j).bind λl=>
  (nP k l a1).bind λc=>
  if 0≤c then(some (qR y9.1 c,k9 y9.2.1 c)) else(some (y9.1,y9.2.1))):Option (Int×Int)).bind λe=>
  (ck (y9.2.2+1)).bind λh=>
  fy k a0 a1 r4 n (e.1,e.2,h)) else(some (y9.1,y9.2.1))
def nT(k:Nat)(a0:ab)(a1:Int):Option (eK×Int):=
 (ee k a0 a1).bind λr3=>
 (kh k a0 r3).bind λr4=>
 if¬(r4.2=0) then(some ((0,0),r4.2)) else((ck ((a0.2.2.2.2.1.length:Int)+1)).bind λx5=>
 ((fy k a0 a1 r4 k (x5,(-1:Int),0)):Option (Int×Int)).bind λx7=>
 if x7.2 < 0 then(some ((0,0),11)) else(some ((x7.1,x7.2),0)))
theorem zc(k:Nat)(a0:ab)(a1:Int)(r:eK×Int)(h:nT k a0 a1=some r):
 cV Tryz.prog 43 [.rep ak a0,I a1] [] (λ_:Unit=>(bF [.rep bu r.1,I r.2],[])):=by
 unfold nT at h
 replace h:=bf h
 refine cV.of 58 Tryz.func43 rfl Tryz.ntmps43 rfl λS w0=>?_
 refine sr ?_
 refine bx λb1=>?_
 refine be rfl rfl rfl (bz rfl rj Hm) trivial λb2=>?_
 refine cq ?_
 refine nt ?_
 refine ai ?_
 refine bB ?_
 refine ea 1 (ao rfl dh (mU) rfl) ?_
 refine ea 1 (ao rfl dh (mU) rfl) ?_
 refine dm ?_
 obtain⟨r3,O,h⟩:=aa h
 have U:=kg k a0 a1 r3 O
 refine db (av [.tmp 13,.tmp 14] rfl rfl QL rfl U) ?_
 obtain⟨r4,M,h⟩:=aa h
 have Q:=qV k a0 r3 r4 M
 refine db (av [.tmp 12,.tmp 15] rfl rfl TO rfl Q) ?_
 refine dm ?_
 refine da (dz rfl rfl) ?_
 refine da (dz rfl rfl) ?_
 refine da (iZ rfl) ?_
 refine df cF ?_
 refine aq ?_
 refine nt ?_
 refine ai ?_
 refine sr ?_
 refine mq ?_
 refine jb (dU rfl) ?_
 refine nt ?_
 refine cn h (λh=>?_) (λh=>?_)
 .
  refine sr (cC rfl (dA [] rfl zm rj te (iV trivial) rfl) trivial ?_);refine mq ?_;refine aO rfl rfl (aL rfl mf trivial rfl rfl) ⟨rfl,rfl,trivial⟩ ?_;refine aq (nt (rx ?_));refine bA (fX (a:=.agg (.pair (I 0) (I 0))) (a':=.rep bu (0,0)) (iU (.agg (.pair .int .int)))) ?_;cases h;exact aV () [.rep bu (0,0),_] 0 ⟨⟨_,_,_,_,_,rfl,(.head _),mf,(mU),rfl⟩,rfl,trivial⟩ rfl
 .
  refine sk (sr (fl cu ?_));refine fr 1 ?_;refine lo fp ?_;refine ol po ?_;obtain⟨x5,J,h⟩:=aa h;refine jb (aY rfl J) ?_;refine jb (dA [(0,.tmp 26,_),(1,.const (.int .i64 (-1)),_)] rfl zm rj te (iV ⟨rfl,rfl,trivial⟩) rfl) ?_;refine be rfl rfl rfl (bz rfl rj Hm) trivial λb6=>?_;refine aO rfl rfl (aL rfl mf trivial rfl rfl) ⟨rfl,rfl,trivial⟩ ?_;refine nt (aE (Z:=Unit) (α:=Int×Int) (λz8 x7=>[(4,Pt b2),(8,Pt b6)]) (λz8 x7=>[.obj b2 67 (.agg (.pair (I 0) (I 0))),.obj b6 67 (.agg (.pair (I x7.1) (I x7.2)))]) h (λK h=>?_) (λz8 x7 h=>?_))
  .refine sr (cq (nt (ah ?_)));refine aF (λl y9=>[(1,I a1),(2,Pt b1),(4,Pt b2),(6,.rep (.slice Tl) r4.1),(8,Pt b6),(9,I y9.2.2)]) (λl y9=>[.obj b1 25 (.rep ak a0),.obj b2 67 (.agg (.pair (I 0) (I 0))),.obj b6 67 (.agg (.pair (I y9.1) (I y9.2.1)))]) (fy k a0 a1 r4) k () (x5,(-1:Int),0) (λ_=>rfl) h (SE.fin [1,2,0] ⟨rfl,rfl,rfl,rfl,rfl,rfl,trivial⟩ rfl) (λn l y9 h=>?_);unfold fy at h;refine ai (sr ?_);iterate 2 refine mq ?_
   refine ol nq ?_;refine jb (bq rfl) ?_;refine nt (ci h (λh=>?_) (λh=>?_))
   .refine sk (aE (Z:=Unit) (α:=Int×Int) (λj c=>[(1,I a1),(2,Pt b1),(4,Pt b2),(6,.rep (.slice Tl) r4.1),(8,Pt b6),(9,I y9.2.2)]) (λj c=>[.obj b1 25 (.rep ak a0),.obj b2 67 (.agg (.pair (I 0) (I 0))),.obj b6 67 (.agg (.pair (I c.1) (I c.2)))]) h (λK h=>?_) (λj c h=>?_))
    .refine ah (ai (bB ?_));refine ea 0 (ao rfl dh (mU) rfl) ?_;refine dm ?_;refine dm ?_;obtain⟨F,x,h⟩:=aa h;refine db (aD (t:=Tl) rfl nq eM x) ?_;refine da (an (t:=Tl) rfl eM rfl) ?_;obtain⟨s,D,h⟩:=aa h;refine db (av [.tmp 34,.tmp 38] rfl rfl QO rfl (pK k a0 F s D)) ?_;refine dm ?_;refine df cF ?_;obtain⟨e,y,h⟩:=aa h;refine jb (av [.tmp 39,.tmp 40] rfl rfl VJ rfl (yZ k s a1 e y)) ?_;refine aq (nt (sr ?_));refine mq ?_;refine jb (hJ rfl) ?_;refine nt (ci h (λh=>?_) (λh=>?_))
     .refine ae (fl QH ?_);refine fr 2 ?_;refine lo bP ?_;refine mq ?_;refine jb (O3 rfl rfl) ?_;refine fl JM ?_;refine lo bP ?_;refine mq ?_;refine jb (EV rfl rfl) ?_;refine jb (dA [(0,.tmp 47,_),(1,.tmp 51,_)] rfl zm rj te (iV ⟨rfl,rfl,trivial⟩) rfl) ?_;refine aO rfl rfl (aL rfl mf trivial rfl rfl) ⟨rfl,rfl,trivial⟩ ?_;refine aG (bn ?_);exact jz ((),(qR y9.1 e,k9 y9.2.1 e)) h [1,2,0]
     .refine aX (bn ?_);exact jz ((),(y9.1,y9.2.1)) h [0,1,2]
    .refine ae (mq ?_);obtain⟨E,u,h⟩:=aa h;refine jb (aY rfl u) ?_;refine aq (nl ?_);exact jz ((),(c.1,c.2,E)) h [0,1,2]
   .refine xa ?_;exact jz ((),(y9.1,y9.2.1)) h [1,2]
  .refine ai (sr (fl JM ?_));refine fr 1 ?_;refine lo bP ?_;refine jb (bq rfl) ?_;refine nt (ci h (λh=>?_) (λh=>?_))
   .refine sr (cC rfl (dA [] rfl zm rj te (iV trivial) rfl) trivial ?_);refine fr 1 ?_;refine aO rfl rfl (aL rfl mf trivial rfl rfl) ⟨rfl,rfl,trivial⟩ ?_;refine cq (nt (rx ?_));refine bA (fX (a:=.agg (.pair (I 0) (I 0))) (a':=.rep bu (0,0)) (iU (.agg (.pair .int .int)))) ?_;cases h;exact aV () [.rep bu (0,0),_] 0 ⟨⟨_,_,_,_,_,rfl,(.head _),mf,(mU),rfl⟩,rfl,trivial⟩ rfl
   .refine sk (sr (lo mf ?_));refine fr 1 ?_;refine aO rfl rfl (aL rfl mf trivial rfl rfl) ⟨rfl,rfl,trivial⟩ ?_;refine cq (nt (aA ?_));refine bA (fX (a:=.agg (.pair (I x7.1) (I x7.2))) (a':=.rep bu (x7.1,x7.2)) (iU (.agg (.pair .int .int)))) ?_;cases h;exact aV () [.rep bu (x7.1,x7.2),_] 0 ⟨⟨_,_,_,_,_,rfl,(.head _),mf,(mU),rfl⟩,rfl,trivial⟩ rfl
