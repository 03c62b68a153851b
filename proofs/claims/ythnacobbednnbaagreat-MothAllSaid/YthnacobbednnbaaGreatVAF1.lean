import Derived.Test.YthnacobbednnbaaGreatVAFacts
open Nat
open List hiding mem_of_getElem?
open Array hiding mem_of_getElem? mk
set_option linter.unusedSimpArgs false
set_option linter.unusedVariables false
set_option maxRecDepth 4000
set_option maxHeartbeats 1000000
namespace Go.Proofs.YthnacobbednnbaaGreat
open K Go Go.Proofs
def dD(k:Nat)(a0:Int)(a1:Int)(a2:Int):Option Bool:=
 ((if a1≤a0 then(some (decide (a0≤a2))) else(some false)):Option (Bool)).bind λx1=>
 some x1
theorem dI(k:Nat)(a0:Int)(a1:Int)(a2:Int)(r:Bool)(h:dD k a0 a1 a2=some r):
 dk Tryz.prog 53 [I a0,I a1,I a2] [] (λ_:Unit=>(bD [.eq (.bool r)],[])):=by
 unfold dD at h
 replace h:=aY h
 refine dk.of 15 Tryz.func53 rfl Tryz.ntmps53 rfl λS w0=>?_
 refine sr ?_
 refine cq ?_
 refine nt ?_
 refine aH (Z:=Unit) (α:=Bool) (λz2 x1=>[(6,.eq (.bool x1))]) (λz2 x1=>[]) h (λK h=>?_) (λz2 x1 h=>?_)
 .
  refine ab ?_;iterate 2 refine mq ?_
  refine jb (CO rfl) ?_;refine mq ?_;refine cK (s:=10) rfl (λhb=>?_) (λhb=>?_)
  .replace h:=fg (tJ hb) h;refine gm ?_;refine gm ?_;refine gb (CO rfl) ?_;refine pt ?_;refine aq (nl ?_);exact jz ((),decide (a0≤a2)) h []
  .replace h:=cY (tK hb) h;iterate 3 refine gn ?_
   refine pf ?_;refine aq (nl ?_);exact jz ((),false) h []
 .
  refine aA ?_;cases h;exact ra
def fN(k:Nat)(a0:Int)(a1:Int):Option Int:=
 (cJ (0≤a1)).bind λ_=>
 some (C6 .u8 a0 (ou .u8 1 a1))
theorem kh(k:Nat)(a0:Int)(a1:Int)(r:Int)(h:fN k a0 a1=some r):
 dk Tryz.prog 75 [.eq (.int .u8 a0),I a1] [] (λ_:Unit=>(bD [.eq (.int .u8 r)],[])):=by
 unfold fN at h
 replace h:=aY h
 refine dk.of 9 Tryz.func75 rfl Tryz.ntmps75 rfl λS w0=>?_
 refine sr ?_
 refine cq ?_
 refine nt ?_
 refine sr ?_
 iterate 2 refine mq ?_
 obtain⟨u1,c,h⟩:=aa h
 refine jb (MH rfl (am c)) ?_
 refine jb (RO rfl) ?_
 refine aq ?_
 refine nt ?_
 refine aA ?_
 cases h
 exact ra
def eR(k:Nat)(a0:Int)(a1:Int):Option Bool:=
 (cJ (0≤a1)).bind λ_=>
 some (decide ((qg .u8 (gg .u8 a0 a1) 1)=1))
theorem gx(k:Nat)(a0:Int)(a1:Int)(r:Bool)(h:eR k a0 a1=some r):
 dk Tryz.prog 97 [.eq (.int .u8 a0),I a1] [] (λ_:Unit=>(bD [.eq (.bool r)],[])):=by
 unfold eR at h
 replace h:=aY h
 refine dk.of 10 Tryz.func97 rfl Tryz.ntmps97 rfl λS w0=>?_
 refine sr ?_
 refine cq ?_
 refine nt ?_
 refine sr ?_
 iterate 2 refine mq ?_
 obtain⟨u1,c,h⟩:=aa h
 refine jb (ug rfl (am c)) ?_
 refine jb (P0 rfl) ?_
 refine jb (hH rfl) ?_
 refine aq ?_
 refine nt ?_
 refine aA ?_
 cases h
 exact ra
def cV(k:Nat)(a0:ae)(x8:(List Int)):Nat->(Int×Int)->Option (Except Int Int)
 |0,_=>none
 |n+1,y9=>
  if y9.2 < (x8.length:Int) then((aM x8 y9.2).bind λc=>
  (ck (a0.1 - 1)).bind λh=>
  (dD k c 0 h).bind λr=>
  if¬(r=true) then(some (.error 3)) else((eR k y9.1 c).bind λl=>
  if l=true then(some (.error 4)) else((fN k y9.1 c).bind λj=>
  (ck (y9.2+1)).bind λe=>
  cV k a0 x8 n (j,e)))) else(some (.ok y9.1))
def cX(k:Nat)(a0:ae)(a1:(List (List Int))):Nat->(Int×Int)->Option (Except Int Unit)
 |0,_=>none
 |n+1,y4=>
  if y4.2 < (a1.length:Int) then(bE (α:=Int) ((aM a1 y4.2).bind λx8=>
  cV k a0 x8 k (y4.1,0)) (λe=>some (.error e)) λx6=>
  (ck (y4.2+1)).bind λc=>
  cX k a0 a1 n (x6,c)) else(some (.ok ()))
def iQ(k:Nat)(a0:ae)(a1:(List (List Int))):Option Int:=
 if 3 < (a1.length:Int) then(some 6) else(bE (α:=Unit) (cX k a0 a1 k (0,0)) (some) λ_=>
 some 0)
theorem tg(k:Nat)(a0:ae)(a1:(List (List Int)))(r:Int)(h:iQ k a0 a1=some r):
 dk Tryz.prog 54 [.rep au a0,.rep (.slice Tl) a1] [] (λ_:Unit=>(bD [I r],[])):=by
 unfold iQ at h
 replace h:=aY h
 refine dk.of 39 Tryz.func54 rfl Tryz.ntmps54 rfl λS w0=>?_
 refine sr ?_
 refine bx λb1=>?_
 refine cq ?_
 refine nt ?_
 refine aj ?_
 refine sr ?_
 refine mq ?_
 refine ol qp ?_
 refine jb (nv rfl) ?_
 refine nt ?_
 refine ci h (λh=>?_) (λh=>?_)
 .
  refine sr (cq (nt (rx ?_)));cases h;exact ra
 .
  refine sk (sr (cq (nt ?_)));refine dB (Z:=Unit) (α:=Unit) (λz3 x2=>[]) (λz3 x2=>[]) (λe=>e=r) h (λe h=>Option.some.inj h) (λK hR h=>?_) (λz3 x2 h=>?_)
  .refine sr (mq ?_);refine ol qp ?_;refine ff rfl ?_;refine nt (ak (aI (λz5 y4=>[(2,Pt b1),(5,.eq (.int .u8 y4.1)),(13,.rep (.slice Tl) a1),(14,I (a1.length:Int)),(15,I y4.2)]) (λz5 y4=>[.obj b1 25 (.rep au a0)]) (cX k a0 a1) k () (0,0) (λ_=>rfl) h (SE.fin [0] ⟨rfl,rfl,rfl,rfl,rfl,trivial⟩ rfl) (λn z5 y4 h=>?_)));unfold cX at h;refine sr (jb (bF rfl) ?_);refine nt (aj (ci h (λh=>?_) (λh=>?_)))
   .refine sk (dB (Z:=Unit) (α:=Int) (λz7 x6=>[(2,Pt b1),(5,.eq (.int .u8 x6)),(13,.rep (.slice Tl) a1),(14,I (a1.length:Int)),(15,I y4.2)]) (λz7 x6=>[.obj b1 25 (.rep au a0)]) (λe=>e=r) h (λe h=>hR e h) (λK hR h=>?_) (λz7 x6 h=>?_))
    .refine ak (sr ?_);obtain⟨x8,X,h⟩:=aa h;refine jb (aU (t:=Tl) rfl qp gi X) ?_;refine ja (ap (t:=Tl) rfl gi rfl) ?_;refine aq (nt (sr ?_));refine mq ?_;refine ol iq ?_;refine ff rfl ?_;refine nt (ak (aI (λj y9=>[(2,Pt b1),(5,.eq (.int .u8 y9.1)),(13,.rep (.slice Tl) a1),(14,I (a1.length:Int)),(15,I y4.2),(19,.rep Tl x8),(20,I (x8.length:Int)),(21,I y9.2)]) (λj y9=>[.obj b1 25 (.rep au a0)]) (cV k a0 x8) k () (y4.1,0) (λ_=>rfl) h (SE.fin [0] ⟨rfl,rfl,rfl,rfl,rfl,rfl,rfl,rfl,trivial⟩ rfl) (λn j y9 h=>?_)));unfold cV at h;refine sr (jb (bF rfl) ?_);refine nt (aj (ci h (λh=>?_) (λh=>?_)))
     .refine sk (aj (ak (sr ?_)));obtain⟨c,y,h⟩:=aa h;refine jb (aU (t:=Ti) rfl iq cN y) ?_;refine ja (ap (t:=Ti) rfl cN rfl) ?_;refine aq (nt (aj (sr ?_)));refine mq ?_;refine fl gW ?_;refine lo cN ?_;obtain⟨O,x,h⟩:=aa h;refine jb (eg rfl x) ?_;obtain⟨U,F,h⟩:=aa h;refine jc (av [.tmp 25,.const (.int .i64 (0)),.tmp 28] rfl rfl xX rfl (dI k c 0 O U F)) ?_;refine ja (iz rfl) ?_;refine nt (cw h (λh=>?_) (λh=>?_))
      .refine sr (cq (nt (rx (br (bJ (br (bJ (bC ?_))))))));obtain rfl:=hR _ h;exact ra
      .refine sk (aj (sr ?_));iterate 2 refine mq ?_
       obtain⟨Q,E,h⟩:=aa h;refine jb (av [.tmp 31,.tmp 32] rfl rfl H9 rfl (gx k y9.1 c Q E)) ?_;refine nt (cv h (λh=>?_) (λh=>?_))
       .refine sr (cq (nt (rx (br (bJ (br (bJ (bC ?_))))))));obtain rfl:=hR _ h;exact ra
       .refine sk (ab ?_);iterate 2 refine mq ?_
        obtain⟨l,D,h⟩:=aa h;refine jb (av [.tmp 34,.tmp 35] rfl rfl Ou rfl (kh k y9.1 c l D)) ?_;refine aq (aE (aQ (tn (ab ?_))));obtain⟨M,u,h⟩:=aa h;refine jb (bB rfl u) ?_;refine mq (nl ?_);exact jz ((),(l,M)) h [0]
     .refine gQ (cy (cy (dF (bn ?_))));exact jz ((),y9.1) h [0]
    .refine ab ?_;obtain⟨J,s,h⟩:=aa h;refine jb (bB rfl s) ?_;refine mq (nl ?_);exact jz ((),(x6,J)) h [0]
   .refine xa ?_;exact jz ((),()) h []
  .refine sr (cq (nt (aA ?_)));cases h;exact ra
def fW(k:Nat)(a0:ae)(a1:bz):Option Int:=
 (((ck (a0.1 - 1)).bind λx5=>
 (dD k a1.1 0 x5).bind λr6=>
 if¬(r6=true) then(some true) else((dD k a1.2.1 0 (a0.2.2.2.2.1.length:Int)).bind λr7=>
 some (!r7))):Option (Bool)).bind λx3=>
 if x3=true then(some 3) else(some 0)
theorem pY(k:Nat)(a0:ae)(a1:bz)(r:Int)(h:fW k a0 a1=some r):
 dk Tryz.prog 55 [.rep au a0,.rep aZ a1] [] (λ_:Unit=>(bD [I r],[])):=by
 unfold fW at h
 replace h:=aY h
 refine dk.of 21 Tryz.func55 rfl Tryz.ntmps55 rfl λS w0=>?_
 refine sr ?_
 refine bx λb1=>?_
 refine bx λb2=>?_
 refine cq ?_
 refine nt ?_
 refine aj ?_
 refine aH (Z:=Unit) (α:=Bool) (λz4 x3=>[(20,.eq (.bool x3))]) (λz4 x3=>[]) h (λK h=>?_) (λz4 x3 h=>?_)
 .
  refine ab (fl BE ?_);refine lo cN ?_;refine fl gW ?_;refine fr 1 ?_;refine lo cN ?_;obtain⟨x5,c,h⟩:=aa h;refine jb (eg rfl c) ?_;obtain⟨r6,j,h⟩:=aa h;refine jc (av [.tmp 6,.const (.int .i64 (0)),.tmp 9] rfl rfl xX rfl (dI k a1.1 0 x5 r6 j)) ?_;refine ja (iz rfl) ?_;refine mq ?_;refine cK (s:=12) rfl (λhb=>?_) (λhb=>?_)
  .replace h:=fg (A9 hb) h;iterate 7 refine gn ?_
   refine pt (nl ?_);exact jz ((),true) h []
  .replace h:=cY (ui hb) h;refine ga (aD rfl BD) ?_;refine fr 1 ?_;refine oI rfl rfl rfl rfl rfl rfl (ax rfl cN ny rfl) ⟨rfl,trivial⟩ ?_;refine ga (aD rfl eK) ?_;refine fr 1 ?_;refine oI rfl rfl rfl rfl rfl rfl (ax rfl lG ny rfl) ⟨rfl,trivial⟩ ?_;refine ga (sX rfl rfl AA) ?_;obtain⟨r7,e,h⟩:=aa h;refine gc (av [.tmp 14,.const (.int .i64 (0)),.tmp 17] rfl rfl xX rfl (dI k a1.2.1 0 (a0.2.2.2.2.1.length:Int) r7 e)) ?_;refine ga (iz rfl) ?_;refine pf (nl ?_);exact jz ((), !r7) h []
 .
  refine cv h (λh=>?_) (λh=>?_)
  .refine sr (cq (nt (rx ?_)));cases h;exact ra
  .refine sk (sr (cq (nt (aA ?_))));cases h;exact ra
def eW(k:Nat)(a0:ae):Nat->Int->Option (Except Int Unit)
 |0,_=>none
 |n+1,c=>
  if c < (a0.2.2.2.2.1.length:Int) then((aM a0.2.2.2.2.1 c).bind λj=>
  (iQ k a0 j).bind λe=>
  if¬(e=0) then(some (.error e)) else((ck (c+1)).bind λh=>
  eW k a0 n h)) else(some (.ok ()))
def eV(k:Nat)(a0:ae):Nat->Int->Option (Except Int Unit)
 |0,_=>none
 |n+1,c=>
  if c < (a0.2.2.2.2.2.length:Int) then((aM a0.2.2.2.2.2 c).bind λj=>
  (fW k a0 j).bind λe=>
  if¬(e=0) then(some (.error e)) else((ck (c+1)).bind λh=>
  eV k a0 n h)) else(some (.ok ()))
def mE(k:Nat)(a0:ae):Option Int:=
 (((dD k a0.1 1 5).bind λr4=>
 if¬(r4=true) then(some true) else((dD k a0.2.1 0 3).bind λr5=>
 if¬(r5=true) then(some true) else((dD k a0.2.2.1 0 3).bind λr6=>
 if¬(r6=true) then(some true) else((dD k a0.2.2.2.1 1 3).bind λr7=>
 some (!r7))))):Option (Bool)).bind λx2=>
 if x2=true then(some 1) else(if(a0.2.2.2.2.1.length:Int) < 1 then(some 7) else(if 6 < (a0.2.2.2.2.1.length:Int) then(some 6) else(bE (α:=Unit) (eW k a0 k 0) (some) λ_=>
 if 8 < (a0.2.2.2.2.2.length:Int) then(some 6) else(bE (α:=Unit) (eV k a0 k 0) (some) λ_=>
 some 0))))
theorem xz(k:Nat)(a0:ae)(r:Int)(h:mE k a0=some r):
 dk Tryz.prog 19 [.rep au a0] [] (λ_:Unit=>(bD [I r],[])):=by
 unfold mE at h
 replace h:=aY h
 refine dk.of 73 Tryz.func19 rfl Tryz.ntmps19 rfl λS w0=>?_
 refine sr ?_
 refine bx λb1=>?_
 refine cq ?_
 refine nt ?_
 refine aj ?_
 refine aH (Z:=Unit) (α:=Bool) (λz3 x2=>[(1,Pt b1),(31,.eq (.bool x2))]) (λz3 x2=>[.obj b1 25 (.rep au a0)]) h (λK h=>?_) (λz3 x2 h=>?_)
 .
  refine ab (fl gW ?_);refine lo cN ?_;obtain⟨r4,Um,h⟩:=aa h;refine jc (av [.tmp 11,.const (.int .i64 (1)),.const (.int .i64 (5))] rfl rfl xX rfl (dI k a0.1 1 5 r4 Um)) ?_;refine ja (iz rfl) ?_;refine mq ?_;refine cK (s:=14) rfl (λhb=>?_) (λhb=>?_)
  .replace h:=fg (A9 hb) h;iterate 4 refine gn ?_
   refine pt ?_;refine mq ?_;iterate 4 refine gn ?_
   refine pt ?_;refine mq ?_;iterate 4 refine gn ?_
   refine pt (nl ?_);exact jz ((),true) h [0]
  .replace h:=cY (ui hb) h;refine ga (aD rfl BF) ?_;refine oI rfl rfl rfl rfl rfl rfl (ax rfl cN ny rfl) ⟨rfl,trivial⟩ ?_;obtain⟨r5,zz,h⟩:=aa h;refine gc (av [.tmp 16,.const (.int .i64 (0)),.const (.int .i64 (3))] rfl rfl xX rfl (dI k a0.2.1 0 3 r5 zz)) ?_;refine ga (iz rfl) ?_;refine pf ?_;refine mq ?_;refine cK (s:=20) rfl (λhb=>?_) (λhb=>?_)
   .replace h:=fg (A9 hb) h;iterate 4 refine gn ?_
    refine pt ?_;refine mq ?_;iterate 4 refine gn ?_
    refine pt (nl ?_);exact jz ((),true) h [0]
   .replace h:=cY (ui hb) h;refine ga (aD rfl xQ) ?_;refine oI rfl rfl rfl rfl rfl rfl (ax rfl cN ny rfl) ⟨rfl,trivial⟩ ?_;obtain⟨r6,qt,h⟩:=aa h;refine gc (av [.tmp 22,.const (.int .i64 (0)),.const (.int .i64 (3))] rfl rfl xX rfl (dI k a0.2.2.1 0 3 r6 qt)) ?_;refine ga (iz rfl) ?_;refine pf ?_;refine mq ?_;refine cK (s:=26) rfl (λhb=>?_) (λhb=>?_)
    .replace h:=fg (A9 hb) h;iterate 4 refine gn ?_
     refine pt (nl ?_);exact jz ((),true) h [0]
    .replace h:=cY (ui hb) h;refine ga (aD rfl H5) ?_;refine oI rfl rfl rfl rfl rfl rfl (ax rfl cN ny rfl) ⟨rfl,trivial⟩ ?_;obtain⟨r7,mw,h⟩:=aa h;refine gc (av [.tmp 28,.const (.int .i64 (1)),.const (.int .i64 (3))] rfl rfl xX rfl (dI k a0.2.2.2.1 1 3 r7 mw)) ?_;refine ga (iz rfl) ?_;refine pf (nl ?_);exact jz ((), !r7) h [0]
 .
  refine cv h (λh=>?_) (λh=>?_)
  .refine sr (cq (nt (rx ?_)));cases h;exact ra
  .refine sk (aj (sr (fl eK ?_)));refine lo lG ?_;refine ol AA ?_;refine aq (nt (ak (sr ?_)));refine mq ?_;refine jb (bF rfl) ?_;refine aq (nt ?_);refine ci h (λh=>?_) (λh=>?_)
   .refine sr (cq (nt (aA (bJ (bC ?_)))));cases h;exact ra
   .refine sr (mq ?_);refine jb (nv rfl) ?_;refine aq (nt ?_);refine ci h (λh=>?_) (λh=>?_)
    .refine sr (cq (nt (aA (bJ (bC ?_)))));cases h;exact ra
    .refine be (aQ (tn (dB (Z:=Unit) (α:=Unit) (λz9 x8=>[(1,Pt b1)]) (λz9 x8=>[.obj b1 25 (.rep au a0)]) (λe=>e=r) h (λe h=>Option.some.inj h) (λK hR h=>?_) (λz9 x8 h=>?_))))
     .refine sr (fl eK ?_);refine lo lG ?_;refine ol AA ?_;refine ff rfl ?_;refine nt (ak (aI (λx j=>[(1,Pt b1),(42,.rep (.slice (.slice Tl)) a0.2.2.2.2.1),(43,I (a0.2.2.2.2.1.length:Int)),(44,I j)]) (λx j=>[.obj b1 25 (.rep au a0)]) (eW k a0) k () 0 (λ_=>rfl) h (SE.fin [0] ⟨rfl,rfl,rfl,rfl,trivial⟩ rfl) (λn x j h=>?_)));unfold eW at h;refine sr (jb (bF rfl) ?_);refine nt (aj (ci h (λh=>?_) (λh=>?_)))
      .refine sk (aj (ak (sr ?_)));obtain⟨Y,J,h⟩:=aa h;refine jb (aU (t:=(.slice Tl)) rfl AA yN J) ?_;refine ja (ap (t:=(.slice Tl)) rfl yN rfl) ?_;refine aq (nt (sr ?_));refine lo g7 ?_;refine mq ?_;obtain⟨mc,O,h⟩:=aa h;refine jb (av [.tmp 48,.tmp 49] rfl rfl SY rfl (tg k a0 Y mc O)) ?_;refine aq (nt (sr ?_));refine mq ?_;refine jb (fh rfl) ?_;refine nt (cn h (λh=>?_) (λh=>?_))
       .refine sr (mq ?_);refine aq (nt (aA (br (bJ (bC ?_)))));obtain rfl:=hR _ h;exact ra
       .refine be (aQ (tn (ab ?_)));obtain⟨X,F,h⟩:=aa h;refine jb (bB rfl F) ?_;refine mq (nl ?_);exact jz ((),X) h [0]
      .refine xa ?_;exact jz ((),()) h [0]
     .refine aj (sr (fl qi ?_));refine lo AP ?_;refine ol OQ ?_;refine jb (nv rfl) ?_;refine nt (ci h (λh=>?_) (λh=>?_))
      .refine sr (cq (nt (rx ?_)));cases h;exact ra
      .refine sk (dB (Z:=Unit) (α:=Unit) (λu y=>[]) (λu y=>[]) (λe=>e=r) h (λe h=>Option.some.inj h) (λK hR h=>?_) (λu y h=>?_))
       .refine sr (fl qi ?_);refine lo AP ?_;refine ol OQ ?_;refine ff rfl ?_;refine nt (ak (aI (λl c=>[(1,Pt b1),(60,Rs aZ a0.2.2.2.2.2),(61,I (a0.2.2.2.2.2.length:Int)),(62,I c)]) (λl c=>[.obj b1 25 (.rep au a0)]) (eV k a0) k () 0 (λ_=>rfl) h (SE.fin [0] ⟨rfl,rfl,rfl,rfl,trivial⟩ rfl) (λn l c h=>?_)));unfold eV at h;refine sr (jb (bF rfl) ?_);refine nt (aj (ci h (λh=>?_) (λh=>?_)))
        .refine sk (aj (ak (sr ?_)));obtain⟨U,E,h⟩:=aa h;refine jb (aU (t:=aZ) rfl OQ qB E) ?_;refine ja (ap (t:=aZ) rfl qB rfl) ?_;refine aX rfl rfl rfl (bi rfl AC It) trivial λUn=>?_;refine aP rfl rfl (aN rfl qB rfl rfl rfl) ⟨rfl,rfl,trivial⟩ ?_;refine nt (sr (fr 1 ?_));refine lo g7 ?_;refine fr 1 ?_;refine lo qB ?_;obtain⟨gw,M,h⟩:=aa h;refine jb (av [.tmp 66,.tmp 67] rfl rfl SX rfl (pY k a0 U gw M)) ?_;refine aq (nt (sr ?_));refine mq ?_;refine jb (fh rfl) ?_;refine nt (cn h (λh=>?_) (λh=>?_))
         .refine sr (mq ?_);refine aq (nt (aA (br (bJ (bC ?_)))));obtain rfl:=hR _ h;exact ra
         .refine be (aQ (tn (ab ?_)));obtain⟨Q,D,h⟩:=aa h;refine jb (bB rfl D) ?_;refine mq (nl ?_);exact jz ((),Q) h [1]
        .refine xa ?_;exact jz ((),()) h []
       .refine sr (cq (nt (aA ?_)));cases h;exact ra
def cD(k:Nat)(a0:ae)(a1:Int):Nat->((List Int)×Int)->Option (List Int)
 |0,_=>none
 |n+1,y5=>
  if y5.2 < 5 then((((cJ (0≤y5.2/\y5.2 < 5)).bind λ_=>
  (eR k a1 y5.2).bind λe=>
  if e=true then((cJ (0≤y5.2/\y5.2 < 5)).bind λ_=>
  some (List.set (List.set y5.1 (Int.toNat y5.2) (-1:Int)) (Int.toNat y5.2) a0.2.1)) else(some (List.set y5.1 (Int.toNat y5.2) (-1:Int)))):Option ((List Int))).bind λx7=>
  (ck (y5.2+1)).bind λc=>
  cD k a0 a1 n (x7,c)) else(some y5.1)
def eN(k:Nat)(a0:ae)(a1:Int):Option (List Int):=
 ((cD k a0 a1 k ([0,0,0,0,0],0)):Option ((List Int))).bind λx3=>
 some x3
theorem pV{M:Md Tryz.prog}{bm:Nat}{c0 c1 c2 c3 c4 c5:Value}(hK:Kn M bm 0 [c0,c1,c2,c3,c4,c5])(k:Nat)(a0:ae)(a1:Int)(r:(List Int))(h:eN k a0 a1=some r):
 bV M 94 [.rep (.mo (Pv bm) [c0,c1,c2,c3,c4,c5] au) a0,.eq (.int .u8 a1)] [] (λ_:Unit=>(bD [.rep Tr r],[])):=by
 unfold eN at h
 replace h:=aY h
 refine bV.of 24 Tryz.func94 rfl Tryz.ntmps94 rfl λS w0=>?_
 refine sr ?_
 refine aX rfl rfl rfl (bi rfl Jb Lt) trivial λb1=>?_
 refine nt ?_
 refine sr ?_
 refine aX rfl rfl rfl (bi rfl Jb Lt) trivial λb2=>?_
 refine nt ?_
 refine aH (Z:=Unit) (α:=(List Int)) (λz4 x3=>[(4,Pt b1),(5,Pt b2)]) (λz4 x3=>[.obj b1 82 (.rep Tr [0,0,0,0,0]),.obj b2 82 (.rep Tr x3)]) h (λK h=>?_) (λz4 x3 h=>?_)
 .
  refine sr (ff rfl ?_);refine nt (ak (aI (λz6 y5=>[(0,.rep (.mo (Pv bm) [c0,c1,c2,c3,c4,c5] au) a0),(1,.eq (.int .u8 a1)),(4,Pt b1),(5,Pt b2),(7,I y5.2)]) (λz6 y5=>[.obj b1 82 (.rep Tr [0,0,0,0,0]),.obj b2 82 (.rep Tr y5.1)]) (cD k a0 a1) k () ([0,0,0,0,0],0) (λ_=>rfl) h (SE.fin [1,0] ⟨rfl,rfl,rfl,rfl,rfl,trivial⟩ rfl) (λn z6 y5 h=>?_)));unfold cD at h;refine sr (jb (bF rfl) ?_);refine nt (aj (ci h (λh=>?_) (λh=>?_)))
  .refine sk (aH (Z:=Unit) (α:=(List Int)) (λz8 x7=>[(0,.rep (.mo (Pv bm) [c0,c1,c2,c3,c4,c5] au) a0),(1,.eq (.int .u8 a1)),(4,Pt b1),(5,Pt b2),(7,I y5.2)]) (λz8 x7=>[.obj b1 82 (.rep Tr [0,0,0,0,0]),.obj b2 82 (.rep Tr x7)]) h (λK h=>?_) (λz8 x7 h=>?_))
   .refine ak (sr (mq ?_));refine aq (nt (sr ?_));refine mq ?_;obtain⟨u9,e,h⟩:=aa h;refine jb (dN rfl BY cN (am e).1 (am e).2) ?_;refine fr 1 ?_;refine aP rfl rfl (gr (t:=Ti) (off:=0) (i:=y5.2) (N:=5) rfl cN .int rfl rfl rfl rfl (am e).1 (am e).2 rfl) ⟨rfl,rfl,trivial⟩ ?_;refine nt (sr ?_);iterate 2 refine mq ?_
    obtain⟨u,l,h⟩:=aa h;refine jb (av [.tmp 12,.tmp 13] rfl rfl H9 rfl (gx k a1 y5.2 u l)) ?_;refine nt (cv h (λh=>?_) (λh=>?_))
    .refine ab ?_;iterate 2 refine mq ?_
     refine ja (kZ rfl) ?_;refine ja (gu rfl gK) ?_;refine ja (iv 1 false rfl BF rfl rfl) ?_;refine ja (jf (t:=Ti) rfl cN (hK.sub 1 1 rfl (le_of_ble_eq_true rfl)) rfl rfl) ?_;obtain⟨x,c,h⟩:=aa h;refine jb (dN rfl BY cN (am c).1 (am c).2) ?_;refine aP rfl rfl (gr (t:=Ti) (off:=0) (i:=y5.2) (N:=5) rfl cN .int rfl rfl rfl rfl (am c).1 (am c).2 rfl) ⟨rfl,rfl,trivial⟩ ?_;refine aE (bn ?_);exact jz ((),List.set (List.set y5.1 (Int.toNat y5.2) (-1:Int)) (Int.toNat y5.2) a0.2.1) h [1,0]
    .refine be (bn ?_);exact jz ((),List.set y5.1 (Int.toNat y5.2) (-1:Int)) h [1,0]
   .refine ab ?_;obtain⟨s,j,h⟩:=aa h;refine jb (bB rfl j) ?_;refine mq (nl ?_);exact jz ((),(x7,s)) h [0,1]
  .refine xa ?_;exact jz ((),y5.1) h [0,1]
 .
  refine sr (fr 1 ?_);refine lo i8 ?_;refine fr 1 ?_;refine aP rfl rfl (aN rfl i8 rfl rfl rfl) ⟨rfl,rfl,trivial⟩ ?_;refine nt (aA ?_);obtain rfl:=Option.some.inj h;exact aK () [.rep Tr x3] 0 ⟨⟨_,_,_,_,_,rfl,(.head _),i8,(tC),rfl⟩,trivial⟩ rfl
def c7(k:Nat)(a0:(List Int))(a1:Int):Nat->Int->Option (Except Int Unit)
 |0,_=>none
 |n+1,y3=>
  if y3 < (a0.length:Int) then((aM a0 y3).bind λx5=>
  if a1=x5 then(some (.error y3)) else((ck (y3+1)).bind λx6=>
  c7 k a0 a1 n x6)) else(some (.ok ()))
def fZ(k:Nat)(a0:(List Int))(a1:Int):Option Int:=
 bE (α:=Unit) (c7 k a0 a1 k 0) (some) λ_=>
 some (-1:Int)
theorem mr(k:Nat)(a0:(List Int))(a1:Int)(r:Int)(h:fZ k a0 a1=some r):
 dk Tryz.prog 62 [.rep Tl a0,I a1] [] (λ_:Unit=>(bD [I r],[])):=by
 unfold fZ at h
 replace h:=aY h
 refine dk.of 19 Tryz.func62 rfl Tryz.ntmps62 rfl λS w0=>?_
 refine sr ?_
 refine cq ?_
 refine nt ?_
 refine dB (Z:=Unit) (α:=Unit) (λz2 x1=>[]) (λz2 x1=>[]) (λe=>e=r) h (λe h=>Option.some.inj h) (λK hR h=>?_) (λz2 x1 h=>?_)
 .
  refine sr (mq ?_);refine ol iq ?_;refine ff rfl ?_;refine nt (ak (aI (λz4 y3=>[(0,.rep Tl a0),(1,I a1),(7,I (a0.length:Int)),(8,I y3)]) (λz4 y3=>[]) (c7 k a0 a1) k () 0 (λ_=>rfl) h (SE.fin [] ⟨rfl,rfl,rfl,rfl,trivial⟩ rfl) (λn z4 y3 h=>?_)));unfold c7 at h;refine sr (jb (bF rfl) ?_);refine nt (aj (ci h (λh=>?_) (λh=>?_)))
  .refine sk (aj (ak (sr (mq ?_))));refine aq (nt (sr ?_));iterate 3 refine mq ?_
   obtain⟨x5,j,h⟩:=aa h;refine jb (aU (t:=Ti) rfl iq cN j) ?_;refine ja (ap (t:=Ti) rfl cN rfl) ?_;refine jb (hH rfl) ?_;refine nt (ci h (λh=>?_) (λh=>?_))
   .refine sr (mq ?_);refine aq (nt (aA (br (bJ (bC ?_)))));obtain rfl:=hR _ h;exact ra
   .refine be (aQ (tn (ab ?_)));obtain⟨x6,c,h⟩:=aa h;refine jb (bB rfl c) ?_;refine mq (nl ?_);exact jz ((),x6) h []
  .refine xa ?_;exact jz ((),()) h []
 .
  refine sr (cq (nt (aA ?_)));cases h;exact ra
def kO(k:Nat)(a0:Int):Option Bool:=
 some (!decide (a0=a0))
theorem rl(k:Nat)(a0:Int)(r:Bool)(h:kO k a0=some r):
 dk Tryz.prog 173 [I a0] [] (λ_:Unit=>(bD [.eq (.bool r)],[])):=by
 unfold kO at h
 replace h:=aY h
 refine dk.of 6 Tryz.func173 rfl Tryz.ntmps173 rfl λS w0=>?_
 refine sr ?_
 refine cq ?_
 refine nt ?_
 refine sr ?_
 iterate 2 refine mq ?_
 refine jb (fh rfl) ?_
 refine aq ?_
 refine nt ?_
 refine aA ?_
 cases h
 exact ra
def oz(k:Nat)(a0:Int)(a1:Int):Option Bool:=
 (((kO k a0).bind λr3=>
 if r3=true then((kO k a1).bind λr4=>
 if¬(r4=true) then(some true) else(some (decide (a0 < a1)))) else(some (decide (a0 < a1)))):Option (Bool)).bind λx1=>
 some x1
theorem zR(k:Nat)(a0:Int)(a1:Int)(r:Bool)(h:oz k a0 a1=some r):
 dk Tryz.prog 163 [I a0,I a1] [] (λ_:Unit=>(bD [.eq (.bool r)],[])):=by
 unfold oz at h
 replace h:=aY h
 refine dk.of 17 Tryz.func163 rfl Tryz.ntmps163 rfl λS w0=>?_
 refine sr ?_
 refine cq ?_
 refine nt ?_
 refine aH (Z:=Unit) (α:=Bool) (λz2 x1=>[(4,.eq (.bool x1))]) (λz2 x1=>[]) h (λK h=>?_) (λz2 x1 h=>?_)
 .
  refine ab (mq ?_);obtain⟨r3,e,h⟩:=aa h;refine ja (av [.tmp 5] rfl rfl MK rfl (rl k a0 r3 e)) ?_;refine mq ?_;refine cK (s:=7) rfl (λhb=>?_) (λhb=>?_)
  .replace h:=fg (Me hb) h;refine gm ?_;obtain⟨r4,c,h⟩:=aa h;refine ga (av [.tmp 8] rfl rfl MK rfl (rl k a1 r4 c)) ?_;refine ga (iz rfl) ?_;refine pt ?_;refine mq ?_;refine cK (s:=12) rfl (λhb=>?_) (λhb=>?_)
   .replace h:=fg (A9 hb) h;iterate 3 refine gn ?_
    refine pt ?_;refine aq (nl ?_);exact jz ((),true) h []
   .replace h:=cY (ui hb) h;refine gm ?_;refine gm ?_;refine gb (bF rfl) ?_;refine pf ?_;refine aq (nl ?_);exact jz ((),decide (a0 < a1)) h []
  .replace h:=cY (MB hb) h;iterate 3 refine gn ?_
   refine pf ?_;refine mq ?_;refine gm ?_;refine gm ?_;refine gb (bF rfl) ?_;refine pf ?_;refine aq (nl ?_);exact jz ((),decide (a0 < a1)) h []
 .
  refine aA ?_;cases h;exact ra
def ba(k:Nat)(a1:Int):Nat->((List Int)×Int)->Option (List Int)
 |0,_=>none
 |n+1,y6=>
  ((if a1 < y6.2 then((aM y6.1 y6.2).bind λu=>
  (ck (y6.2 - 1)).bind λs=>
  (aM y6.1 s).bind λr=>
  (oz k u r).bind λx=>
  some x) else(some false)):Option (Bool)).bind λx8=>
  if x8=true then((ck (y6.2 - 1)).bind λe=>
  (ck (y6.2 - 1)).bind λl=>
  (aM y6.1 l).bind λc=>
  (aM y6.1 y6.2).bind λj=>
  (aM y6.1 y6.2).bind λD=>
  (aM (List.set y6.1 (Int.toNat y6.2) c) e).bind λy=>
  (ck (y6.2 - 1)).bind λh=>
  ba k a1 n (List.set (List.set y6.1 (Int.toNat y6.2) c) (Int.toNat e) j,h)) else(some y6.1)
def bb(k:Nat)(a1:Int)(a2:Int):Nat->((List Int)×Int)->Option (List Int)
 |0,_=>none
 |n+1,y2=>
  if y2.2 < a2 then(((ba k a1 k (y2.1,y2.2)):Option ((List Int))).bind λx4=>
  (ck (y2.2+1)).bind λc=>
  bb k a1 a2 n (x4,c)) else(some y2.1)
def bR(k:Nat)(a0:(List Int))(a1:Int)(a2:Int):Option (List Int):=
 (ck (a1+1)).bind λx1=>
 bb k a1 a2 k (a0,x1)
theorem i9(k:Nat)(a0:(List Int))(c:Value)(a1:Int)(a2:Int)(r:(List Int))(h:bR k a0 a1 a2=some r):
 dk Tryz.prog 157 [.eq c,I a1,I a2] [.sl c 3 Ti a0] (λ_:Unit=>(bD [],[.sl c 3 Ti r])):=by
 unfold bR at h
 replace h:=aY h
 refine dk.of 49 Tryz.func157 rfl Tryz.ntmps157 rfl λS w0=>?_
 refine sr ?_
 refine mq ?_
 obtain⟨x1,UD,h⟩:=aa h
 refine jb (bB rfl UD) ?_
 refine aq ?_
 refine nt ?_
 refine ak ?_
 refine aI (λz3 y2=>[(0,.eq c),(1,I a1),(2,I a2),(6,I y2.2)]) (λz3 y2=>[.sl c 3 Ti y2.1]) (bb k a1 a2) k () (a0,x1) (λ_=>rfl) h (SE.fin [0] ⟨rfl,rfl,rfl,rfl,trivial⟩ rfl) (λn z3 y2 h=>?_)
 unfold bb at h
 refine aj ?_
 refine sr ?_
 iterate 2 refine mq ?_
 refine jb (bF rfl) ?_
 refine nt ?_
 refine ci h (λh=>?_) (λh=>?_)
 .
  refine sk (aH (Z:=Unit) (α:=(List Int)) (λz5 x4=>[(0,.eq c),(1,I a1),(2,I a2),(6,I y2.2)]) (λz5 x4=>[.sl c 3 Ti x4]) h (λK h=>?_) (λz5 x4 h=>?_))
  .refine ak (sr (mq ?_));refine aq (nt (ak ?_));refine aI (λz7 y6=>[(0,.eq c),(1,I a1),(2,I a2),(6,I y2.2),(7,I y6.2)]) (λz7 y6=>[.sl c 3 Ti y6.1]) (ba k a1) k () (y2.1,y2.2) (λ_=>rfl) h (SE.fin [0] ⟨rfl,rfl,rfl,rfl,rfl,trivial⟩ rfl) (λn z7 y6 h=>?_);unfold ba at h;refine aj (aH (Z:=Unit) (α:=Bool) (λz9 x8=>[(0,.eq c),(1,I a1),(2,I a2),(6,I y2.2),(7,I y6.2),(30,.eq (.bool x8))]) (λz9 x8=>[.sl c 3 Ti y6.1]) h (λK h=>?_) (λz9 x8 h=>?_))
   .refine cL ?_;refine dm ?_;refine dm ?_;refine db (nv rfl) ?_;refine tP rfl rfl rfl (bA rfl) ⟨rfl,trivial⟩ (λhb=>?_) (λhb=>?_)
    .replace h:=fg (tJ hb) h;refine cF rfl rfl rfl rfl rfl (bA rfl) ⟨rfl,rfl,trivial⟩ ?_;refine cF rfl rfl rfl rfl rfl (bA rfl) ⟨rfl,rfl,trivial⟩ ?_;obtain⟨Us,x,h⟩:=aa h;refine gR 0 rfl rfl rfl rfl rfl rfl (cI (t:=Ti) rfl iq cN x) ⟨rfl,rfl,rfl,trivial⟩ ?_;refine gR 0 rfl rfl rfl rfl rfl rfl (gI (i:=Int.toNat y6.2) (off:=0) rfl cN (λ_=>rfl) rfl (dE x).2.2 rfl) ⟨rfl,rfl,trivial⟩ ?_;refine cF rfl rfl rfl rfl rfl (bA rfl) ⟨rfl,rfl,trivial⟩ ?_;refine cF rfl rfl rfl rfl rfl (bA rfl) ⟨rfl,rfl,trivial⟩ ?_;obtain⟨Ur,qt,h⟩:=aa h;refine cF rfl rfl rfl rfl rfl (eg rfl qt) ⟨rfl,rfl,rfl,trivial⟩ ?_;obtain⟨Up,u,h⟩:=aa h;refine gR 0 rfl rfl rfl rfl rfl rfl (cI (t:=Ti) rfl iq cN u) ⟨rfl,rfl,rfl,trivial⟩ ?_;refine gR 0 rfl rfl rfl rfl rfl rfl (gI (i:=Int.toNat Ur) (off:=0) rfl cN (λ_=>rfl) rfl (dE u).2.2 rfl) ⟨rfl,rfl,trivial⟩ ?_;refine df d4 ?_;obtain⟨F,zz,h⟩:=aa h;refine gb (av [.tmp 23,.tmp 28] rfl rfl QI rfl (zR k Us Up F zz)) ?_;refine pt (nl ?_);exact jz ((),F) h [0]
    .replace h:=cY (tK hb) h;iterate 9 refine dg ?_
     refine df d4 ?_;refine gn ?_;refine pf (nl ?_);exact jz ((),false) h [0]
   .refine cv h (λh=>?_) (λh=>?_)
    .refine sk (aj (ak (rC ?_)));refine bO rfl rfl rfl (bA rfl) ⟨rfl,trivial⟩ ?_;refine bO rfl rfl rfl (bA rfl) ⟨rfl,trivial⟩ ?_;refine bO rfl rfl rfl (bA rfl) ⟨rfl,trivial⟩ ?_;refine bO rfl rfl rfl (bA rfl) ⟨rfl,trivial⟩ ?_;obtain⟨y,mw,h⟩:=aa h;refine bO rfl rfl rfl (eg rfl mw) ⟨rfl,rfl,trivial⟩ ?_;refine bO rfl rfl rfl (bA rfl) ⟨rfl,trivial⟩ ?_;refine bO rfl rfl rfl (bA rfl) ⟨rfl,trivial⟩ ?_;obtain⟨Uo,mc,h⟩:=aa h;refine bO rfl rfl rfl (eg rfl mc) ⟨rfl,rfl,trivial⟩ ?_;obtain⟨E,s,h⟩:=aa h;refine gZ 0 rfl rfl rfl rfl (cI (t:=Ti) rfl iq cN s) ⟨rfl,rfl,trivial⟩ ?_;refine gZ 0 rfl rfl rfl rfl (gI (i:=Int.toNat Uo) (off:=0) rfl cN (λ_=>rfl) rfl (dE s).2.2 rfl) ⟨rfl,trivial⟩ ?_;refine bO rfl rfl rfl (bA rfl) ⟨rfl,trivial⟩ ?_;refine bO rfl rfl rfl (bA rfl) ⟨rfl,trivial⟩ ?_;obtain⟨D,l,h⟩:=aa h;refine gZ 0 rfl rfl rfl rfl (cI (t:=Ti) rfl iq cN l) ⟨rfl,rfl,trivial⟩ ?_;refine gZ 0 rfl rfl rfl rfl (gI (i:=Int.toNat y6.2) (off:=0) rfl cN (λ_=>rfl) rfl (dE l).2.2 rfl) ⟨rfl,trivial⟩ ?_;obtain⟨UL,j,h⟩:=aa h;refine gZ 0 rfl rfl rfl rfl (cI (t:=Ti) rfl iq cN j) ⟨rfl,rfl,trivial⟩ ?_;refine ve 15 [true,true,false,false,false,true,true,true,true,true,true,true,true,true,true] [48] [] [] rfl (by kernel_rfl) (by kernel_rfl) (by kernel_rfl) d4 (λvs hv hB=>?_);obtain⟨w0,UZ,rfl,UC⟩:=ay hv;obtain⟨w1,UY,rfl,UB⟩:=ay UC;obtain⟨w2,UX,rfl,UA⟩:=ay UB;obtain⟨w3,UW,rfl,Uz⟩:=ay UA;obtain⟨w4,UV,rfl,Uy⟩:=ay Uz;obtain⟨w5,UU,rfl,Ux⟩:=ay Uy;obtain⟨w6,UT,rfl,Uw⟩:=ay Ux;obtain⟨w7,US,rfl,Uu⟩:=ay Uw;obtain⟨w8,UR,rfl,Ut⟩:=ay Uu;obtain⟨w9,UJ,rfl,X⟩:=ay Ut;obtain⟨UQ,UI,rfl,U⟩:=ay X;obtain⟨UP,UH,rfl,Q⟩:=ay U;obtain⟨UO,UG,rfl,O⟩:=ay Q;obtain⟨UN,UF,rfl,M⟩:=ay O;obtain⟨UM,UE,rfl,J⟩:=ay M;obtain rfl:=qU J;refine⟨[0],[.sl c 3 Ti y6.1],by kernel_rfl,by decide,?_⟩;refine sQ rfl rfl (gq (i:=Int.toNat y6.2) rfl cN rfl (ng j) rfl .int rfl) ⟨rfl,rfl,trivial⟩ (by kernel_rfl) ?_;obtain⟨UK,e,h⟩:=aa h;refine va rfl rfl rfl rfl (cI (t:=Ti) rfl iq cN e) ⟨rfl,rfl,trivial⟩ (by kernel_rfl) ?_;refine sQ rfl rfl (gq (i:=Int.toNat y) rfl cN rfl (ng e) rfl .int rfl) ⟨rfl,rfl,trivial⟩ (by kernel_rfl) ?_;refine yl ?_;refine bQ (SE.fin (Γ':=[(0,.eq c),(1,I a1),(2,I a2),(6,I y2.2),(7,I y6.2)]) (Δ':=[.sl c 3 Ti (List.set (List.set y6.1 (Int.toNat y6.2) E) (Int.toNat y) D)]) [0] ⟨rfl,rfl,rfl,rfl,rfl,trivial⟩ rfl) ?_;refine aQ (tn (ab (mq ?_)));obtain⟨Un,gw,h⟩:=aa h;refine jb (eg rfl gw) ?_;refine aq (nl ?_);exact jz ((),(List.set (List.set y6.1 (Int.toNat y6.2) E) (Int.toNat y) D,Un)) h [0]
    .refine gQ (cy (cy (dF (bn ?_))));exact jz ((),y6.1) h [0]
  .refine ab (mq ?_);obtain⟨Um,Y,h⟩:=aa h;refine jb (bB rfl Y) ?_;refine aq (nl ?_);exact jz ((),(x4,Um)) h [0]
 .
  refine gQ (cy (cy (dF (jX ?_))));cases h;exact aK () [] 1 trivial rfl
def kj(k:Nat)(a0:Int):Option Int:=
 ((if 4294967296≤a0 then(some (gg .u64 a0 32,32)) else(some (a0,0))):Option (Int×Int)).bind λx1=>
 ((if 65536≤x1.1 then((ck (x1.2+16)).bind λx5=>
 some (gg .u64 x1.1 16,x5)) else(some (x1.1,x1.2))):Option (Int×Int)).bind λx3=>
 ((if 256≤x3.1 then((ck (x3.2+8)).bind λx8=>
 some (gg .u64 x3.1 8,x8)) else(some (x3.1,x3.2))):Option (Int×Int)).bind λx6=>
 (By KL (IntKind.u8.wrap x6.1)).bind λx9=>
 (ck (x9.toNat:Int)).bind λe=>
 (ck (x6.2+e)).bind λc=>
 some c
theorem qe(k:Nat)(a0:Int)(r:Int)(h:kj k a0=some r):
 dk Tryz.prog 167 [.eq (.int .u64 a0)] [] (λ_:Unit=>(bD [I r],[])):=by
 unfold kj at h
 replace h:=aY h
 refine dk.of 25 Tryz.func167 rfl Tryz.ntmps167 rfl λS w0=>?_
 refine sr ?_
 refine cq ?_
 refine nt ?_
 refine aH (Z:=Unit) (α:=Int×Int) (λz2 x1=>[(0,.eq (.int .u64 x1.1)),(2,I x1.2)]) (λz2 x1=>[]) h (λK h=>?_) (λz2 x1 h=>?_)
 .
  refine sr (mq ?_);refine jb (kp rfl) ?_;refine nt (ci h (λh=>?_) (λh=>?_))
  .refine sr (mq ?_);refine cf rfl (ug rfl (by decide)) ⟨rfl,rfl,trivial⟩ ?_;refine aq (nt (ab ?_));refine cq (nl ?_);exact jz ((),(gg .u64 a0 32,32)) h []
  .refine be (an ?_);exact jz ((),(a0,0)) h []
 .
  refine aH (Z:=Unit) (α:=Int×Int) (λz4 x3=>[(0,.eq (.int .u64 x3.1)),(2,I x3.2)]) (λz4 x3=>[]) h (λK h=>?_) (λz4 x3 h=>?_)
  .refine sr (mq ?_);refine jb (kp rfl) ?_;refine nt (ci h (λh=>?_) (λh=>?_))
   .refine sr (mq ?_);refine cf rfl (ug rfl (by decide)) ⟨rfl,rfl,trivial⟩ ?_;refine aq (nt (ab ?_));refine mq ?_;obtain⟨x5,n,h⟩:=aa h;refine jb (bB rfl n) ?_;refine aq (nl ?_);exact jz ((),(gg .u64 x1.1 16,x5)) h []
   .refine be (an ?_);exact jz ((),(x1.1,x1.2)) h []
  .refine aH (Z:=Unit) (α:=Int×Int) (λz7 x6=>[(0,.eq (.int .u64 x6.1)),(2,I x6.2)]) (λz7 x6=>[]) h (λK h=>?_) (λz7 x6 h=>?_)
   .refine sr (mq ?_);refine jb (kp rfl) ?_;refine nt (ci h (λh=>?_) (λh=>?_))
    .refine sr (mq ?_);refine cf rfl (ug rfl (by decide)) ⟨rfl,rfl,trivial⟩ ?_;refine aq (nt (ab ?_));refine mq ?_;obtain⟨x8,l,h⟩:=aa h;refine jb (bB rfl l) ?_;refine aq (nl ?_);exact jz ((),(gg .u64 x3.1 8,x8)) h []
    .refine be (an ?_);exact jz ((),(x3.1,x3.2)) h []
   .refine sr ?_;iterate 2 refine mq ?_
    refine ja (rQ rfl Rw U5) ?_;obtain⟨x9,j,h⟩:=aa h;refine ja (yZ rfl U9 j) ?_;obtain⟨u,e,h⟩:=aa h;refine ja (za rfl U5 U3 e) ?_;obtain⟨s,c,h⟩:=aa h;refine jb (bB rfl c) ?_;refine aq (nt (aA ?_));cases h;exact ra
def o9(k:Nat)(a0:Int):Option Int:=
 (kj k a0).bind λr1=>
 some r1
theorem BR(k:Nat)(a0:Int)(r:Int)(h:o9 k a0=some r):
 dk Tryz.prog 156 [.eq (.int .u64 a0)] [] (λ_:Unit=>(bD [I r],[])):=by
 unfold o9 at h
 replace h:=aY h
 refine dk.of 8 Tryz.func156 rfl Tryz.ntmps156 rfl λS w0=>?_
 refine sr ?_
 refine cq ?_
 refine nt ?_
 refine aj ?_
 refine IX (λhb=>(by cases hb)) (λhb=>?_)
 refine sk ?_
 refine sr ?_
 refine mq ?_
 obtain⟨r1,c,h⟩:=aa h
 have e:=qe k a0 r1 c
 refine ja (av [.tmp 6] rfl rfl QH rfl e) ?_
 refine aq ?_
 refine nt ?_
 refine aA ?_
 cases h
 exact ra
def cx(k:Nat)(a0:(List Int))(a1:Int)(a2:Int)(a3:Int):Nat->Unit->Option (List Int)
 |0,_=>none
 |n+1,y1=>
  (ck (a2 - a1)).bind λx3=>
  if x3≤12 then((bR k a0 a1 a2).bind λr4=>
  some r4) else(if a3=0 then(none) else(none))
def cR(k:Nat)(a0:(List Int))(a1:Int)(a2:Int)(a3:Int):Option (List Int):=
 cx k a0 a1 a2 a3 k ()
theorem lH(k:Nat)(a0:(List Int))(c:Value)(a1:Int)(a2:Int)(a3:Int)(r:(List Int))(h:cR k a0 a1 a2 a3=some r):
 dk Tryz.prog 155 [.eq c,I a1,I a2,I a3] [.sl c 3 Ti a0] (λ_:Unit=>(bD [],[.sl c 3 Ti r])):=by
 unfold cR at h
 replace h:=aY h
 refine dk.of 134 Tryz.func155 rfl Tryz.ntmps155 rfl λS w0=>?_
 refine sr ?_
 refine cq ?_
 refine nt ?_
 refine sr ?_
 refine cq ?_
 refine nt ?_
 refine ak ?_
 refine aI (λz2 y1=>[(0,.eq c),(1,I a1),(2,I a2),(3,I a3),(8,.eq (.bool true)),(9,.eq (.bool true))]) (λz2 y1=>[.sl c 3 Ti a0]) (cx k a0 a1 a2 a3) k () () (λ_=>rfl) h (SE.fin [0] ⟨rfl,rfl,rfl,rfl,rfl,rfl,trivial⟩ rfl) (λn z2 y1 h=>?_)
 unfold cx at h
 refine ak ?_
 refine sr ?_
 iterate 2 refine mq ?_
 obtain⟨x3,e,h⟩:=aa h
 refine jb (eg rfl e) ?_
 refine aq ?_
 refine nt ?_
 refine aj ?_
 refine sr ?_
 refine mq ?_
 refine jb (CO rfl) ?_
 refine nt ?_
 refine ci h (λh=>?_) (λh=>?_)
 .
  refine sr ?_;iterate 3 refine mq ?_
  obtain⟨r4,j,h⟩:=aa h;refine kc (av [.tmp 24,.tmp 25,.tmp 26] rfl rfl QJ rfl (i9 k a0 c a1 a2 r4 j)) ?_;refine nt (rx (bJ (bC (bJ ?_))));cases h;exact aK () [] 1 trivial rfl
 .
  refine sk (aj (sr (mq ?_)));refine jb (hH rfl) ?_;refine nt (ci h (λh=>?_) (λh=>?_))
  .cases h
  .cases h
def fH(k:Nat)(a0:(List Int)):Option (List Int):=
 (o9 k (IntKind.u64.wrap (a0.length:Int))).bind λr1=>
 (cR k a0 0 (a0.length:Int) r1).bind λr2=>
 some r2
theorem tc(k:Nat)(a0:(List Int))(c:Value)(r:(List Int))(h:fH k a0=some r):
 dk Tryz.prog 142 [.eq c] [.sl c 3 Ti a0] (λ_:Unit=>(bD [],[.sl c 3 Ti r])):=by
 unfold fH at h
 replace h:=aY h
 refine dk.of 11 Tryz.func142 rfl Tryz.ntmps142 rfl λS w0=>?_
 refine sr ?_
 refine mq ?_
 refine ka (mA rfl rfl iq) ?_
 refine aq ?_
 refine nt ?_
 refine ab ?_
 iterate 3 refine mq ?_
 refine ja (rQ rfl U3 TC) ?_
 obtain⟨r1,j,h⟩:=aa h
 have n:=BR k (IntKind.u64.wrap (a0.length:Int)) r1 j
 refine ja (av [.tmp 8] rfl rfl QK rfl n) ?_
 obtain⟨r2,e,h⟩:=aa h
 have l:=lH k a0 c 0 (a0.length:Int) r1 r2 e
 refine mf rfl rfl rfl (av [.tmp 5,.const (.int .i64 (0)),.tmp 6,.tmp 9] rfl rfl QL rfl l) ⟨rfl,rfl,rfl,rfl,trivial⟩ ?_
 refine aE ?_
 refine jX ?_
 cases h
 exact aK () [] 1 trivial rfl
def cE(k:Nat)(a1:Int)(x3:(List (List Int))):Nat->Int->Option (Except (Int ⊕ (List Int)) Unit)
 |0,_=>none
 |n+1,y4=>
  if y4 < (x3.length:Int) then((aM x3 y4).bind λx6=>
  (fZ k x6 a1).bind λr7=>
  if 0≤r7 then(((if 0 < r7 then((ck (r7 - 1)).bind λs=>
  (aM x6 s).bind λe=>
  (cJ (bP (length ([]:(List Int))+length [e]))).bind λ_=>
  some (([]:(List Int))++[e])) else(some ([]:(List Int)))):Option ((List Int))).bind λx8=>
  (((ck (r7+1)).bind λl=>
  if l < (x6.length:Int) then((ck (r7+1)).bind λj=>
  (aM x6 j).bind λc=>
  (cJ (bP (length x8+length [c]))).bind λ_=>
  some (x8++[c])) else(some x8)):Option ((List Int))).bind λr=>
  (fH k r).bind λu=>
  some (.error (Sum.inr u:(Int ⊕ (List Int))))) else((ck (y4+1)).bind λh=>
  cE k a1 x3 n h)) else(some (.ok ()))
def dV(k:Nat):Nat->ae->Int->Int->Option ((Int ⊕ (List Int)))
 |0,_,_,_=>none
 |m0+1,a0,a1,a2=>
  bE (α:=Unit) ((aM a0.2.2.2.2.1 a2).bind λx3=>
  cE k a1 x3 k 0) (some) λ_=>
  ((if 0 < a2 then((ck (a2 - 1)).bind λh=>
  ((dV k m0) a0 a1 h).bind λc=>
  if JP c=true then((ck (1+(PQ c))).bind λe=>
  some e) else(some 1)) else(some 1)):Option (Int)).bind λj=>
  some (Sum.inl j:(Int ⊕ (List Int)))
theorem lj{M:Md Tryz.prog}{bm:Nat}{c0 c1 c2 c3 c4 c5:Value}(hK:Kn M bm 0 [c0,c1,c2,c3,c4,c5])(k:Nat):
 ∀(n:Nat) (a0:ae) (a1:Int) (a2:Int) (r:(Int ⊕ (List Int))),dV k n a0 a1 a2=some r->bV M 115 [.rep (.mo (Pv bm) [c0,c1,c2,c3,c4,c5] au) a0,I a1,I a2] ([]) (λ_:Unit=>(bD [.rep (.pl 163 165 Tl) r],[])):=by
 intro n
 induction n with
 |zero=>intro a0 a1 a2 r h;cases h
 |succ m0 ih=>
  intro a0 a1 a2 r h;rw [dV] at h;replace h:=aY h;refine bV.of 80 Tryz.func115 rfl Tryz.ntmps115 rfl λS w0=>?_;refine sr (cq (nt ?_));refine dB (Z:=Unit) (α:=Unit) (λz2 x1=>[(0,.rep (.mo (Pv bm) [c0,c1,c2,c3,c4,c5] au) a0),(1,I a1),(2,I a2)]) (λz2 x1=>[]) (λe=>e=r) h (λe h=>Option.some.inj h) (λK hR h=>?_) (λz2 x1 h=>?_)
  .refine sr (mq ?_);refine ja (kZ rfl) ?_;refine ja (gu rfl gK) ?_;refine ja (iv 1 false rfl eK rfl rfl) ?_;refine ja (jf (t:=(.slice (.slice Tl))) rfl lG (hK.sub 4 1 rfl (le_of_ble_eq_true rfl)) rfl rfl) ?_;refine mq ?_;obtain⟨x3,Us,h⟩:=aa h;refine jb (aU (t:=(.slice Tl)) rfl AA yN Us) ?_;refine ja (ap (t:=(.slice Tl)) rfl yN rfl) ?_;refine ol qp ?_;refine ff rfl ?_;refine nt (ak (aI (λz5 y4=>[(0,.rep (.mo (Pv bm) [c0,c1,c2,c3,c4,c5] au) a0),(1,I a1),(2,I a2),(21,.rep (.slice Tl) x3),(22,I (x3.length:Int)),(23,I y4)]) (λz5 y4=>[]) (cE k a1 x3) k () 0 (λ_=>rfl) h (SE.fin [] ⟨rfl,rfl,rfl,rfl,rfl,rfl,trivial⟩ rfl) (λn z5 y4 h=>?_)));unfold cE at h;refine sr (jb (bF rfl) ?_);refine nt (aj (ci h (λh=>?_) (λh=>?_)))
   .refine sk (aj (ak (sr ?_)));obtain⟨x6,Ur,h⟩:=aa h;refine jb (aU (t:=Tl) rfl qp gi Ur) ?_;refine ja (ap (t:=Tl) rfl gi rfl) ?_;refine aq (nt (sr ?_));iterate 2 refine mq ?_
    obtain⟨r7,Ut,h⟩:=aa h;refine jb (av [.tmp 27,.tmp 28] rfl rfl QC rfl (mr k x6 a1 r7 Ut)) ?_;refine aq (nt (sr ?_));refine mq ?_;refine jb (kp rfl) ?_;refine nt (ci h (λh=>?_) (λh=>?_))
    .refine sr (cq (nt ?_));refine aH (Z:=Value) (α:=(List Int)) (λz9 x8=>[(8,.rep Tl x6),(9,I r7),(10,.eq z9)]) (λz9 x8=>[.sl z9 3 Ti x8]) h (λK h=>?_) (λz9 x8 h=>?_)
     .refine sr (mq ?_);refine jb (nv rfl) ?_;refine nt (ci h (λh=>?_) (λh=>?_))
      .refine ab ?_;iterate 3 refine mq ?_
       obtain⟨Ux,U,h⟩:=aa h;refine jb (eg rfl U) ?_;obtain⟨x,Q,h⟩:=aa h;refine jb (aU (t:=Ti) rfl iq cN Q) ?_;refine ja (ap (t:=Ti) rfl cN rfl) ?_;refine ja (bg (t:=Ti) [(.tmp 39,_)] [x] rfl rfl dM (.cons rfl .int .nil) rfl rfl) ?_;refine eG (SE.nil 3 Ti) ?_;obtain⟨Uz,Y,h⟩:=aa h;refine dY rfl rfl rfl (cp rfl rfl dM (am Y)) ⟨rfl,rfl,trivial⟩ λUn=>?_;refine aq (nl ?_);exact jz (Un,([]:(List Int))++[x]) h [0]
      .refine be (an (bQ (SE.nil 3 Ti) ?_));exact jz ((.slice none 0 0),([]:(List Int))) h [0]
     .refine aH (Z:=Value) (α:=(List Int)) (λc j=>[(10,.eq c)]) (λc j=>[.sl c 3 Ti j]) h (λK h=>?_) (λc j h=>?_)
      .refine sr (mq ?_);obtain⟨Uw,O,h⟩:=aa h;refine jb (bB rfl O) ?_;refine mq ?_;refine ol iq ?_;refine jb (bF rfl) ?_;refine nt (ci h (λh=>?_) (λh=>?_))
       .refine ab ?_;iterate 3 refine mq ?_
        obtain⟨Uu,J,h⟩:=aa h;refine jb (bB rfl J) ?_;obtain⟨u,F,h⟩:=aa h;refine jb (aU (t:=Ti) rfl iq cN F) ?_;refine ja (ap (t:=Ti) rfl cN rfl) ?_;refine ja (bg (t:=Ti) [(.tmp 52,_)] [u] rfl rfl dM (.cons rfl .int .nil) rfl rfl) ?_;obtain⟨Uy,X,h⟩:=aa h;refine dY rfl rfl rfl (cp rfl rfl dM (am X)) ⟨rfl,rfl,trivial⟩ λUm=>?_;refine aq (nl ?_);exact jz (Um,x8++[u]) h [0]
       .refine be (an ?_);exact jz (z9,x8) h [0]
      .refine sr (mq ?_);obtain⟨Up,mc,h⟩:=aa h;refine ka (av [.tmp 55] rfl rfl QM rfl (tc k j c Up mc)) ?_;refine nt (sr (mq ?_));refine eG (gY [10,55,57] ⟨rfl,rfl,rfl,trivial⟩) ?_;refine ja (dZ [(0,.tmp 57,_)] rfl PT L1 OH (jF ⟨rfl,trivial⟩) rfl) ?_;refine ja (JX (t0:=163) (t:=Ti) rfl TA) ?_;refine aq (nt (aA (br (bJ (bC ?_)))));obtain rfl:=hR _ h;exact ra
    .refine be (aQ (tn (ab ?_)));obtain⟨zz,E,h⟩:=aa h;refine jb (bB rfl E) ?_;refine mq (nl ?_);exact jz ((),zz) h []
   .refine xa ?_;exact jz ((),()) h []
  .refine sr (cq (nt ?_));refine aH (Z:=Unit) (α:=Int) (λs l=>[(11,I l)]) (λs l=>[]) h (λK h=>?_) (λs l h=>?_)
   .refine sr (mq ?_);refine jb (nv rfl) ?_;refine nt (ci h (λh=>?_) (λh=>?_))
    .refine sr ?_;iterate 3 refine mq ?_
     obtain⟨qt,D,h⟩:=aa h;refine jb (eg rfl D) ?_;obtain⟨Uo,gw,h⟩:=aa h;refine jc (aR [.tmp 64,.tmp 65,.tmp 67] rfl rfl Ib rfl (ih a0 a1 qt Uo gw)) ?_;refine cf rfl (CP rfl Gf (by decide)) ⟨rfl,trivial⟩ ?_;refine mq ?_;refine xr ?_;refine xr ?_;refine aX rfl rfl rfl (bi rfl FA M5) trivial λUA=>?_;refine aP rfl rfl (aN rfl ME trivial rfl rfl) ⟨rfl,rfl,trivial⟩ ?_;refine aq (nt (sr ?_));refine mq (nt ?_);refine cv h (λh=>?_) (λh=>?_)
     .refine ab (mq ?_);refine fl Dj ?_;refine lo cN ?_;obtain⟨mw,y,h⟩:=aa h;refine jb (bB rfl y) ?_;refine aq (nl ?_);exact jz ((),mw) h []
     .refine be (an ?_);exact jz ((),1) h []
    .refine be (an ?_);exact jz ((),1) h []
   .refine sr (mq ?_);refine ja (dZ [(0,.tmp 77,_)] rfl PU FA OI (jF ⟨rfl,trivial⟩) rfl) ?_;refine ja (JY (t1:=165) (t:=Ti) rfl TB) ?_;refine aq (nt (aA ?_));cases h;exact ra
def io(k:Nat)(a0:MU):Option (List Int):=
 some ([]:(List Int))
theorem pX(k:Nat)(a0:MU)(r:(List Int))(h:io k a0=some r):
 dk Tryz.prog 191 [.rep PK a0] [] (λ_:Unit=>(bD [.rep Tl r],[])):=by
 unfold io at h
 replace h:=aY h
 refine dk.of 3 Tryz.func191 rfl Tryz.ntmps191 rfl λS w0=>?_
 refine sr ?_
 refine bx λb1=>?_
 refine cq ?_
 refine nt ?_
 refine sr ?_
 refine cq ?_
 refine nt ?_
 refine aA ?_
 refine bQ (eE (t:=Tl) (x:=([]:(List Int))) 2 rfl .nil rfl rfl) ?_
 cases h
 exact ra
def il(k:Nat)(a0:MS):Option (List Int):=
 some a0
theorem pT(k:Nat)(a0:MS)(r:(List Int))(h:il k a0=some r):
 dk Tryz.prog 192 [.rep PI a0] [] (λ_:Unit=>(bD [.rep Tl r],[])):=by
 unfold il at h
 replace h:=aY h
 refine dk.of 5 Tryz.func192 rfl Tryz.ntmps192 rfl λS w0=>?_
 refine sr ?_
 refine bx λb1=>?_
 refine cq ?_
 refine nt ?_
 refine sr ?_
 refine fl KX ?_
 refine lo gi ?_
 refine aq ?_
 refine nt ?_
 refine aA ?_
 cases h
 exact ra
def bS(k:Nat)(a0:ae)(a1:(List Int))(r5:(List Int)):Nat->Int->Option (Except Int Unit)
 |0,_=>none
 |n+1,y6=>
  if y6 < (r5.length:Int) then((aM r5 y6).bind λx8=>
  (cJ (0≤x8/\x8 < 5)).bind λ_=>
  (aM a1 x8).bind λe=>
  if(sw 0 a0.2.1)≤e then(some (.error x8)) else((ck (y6+1)).bind λc=>
  bS k a0 a1 r5 n c)) else(some (.ok ()))
def dp(k:Nat)(a0:ae)(a1:(List Int))(a2:Int)(a3:Int):Option Int:=
 bE (α:=Unit) ((dV k k a0 a2 a3).bind λr4=>
 (Il r4 (λn=>io k n) (λl=>il k l)).bind λr5=>
 bS k a0 a1 r5 k 0) (some) λ_=>
 some (-1:Int)
theorem jJ{M:Md Tryz.prog}{bm:Nat}{c0 c1 c2 c3 c4 c5:Value}(hK:Kn M bm 0 [c0,c1,c2,c3,c4,c5])(k:Nat)(a0:ae)(a1:(List Int))(a2:Int)(a3:Int)(r:Int)(h:dp k a0 a1 a2 a3=some r):
    bV M 105 [.rep (.mo (Pv bm) [c0,c1,c2,c3,c4,c5] au) a0,.rep Tr a1,.eq (.int .i64 a2),.eq (.int .i64 a3)] [] (λ_:Unit=>(bD [.eq (.int .i64 r)],[])):=by
  unfold dp at h
  replace h:=aY h
  refine bV.of 33 Tryz.func105 rfl Tryz.ntmps105 rfl λS w0=>?_
  refine aj ?_
  refine ab ?_
  refine aX rfl rfl rfl (wn rfl rfl) ⟨rfl,trivial⟩ λb1=>?_
  refine DX rfl ?_
  refine aE ?_
  refine an ?_
  show JC _ _ _ _ _
  refine dB (Z:=Unit) (α:=Unit) (λz3 x2=>[]) (λz3 x2=>[]) (λe=>e=r) h (λe h=>Option.some.inj h) (λK hR h=>?_) (λz3 x2 h=>?_)
  .
    refine aj ?_
    refine ab ?_
    refine gU rfl rfl ?_
    refine gU rfl rfl ?_
    refine gU rfl rfl ?_
    obtain⟨r4,D,h⟩:=aa h
    have E:=lj hK k k a0 a2 a3 r4 D
    refine cf rfl (aR [.tmp 11,.tmp 12,.tmp 13] rfl rfl Ib rfl E) ⟨rfl,rfl,rfl,trivial⟩ ?_
    obtain⟨r5,c,h⟩:=aa h
    refine cf rfl (JZ (r:=.rep Tl r5) rfl rfl vD vC (λn hd=>.agI (pX k n r5 (by rw [hd] at c;exact c))) (λl hd=>.agS (pT k l r5 (by rw [hd] at c;exact c)))) ⟨rfl,trivial⟩ ?_
    refine cf rfl (sX rfl rfl iq) ⟨rfl,trivial⟩ ?_
    refine ff rfl ?_
    refine aE ?_
    refine an ?_
    show JC _ _ _ _ _
    refine ak ?_
    refine aI (λz7 y6=>[(0,.rep (.mo (Pv bm) [c0,c1,c2,c3,c4,c5] au) a0),(5,.eq (Pv b1)),(15,.rep Tl r5),(16,.eq (.int .i64 (r5.length:Int))),(17,.eq (.int .i64 y6))]) (λz7 y6=>[.obj b1 82 (.rep Tr a1)]) (bS k a0 a1 r5) k () 0 (λ_=>rfl) h (SE.fin [0] ⟨rfl,rfl,rfl,rfl,rfl,trivial⟩ rfl) (λn z7 y6 h=>?_)
    unfold bS at h
    refine aj ?_
    refine ab ?_
    refine cf rfl (bF rfl) ⟨rfl,rfl,trivial⟩ ?_
    refine aE ?_
    refine an ?_
    show JC _ _ _ _ _
    refine aj ?_
    refine i7 rfl (λhb=>?_) (λhb=>?_)
    . replace h:=fg (tJ hb) h
      refine be ?_
      refine an ?_
      show JC _ _ _ _ _
      refine aj ?_
      refine ak ?_
      refine aj ?_
      refine ab ?_
      obtain⟨x8,y,h⟩:=aa h
      refine cf rfl (aU (t:=Ti) rfl iq cN y) ⟨rfl,rfl,trivial⟩ ?_
      refine cf rfl (ap (t:=Ti) rfl cN rfl) ⟨rfl,trivial⟩ ?_
      refine vb rfl rfl ?_
      refine aE ?_
      refine an ?_
      show JC _ _ _ _ _
      refine aj ?_
      refine cL ?_
      refine fy rfl rfl rfl (bA rfl) ⟨rfl,trivial⟩ ?_
      obtain⟨u9,u,h⟩:=aa h
      refine fy rfl rfl rfl (dN rfl BY cN (am u).1 (am u).2) ⟨rfl,rfl,trivial⟩ ?_
      obtain⟨F,s,h⟩:=aa h
      refine yo 0 rfl rfl rfl rfl (mU (t:=Ti) (off:=0) (i:=x8) (N:=5) rfl cN (λ_=>rfl) rfl rfl rfl rfl s) ⟨rfl,trivial⟩ ?_
      refine fy rfl rfl rfl (bA rfl) ⟨rfl,trivial⟩ ?_
      refine fy rfl rfl rfl (kZ rfl) ⟨rfl,trivial⟩ ?_
      refine fy rfl rfl rfl (gu rfl gK) ⟨rfl,trivial⟩ ?_
      refine fy rfl rfl rfl (iv 1 false rfl BF rfl rfl) ⟨rfl,trivial⟩ ?_
      refine fy rfl rfl rfl (jf (t:=Ti) rfl cN (hK.sub 1 1 rfl (le_of_ble_eq_true rfl)) rfl rfl) ⟨rfl,trivial⟩ ?_
      refine fy rfl rfl rfl (G3 rfl rfl) ⟨rfl,rfl,trivial⟩ ?_
      refine Cd (by kernel_rfl) d4 ?_
      refine cf rfl (kp rfl) ⟨rfl,rfl,trivial⟩ ?_
      refine aE ?_
      refine an ?_
      show JC _ _ _ _ _
      refine i7 rfl (λhb=>?_) (λhb=>?_)
      . replace h:=fg (tJ hb) h
        refine aj ?_
        refine ab ?_
        refine gU rfl rfl ?_
        refine vb rfl rfl ?_
        refine aE ?_
        refine an ?_
        show JC _ _ _ _ _
        refine aA ?_
        refine bJ ?_
        refine bC ?_
        refine bC ?_
        refine bJ ?_
        refine bC ?_
        obtain rfl:=hR _ h
        exact aK () [_] 0 ⟨rfl,trivial⟩ rfl
      . replace h:=cY (tK hb) h
        refine be ?_
        refine aQ ?_
        refine an ?_
        show JC _ _ _ _ _
        refine ab ?_
        obtain⟨x,j,h⟩:=aa h
        refine cf rfl (bB rfl j) ⟨rfl,rfl,trivial⟩ ?_
        refine gU rfl rfl ?_
        refine aE ?_
        refine an ?_
        exact vc ((),x) h (SE.fin [0] ⟨rfl,rfl,rfl,rfl,rfl,trivial⟩ rfl)
    . replace h:=cY (tK hb) h
      refine gQ ?_
      refine cy ?_
      refine cy ?_
      refine dF ?_
      refine an ?_
      exact vc ((),()) h (SE.fin [] trivial rfl)
  .
    refine aj ?_
    refine ab ?_
    refine DX rfl ?_
    refine aE ?_
    refine an ?_
    show JC _ _ _ _ _
    refine aA ?_
    obtain rfl:=Option.some.inj h
    exact aK () [_] 0 ⟨rfl,trivial⟩ rfl
def cj(k:Nat)(a0:ae)(a1:(List Int))(a2:Int):Nat->((List Int)×Int)->Option (List Int)
 |0,_=>none
 |n+1,y6=>
  if y6.2 < a0.1 then((((dV k k a0 y6.2 a2).bind λc=>
  if JP c=true then(if a0.2.2.2.1≤(PQ c) then((cJ (0≤y6.2/\y6.2 < 5)).bind λ_=>
  some (List.set y6.1 (Int.toNat y6.2) (-1:Int))) else(some y6.1)) else(if¬(JP c=true) then((cJ (0≤y6.2/\y6.2 < 5)).bind λ_=>
  (aM a1 y6.2).bind λl=>
  if 0≤l then((cJ (0≤y6.2/\y6.2 < 5)).bind λ_=>
  (aM a1 y6.2).bind λj=>
  (ck (j+1)).bind λh=>
  (cJ (0≤y6.2/\y6.2 < 5)).bind λ_=>
  some (List.set y6.1 (Int.toNat y6.2) h)) else((dp k a0 a1 y6.2 a2).bind λr=>
  if 0≤r then((cJ (0≤y6.2/\y6.2 < 5)).bind λ_=>
  some (List.set y6.1 (Int.toNat y6.2) 0)) else(some y6.1))) else(some y6.1))):Option ((List Int))).bind λx8=>
  (ck (y6.2+1)).bind λe=>
  cj k a0 a1 a2 n (x8,e)) else(some y6.1)
def gy(k:Nat)(a0:ae)(a1:(List Int))(a2:Int):Option (List Int):=
 ((cj k a0 a1 a2 k (a1,0)):Option ((List Int))).bind λx4=>
 some x4
theorem qQ{M:Md Tryz.prog}{bm:Nat}{c0 c1 c2 c3 c4 c5:Value}(hK:Kn M bm 0 [c0,c1,c2,c3,c4,c5])(k:Nat)(a0:ae)(a1:(List Int))(a2:Int)(r:(List Int))(h:gy k a0 a1 a2=some r):
 bV M 95 [.rep (.mo (Pv bm) [c0,c1,c2,c3,c4,c5] au) a0,.rep Tr a1,I a2] [] (λ_:Unit=>(bD [.rep Tr r],[])):=by
 unfold gy at h
 replace h:=aY h
 refine bV.of 60 Tryz.func95 rfl Tryz.ntmps95 rfl λS w0=>?_
 refine sr ?_
 refine bx λb1=>?_
 refine aX rfl rfl rfl (bi rfl Jb Lt) trivial λb2=>?_
 refine nt ?_
 refine sr ?_
 refine fr 1 ?_
 refine lo i8 ?_
 refine aX rfl rfl rfl (bi rfl Jb Lt) trivial λb3=>?_
 refine aP rfl rfl (aN rfl i8 rfl rfl rfl) ⟨rfl,rfl,trivial⟩ ?_
 refine nt ?_
 refine aH (Z:=Unit) (α:=(List Int)) (λz5 x4=>[(6,Pt b2),(7,Pt b3)]) (λz5 x4=>[.obj b2 82 (.rep Tr [0,0,0,0,0]),.obj b3 82 (.rep Tr x4)]) h (λK h=>?_) (λz5 x4 h=>?_)
 .
  refine sr (mq ?_);refine ja (kZ rfl) ?_;refine ja (gu rfl gK) ?_;refine ja (iv 1 false rfl gW rfl rfl) ?_;refine ja (jf (t:=Ti) rfl cN (hK.sub 0 1 rfl (le_of_ble_eq_true rfl)) rfl rfl) ?_;refine ff rfl ?_;refine nt (ak (aI (λz7 y6=>[(0,.rep (.mo (Pv bm) [c0,c1,c2,c3,c4,c5] au) a0),(2,I a2),(4,Pt b1),(6,Pt b2),(7,Pt b3),(16,I a0.1),(17,I y6.2)]) (λz7 y6=>[.obj b1 82 (.rep Tr a1),.obj b2 82 (.rep Tr [0,0,0,0,0]),.obj b3 82 (.rep Tr y6.1)]) (cj k a0 a1 a2) k () (a1,0) (λ_=>rfl) h (SE.fin [1,2,0] ⟨rfl,rfl,rfl,rfl,rfl,rfl,rfl,trivial⟩ rfl) (λn z7 y6 h=>?_)));unfold cj at h;refine sr (jb (bF rfl) ?_);refine nt (aj (ci h (λh=>?_) (λh=>?_)))
  .refine sk (aH (Z:=Unit) (α:=(List Int)) (λz9 x8=>[(0,.rep (.mo (Pv bm) [c0,c1,c2,c3,c4,c5] au) a0),(2,I a2),(4,Pt b1),(6,Pt b2),(7,Pt b3),(16,I a0.1),(17,I y6.2)]) (λz9 x8=>[.obj b1 82 (.rep Tr a1),.obj b2 82 (.rep Tr [0,0,0,0,0]),.obj b3 82 (.rep Tr x8)]) h (λK h=>?_) (λz9 x8 h=>?_))
   .refine ak (sr (mq ?_));refine aq (nt (sr ?_));iterate 3 refine mq ?_
    obtain⟨U,F,h⟩:=aa h;refine jc (aR [.tmp 20,.tmp 21,.tmp 22] rfl rfl Ib rfl (lj hK k k a0 y6.2 a2 U F)) ?_;refine nt (ak (sr (cf rfl (CP rfl Gf (by decide)) ⟨rfl,trivial⟩ ?_)));refine xr ?_;refine xr ?_;refine nt (cv h (λh=>?_) (λh=>?_))
    .refine sr (aX rfl rfl rfl (bi rfl FA M5) trivial λUm=>?_);refine aP rfl rfl (aN rfl ME trivial rfl rfl) ⟨rfl,rfl,trivial⟩ ?_;refine nt (aj (cL ?_));refine da (aD rfl Dj) ?_;refine ea 0 (ax rfl cN ny rfl) ?_;refine dm ?_;refine da (kZ rfl) ?_;refine da (gu rfl gK) ?_;refine da (iv 1 false rfl H5 rfl rfl) ?_;refine da (jf (t:=Ti) rfl cN (hK.sub 3 1 rfl (le_of_ble_eq_true rfl)) rfl rfl) ?_;refine df d4 ?_;refine jb (kp rfl) ?_;refine nt (ci h (λh=>?_) (λh=>?_))
     .refine ab (mq ?_);obtain⟨qt,j,h⟩:=aa h;refine jb (dN rfl BY cN (am j).1 (am j).2) ?_;refine fr 3 ?_;refine aP rfl rfl (gr (t:=Ti) (off:=0) (i:=y6.2) (N:=5) rfl cN .int rfl rfl rfl rfl (am j).1 (am j).2 rfl) ⟨rfl,rfl,trivial⟩ ?_;refine aE (aQ (bn ?_));exact jz ((),List.set y6.1 (Int.toNat y6.2) (-1:Int)) h [2,3,0]
     .refine be (aQ (bn ?_));exact jz ((),y6.1) h [1,2,3]
    .refine sr (cf rfl (J3 rfl Nw (by decide)) ⟨rfl,trivial⟩ ?_);refine xr ?_;refine xr ?_;refine nt (cw h (λh=>?_) (λh=>?_))
     .refine sr (aX rfl rfl rfl (bi rfl L1 Q0) trivial λzz=>?_);refine aP rfl rfl (aN rfl PL trivial rfl rfl) ⟨rfl,rfl,trivial⟩ ?_;refine nt (sr (mq ?_));obtain⟨mw,s,h⟩:=aa h;refine jb (dN rfl BY cN (am s).1 (am s).2) ?_;obtain⟨Y,D,h⟩:=aa h;refine fr 1 ?_;refine ka (mU (t:=Ti) (off:=0) (i:=y6.2) (N:=5) rfl cN (λ_=>rfl) rfl rfl rfl rfl D) ?_;refine jb (kp rfl) ?_;refine nt (ci h (λh=>?_) (λh=>?_))
      .refine ab ?_;iterate 2 refine mq ?_
       obtain⟨u16,l,h⟩:=aa h;refine jb (dN rfl BY cN (am l).1 (am l).2) ?_;obtain⟨X,y,h⟩:=aa h;refine ka (mU (t:=Ti) (off:=0) (i:=y6.2) (N:=5) rfl cN (λ_=>rfl) rfl rfl rfl rfl y) ?_;obtain⟨O,x,h⟩:=aa h;refine jb (bB rfl x) ?_;obtain⟨mc,e,h⟩:=aa h;refine jb (dN rfl BY cN (am e).1 (am e).2) ?_;refine fr 3 ?_;refine aP rfl rfl (gr (t:=Ti) (off:=0) (i:=y6.2) (N:=5) rfl cN .int rfl rfl rfl rfl (am e).1 (am e).2 rfl) ⟨rfl,rfl,trivial⟩ ?_;refine aE (aQ (bn ?_));exact jz ((),List.set y6.1 (Int.toNat y6.2) O) h [1,3,0]
      .refine sr (mq ?_);refine lo i8 ?_;iterate 2 refine mq ?_
       obtain⟨Q,E,h⟩:=aa h;refine cf rfl (aR [.tmp 50,.tmp 51,.tmp 52,.tmp 53] rfl rfl MP rfl (jJ hK k a0 a1 y6.2 a2 Q E)) ⟨rfl,rfl,rfl,rfl,trivial⟩ ?_;refine jb (kp rfl) ?_;refine nt (ci h (λh=>?_) (λh=>?_))
       .refine ab (mq ?_);obtain⟨gw,c,h⟩:=aa h;refine jb (dN rfl BY cN (am c).1 (am c).2) ?_;refine fr 3 ?_;refine aP rfl rfl (gr (t:=Ti) (off:=0) (i:=y6.2) (N:=5) rfl cN .int rfl rfl rfl rfl (am c).1 (am c).2 rfl) ⟨rfl,rfl,trivial⟩ ?_;refine aE (aQ (bn ?_));exact jz ((),List.set y6.1 (Int.toNat y6.2) 0) h [1,3,0]
       .refine be (aQ (bn ?_));exact jz ((),y6.1) h [0,2,3]
     .refine be (aQ (bn ?_));exact jz ((),y6.1) h [0,1,2]
   .refine ab ?_;obtain⟨J,u,h⟩:=aa h;refine jb (bB rfl u) ?_;refine mq (nl ?_);exact jz ((),(x8,J)) h [0,1,2]
  .refine xa ?_;exact jz ((),y6.1) h [1,2]
 .
  refine sr (fr 1 ?_);refine lo i8 ?_;refine fr 1 ?_;refine aP rfl rfl (aN rfl i8 rfl rfl rfl) ⟨rfl,rfl,trivial⟩ ?_;refine nt (aA ?_);obtain rfl:=Option.some.inj h;exact aK () [.rep Tr x4] 0 ⟨⟨_,_,_,_,_,rfl,(.head _),i8,(tC),rfl⟩,trivial⟩ rfl
def g9(k:Nat)(a0:List Int):Option (List Int):=
 (cJ (bP (length a0))).bind λ_=>some a0
theorem rI(k:Nat)(a0:List Int)(r:List Int)(h:g9 k a0=some r):
 dk Tryz.prog 50 [.rep Tl a0] [] (λz:Value=>(bD [.eq z],[.sl z 3 Ti r])):=by
 unfold g9 at h
 replace h:=aY h
 refine dk.of 8 Tryz.func50 rfl Tryz.ntmps50 rfl λS w0=>?_
 obtain⟨u1,c,h⟩:=aa h
 cases h
 refine sr ?_
 refine cq ?_
 refine nt ?_
 refine aj ?_
 refine sr ?_
 refine mq ?_
 refine aJ (Δ:=[]) (F:=_) (λ_ _ _=>ag rfl _) rfl rfl (J1 rfl iq) ⟨rfl,rfl,trivial⟩ λb=>?_
 refine nt ?_
 refine i7 rfl (λhb=>?_) (λhb=>?_)
 .
  refine sr (cq (nt (rx ?_)));obtain rfl:=b.2 hb;refine bQ (SE.nil 3 Ti) ?_;exact aK (.slice none 0 0) [.eq (.slice none 0 0)] 1 ⟨rfl,trivial⟩ rfl
 .
  refine sk (sr (aX rfl rfl rfl (jg (t:=Ti) [] [] rfl rfl dM .nil rfl rfl) trivial λv1=>?_));refine mq ?_;refine dY rfl rfl rfl (cp rfl rfl dM (by simpa using am c)) ⟨rfl,rfl,trivial⟩ λv2=>?_;refine aq (nt (aA ?_));exact aK v2 [.eq v2] 1 ⟨rfl,trivial⟩ rfl
def dx(k:Nat)(a0:(List Int))(a1:(List Int)):Nat->Int->Option (Except Bool Unit)
 |0,_=>none
 |n+1,y3=>
  if y3 < (a0.length:Int) then((aM a0 y3).bind λx5=>
  (aM a1 y3).bind λx6=>
  if¬(x5=x6) then(some (.error false)) else((ck (y3+1)).bind λx7=>
  dx k a0 a1 n x7)) else(some (.ok ()))
def eY(k:Nat)(a0:(List Int))(a1:(List Int)):Option Bool:=
 if¬((a0.length:Int)=(a1.length:Int)) then(some false) else(bE (α:=Unit) (dx k a0 a1 k 0) (some) λ_=>
 some true)
theorem ip(k:Nat)(a0:(List Int))(a1:(List Int))(r:Bool)(h:eY k a0 a1=some r):
 dk Tryz.prog 23 [.rep Tl a0,.rep Tl a1] [] (λ_:Unit=>(bD [.eq (.bool r)],[])):=by
 unfold eY at h
 replace h:=aY h
 refine dk.of 26 Tryz.func23 rfl Tryz.ntmps23 rfl λS w0=>?_
 refine sr ?_
 refine cq ?_
 refine nt ?_
 refine aj ?_
 refine sr ?_
 refine mq ?_
 refine ol iq ?_
 refine mq ?_
 refine ol iq ?_
 refine jb (fh rfl) ?_
 refine nt ?_
 refine cn h (λh=>?_) (λh=>?_)
 .
  refine sr (cq (nt (rx ?_)));cases h;exact ra
 .
  refine sk (dB (Z:=Unit) (α:=Unit) (λz2 x1=>[]) (λz2 x1=>[]) (λe=>e=r) h (λe h=>Option.some.inj h) (λK hR h=>?_) (λz2 x1 h=>?_))
  .refine sr (cq (nt (ak ?_)));refine aI (λz4 y3=>[(0,.rep Tl a0),(1,.rep Tl a1),(5,I y3)]) (λz4 y3=>[]) (dx k a0 a1) k () 0 (λ_=>rfl) h (SE.fin [] ⟨rfl,rfl,rfl,trivial⟩ rfl) (λn z4 y3 h=>?_);unfold dx at h;refine aj (sr ?_);iterate 2 refine mq ?_
   refine ol iq ?_;refine jb (bF rfl) ?_;refine nt (ci h (λh=>?_) (λh=>?_))
   .refine sk (aj (ak (aj (cL ?_))));refine dm ?_;refine dm ?_;obtain⟨x5,l,h⟩:=aa h;refine db (aU (t:=Ti) rfl iq cN l) ?_;refine da (ap (t:=Ti) rfl cN rfl) ?_;refine dm ?_;refine dm ?_;obtain⟨x6,j,h⟩:=aa h;refine db (aU (t:=Ti) rfl iq cN j) ?_;refine da (ap (t:=Ti) rfl cN rfl) ?_;refine df d4 ?_;refine jb (fh rfl) ?_;refine nt (cn h (λh=>?_) (λh=>?_))
    .refine sr (cq (nt (aA (br (bJ (bC ?_))))));obtain rfl:=hR _ h;exact ra
    .refine be (aQ (tn (ab (mq ?_))));obtain⟨x7,c,h⟩:=aa h;refine jb (bB rfl c) ?_;refine aq (nl ?_);exact jz ((),x7) h []
   .refine xa ?_;exact jz ((),()) h []
  .refine sr (cq (nt (aA ?_)));cases h;exact ra
def dh(k:Nat)(a0:(List (List Int)))(a1:(List (List Int))):Nat->Int->Option (Except Bool Unit)
 |0,_=>none
 |n+1,y3=>
  if y3 < (a0.length:Int) then((aM a0 y3).bind λx5=>
  (aM a1 y3).bind λx6=>
  (eY k x5 x6).bind λr7=>
  if¬(r7=true) then(some (.error false)) else((ck (y3+1)).bind λx8=>
  dh k a0 a1 n x8)) else(some (.ok ()))
def ek(k:Nat)(a0:(List (List Int)))(a1:(List (List Int))):Option Bool:=
 if¬((a0.length:Int)=(a1.length:Int)) then(some false) else(bE (α:=Unit) (dh k a0 a1 k 0) (some) λ_=>
 some true)
theorem jm(k:Nat)(a0:(List (List Int)))(a1:(List (List Int)))(r:Bool)(h:ek k a0 a1=some r):
 dk Tryz.prog 21 [.rep (.slice Tl) a0,.rep (.slice Tl) a1] [] (λ_:Unit=>(bD [.eq (.bool r)],[])):=by
 unfold ek at h
 replace h:=aY h
 refine dk.of 27 Tryz.func21 rfl Tryz.ntmps21 rfl λS w0=>?_
 refine sr ?_
 refine cq ?_
 refine nt ?_
 refine aj ?_
 refine sr ?_
 refine mq ?_
 refine ol qp ?_
 refine mq ?_
 refine ol qp ?_
 refine jb (fh rfl) ?_
 refine nt ?_
 refine cn h (λh=>?_) (λh=>?_)
 .
  refine sr (cq (nt (rx ?_)));cases h;exact ra
 .
  refine sk (dB (Z:=Unit) (α:=Unit) (λz2 x1=>[]) (λz2 x1=>[]) (λe=>e=r) h (λe h=>Option.some.inj h) (λK hR h=>?_) (λz2 x1 h=>?_))
  .refine sr (cq (nt (ak ?_)));refine aI (λz4 y3=>[(0,.rep (.slice Tl) a0),(1,.rep (.slice Tl) a1),(5,I y3)]) (λz4 y3=>[]) (dh k a0 a1) k () 0 (λ_=>rfl) h (SE.fin [] ⟨rfl,rfl,rfl,trivial⟩ rfl) (λn z4 y3 h=>?_);unfold dh at h;refine aj (sr ?_);iterate 2 refine mq ?_
   refine ol qp ?_;refine jb (bF rfl) ?_;refine nt (ci h (λh=>?_) (λh=>?_))
   .refine sk (aj (ak (aj (cL ?_))));refine dm ?_;refine dm ?_;obtain⟨x5,l,h⟩:=aa h;refine db (aU (t:=Tl) rfl qp gi l) ?_;refine da (ap (t:=Tl) rfl gi rfl) ?_;refine dm ?_;refine dm ?_;obtain⟨x6,j,h⟩:=aa h;refine db (aU (t:=Tl) rfl qp gi j) ?_;refine da (ap (t:=Tl) rfl gi rfl) ?_;refine df d4 ?_;obtain⟨r7,s,h⟩:=aa h;refine jb (av [.tmp 20,.tmp 24] rfl rfl K2 rfl (ip k x5 x6 r7 s)) ?_;refine ja (iz rfl) ?_;refine nt (cw h (λh=>?_) (λh=>?_))
    .refine sr (cq (nt (aA (br (bJ (bC ?_))))));obtain rfl:=hR _ h;exact ra
    .refine be (aQ (tn (ab (mq ?_))));obtain⟨x8,c,h⟩:=aa h;refine jb (bB rfl c) ?_;refine aq (nl ?_);exact jz ((),x8) h []
   .refine xa ?_;exact jz ((),()) h []
  .refine sr (cq (nt (aA ?_)));cases h;exact ra
def de{σ:Type}(k:Nat)(a0:Int)(a3:Int)(self:Int->Int->σ->Option (Bool×σ)):Nat->(Int×σ)->Option (Except (Bool×σ) (σ))
 |0,_=>none
 |n+1,y5=>
  if y5.1 < a3 then((fN k a0 y5.1).bind λr7=>
  (ck (y5.1+1)).bind λx8=>
  (self r7 x8 y5.2).bind λr9=>
  if¬(r9.1=true) then(some (.error (false,r9.2))) else((ck (y5.1+1)).bind λc=>
  de k a0 a3 self n (c,r9.2))) else(some (.ok y5.2))
def dn{σ:Type}(k:Nat)(Y:σ->Int->Option (σ×Bool))(a3:Int):Nat->Int->Int->σ->Option (Bool×σ)
 |0,_,_,_=>none
 |m0+1,a0,a1,s0=>
  (Y s0 a0).bind λr1=>
  if¬(r1.2=true) then(some (false,r1.1)) else(bE (α:=σ) (de k a0 a3 (dn k Y a3 m0) k (a1,r1.1)) (some) λx3=>
  some (true,x3))
theorem rY{M:Md Tryz.prog}{σ Z:Type}(E:Z->σ->List D)(l:Nat)(Y:σ->Int->Option (σ×Bool))(k:Nat)(u:Nat)(a3:Int)(j:Nat)(c:Nat)(hY:∀z s p r,Y s p=some r->YT M l [.eq (.int .u8 p)] (E z s) (λz':Z=>(.eq (.bool r.2),E z' r.1))):
 ∀(n:Nat) (a0:Int) (a1:Int) (z0:Z) (s0:σ) (r:Bool×σ),dn k Y a3 n a0 a1 s0=some r->bV M 107 [.eq (.int .u8 a0),I a1,Pt u,Pt j,Pt c] ([.obj u 122 (.eq (.func (.yield l) #[] #[])),.obj j 3 (I a3),.obj c 121 (.eq (.func (.func 107) #[] #[(Pv u),(Pv j),(Pv c)]))]++E z0 s0) (λz:Z=>(bD [.eq (.bool r.1)],[.obj u 122 (.eq (.func (.yield l) #[] #[])),.obj j 3 (I a3),.obj c 121 (.eq (.func (.func 107) #[] #[(Pv u),(Pv j),(Pv c)]))]++E z r.2)):=by
 intro n
 induction n with
 |zero=>intro a0 a1 z0 s0 r h;cases h
 |succ m0 ih=>
  intro a0 a1 z0 s0 r h;rw [dn] at h;replace h:=aY h;refine bV.of 27 Tryz.func107 rfl Tryz.ntmps107 rfl λS w0=>?_;refine sr (cq (nt (aj (sr ?_))));refine lo PM ?_;refine mq ?_;obtain⟨r1,U,h⟩:=aa h;refine fr 2 ?_;refine fr 2 ?_;refine fr 2 ?_;refine IO [.obj u 122 (.eq (.func (.yield l) #[] #[])),.obj j 3 (I a3),.obj c 121 (.eq (.func (.func 107) #[] #[(Pv u),(Pv j),(Pv c)]))] rfl rfl rfl (JU [.tmp 10] rfl rfl rfl (hY z0 s0 a0 r1 U)) ⟨rfl,rfl,trivial⟩ λz2=>?_;refine ja (iz rfl) ?_;refine nt (cw h (λh=>?_) (λh=>?_))
  .refine sr (cq (nt (rx ?_)));cases h;exact tN z2 [_] ⟨rfl,trivial⟩ rfl
  .refine sk (dB (Z:=Z) (α:=σ) (λz4 x3=>[]) (λz4 x3=>[.obj u 122 (.eq (.func (.yield l) #[] #[])),.obj j 3 (I a3),.obj c 121 (.eq (.func (.func 107) #[] #[(Pv u),(Pv j),(Pv c)]))]++E z4 x3) (λe=>e=r) h (λe h=>Option.some.inj h) (λK hR h=>?_) (λz4 x3 h=>?_))
   .refine sr (mq ?_);refine aq (nt (ak ?_));refine aI (Z:=Z) (α:=Int×σ) (λz6 y5=>[(0,.eq (.int .u8 a0)),(3,Pt j),(4,Pt c),(8,I y5.1)]) (λz6 y5=>[.obj j 3 (I a3),.obj c 121 (.eq (.func (.func 107) #[] #[(Pv u),(Pv j),(Pv c)])),.obj u 122 (.eq (.func (.yield l) #[] #[]))]++E z6 y5.2) (de k a0 a3 (dn k Y a3 m0)) k z2 (a1,r1.1) (λ_=>rfl) h (kH [.obj u 122 (.eq (.func (.yield l) #[] #[])),.obj j 3 (I a3),.obj c 121 (.eq (.func (.func 107) #[] #[(Pv u),(Pv j),(Pv c)]))] (E z2 r1.1) [1,2,0] ⟨rfl,rfl,rfl,rfl,trivial⟩ rfl) (λn z6 y5 h=>?_);unfold de at h;refine aj (sr (mq ?_));refine lo cN ?_;refine jb (bF rfl) ?_;refine nt (ci h (λh=>?_) (λh=>?_))
    .refine sk (aj (ak (aj (cL ?_))));refine ea 1 (ax rfl Gj ny rfl) ?_;refine dm ?_;refine dm ?_;obtain⟨r7,Q,h⟩:=aa h;refine db (av [.tmp 20,.tmp 21] rfl rfl Ou rfl (kh k a0 y5.1 r7 Q)) ?_;refine dm ?_;obtain⟨x8,J,h⟩:=aa h;refine db (bB rfl J) ?_;refine df d4 ?_;obtain⟨r9,O,h⟩:=aa h;refine fr 1 ?_;refine fr 1 ?_;refine fr 2 ?_;refine Ai rfl rfl rfl (qL (fs:=[]) (cs:=[(Pv u),(Pv j),(Pv c)]) (ags:=[.eq (.int .u8 r7),I x8]) [.tmp 22,.tmp 24] rfl rfl MN rfl (ih r7 x8 z6 y5.2 r9 O)) ⟨rfl,rfl,rfl,trivial⟩ λx=>?_;refine ja (iz rfl) ?_;refine nt (cw h (λh=>?_) (λh=>?_))
     .refine sr (cq (nt (aA (br (bJ (bC ?_))))));obtain rfl:=hR _ h;exact tN x [_] ⟨rfl,trivial⟩ rfl
     .refine be (aQ (tn (ab (mq ?_))));obtain⟨F,y,h⟩:=aa h;refine jb (bB rfl y) ?_;refine aq (nl ?_);exact vc (x,(F,r9.2)) h (kH [.obj u 122 (.eq (.func (.yield l) #[] #[])),.obj j 3 (I a3),.obj c 121 (.eq (.func (.func 107) #[] #[(Pv u),(Pv j),(Pv c)]))] (E x r9.2) [1,2,0] ⟨rfl,rfl,rfl,rfl,trivial⟩ rfl)
    .refine xa ?_;exact vc (z6,y5.2) h (kH [.obj j 3 (I a3),.obj c 121 (.eq (.func (.func 107) #[] #[(Pv u),(Pv j),(Pv c)])),.obj u 122 (.eq (.func (.yield l) #[] #[]))] (E z6 y5.2) [2,0,1] trivial rfl)
   .refine sr (cq (nt (aA ?_)));cases h;exact tN z4 [_] ⟨rfl,trivial⟩ rfl
def jK{σ:Type}(k:Nat)(Y:σ->Int->Option (σ×Bool))(a1:Int)(s0:σ):Option (σ):=
 (dn k Y a1 k 0 0 s0).bind λr3=>
 some r3.2
theorem om{M:Md Tryz.prog}{σ Z:Type}(E:Z->σ->List D)(l:Nat)(Y:σ->Int->Option (σ×Bool))(k:Nat)(a1:Int)(c:Nat)(hY:∀z s p r,Y s p=some r->YT M l [.eq (.int .u8 p)] (E z s) (λz':Z=>(.eq (.bool r.2),E z' r.1))):
 ∀(z0:Z) (s0:σ) (r:σ),jK k Y a1 s0=some r->bV M 106 [.eq (.func (.yield l) #[] #[]),Pt c] ([.obj c 3 (I a1)]++E z0 s0) (λz:Z=>(bD [],[.obj c 3 (I a1)]++E z r)):=by
 intro z0 s0 r h
 unfold jK at h
 replace h:=aY h
 refine bV.of 7 Tryz.func106 rfl Tryz.ntmps106 rfl λS w0=>?_
 refine sr ?_
 refine bx λb1=>?_
 refine nt ?_
 refine sr ?_
 refine aX rfl rfl rfl (bi rfl Px Q1) trivial λb2=>?_
 refine nt ?_
 refine sr ?_
 refine jc (pN [] [.tmp 2,.tmp 1,.tmp 3] [] [(Pv b1),(Pv c),(Pv b2)] rfl rfl rfl) ?_
 refine aP rfl rfl (aN rfl Gj rfl rfl rfl) ⟨rfl,rfl,trivial⟩ ?_
 refine nt ?_
 refine ab ?_
 refine lo Gj ?_
 obtain⟨r3,e,h⟩:=aa h
 have j:=rY E l Y k b1 a1 c b2 hY k 0 0 z0 s0 r3 e
 refine fr 2 ?_
 refine fr 2 ?_
 refine Ai rfl rfl rfl (qL (fs:=[]) (cs:=[(Pv b1),(Pv c),(Pv b2)]) (ags:=[.eq (.int .u8 0),I 0]) [.const (.int .u8 (0)),.const (.int .i64 (0))] rfl rfl MN rfl j) ⟨rfl,rfl,rfl,trivial⟩ λz4=>?_
 refine aE ?_
 refine jX ?_
 refine bQ (kH (Γ':=[]) [.obj b1 122 (.eq (.func (.yield l) #[] #[])),.obj c 3 (I a1),.obj b2 121 (.eq (.func (.func 107) #[] #[(Pv b1),(Pv c),(Pv b2)]))] (E z4 r3.2) [1] trivial rfl) ?_
 cases h
 exact tN z4 [] trivial rfl
theorem qS(a0:Int):dk Tryz.prog 84 [I a0] [] (λz:Nat=>(bD [.eq (.func (.func 106) #[] #[(Pv z)])],[.obj z 3 (I a0)])):=by
 refine dk.of 4 Tryz.func84 rfl Tryz.ntmps84 rfl λS w0=>?_;refine sr (bx λz=>?_);refine cq (nt (sr ?_));refine ja (pN [] [.tmp 1] [] [(Pv z)] rfl rfl rfl) ?_;refine aq (nt (aA ?_));exact aK z [_] 1 ⟨rfl,trivial⟩ rfl
def iJ(k:Nat)(a0:(List Int)):Nat->(Int×Int)->Option Int
 |0,_=>none
 |n+1,y4=>
  if y4.2 < (a0.length:Int) then((aM a0 y4.2).bind λx6=>
  (ck (y4.2+1)).bind λx7=>
  iJ k a0 n (HO y4.1 x6,x7)) else(some y4.1)
def lK(k:Nat)(a0:(List Int)):Option Int:=
 if(a0.length:Int) < 1 then(none) else((aM a0 0).bind λx1=>
 ((iJ k a0 k (x1,1)):Option (Int)).bind λx2=>
 some x2)
theorem nR(k:Nat)(a0:(List Int))(r:Int)(h:lK k a0=some r):
 dk Tryz.prog 61 [.rep Tl a0] [] (λ_:Unit=>(bD [I r],[])):=by
 unfold lK at h
 replace h:=aY h
 refine dk.of 25 Tryz.func61 rfl Tryz.ntmps61 rfl λS w0=>?_
 refine sr ?_
 refine cq ?_
 refine nt ?_
 refine aj ?_
 refine sr ?_
 refine mq ?_
 refine ol iq ?_
 refine jb (bF rfl) ?_
 refine nt ?_
 refine ci h (λh=>?_) (λh=>?_)
 .
  cases h
 .
  refine sk (sr (mq ?_));obtain⟨x1,j,h⟩:=aa h;refine jb (aU (t:=Ti) rfl iq cN j) ?_;refine ja (ap (t:=Ti) rfl cN rfl) ?_;refine aq (nt ?_);refine aH (Z:=Unit) (α:=Int) (λz3 x2=>[(3,I x2)]) (λz3 x2=>[]) h (λK h=>?_) (λz3 x2 h=>?_)
  .refine sr (cq (nt (ak ?_)));refine aI (λz5 y4=>[(0,.rep Tl a0),(3,I y4.1),(4,I y4.2)]) (λz5 y4=>[]) (iJ k a0) k () (x1,1) (λ_=>rfl) h (SE.fin [] ⟨rfl,rfl,rfl,trivial⟩ rfl) (λn z5 y4 h=>?_);unfold iJ at h;refine aj (sr ?_);iterate 2 refine mq ?_
   refine ol iq ?_;refine jb (bF rfl) ?_;refine nt (ci h (λh=>?_) (λh=>?_))
   .refine sk (aj (ak (ab ?_)));iterate 3 refine mq ?_
    obtain⟨x6,e,h⟩:=aa h;refine jb (aU (t:=Ti) rfl iq cN e) ?_;refine ja (ap (t:=Ti) rfl cN rfl) ?_;refine jb (PY rfl rfl) ?_;refine aq (aE (aQ (tn (ab ?_))));refine mq ?_;obtain⟨x7,c,h⟩:=aa h;refine jb (bB rfl c) ?_;refine aq (nl ?_);exact jz ((),(HO y4.1 x6,x7)) h []
   .refine xa ?_;exact jz ((),y4.1) h []
  .refine sr (mq ?_);refine aq (nt (aA ?_));cases h;exact ra
def dr(k:Nat)(a0:Int):Nat->((List Int)×Int)->Option (List Int)
 |0,_=>none
 |n+1,y3=>
  if y3.2 < 5 then((((eR k a0 y3.2).bind λr7=>
  if r7=true then((cJ (bP (length y3.1+length [y3.2]))).bind λ_=>
  some (y3.1++[y3.2])) else(some y3.1)):Option ((List Int))).bind λx5=>
  (ck (y3.2+1)).bind λc=>
  dr k a0 n (x5,c)) else(some y3.1)
def d5(k:Nat)(a0:Int):Option (List Int):=
 ((dr k a0 k (([]:(List Int)),0)):Option ((List Int))).bind λx1=>
 some x1
theorem fV(k:Nat)(a0:Int)(r:(List Int))(h:d5 k a0=some r):
 dk Tryz.prog 69 [.eq (.int .u8 a0)] [] (λ_:Unit=>(bD [.rep Tl r],[])):=by
 unfold d5 at h
 replace h:=aY h
 refine dk.of 17 Tryz.func69 rfl Tryz.ntmps69 rfl λS w0=>?_
 refine sr ?_
 refine cq ?_
 refine nt ?_
 refine sr ?_
 refine cq ?_
 refine nt ?_
 refine aH (Z:=Value) (α:=(List Int)) (λz2 x1=>[(3,.eq z2)]) (λz2 x1=>[.sl z2 3 Ti x1]) h (λK h=>?_) (λz2 x1 h=>?_)
 .
  refine sr (ff rfl ?_);refine nt (ak (jd (SE.nil 3 Ti) ?_));refine aI (λz4 y3=>[(0,.eq (.int .u8 a0)),(3,.eq z4),(5,I y3.2)]) (λz4 y3=>[.sl z4 3 Ti y3.1]) (dr k a0) k (.slice none 0 0) (([]:(List Int)),0) (λ_=>rfl) h (SE.fin [0] ⟨rfl,rfl,rfl,trivial⟩ rfl) (λn z4 y3 h=>?_);unfold dr at h;refine sr (jb (bF rfl) ?_);refine nt (aj (ci h (λh=>?_) (λh=>?_)))
  .refine sk (aH (Z:=Value) (α:=(List Int)) (λz6 x5=>[(0,.eq (.int .u8 a0)),(3,.eq z6),(5,I y3.2)]) (λz6 x5=>[.sl z6 3 Ti x5]) h (λK h=>?_) (λz6 x5 h=>?_))
   .refine ak (sr (mq ?_));refine aq (nt (sr ?_));iterate 2 refine mq ?_
    obtain⟨r7,l,h⟩:=aa h;refine jb (av [.tmp 8,.tmp 9] rfl rfl H9 rfl (gx k a0 y3.2 r7 l)) ?_;refine nt (cv h (λh=>?_) (λh=>?_))
    .refine ab ?_;iterate 2 refine mq ?_
     refine ja (bg (t:=Ti) [(.tmp 12,_)] [y3.2] rfl rfl dM (.cons rfl .int .nil) rfl rfl) ?_;obtain⟨u8,j,h⟩:=aa h;refine dY rfl rfl rfl (cp rfl rfl dM (am j)) ⟨rfl,rfl,trivial⟩ λv9=>?_;refine aq (aE (bn ?_));exact jz (v9,y3.1++[y3.2]) h [0]
    .refine be (bn ?_);exact jz (z4,y3.1) h [0]
   .refine ab ?_;obtain⟨e,c,h⟩:=aa h;refine jb (bB rfl c) ?_;refine mq (nl ?_);exact jz (z6,(x5,e)) h [0]
  .refine xa ?_;exact jz (z4,y3.1) h [0]
 .
  refine sr (mq ?_);refine aq (nt (aA ?_));refine bQ (gY [2,3,16] ⟨rfl,rfl,rfl,trivial⟩) ?_;cases h;exact ra
def fJ(k:Nat):Nat->((List Int)×Int×Int)->Option (List Int)
 |0,_=>none
 |n+1,y2=>
  if y2.2.1 < y2.2.2 then((aM y2.1 y2.2.2).bind λx4=>
  (aM y2.1 y2.2.1).bind λx5=>
  (aM y2.1 y2.2.1).bind λx6=>
  (aM (List.set y2.1 (Int.toNat y2.2.1) x4) y2.2.2).bind λx7=>
  (ck (y2.2.1+1)).bind λx8=>
  (ck (y2.2.2 - 1)).bind λx9=>
  fJ k n (List.set (List.set y2.1 (Int.toNat y2.2.1) x4) (Int.toNat y2.2.2) x5,x8,x9)) else(some y2.1)
def jZ(k:Nat)(a0:(List Int)):Option (List Int):=
 (ck ((a0.length:Int) - 1)).bind λx1=>
 fJ k k (a0,0,x1)
theorem pK(k:Nat)(a0:(List Int))(c:Value)(r:(List Int))(h:jZ k a0=some r):
 dk Tryz.prog 80 [.eq c] [.sl c 3 Ti a0] (λ_:Unit=>(bD [],[.sl c 3 Ti r])):=by
 unfold jZ at h
 replace h:=aY h
 refine dk.of 28 Tryz.func80 rfl Tryz.ntmps80 rfl λS w0=>?_
 refine sr ?_
 refine mq ?_
 refine ka (mA rfl rfl iq) ?_
 obtain⟨x1,mc,h⟩:=aa h
 refine jb (eg rfl mc) ?_
 refine cq ?_
 refine aq ?_
 refine nt ?_
 refine ak ?_
 refine aI (λz3 y2=>[(0,.eq c),(2,I y2.2.1),(3,I y2.2.2)]) (λz3 y2=>[.sl c 3 Ti y2.1]) (fJ k) k () (a0,0,x1) (λ_=>rfl) h (SE.fin [0] ⟨rfl,rfl,rfl,trivial⟩ rfl) (λn z3 y2 h=>?_)
 unfold fJ at h
 refine aj ?_
 refine sr ?_
 iterate 2 refine mq ?_
 refine jb (bF rfl) ?_
 refine nt ?_
 refine ci h (λh=>?_) (λh=>?_)
 .
  refine sk (aj (ak (rC ?_)));refine bO rfl rfl rfl (bA rfl) ⟨rfl,trivial⟩ ?_;refine bO rfl rfl rfl (bA rfl) ⟨rfl,trivial⟩ ?_;refine bO rfl rfl rfl (bA rfl) ⟨rfl,trivial⟩ ?_;refine bO rfl rfl rfl (bA rfl) ⟨rfl,trivial⟩ ?_;refine bO rfl rfl rfl (bA rfl) ⟨rfl,trivial⟩ ?_;refine bO rfl rfl rfl (bA rfl) ⟨rfl,trivial⟩ ?_;obtain⟨x4,D,h⟩:=aa h;refine gZ 0 rfl rfl rfl rfl (cI (t:=Ti) rfl iq cN D) ⟨rfl,rfl,trivial⟩ ?_;refine gZ 0 rfl rfl rfl rfl (gI (i:=Int.toNat y2.2.2) (off:=0) rfl cN (λ_=>rfl) rfl (dE D).2.2 rfl) ⟨rfl,trivial⟩ ?_;refine bO rfl rfl rfl (bA rfl) ⟨rfl,trivial⟩ ?_;refine bO rfl rfl rfl (bA rfl) ⟨rfl,trivial⟩ ?_;obtain⟨x5,y,h⟩:=aa h;refine gZ 0 rfl rfl rfl rfl (cI (t:=Ti) rfl iq cN y) ⟨rfl,rfl,trivial⟩ ?_;refine gZ 0 rfl rfl rfl rfl (gI (i:=Int.toNat y2.2.1) (off:=0) rfl cN (λ_=>rfl) rfl (dE y).2.2 rfl) ⟨rfl,trivial⟩ ?_;obtain⟨x6,x,h⟩:=aa h;refine gZ 0 rfl rfl rfl rfl (cI (t:=Ti) rfl iq cN x) ⟨rfl,rfl,trivial⟩ ?_;refine ve 13 [true,true,false,false,true,true,true,true,true,true,true,true,true] [27] [] [] rfl (by kernel_rfl) (by kernel_rfl) (by kernel_rfl) d4 (λvs hv hB=>?_);obtain⟨w0,UA,rfl,Y⟩:=ay hv;obtain⟨w1,Uz,rfl,X⟩:=ay Y;obtain⟨w2,Uy,rfl,U⟩:=ay X;obtain⟨w3,Ux,rfl,Q⟩:=ay U;obtain⟨w4,Uw,rfl,O⟩:=ay Q;obtain⟨w5,Uu,rfl,M⟩:=ay O;obtain⟨w6,Ut,rfl,J⟩:=ay M;obtain⟨w7,Us,rfl,F⟩:=ay J;obtain⟨w8,Ur,rfl,E⟩:=ay F;obtain⟨w9,Um,rfl,s⟩:=ay E;obtain⟨Up,zz,rfl,l⟩:=ay s;obtain⟨Uo,qt,rfl,j⟩:=ay l;obtain⟨Un,mw,rfl,e⟩:=ay j;obtain rfl:=qU e;refine⟨[0],[.sl c 3 Ti y2.1],by kernel_rfl,by decide,?_⟩;refine sQ rfl rfl (gq (i:=Int.toNat y2.2.1) rfl cN rfl (ng x) rfl .int rfl) ⟨rfl,rfl,trivial⟩ (by kernel_rfl) ?_;obtain⟨x7,u,h⟩:=aa h;refine va rfl rfl rfl rfl (cI (t:=Ti) rfl iq cN u) ⟨rfl,rfl,trivial⟩ (by kernel_rfl) ?_;refine sQ rfl rfl (gq (i:=Int.toNat y2.2.2) rfl cN rfl (ng u) rfl .int rfl) ⟨rfl,rfl,trivial⟩ (by kernel_rfl) ?_;refine yl ?_;refine bQ (SE.fin (Γ':=[(0,.eq c),(2,I y2.2.1),(3,I y2.2.2)]) (Δ':=[.sl c 3 Ti (List.set (List.set y2.1 (Int.toNat y2.2.1) x4) (Int.toNat y2.2.2) x5)]) [0] ⟨rfl,rfl,rfl,trivial⟩ rfl) ?_;refine aQ (tn (ab (mq ?_)));obtain⟨x8,gw,h⟩:=aa h;refine jb (bB rfl gw) ?_;refine mq ?_;obtain⟨x9,Z,h⟩:=aa h;refine jb (eg rfl Z) ?_;refine aq ?_;refine aq (nl ?_);exact jz ((),(List.set (List.set y2.1 (Int.toNat y2.2.1) x4) (Int.toNat y2.2.2) x5,x8,x9)) h [0]
 .
  refine gQ (cy (cy (dF (jX ?_))));cases h;exact aK () [] 1 trivial rfl
def iK(k:Nat)(a0:(List Int)):Nat->(Int×Int)->Option Int
 |0,_=>none
 |n+1,y4=>
  if y4.2 < (a0.length:Int) then((aM a0 y4.2).bind λx6=>
  (ck (y4.2+1)).bind λx7=>
  iK k a0 n (sw y4.1 x6,x7)) else(some y4.1)
def nS(k:Nat)(a0:(List Int)):Option Int:=
 if(a0.length:Int) < 1 then(none) else((aM a0 0).bind λx1=>
 ((iK k a0 k (x1,1)):Option (Int)).bind λx2=>
 some x2)
theorem t3(k:Nat)(a0:(List Int))(r:Int)(h:nS k a0=some r):
 dk Tryz.prog 83 [.rep Tl a0] [] (λ_:Unit=>(bD [I r],[])):=by
 unfold nS at h
 replace h:=aY h
 refine dk.of 25 Tryz.func83 rfl Tryz.ntmps83 rfl λS w0=>?_
 refine sr ?_
 refine cq ?_
 refine nt ?_
 refine aj ?_
 refine sr ?_
 refine mq ?_
 refine ol iq ?_
 refine jb (bF rfl) ?_
 refine nt ?_
 refine ci h (λh=>?_) (λh=>?_)
 .
  cases h
 .
  refine sk (sr (mq ?_));obtain⟨x1,j,h⟩:=aa h;refine jb (aU (t:=Ti) rfl iq cN j) ?_;refine ja (ap (t:=Ti) rfl cN rfl) ?_;refine aq (nt ?_);refine aH (Z:=Unit) (α:=Int) (λz3 x2=>[(3,I x2)]) (λz3 x2=>[]) h (λK h=>?_) (λz3 x2 h=>?_)
  .refine sr (cq (nt (ak ?_)));refine aI (λz5 y4=>[(0,.rep Tl a0),(3,I y4.1),(4,I y4.2)]) (λz5 y4=>[]) (iK k a0) k () (x1,1) (λ_=>rfl) h (SE.fin [] ⟨rfl,rfl,rfl,trivial⟩ rfl) (λn z5 y4 h=>?_);unfold iK at h;refine aj (sr ?_);iterate 2 refine mq ?_
   refine ol iq ?_;refine jb (bF rfl) ?_;refine nt (ci h (λh=>?_) (λh=>?_))
   .refine sk (aj (ak (ab ?_)));iterate 3 refine mq ?_
    obtain⟨x6,e,h⟩:=aa h;refine jb (aU (t:=Ti) rfl iq cN e) ?_;refine ja (ap (t:=Ti) rfl cN rfl) ?_;refine jb (G3 rfl rfl) ?_;refine aq (aE (aQ (tn (ab ?_))));refine mq ?_;obtain⟨x7,c,h⟩:=aa h;refine jb (bB rfl c) ?_;refine aq (nl ?_);exact jz ((),(sw y4.1 x6,x7)) h []
   .refine xa ?_;exact jz ((),y4.1) h []
  .refine sr (mq ?_);refine aq (nt (aA ?_));cases h;exact ra
def lq(k:Nat)(a0:Int)(a1:Int)(a2:Bool):Option bz:=
 some (a0,a1,a2)
theorem l8(k:Nat)(a0:Int)(a1:Int)(a2:Bool)(r:bz)(h:lq k a0 a1 a2=some r):
 dk Tryz.prog 29 [I a0,I a1,.eq (.bool a2)] [] (λ_:Unit=>(bD [.rep aZ r],[])):=by
 unfold lq at h
 replace h:=aY h
 refine dk.of 11 Tryz.func29 rfl Tryz.ntmps29 rfl λS w0=>?_
 refine sr ?_
 refine aX rfl rfl rfl (bi rfl AC It) trivial λb1=>?_
 refine nt ?_
 refine sr ?_
 iterate 3 refine mq ?_
 refine jc (dZ [(0,.tmp 7,_),(1,.tmp 8,_),(2,.tmp 9,_)] rfl PR AC MY (jF ⟨rfl,rfl,rfl,trivial⟩) rfl) ?_
 refine aP rfl rfl (aN rfl qB trivial rfl rfl) ⟨rfl,rfl,trivial⟩ ?_
 refine nt ?_
 refine aA ?_
 refine bQ (ir (a:=.agg (.pair (I a0) (.pair (I a1) (.eq (.bool a2))))) (a':=.rep aZ (a0,a1,a2)) (jv (.agg (.pair .int (.pair .int .bool))))) ?_
 cases h
 exact aK () [.rep aZ (a0,a1,a2)] 0 ⟨⟨_,_,_,_,_,rfl,(.head _),qB,(tC),rfl⟩,trivial⟩ rfl
def iE(k:Nat)(a0:(List bz)):Option ae:=
 (lq k 1 2 true).bind λr2=>
 (lq k 2 1 false).bind λr3=>
 (lq k 3 3 false).bind λr4=>
 (cJ (bP (length [r2,r3,r4]+length a0))).bind λ_=>
 some (4,1,1,2,[[[0,1,2],[3]],[[0,1],[2,3]],[[1,2,3]],[[1,3],[2]]],[r2,r3,r4]++a0)
theorem gJ(k:Nat)(a0:(List bz))(r:ae)(h:iE k a0=some r):
 dk Tryz.prog 44 [Rs aZ a0] [] (λ_:Unit=>(bD [.rep au r],[])):=by
 unfold iE at h
 replace h:=aY h
 refine dk.of 24 Tryz.func44 rfl Tryz.ntmps44 rfl λS w0=>?_
 refine sr ?_
 refine aX rfl rfl rfl (bi rfl yu E0) trivial λb1=>?_
 refine nt ?_
 refine sr ?_
 obtain⟨r2,l,h⟩:=aa h
 have u:=l8 k 1 2 true r2 l
 refine jc (av [.const (.int .i64 (1)),.const (.int .i64 (2)),.const (.bool true)] rfl rfl Ox rfl u) ?_
 obtain⟨r3,j,h⟩:=aa h
 have s:=l8 k 2 1 false r3 j
 refine jc (av [.const (.int .i64 (2)),.const (.int .i64 (1)),.const (.bool false)] rfl rfl Ox rfl s) ?_
 obtain⟨r4,e,h⟩:=aa h
 have n:=l8 k 3 3 false r4 e
 refine jc (av [.const (.int .i64 (3)),.const (.int .i64 (3)),.const (.bool false)] rfl rfl Ox rfl n) ?_
 refine aX rfl rfl rfl (jg (t:=aZ) [(.tmp 4,_),(.tmp 5,_),(.tmp 6,_)] [r2,r3,r4] rfl rfl JH (.cons rfl .rep (.cons rfl .rep (.cons rfl .rep .nil))) rfl rfl) ⟨rfl,rfl,rfl,trivial⟩ λv5=>?_
 refine aq ?_
 refine nt ?_
 refine sr ?_
 refine jc (bg (t:=Ti) [(.const (.int .i64 (0)),_),(.const (.int .i64 (1)),_),(.const (.int .i64 (2)),_)] [0,1,2] rfl rfl dM (.cons rfl .int (.cons rfl .int (.cons rfl .int .nil))) rfl rfl) ?_
 refine ja (bg (t:=Ti) [(.const (.int .i64 (3)),_)] [3] rfl rfl dM (.cons rfl .int .nil) rfl rfl) ?_
 refine jb (bg (t:=Tl) [(.tmp 8,_),(.tmp 9,_)] [[0,1,2],[3]] rfl rfl my (.cons rfl .rep (.cons rfl .rep .nil)) rfl rfl) ?_
 refine jb (bg (t:=Ti) [(.const (.int .i64 (0)),_),(.const (.int .i64 (1)),_)] [0,1] rfl rfl dM (.cons rfl .int (.cons rfl .int .nil)) rfl rfl) ?_
 refine jb (bg (t:=Ti) [(.const (.int .i64 (2)),_),(.const (.int .i64 (3)),_)] [2,3] rfl rfl dM (.cons rfl .int (.cons rfl .int .nil)) rfl rfl) ?_
 refine jb (bg (t:=Tl) [(.tmp 11,_),(.tmp 12,_)] [[0,1],[2,3]] rfl rfl my (.cons rfl .rep (.cons rfl .rep .nil)) rfl rfl) ?_
 refine jc (bg (t:=Ti) [(.const (.int .i64 (1)),_),(.const (.int .i64 (2)),_),(.const (.int .i64 (3)),_)] [1,2,3] rfl rfl dM (.cons rfl .int (.cons rfl .int (.cons rfl .int .nil))) rfl rfl) ?_
 refine ja (bg (t:=Tl) [(.tmp 14,_)] [[1,2,3]] rfl rfl my (.cons rfl .rep .nil) rfl rfl) ?_
 refine jb (bg (t:=Ti) [(.const (.int .i64 (1)),_),(.const (.int .i64 (3)),_)] [1,3] rfl rfl dM (.cons rfl .int (.cons rfl .int .nil)) rfl rfl) ?_
 refine ja (bg (t:=Ti) [(.const (.int .i64 (2)),_)] [2] rfl rfl dM (.cons rfl .int .nil) rfl rfl) ?_
 refine jb (bg (t:=Tl) [(.tmp 16,_),(.tmp 17,_)] [[1,3],[2]] rfl rfl my (.cons rfl .rep (.cons rfl .rep .nil)) rfl rfl) ?_
 refine cf rfl (bg (t:=(.slice Tl)) [(.tmp 10,_),(.tmp 13,_),(.tmp 15,_),(.tmp 18,_)] [[[0,1,2],[3]],[[0,1],[2,3]],[[1,2,3]],[[1,3],[2]]] rfl rfl AU (.cons rfl .rep (.cons rfl .rep (.cons rfl .rep (.cons rfl .rep .nil)))) rfl rfl) ⟨rfl,rfl,rfl,rfl,trivial⟩ ?_
 iterate 2 refine mq ?_
 obtain⟨u6,c,h⟩:=aa h
 refine dY rfl rfl rfl (cp rfl rfl JH (am c)) ⟨rfl,rfl,trivial⟩ λv7=>?_
 refine eG (gY [22] ⟨rfl,trivial⟩) ?_
 refine cf rfl (dZ [(0,.const (.int .i64 (4)),_),(1,.const (.int .i64 (1)),_),(2,.const (.int .i64 (1)),_),(3,.const (.int .i64 (2)),_),(4,.tmp 19,_),(5,.tmp 22,_)] rfl PS yu MZ (jF ⟨rfl,rfl,rfl,rfl,rfl,rfl,trivial⟩) rfl) ⟨rfl,rfl,rfl,rfl,rfl,rfl,trivial⟩ ?_
 refine aP rfl rfl (aN rfl g7 trivial rfl rfl) ⟨rfl,rfl,trivial⟩ ?_
 refine nt ?_
 refine aA ?_
 refine bQ (ir (a:=.agg (.pair (I 4) (.pair (I 1) (.pair (I 1) (.pair (I 2) (.pair (.rep (.slice (.slice Tl)) [[[0,1,2],[3]],[[0,1],[2,3]],[[1,2,3]],[[1,3],[2]]]) (Rs aZ ([r2,r3,r4]++a0)))))))) (a':=.rep au (4,1,1,2,[[[0,1,2],[3]],[[0,1],[2,3]],[[1,2,3]],[[1,3],[2]]],[r2,r3,r4]++a0)) (jv (.agg (.pair .int (.pair .int (.pair .int (.pair .int (.pair .rep .rep)))))))) ?_
 cases h
 exact aK () [.rep au (4,1,1,2,[[[0,1,2],[3]],[[0,1],[2,3]],[[1,2,3]],[[1,3],[2]]],[r2,r3,r4]++a0)] 0 ⟨⟨_,_,_,_,_,rfl,(.head _),g7,(tC),rfl⟩,trivial⟩ rfl
def iR(k:Nat)(a0:Int):Option Int:=
 (d5 k a0).bind λr1=>
 some (r1.length:Int)
theorem nC(k:Nat)(a0:Int)(r:Int)(h:iR k a0=some r):
 dk Tryz.prog 72 [.eq (.int .u8 a0)] [] (λ_:Unit=>(bD [I r],[])):=by
 unfold iR at h
 replace h:=aY h
 refine dk.of 6 Tryz.func72 rfl Tryz.ntmps72 rfl λS w0=>?_
 refine sr ?_
 refine cq ?_
 refine nt ?_
 refine sr ?_
 refine mq ?_
 obtain⟨r1,c,h⟩:=aa h
 have e:=fV k a0 r1 c
 refine ja (av [.tmp 3] rfl rfl Ia rfl e) ?_
 refine ol iq ?_
 refine aq ?_
 refine nt ?_
 refine aA ?_
 cases h
 exact ra
def kC(k:Nat)(a0:Int):Option Int:=
 (d5 k a0).bind λr1=>
 some (r1.length:Int)
theorem nB(k:Nat)(a0:Int)(r:Int)(h:kC k a0=some r):
 dk Tryz.prog 89 [.eq (.int .u8 a0)] [] (λ_:Unit=>(bD [I r],[])):=by
 unfold kC at h
 replace h:=aY h
 refine dk.of 6 Tryz.func89 rfl Tryz.ntmps89 rfl λS w0=>?_
 refine sr ?_
 refine cq ?_
 refine nt ?_
 refine sr ?_
 refine mq ?_
 obtain⟨r1,c,h⟩:=aa h
 have e:=fV k a0 r1 c
 refine ja (av [.tmp 3] rfl rfl Ia rfl e) ?_
 refine ol iq ?_
 refine aq ?_
 refine nt ?_
 refine aA ?_
 cases h
 exact ra
def na(k:Nat)(a0:Int)(a1:Int):Option Int:=
 (kC k a0).bind λr1=>
 (kC k a1).bind λr2=>
 (ck (r1 - r2)).bind λx3=>
 some x3
theorem tf(k:Nat)(a0:Int)(a1:Int)(c:Nat)(r:Int)(h:na k a0 a1=some r):
 dk Tryz.prog 104 [.eq (.int .u8 a0),.eq (.int .u8 a1),Pt c] [.obj c 104 (.eq (.func (.func 89) #[] #[]))] (λ_:Unit=>(bD [I r],[.obj c 104 (.eq (.func (.func 89) #[] #[]))])):=by
 unfold na at h
 replace h:=aY h
 refine dk.of 13 Tryz.func104 rfl Tryz.ntmps104 rfl λS w0=>?_
 refine sr ?_
 refine cq ?_
 refine nt ?_
 refine aj ?_
 refine cL ?_
 refine ea 0 (ax rfl CG ny rfl) ?_
 refine dm ?_
 obtain⟨r1,l,h⟩:=aa h
 have s:=nB k a0 r1 l
 refine db (mV (fs:=[]) (cs:=[]) (ags:=[.eq (.int .u8 a0)]) [.tmp 7] rfl rfl Qv rfl s) ?_
 refine ea 0 (ax rfl CG ny rfl) ?_
 refine dm ?_
 refine df d4 ?_
 obtain⟨r2,j,h⟩:=aa h
 have n:=nB k a1 r2 j
 refine jb (mV (fs:=[]) (cs:=[]) (ags:=[.eq (.int .u8 a1)]) [.tmp 10] rfl rfl Qv rfl n) ?_
 obtain⟨x3,e,h⟩:=aa h
 refine jb (eg rfl e) ?_
 refine aq ?_
 refine nt ?_
 refine aA ?_
 cases h
 exact aK () [_] 1 ⟨rfl,trivial⟩ rfl
def hP(k:Nat)(a0:Int)(a1:Int):Option Int:=
 (iR k a0).bind λr1=>
 (iR k a1).bind λr2=>
 (ck (r1 - r2)).bind λx3=>
 some x3
theorem rZ(k:Nat)(a0:Int)(a1:Int)(c:Nat)(r:Int)(h:hP k a0 a1=some r):
 dk Tryz.prog 104 [.eq (.int .u8 a0),.eq (.int .u8 a1),Pt c] [.obj c 104 (.eq (.func (.func 72) #[] #[]))] (λ_:Unit=>(bD [I r],[.obj c 104 (.eq (.func (.func 72) #[] #[]))])):=by
 unfold hP at h
 replace h:=aY h
 refine dk.of 13 Tryz.func104 rfl Tryz.ntmps104 rfl λS w0=>?_
 refine sr ?_
 refine cq ?_
 refine nt ?_
 refine aj ?_
 refine cL ?_
 refine ea 0 (ax rfl CG ny rfl) ?_
 refine dm ?_
 obtain⟨r1,l,h⟩:=aa h
 have s:=nC k a0 r1 l
 refine db (mV (fs:=[]) (cs:=[]) (ags:=[.eq (.int .u8 a0)]) [.tmp 7] rfl rfl Qz rfl s) ?_
 refine ea 0 (ax rfl CG ny rfl) ?_
 refine dm ?_
 refine df d4 ?_
 obtain⟨r2,j,h⟩:=aa h
 have n:=nC k a1 r2 j
 refine jb (mV (fs:=[]) (cs:=[]) (ags:=[.eq (.int .u8 a1)]) [.tmp 10] rfl rfl Qz rfl n) ?_
 obtain⟨x3,e,h⟩:=aa h
 refine jb (eg rfl e) ?_
 refine aq ?_
 refine nt ?_
 refine aA ?_
 cases h
 exact aK () [_] 1 ⟨rfl,trivial⟩ rfl
def fK(k:Nat)(a0:(List Int)):Nat->(Int×Int)->Option Int
 |0,_=>none
 |n+1,y4=>
  if y4.2 < (a0.length:Int) then((((aM a0 y4.2).bind λx8=>
  (na k x8 y4.1).bind λr9=>
  if r9 < 0 then((aM a0 y4.2).bind λe=>
  some e) else(some y4.1)):Option (Int)).bind λx6=>
  (ck (y4.2+1)).bind λc=>
  fK k a0 n (x6,c)) else(some y4.1)
def j6(k:Nat)(a0:(List Int)):Option Int:=
 if(a0.length:Int) < 1 then(none) else((aM a0 0).bind λx1=>
 ((fK k a0 k (x1,1)):Option (Int)).bind λx2=>
 some x2)
theorem pL(k:Nat)(a0:(List Int))(c_a1_0:Nat)(r:Int)(h:j6 k a0=some r):
 dk Tryz.prog 103 [.rep (.slice (.int .u8)) a0,.eq (.func (.func 104) #[] #[(Pv c_a1_0)])] [.obj c_a1_0 104 (.eq (.func (.func 89) #[] #[]))] (λ_:Unit=>(bD [.eq (.int .u8 r)],[.obj c_a1_0 104 (.eq (.func (.func 89) #[] #[]))])):=by
 unfold j6 at h
 replace h:=aY h
 refine dk.of 33 Tryz.func103 rfl Tryz.ntmps103 rfl λS w0=>?_
 refine sr ?_
 refine cq ?_
 refine nt ?_
 refine aj ?_
 refine sr ?_
 refine mq ?_
 refine ol vL ?_
 refine jb (bF rfl) ?_
 refine nt ?_
 refine ci h (λh=>?_) (λh=>?_)
 .
  cases h
 .
  refine sk (sr (mq ?_));obtain⟨x1,u,h⟩:=aa h;refine jb (aU (t:=(.int .u8)) rfl vL l7 u) ?_;refine ja (ap (t:=(.int .u8)) rfl l7 rfl) ?_;refine aq (nt ?_);refine aH (Z:=Unit) (α:=Int) (λz3 x2=>[(5,.eq (.int .u8 x2))]) (λz3 x2=>[.obj c_a1_0 104 (.eq (.func (.func 89) #[] #[]))]) h (λK h=>?_) (λz3 x2 h=>?_)
  .refine sr (cq (nt (ak ?_)));refine aI (λz5 y4=>[(0,.rep (.slice (.int .u8)) a0),(1,.eq (.func (.func 104) #[] #[(Pv c_a1_0)])),(5,.eq (.int .u8 y4.1)),(6,I y4.2)]) (λz5 y4=>[.obj c_a1_0 104 (.eq (.func (.func 89) #[] #[]))]) (fK k a0) k () (x1,1) (λ_=>rfl) h (SE.fin [0] ⟨rfl,rfl,rfl,rfl,trivial⟩ rfl) (λn z5 y4 h=>?_);unfold fK at h;refine aj (sr ?_);iterate 2 refine mq ?_
   refine ol vL ?_;refine jb (bF rfl) ?_;refine nt (ci h (λh=>?_) (λh=>?_))
   .refine sk (aH (Z:=Unit) (α:=Int) (λz7 x6=>[(0,.rep (.slice (.int .u8)) a0),(1,.eq (.func (.func 104) #[] #[(Pv c_a1_0)])),(5,.eq (.int .u8 x6)),(6,I y4.2)]) (λz7 x6=>[.obj c_a1_0 104 (.eq (.func (.func 89) #[] #[]))]) h (λK h=>?_) (λz7 x6 h=>?_))
    .refine ak (sr ?_);iterate 3 refine mq ?_
     obtain⟨x8,s,h⟩:=aa h;refine jb (aU (t:=(.int .u8)) rfl vL l7 s) ?_;refine ja (ap (t:=(.int .u8)) rfl l7 rfl) ?_;refine mq ?_;obtain⟨r9,x,h⟩:=aa h;refine kc (mV (fs:=[]) (cs:=[(Pv c_a1_0)]) (ags:=[.eq (.int .u8 x8),.eq (.int .u8 y4.1)]) [.tmp 24,.tmp 25] rfl rfl MQ rfl (tf k x8 y4.1 c_a1_0 r9 x)) ?_;refine jb (bF rfl) ?_;refine nt (ci h (λh=>?_) (λh=>?_))
     .refine ab ?_;iterate 2 refine mq ?_
      obtain⟨l,e,h⟩:=aa h;refine jb (aU (t:=(.int .u8)) rfl vL l7 e) ?_;refine ja (ap (t:=(.int .u8)) rfl l7 rfl) ?_;refine aq (aE (bn ?_));exact jz ((),l) h [0]
     .refine be (bn ?_);exact jz ((),y4.1) h [0]
    .refine ab (mq ?_);obtain⟨j,c,h⟩:=aa h;refine jb (bB rfl c) ?_;refine aq (nl ?_);exact jz ((),(x6,j)) h [0]
   .refine xa ?_;exact jz ((),y4.1) h [0]
  .refine sr (mq ?_);refine aq (nt (aA ?_));cases h;exact aK () [_] 1 ⟨rfl,trivial⟩ rfl
def cH(k:Nat)(a0:(List Int)):Nat->(Int×Int)->Option Int
 |0,_=>none
 |n+1,y4=>
  if y4.2 < (a0.length:Int) then((((aM a0 y4.2).bind λx8=>
  (hP k x8 y4.1).bind λr9=>
  if r9 < 0 then((aM a0 y4.2).bind λe=>
  some e) else(some y4.1)):Option (Int)).bind λx6=>
  (ck (y4.2+1)).bind λc=>
  cH k a0 n (x6,c)) else(some y4.1)
def gG(k:Nat)(a0:(List Int)):Option Int:=
 if(a0.length:Int) < 1 then(none) else((aM a0 0).bind λx1=>
 ((cH k a0 k (x1,1)):Option (Int)).bind λx2=>
 some x2)
theorem pn(k:Nat)(a0:(List Int))(c_a1_0:Nat)(r:Int)(h:gG k a0=some r):
 dk Tryz.prog 103 [.rep (.slice (.int .u8)) a0,.eq (.func (.func 104) #[] #[(Pv c_a1_0)])] [.obj c_a1_0 104 (.eq (.func (.func 72) #[] #[]))] (λ_:Unit=>(bD [.eq (.int .u8 r)],[.obj c_a1_0 104 (.eq (.func (.func 72) #[] #[]))])):=by
 unfold gG at h
 replace h:=aY h
 refine dk.of 33 Tryz.func103 rfl Tryz.ntmps103 rfl λS w0=>?_
 refine sr ?_
 refine cq ?_
 refine nt ?_
 refine aj ?_
 refine sr ?_
 refine mq ?_
 refine ol vL ?_
 refine jb (bF rfl) ?_
 refine nt ?_
 refine ci h (λh=>?_) (λh=>?_)
 .
  cases h
 .
  refine sk (sr (mq ?_));obtain⟨x1,u,h⟩:=aa h;refine jb (aU (t:=(.int .u8)) rfl vL l7 u) ?_;refine ja (ap (t:=(.int .u8)) rfl l7 rfl) ?_;refine aq (nt ?_);refine aH (Z:=Unit) (α:=Int) (λz3 x2=>[(5,.eq (.int .u8 x2))]) (λz3 x2=>[.obj c_a1_0 104 (.eq (.func (.func 72) #[] #[]))]) h (λK h=>?_) (λz3 x2 h=>?_)
  .refine sr (cq (nt (ak ?_)));refine aI (λz5 y4=>[(0,.rep (.slice (.int .u8)) a0),(1,.eq (.func (.func 104) #[] #[(Pv c_a1_0)])),(5,.eq (.int .u8 y4.1)),(6,I y4.2)]) (λz5 y4=>[.obj c_a1_0 104 (.eq (.func (.func 72) #[] #[]))]) (cH k a0) k () (x1,1) (λ_=>rfl) h (SE.fin [0] ⟨rfl,rfl,rfl,rfl,trivial⟩ rfl) (λn z5 y4 h=>?_);unfold cH at h;refine aj (sr ?_);iterate 2 refine mq ?_
   refine ol vL ?_;refine jb (bF rfl) ?_;refine nt (ci h (λh=>?_) (λh=>?_))
   .refine sk (aH (Z:=Unit) (α:=Int) (λz7 x6=>[(0,.rep (.slice (.int .u8)) a0),(1,.eq (.func (.func 104) #[] #[(Pv c_a1_0)])),(5,.eq (.int .u8 x6)),(6,I y4.2)]) (λz7 x6=>[.obj c_a1_0 104 (.eq (.func (.func 72) #[] #[]))]) h (λK h=>?_) (λz7 x6 h=>?_))
    .refine ak (sr ?_);iterate 3 refine mq ?_
     obtain⟨x8,s,h⟩:=aa h;refine jb (aU (t:=(.int .u8)) rfl vL l7 s) ?_;refine ja (ap (t:=(.int .u8)) rfl l7 rfl) ?_;refine mq ?_;obtain⟨r9,x,h⟩:=aa h;refine kc (mV (fs:=[]) (cs:=[(Pv c_a1_0)]) (ags:=[.eq (.int .u8 x8),.eq (.int .u8 y4.1)]) [.tmp 24,.tmp 25] rfl rfl MQ rfl (rZ k x8 y4.1 c_a1_0 r9 x)) ?_;refine jb (bF rfl) ?_;refine nt (ci h (λh=>?_) (λh=>?_))
     .refine ab ?_;iterate 2 refine mq ?_
      obtain⟨l,e,h⟩:=aa h;refine jb (aU (t:=(.int .u8)) rfl vL l7 e) ?_;refine ja (ap (t:=(.int .u8)) rfl l7 rfl) ?_;refine aq (aE (bn ?_));exact jz ((),l) h [0]
     .refine be (bn ?_);exact jz ((),y4.1) h [0]
    .refine ab (mq ?_);obtain⟨j,c,h⟩:=aa h;refine jb (bB rfl c) ?_;refine aq (nl ?_);exact jz ((),(x6,j)) h [0]
   .refine xa ?_;exact jz ((),y4.1) h [0]
  .refine sr (mq ?_);refine aq (nt (aA ?_));cases h;exact aK () [_] 1 ⟨rfl,trivial⟩ rfl
def pW(k:Nat)(a0:(List Int)):Option Int:=
 (j6 k a0).bind λr2=>
 some r2
theorem vF(k:Nat)(a0:(List Int))(r:Int)(h:pW k a0=some r):
 dk Tryz.prog 71 [.rep (.slice (.int .u8)) a0,.eq (.func (.func 89) #[] #[])] [] (λ_:Unit=>(bD [.eq (.int .u8 r)],[])):=by
 unfold pW at h
 replace h:=aY h
 refine dk.of 8 Tryz.func71 rfl Tryz.ntmps71 rfl λS w0=>?_
 refine sr ?_
 refine bx λb1=>?_
 refine cq ?_
 refine nt ?_
 refine sr ?_
 refine mq ?_
 refine ja (pN [] [.tmp 3] [] [(Pv b1)] rfl rfl rfl) ?_
 obtain⟨r2,c,h⟩:=aa h
 have e:=pL k a0 b1 r2 c
 refine kb (av [.tmp 5,.tmp 6] rfl rfl MR rfl e) ?_
 refine aq ?_
 refine nt ?_
 refine aA ?_
 cases h
 exact ra
def jL(k:Nat)(a0:(List Int)):Option Int:=
 (gG k a0).bind λr2=>
 some r2
theorem uo(k:Nat)(a0:(List Int))(r:Int)(h:jL k a0=some r):
 dk Tryz.prog 71 [.rep (.slice (.int .u8)) a0,.eq (.func (.func 72) #[] #[])] [] (λ_:Unit=>(bD [.eq (.int .u8 r)],[])):=by
 unfold jL at h
 replace h:=aY h
 refine dk.of 8 Tryz.func71 rfl Tryz.ntmps71 rfl λS w0=>?_
 refine sr ?_
 refine bx λb1=>?_
 refine cq ?_
 refine nt ?_
 refine sr ?_
 refine mq ?_
 refine ja (pN [] [.tmp 3] [] [(Pv b1)] rfl rfl rfl) ?_
 obtain⟨r2,c,h⟩:=aa h
 have e:=pn k a0 b1 r2 c
 refine kb (av [.tmp 5,.tmp 6] rfl rfl MR rfl e) ?_
 refine aq ?_
 refine nt ?_
 refine aA ?_
 cases h
 exact ra
def lT(k:Nat)(a0:(List Int)):Option bU:=
 some (a0,0,1)
theorem uD(k:Nat)(a0:(List Int))(r:bU)(h:lT k a0=some r):
 dk Tryz.prog 12 [.rep Tl a0] [] (λz:Nat=>(bD [Pt z],[.obj z 74 (.agg (.pair (.rep Tl r.1) (.pair (I r.2.1) (.eq (.int .u64 r.2.2)))))])):=by
 unfold lT at h
 replace h:=aY h
 refine dk.of 6 Tryz.func12 rfl Tryz.ntmps12 rfl λS w0=>?_
 refine sr ?_
 refine cq ?_
 refine nt ?_
 refine sr ?_
 refine mq ?_
 refine jb (dZ [(0,.tmp 3,_),(2,.const (.int .u64 (1)),_)] rfl RN RG QY (jF ⟨rfl,rfl,trivial⟩) rfl) ?_
 refine aX rfl rfl rfl (wn rfl trivial) ⟨rfl,trivial⟩ λb1=>?_
 refine aq ?_
 refine nt ?_
 refine aA ?_
 cases h
 exact aK b1 [Pt b1] 1 ⟨rfl,trivial⟩ rfl
def iV(k:Nat)(a0:(List Int)):Option (List Int):=
 (cJ (bP (length ([]:(List Int))+length a0))).bind λ_=>
 some (([]:(List Int))++a0)
theorem tl(k:Nat)(a0:(List Int))(r:(List Int))(h:iV k a0=some r):
 dk Tryz.prog 16 [.rep Tl a0] [] (λz:Value=>(bD [.eq z],[.sl z 3 Ti r])):=by
 unfold iV at h
 replace h:=aY h
 refine dk.of 6 Tryz.func16 rfl Tryz.ntmps16 rfl λS w0=>?_
 refine sr ?_
 refine cq ?_
 refine nt ?_
 refine sr ?_
 refine aX rfl rfl rfl (jg (t:=Ti) [] ([]:(List Int)) rfl rfl dM .nil rfl rfl) trivial λv1=>?_
 refine mq ?_
 obtain⟨u2,c,h⟩:=aa h
 refine dY rfl rfl rfl (cp rfl rfl dM (am c)) ⟨rfl,rfl,trivial⟩ λv3=>?_
 refine aq ?_
 refine nt ?_
 refine aA ?_
 cases h
 exact aK v3 [.eq v3] 1 ⟨rfl,trivial⟩ rfl
def di(k:Nat)(a0:(List (List Int))):Nat->((List (List Int))×Int)->Option (List (List Int))
 |0,_=>none
 |n+1,y3=>
  if y3.2 < (a0.length:Int) then((aM a0 y3.2).bind λx5=>
  (iV k x5).bind λr6=>
  (cJ (bP (length y3.1+length [r6]))).bind λ_=>
  (ck (y3.2+1)).bind λc=>
  di k a0 n (y3.1++[r6],c)) else(some y3.1)
def ic(k:Nat)(a0:(List (List Int))):Option (List (List Int)):=
 ((di k a0 k (([]:(List (List Int))),0)):Option ((List (List Int)))).bind λx1=>
 some x1
theorem sq(k:Nat)(a0:(List (List Int)))(r:(List (List Int)))(h:ic k a0=some r):
 dk Tryz.prog 47 [.rep (.slice Tl) a0] [] (λz:Value=>(bD [.eq z],[.sl z 28 Tl r])):=by
 unfold ic at h
 replace h:=aY h
 refine dk.of 20 Tryz.func47 rfl Tryz.ntmps47 rfl λS w0=>?_
 refine sr ?_
 refine cq ?_
 refine nt ?_
 refine sr ?_
 refine cq ?_
 refine nt ?_
 refine aH (Z:=Value) (α:=(List (List Int))) (λz2 x1=>[(3,.eq z2)]) (λz2 x1=>[.sl z2 28 Tl x1]) h (λK h=>?_) (λz2 x1 h=>?_)
 .
  refine sr (cq (nt (ak ?_)));refine jd (SE.nil 28 Tl) ?_;refine aI (λz4 y3=>[(0,.rep (.slice Tl) a0),(3,.eq z4),(4,I y3.2)]) (λz4 y3=>[.sl z4 28 Tl y3.1]) (di k a0) k (.slice none 0 0) (([]:(List (List Int))),0) (λ_=>rfl) h (SE.fin [0] ⟨rfl,rfl,rfl,trivial⟩ rfl) (λn z4 y3 h=>?_);unfold di at h;refine aj (sr ?_);iterate 2 refine mq ?_
  refine ol qp ?_;refine jb (bF rfl) ?_;refine nt (ci h (λh=>?_) (λh=>?_))
  .refine sk (aj (ak (ab ?_)));iterate 3 refine mq ?_
   obtain⟨x5,j,h⟩:=aa h;refine jb (aU (t:=Tl) rfl qp gi j) ?_;refine ja (ap (t:=Tl) rfl gi rfl) ?_;obtain⟨r6,s,h⟩:=aa h;refine aX rfl rfl rfl (av [.tmp 15] rfl rfl To rfl (tl k x5 r6 s)) ⟨rfl,trivial⟩ λv7=>?_;refine eG (gY [16] ⟨rfl,trivial⟩) ?_;refine ja (bg (t:=Tl) [(.tmp 16,_)] [r6] rfl rfl my (.cons rfl .rep .nil) rfl rfl) ?_;obtain⟨u8,l,h⟩:=aa h;refine dY rfl rfl rfl (cp rfl rfl my (am l)) ⟨rfl,rfl,trivial⟩ λv9=>?_;refine aq (aE (aQ (tn (ab ?_))));refine mq ?_;obtain⟨e,c,h⟩:=aa h;refine jb (bB rfl c) ?_;refine aq (nl ?_);exact jz (v9,(y3.1++[r6],e)) h [0]
  .refine xa ?_;exact jz (z4,y3.1) h [0]
 .
  refine sr (mq ?_);refine aq (nt (aA ?_));cases h;exact aK z2 [.eq z2] 1 ⟨rfl,trivial⟩ rfl
def ia(k:Nat)(a0:bU):Option (Int×bU):=
 ((if a0.2.1 < (a0.1.length:Int) then((aM a0.1 a0.2.1).bind λx3=>
 some (IntKind.u64.wrap ((IntKind.u64.wrap ((IntKind.u64.wrap (a0.2.2 * 6364136223846793005))+1442695040888963407))+(IntKind.u64.wrap ((IntKind.u64.wrap x3) * 2862933555777941757))))) else(some (IntKind.u64.wrap ((IntKind.u64.wrap (a0.2.2 * 6364136223846793005))+1442695040888963407)))):Option (Int)).bind λx1=>
 (ck (a0.2.1+1)).bind λx4=>
 some (gg .u64 (qf .u64 (IntKind.u64.wrap ((qf .u64 x1 (gg .u64 x1 29)) * 2685821657736338717)) (gg .u64 (IntKind.u64.wrap ((qf .u64 x1 (gg .u64 x1 29)) * 2685821657736338717)) 32)) 8,(a0.1,x4,x1))
theorem sf(k:Nat)(a0:bU)(c:Nat)(r:Int×bU)(h:ia k a0=some r):
 dk Tryz.prog 59 [Pt c] [.obj c 74 (.agg (.pair (.rep Tl a0.1) (.pair (I a0.2.1) (.eq (.int .u64 a0.2.2)))))] (λ_:Unit=>(bD [.eq (.int .u64 r.1)],[.obj c 74 (.agg (.pair (.rep Tl r.2.1) (.pair (I r.2.2.1) (.eq (.int .u64 r.2.2.2)))))])):=by
 unfold ia at h
 replace h:=aY h
 refine dk.of 67 Tryz.func59 rfl Tryz.ntmps59 rfl λS w0=>?_
 refine sr ?_
 refine cq ?_
 refine nt ?_
 refine sr ?_
 iterate 2 refine mq ?_
 refine ja (cM rfl) ?_
 refine fl sE ?_
 refine lo Ef ?_
 refine jb (A7 rfl) ?_
 refine jb (G8 rfl) ?_
 refine ja (cM rfl) ?_
 refine fl sE ?_
 refine aP rfl rfl (aN rfl Ef rfl rfl rfl) ⟨rfl,rfl,trivial⟩ ?_
 refine nt ?_
 refine aH (Z:=Unit) (α:=Int) (λz2 x1=>[(0,Pt c)]) (λz2 x1=>[.obj c 74 (.agg (.pair (.rep Tl a0.1) (.pair (I a0.2.1) (.eq (.int .u64 x1)))))]) h (λK h=>?_) (λz2 x1 h=>?_)
 .
  refine aj (cL ?_);refine dm ?_;refine da (cM rfl) ?_;refine da (aD rfl xP) ?_;refine ea 0 (ax rfl cN ny rfl) ?_;refine dm ?_;refine da (cM rfl) ?_;refine da (aD rfl H3) ?_;refine ea 0 (ax rfl gi ny rfl) ?_;refine da (sX rfl rfl iq) ?_;refine df d4 ?_;refine jb (bF rfl) ?_;refine nt (ci h (λh=>?_) (λh=>?_))
  .refine cL ?_;refine dm ?_;refine dm ?_;refine da (cM rfl) ?_;refine da (aD rfl sE) ?_;refine ea 0 (ax rfl Ef ny rfl) ?_;refine dm ?_;refine da (cM rfl) ?_;refine da (aD rfl H3) ?_;refine ea 0 (ax rfl gi ny rfl) ?_;refine dm ?_;refine da (cM rfl) ?_;refine da (aD rfl xP) ?_;refine ea 0 (ax rfl cN ny rfl) ?_;obtain⟨x3,j,h⟩:=aa h;refine db (aU (t:=Ti) rfl iq cN j) ?_;refine da (ap (t:=Ti) rfl cN rfl) ?_;refine da (rQ rfl U3 Rw) ?_;refine db (A7 rfl) ?_;refine db (G8 rfl) ?_;refine df d4 ?_;refine ja (cM rfl) ?_;refine fl sE ?_;refine aP rfl rfl (aN rfl Ef rfl rfl rfl) ⟨rfl,rfl,trivial⟩ ?_;refine nl ?_;exact jz ((),IntKind.u64.wrap ((IntKind.u64.wrap ((IntKind.u64.wrap (a0.2.2 * 6364136223846793005))+1442695040888963407))+(IntKind.u64.wrap ((IntKind.u64.wrap x3) * 2862933555777941757)))) h [0]
  .refine be (an ?_);exact jz ((),IntKind.u64.wrap ((IntKind.u64.wrap (a0.2.2 * 6364136223846793005))+1442695040888963407)) h [0]
 .
  refine sr (mq ?_);refine ja (cM rfl) ?_;refine fl xP ?_;refine lo cN ?_;obtain⟨x4,e,h⟩:=aa h;refine jb (bB rfl e) ?_;refine ja (cM rfl) ?_;refine fl xP ?_;refine aP rfl rfl (aN rfl cN rfl rfl rfl) ⟨rfl,rfl,trivial⟩ ?_;refine nt (aj (cL ?_));refine dm ?_;refine da (cM rfl) ?_;refine da (aD rfl sE) ?_;refine ea 0 (ax rfl Ef ny rfl) ?_;refine dm ?_;refine da (cM rfl) ?_;refine da (aD rfl sE) ?_;refine ea 0 (ax rfl Ef ny rfl) ?_;refine fy rfl rfl rfl (ug rfl (by decide)) ⟨rfl,rfl,trivial⟩ ?_;refine df d4 ?_;refine jb (MG rfl) ?_;refine aq (nt (sr ?_));refine mq ?_;refine jb (A7 rfl) ?_;refine aq (nt (sr ?_));iterate 2 refine mq ?_
  refine cf rfl (ug rfl (by decide)) ⟨rfl,rfl,trivial⟩ ?_;refine jb (MG rfl) ?_;refine cf rfl (ug rfl (by decide)) ⟨rfl,rfl,trivial⟩ ?_;refine aq (nt (aA ?_));cases h;exact aK () [_] 1 ⟨rfl,trivial⟩ rfl
def co(k:Nat)(a0:bU)(a1:Int):Option (Int×bU):=
 if a1 < 1 then(some (0,(a0.1,a0.2.1,a0.2.2))) else((ia k (a0.1,a0.2.1,a0.2.2)).bind λr1=>
 (ck (a1+1)).bind λx2=>
 (cJ ((IntKind.u64.wrap x2)≠0)).bind λ_=>
 (ck (Int.tmod r1.1 (IntKind.u64.wrap x2))).bind λx4=>
 some (x4,(r1.2.1,r1.2.2.1,r1.2.2.2)))
theorem cG(k:Nat)(a0:bU)(c:Nat)(a1:Int)(r:Int×bU)(h:co k a0 a1=some r):
 dk Tryz.prog 24 [Pt c,I a1] [.obj c 74 (.agg (.pair (.rep Tl a0.1) (.pair (I a0.2.1) (.eq (.int .u64 a0.2.2)))))] (λ_:Unit=>(bD [I r.1],[.obj c 74 (.agg (.pair (.rep Tl r.2.1) (.pair (I r.2.2.1) (.eq (.int .u64 r.2.2.2)))))])):=by
 unfold co at h
 replace h:=aY h
 refine dk.of 14 Tryz.func24 rfl Tryz.ntmps24 rfl λS w0=>?_
 refine sr ?_
 refine cq ?_
 refine nt ?_
 refine aj ?_
 refine sr ?_
 refine mq ?_
 refine jb (bF rfl) ?_
 refine nt ?_
 refine ci h (λh=>?_) (λh=>?_)
 .
  refine sr (cq (nt (rx ?_)));cases h;exact aK () [_] 1 ⟨rfl,trivial⟩ rfl
 .
  refine sk (sr (mq ?_));obtain⟨r1,n,h⟩:=aa h;refine ka (av [.tmp 7] rfl rfl SV rfl (sf k (a0.1,a0.2.1,a0.2.2) c r1 n)) ?_;refine mq ?_;obtain⟨x2,j,h⟩:=aa h;refine jb (bB rfl j) ?_;refine ja (rQ rfl U3 Rw) ?_;obtain⟨u3,l,h⟩:=aa h;refine jb (PX rfl (am l)) ?_;obtain⟨x4,e,h⟩:=aa h;refine ja (za rfl Rw U3 e) ?_;refine aq (nt (aA ?_));cases h;exact aK () [_] 1 ⟨rfl,trivial⟩ rfl
def fa(k:Nat)(a0:bU)(a1:Int):Option (Bool×bU):=
 (ck (a1 - 1)).bind λx1=>
 (co k (a0.1,a0.2.1,a0.2.2) x1).bind λr2=>
 some (decide (r2.1=0),(r2.2.1,r2.2.2.1,r2.2.2.2))
theorem jo(k:Nat)(a0:bU)(c:Nat)(a1:Int)(r:Bool×bU)(h:fa k a0 a1=some r):
 dk Tryz.prog 46 [Pt c,I a1] [.obj c 74 (.agg (.pair (.rep Tl a0.1) (.pair (I a0.2.1) (.eq (.int .u64 a0.2.2)))))] (λ_:Unit=>(bD [.eq (.bool r.1)],[.obj c 74 (.agg (.pair (.rep Tl r.2.1) (.pair (I r.2.2.1) (.eq (.int .u64 r.2.2.2)))))])):=by
 unfold fa at h
 replace h:=aY h
 refine dk.of 10 Tryz.func46 rfl Tryz.ntmps46 rfl λS w0=>?_
 refine sr ?_
 refine cq ?_
 refine nt ?_
 refine sr ?_
 iterate 2 refine mq ?_
 obtain⟨x1,e,h⟩:=aa h
 refine jb (eg rfl e) ?_
 obtain⟨r2,j,h⟩:=aa h
 have l:=cG k (a0.1,a0.2.1,a0.2.2) c x1 r2 j
 refine kb (av [.tmp 5,.tmp 7] rfl rfl vJ rfl l) ?_
 refine jb (hH rfl) ?_
 refine aq ?_
 refine nt ?_
 refine aA ?_
 cases h
 exact aK () [_] 1 ⟨rfl,trivial⟩ rfl
def fD(k:Nat)(a0:bU)(a1:Int)(a2:Int):Option (Int×bU):=
 (ck (a2 - a1)).bind λx1=>
 (co k (a0.1,a0.2.1,a0.2.2) x1).bind λr2=>
 (ck (a1+r2.1)).bind λx3=>
 some (x3,(r2.2.1,r2.2.2.1,r2.2.2.2))
theorem iU(k:Nat)(a0:bU)(c:Nat)(a1:Int)(a2:Int)(r:Int×bU)(h:fD k a0 a1 a2=some r):
 dk Tryz.prog 98 [Pt c,I a1,I a2] [.obj c 74 (.agg (.pair (.rep Tl a0.1) (.pair (I a0.2.1) (.eq (.int .u64 a0.2.2)))))] (λ_:Unit=>(bD [I r.1],[.obj c 74 (.agg (.pair (.rep Tl r.2.1) (.pair (I r.2.2.1) (.eq (.int .u64 r.2.2.2)))))])):=by
 unfold fD at h
 replace h:=aY h
 refine dk.of 14 Tryz.func98 rfl Tryz.ntmps98 rfl λS w0=>?_
 refine sr ?_
 refine cq ?_
 refine nt ?_
 refine sr ?_
 iterate 4 refine mq ?_
 obtain⟨x1,j,h⟩:=aa h
 refine jb (eg rfl j) ?_
 obtain⟨r2,l,h⟩:=aa h
 have n:=cG k (a0.1,a0.2.1,a0.2.2) c x1 r2 l
 refine kb (av [.tmp 8,.tmp 11] rfl rfl vJ rfl n) ?_
 obtain⟨x3,e,h⟩:=aa h
 refine jb (bB rfl e) ?_
 refine aq ?_
 refine nt ?_
 refine aA ?_
 cases h
 exact aK () [_] 1 ⟨rfl,trivial⟩ rfl
def gz(k:Nat)(a0:bU)(a1:(List Int)):Option (Int×bU):=
 (ck ((a1.length:Int) - 1)).bind λx1=>
 (co k (a0.1,a0.2.1,a0.2.2) x1).bind λr2=>
 (aM a1 r2.1).bind λx3=>
 some (x3,(r2.2.1,r2.2.2.1,r2.2.2.2))
theorem lr(k:Nat)(a0:bU)(c:Nat)(a1:(List Int))(r:Int×bU)(h:gz k a0 a1=some r):
 dk Tryz.prog 99 [Pt c,.rep Tl a1] [.obj c 74 (.agg (.pair (.rep Tl a0.1) (.pair (I a0.2.1) (.eq (.int .u64 a0.2.2)))))] (λ_:Unit=>(bD [I r.1],[.obj c 74 (.agg (.pair (.rep Tl r.2.1) (.pair (I r.2.2.1) (.eq (.int .u64 r.2.2.2)))))])):=by
 unfold gz at h
 replace h:=aY h
 refine dk.of 13 Tryz.func99 rfl Tryz.ntmps99 rfl λS w0=>?_
 refine sr ?_
 refine cq ?_
 refine nt ?_
 refine sr ?_
 iterate 3 refine mq ?_
 refine ol iq ?_
 obtain⟨x1,j,h⟩:=aa h
 refine jb (eg rfl j) ?_
 obtain⟨r2,l,h⟩:=aa h
 have n:=cG k (a0.1,a0.2.1,a0.2.2) c x1 r2 l
 refine kb (av [.tmp 6,.tmp 9] rfl rfl vJ rfl n) ?_
 obtain⟨x3,e,h⟩:=aa h
 refine jb (aU (t:=Ti) rfl iq cN e) ?_
 refine ja (ap (t:=Ti) rfl cN rfl) ?_
 refine aq ?_
 refine nt ?_
 refine aA ?_
 cases h
 exact aK () [_] 1 ⟨rfl,trivial⟩ rfl
def dU(k:Nat)(a1:Int):Nat->((List Int)×Int×Int×(List Int)×Int)->Option ((List Int)×(List Int)×Int×Int)
 |0,_=>none
 |n+1,y3=>
  if y3.2.2.2.2 < a1 then((co k (y3.1,y3.2.1,y3.2.2.1) y3.2.2.2.2).bind λr5=>
  (cJ (bP (length y3.2.2.2.1+length [y3.2.2.2.2]))).bind λ_=>
  (aM (y3.2.2.2.1++[y3.2.2.2.2]) r5.1).bind λx8=>
  (aM (y3.2.2.2.1++[y3.2.2.2.2]) y3.2.2.2.2).bind λx9=>
  (aM (List.set (y3.2.2.2.1++[y3.2.2.2.2]) (Int.toNat y3.2.2.2.2) x8) r5.1).bind λe=>
  (ck (y3.2.2.2.2+1)).bind λc=>
  dU k a1 n (r5.2.1,r5.2.2.1,r5.2.2.2,List.set (List.set (y3.2.2.2.1++[y3.2.2.2.2]) (Int.toNat y3.2.2.2.2) x8) (Int.toNat r5.1) y3.2.2.2.2,c)) else(some (y3.2.2.2.1,y3.1,y3.2.1,y3.2.2.1))
def gA(k:Nat)(a0:bU)(a1:Int):Option ((List Int)×bU):=
 ((dU k a1 k (a0.1,a0.2.1,a0.2.2,([]:(List Int)),0)):Option ((List Int)×(List Int)×Int×Int)).bind λx1=>
 some (x1.1,(x1.2.1,x1.2.2.1,x1.2.2.2))
theorem qV(k:Nat)(a0:bU)(c:Nat)(a1:Int)(r:(List Int)×bU)(h:gA k a0 a1=some r):
 dk Tryz.prog 117 [Pt c,I a1] [.obj c 74 (.agg (.pair (.rep Tl a0.1) (.pair (I a0.2.1) (.eq (.int .u64 a0.2.2)))))] (λ_:Unit=>(bD [.rep Tl r.1],[.obj c 74 (.agg (.pair (.rep Tl r.2.1) (.pair (I r.2.2.1) (.eq (.int .u64 r.2.2.2)))))])):=by
 unfold gA at h
 replace h:=aY h
 refine dk.of 32 Tryz.func117 rfl Tryz.ntmps117 rfl λS w0=>?_
 refine sr ?_
 refine cq ?_
 refine nt ?_
 refine sr ?_
 refine cq ?_
 refine nt ?_
 refine aH (Z:=Value) (α:=(List Int)×(List Int)×Int×Int) (λz2 x1=>[(5,.eq z2)]) (λz2 x1=>[.sl z2 3 Ti x1.1,.obj c 74 (.agg (.pair (.rep Tl x1.2.1) (.pair (I x1.2.2.1) (.eq (.int .u64 x1.2.2.2)))))]) h (λK h=>?_) (λz2 x1 h=>?_)
 .
  refine sr (cq (nt (ak ?_)));refine jd (SE.nil 3 Ti) ?_;refine aI (λz4 y3=>[(0,Pt c),(1,I a1),(5,.eq z4),(6,I y3.2.2.2.2)]) (λz4 y3=>[.obj c 74 (.agg (.pair (.rep Tl y3.1) (.pair (I y3.2.1) (.eq (.int .u64 y3.2.2.1))))),.sl z4 3 Ti y3.2.2.2.1]) (dU k a1) k (.slice none 0 0) (a0.1,a0.2.1,a0.2.2,([]:(List Int)),0) (λ_=>rfl) h (SE.fin [1,0] ⟨rfl,rfl,rfl,rfl,trivial⟩ rfl) (λn z4 y3 h=>?_);unfold dU at h;refine aj (sr ?_);iterate 2 refine mq ?_
  refine jb (bF rfl) ?_;refine nt (ci h (λh=>?_) (λh=>?_))
  .refine sk (aj (ak (sr ?_)));iterate 2 refine mq ?_
   obtain⟨r5,y,h⟩:=aa h;refine kb (av [.tmp 13,.tmp 14] rfl rfl vJ rfl (cG k (y3.1,y3.2.1,y3.2.2.1) c y3.2.2.2.2 r5 y)) ?_;refine aq (nt (sr ?_));iterate 2 refine mq ?_
   refine ja (bg (t:=Ti) [(.tmp 17,_)] [y3.2.2.2.2] rfl rfl dM (.cons rfl .int .nil) rfl rfl) ?_;obtain⟨u6,x,h⟩:=aa h;refine fr 1 ?_;refine dY rfl rfl rfl (cp rfl rfl dM (am x)) ⟨rfl,rfl,trivial⟩ λv7=>?_;refine aq (nt (ab ?_));iterate 6 refine mq ?_
   obtain⟨x8,l,h⟩:=aa h;refine kb (cI (t:=Ti) rfl iq cN l) ?_;refine ka (gI (i:=Int.toNat r5.1) (off:=0) rfl cN (λ_=>rfl) rfl (dE l).2.2 rfl) ?_;refine mq ?_;obtain⟨x9,j,h⟩:=aa h;refine kb (cI (t:=Ti) rfl iq cN j) ?_;refine aP rfl rfl (gq (i:=Int.toNat y3.2.2.2.2) rfl cN rfl (ng j) rfl .int rfl) ⟨rfl,rfl,trivial⟩ ?_;obtain⟨D,e,h⟩:=aa h;refine kb (cI (t:=Ti) rfl iq cN e) ?_;refine aP rfl rfl (gq (i:=Int.toNat r5.1) rfl cN rfl (ng e) rfl .int rfl) ⟨rfl,rfl,trivial⟩ ?_;refine aE (aQ (tn (ab (mq ?_))));obtain⟨u,s,h⟩:=aa h;refine jb (bB rfl s) ?_;refine aq (nl ?_);exact jz (v7,(r5.2.1,r5.2.2.1,r5.2.2.2,List.set (List.set (y3.2.2.2.1++[y3.2.2.2.2]) (Int.toNat y3.2.2.2.2) x8) (Int.toNat r5.1) y3.2.2.2.2,u)) h [1,0]
  .refine xa ?_;exact jz (z4,(y3.2.2.2.1,y3.1,y3.2.1,y3.2.2.1)) h [1,0]
 .
  refine sr (mq ?_);refine aq (nt (aA ?_));refine bQ (gY [4,5,31] ⟨rfl,rfl,rfl,trivial⟩) ?_;cases h;exact aK () [_] 1 ⟨rfl,trivial⟩ rfl
def ib(k:Nat)(a0:bU)(a1:xY):Option (bz×bU):=
 (ck (a1.1 - 1)).bind λx3=>
 (co k (a0.1,a0.2.1,a0.2.2) x3).bind λr4=>
 (co k (r4.2.1,r4.2.2.1,r4.2.2.2) (a1.2.2.2.2.1.length:Int)).bind λr5=>
 (fa k (r5.2.1,r5.2.2.1,r5.2.2.2) 2).bind λr6=>
 some ((r4.1,r5.1,r6.1),(r6.2.1,r6.2.2.1,r6.2.2.2))
theorem so(k:Nat)(a0:bU)(c:Nat)(a1:xY)(r:bz×bU)(h:ib k a0 a1=some r):
 dk Tryz.prog 67 [Pt c,.rep CE a1] [.obj c 74 (.agg (.pair (.rep Tl a0.1) (.pair (I a0.2.1) (.eq (.int .u64 a0.2.2)))))] (λ_:Unit=>(bD [.rep aZ r.1],[.obj c 74 (.agg (.pair (.rep Tl r.2.1) (.pair (I r.2.2.1) (.eq (.int .u64 r.2.2.2)))))])):=by
 unfold ib at h
 replace h:=aY h
 refine dk.of 18 Tryz.func67 rfl Tryz.ntmps67 rfl λS w0=>?_
 refine sr ?_
 refine bx λb1=>?_
 refine aX rfl rfl rfl (bi rfl AC It) trivial λb2=>?_
 refine nt ?_
 refine aj ?_
 refine Ff [1,2,3,5,6,7,8,10,0,4,9,11,12,13] (by kernel_rfl) ?_
 refine bO rfl rfl rfl (aD rfl gW) ⟨rfl,trivial⟩ ?_
 refine gZ 1 rfl rfl rfl rfl (ax rfl cN ny rfl) ⟨rfl,trivial⟩ ?_
 obtain⟨x3,E,h⟩:=aa h
 refine bO rfl rfl rfl (eg rfl E) ⟨rfl,rfl,trivial⟩ ?_
 refine bO rfl rfl rfl (bA rfl) ⟨rfl,trivial⟩ ?_
 refine bO rfl rfl rfl (aD rfl eK) ⟨rfl,trivial⟩ ?_
 refine gZ 1 rfl rfl rfl rfl (ax rfl lG ny rfl) ⟨rfl,trivial⟩ ?_
 refine bO rfl rfl rfl (sX rfl rfl AA) ⟨rfl,trivial⟩ ?_
 refine bO rfl rfl rfl (bA rfl) ⟨rfl,trivial⟩ ?_
 refine bO rfl rfl rfl (bA rfl) ⟨rfl,trivial⟩ ?_
 refine ve 9 [true,true,true,false,false,false,false,false,true] [9,14] [1] [.obj b1 25 (.rep CE a1)] rfl (by kernel_rfl) (by kernel_rfl) (by kernel_rfl) d4 (λvs hv hB=>?_)
 obtain⟨w0,Um,rfl,D⟩:=ay hv
 obtain⟨w1,zz,rfl,y⟩:=ay D
 obtain⟨w2,qt,rfl,x⟩:=ay y
 obtain⟨w3,mw,rfl,u⟩:=ay x
 obtain⟨w4,mc,rfl,s⟩:=ay u
 obtain⟨w5,gw,rfl,n⟩:=ay s
 obtain⟨w6,Z,rfl,l⟩:=ay n
 obtain⟨w7,Y,rfl,j⟩:=ay l
 obtain⟨w8,X,rfl,e⟩:=ay j
 obtain rfl:=qU e
 refine⟨[1,0,2],[.obj b2 27 (.agg (.pair (I 0) (.pair (I 0) (.eq (.bool false))))),.obj c 74 (.agg (.pair (.rep Tl a0.1) (.pair (I a0.2.1) (.eq (.int .u64 a0.2.2)))))],by kernel_rfl,by decide,?_⟩
 obtain⟨r4,M,h⟩:=aa h
 have U:=cG k (a0.1,a0.2.1,a0.2.2) c x3 r4 M
 refine rz 1 rfl ?_
 refine va rfl rfl rfl rfl (av [.tmp 5,.tmp 8] rfl rfl vJ rfl U) ⟨rfl,rfl,trivial⟩ (by kernel_rfl) ?_
 obtain⟨r5,J,h⟩:=aa h
 have Q:=cG k (r4.2.1,r4.2.2.1,r4.2.2.2) c (a1.2.2.2.2.1.length:Int) r5 J
 refine va rfl rfl rfl rfl (av [.tmp 10,.tmp 13] rfl rfl vJ rfl Q) ⟨rfl,rfl,trivial⟩ (by kernel_rfl) ?_
 refine OX (by kernel_rfl) ?_
 obtain⟨r6,F,h⟩:=aa h
 have O:=jo k (r5.2.1,r5.2.2.1,r5.2.2.2) c 2 r6 F
 refine fr 1 ?_
 refine kb (av [.tmp 15,.const (.int .i64 (2))] rfl rfl Ov rfl O) ?_
 refine jc (dZ [(0,.tmp 9,_),(1,.tmp 14,_),(2,.tmp 16,_)] rfl PR AC MY (jF ⟨rfl,rfl,rfl,trivial⟩) rfl) ?_
 refine fr 2 ?_
 refine aP rfl rfl (aN rfl qB trivial rfl rfl) ⟨rfl,rfl,trivial⟩ ?_
 refine nt ?_
 refine aA ?_
 refine bQ (ir (a:=.agg (.pair (I r4.1) (.pair (I r5.1) (.eq (.bool r6.1))))) (a':=.rep aZ (r4.1,r5.1,r6.1)) (jv (.agg (.pair .int (.pair .int .bool))))) ?_
 refine bQ (SE.fin (Γ':=[(4,_)]) [1,0,2] ⟨rfl,trivial⟩ rfl) ?_
 cases h
 exact aK () [.rep aZ (r4.1,r5.1,r6.1)] 1 ⟨⟨_,_,_,_,_,rfl,(.tail _ (.head _)),qB,(tC),rfl⟩,trivial⟩ rfl
def gk(k:Nat)(a0:Int)(a1:(List Int))(self:Int->(List Int)->Option ((List (List Int)))):Nat->((List (List Int))×Int)->Option (List (List Int))
 |0,_=>none
 |n+1,y9=>
  if y9.2 < a0 then((cJ (bP (length ([]:(List Int))+length a1))).bind λ_=>
  (cJ (bP (length (([]:(List Int))++a1)+length [y9.2]))).bind λ_=>
  (self a0 ((([]:(List Int))++a1)++[y9.2])).bind λc=>
  (cJ (bP (length y9.1+length c))).bind λ_=>
  (ck (y9.2+1)).bind λe=>
  gk k a0 a1 self n (y9.1++c,e)) else(some y9.1)
def kz(k:Nat):Nat->Int->(List Int)->Option ((List (List Int)))
 |0,_,_=>none
 |m0+1,a0,a1=>
  ((if 0 < (a1.length:Int) then((ck ((a1.length:Int) - 1)).bind λx4=>
  (aM a1 x4).bind λx5=>
  (ck (x5+1)).bind λx6=>
  some x6) else(some 0)):Option (Int)).bind λx2=>
  ((gk k a0 a1 (kz k m0) k ([a1],x2)):Option ((List (List Int)))).bind λx7=>
  some x7
theorem AY(k:Nat):
 ∀(n:Nat) (a0:Int) (a1:(List Int)) (r:(List (List Int))),kz k n a0 a1=some r->dk Tryz.prog 34 [I a0,.rep Tl a1] ([]) (λ_:Unit=>(bD [.rep (.slice Tl) r],[])):=by
 intro n
 induction n with
 |zero=>intro a0 a1 r h;cases h
 |succ m0 ih=>
  intro a0 a1 r h;rw [kz] at h;replace h:=aY h;refine dk.of 37 Tryz.func34 rfl Tryz.ntmps34 rfl λS w0=>?_;refine sr (cq (nt (sr ?_)));refine mq ?_;refine aX rfl rfl rfl (jg (t:=Tl) [(.tmp 8,_)] [a1] rfl rfl my (.cons rfl .rep .nil) rfl rfl) ⟨rfl,trivial⟩ λv1=>?_;refine aq (nt (sr ?_));refine cq (nt ?_);refine aH (Z:=Unit) (α:=Int) (λz3 x2=>[(0,I a0),(1,.rep Tl a1),(5,.eq v1),(6,I x2)]) (λz3 x2=>[.sl v1 28 Tl [a1]]) h (λK h=>?_) (λz3 x2 h=>?_)
  .refine sr (mq ?_);refine ol iq ?_;refine jb (nv rfl) ?_;refine nt (ci h (λh=>?_) (λh=>?_))
   .refine ab ?_;iterate 2 refine mq ?_
    refine ol iq ?_;obtain⟨x4,J,h⟩:=aa h;refine jb (eg rfl J) ?_;obtain⟨x5,F,h⟩:=aa h;refine jb (aU (t:=Ti) rfl iq cN F) ?_;refine ja (ap (t:=Ti) rfl cN rfl) ?_;obtain⟨x6,E,h⟩:=aa h;refine jb (bB rfl E) ?_;refine aq (nl ?_);exact jz ((),x6) h [0]
   .refine be (an ?_);exact jz ((),0) h [0]
  .refine aH (Z:=Value) (α:=(List (List Int))) (λz8 x7=>[(5,.eq z8)]) (λz8 x7=>[.sl z8 28 Tl x7]) h (λK h=>?_) (λz8 x7 h=>?_)
   .refine sr (mq ?_);refine aq (nt (ak ?_));refine aI (λc y9=>[(0,I a0),(1,.rep Tl a1),(5,.eq c),(7,I y9.2)]) (λc y9=>[.sl c 28 Tl y9.1]) (gk k a0 a1 (kz k m0)) k v1 ([a1],x2) (λ_=>rfl) h (SE.fin [0] ⟨rfl,rfl,rfl,rfl,trivial⟩ rfl) (λn c y9 h=>?_);unfold gk at h;refine aj (sr ?_);iterate 2 refine mq ?_
    refine jb (bF rfl) ?_;refine nt (ci h (λh=>?_) (λh=>?_))
    .refine sk (aj (ak (ab ?_)));iterate 2 refine mq ?_
     refine aX rfl rfl rfl (jg (t:=Ti) [] ([]:(List Int)) rfl rfl dM .nil rfl rfl) trivial λQ=>?_;refine mq ?_;obtain⟨Y,u,h⟩:=aa h;refine dY rfl rfl rfl (cp rfl rfl dM (am u)) ⟨rfl,rfl,trivial⟩ λO=>?_;refine mq ?_;refine ja (bg (t:=Ti) [(.tmp 31,_)] [y9.2] rfl rfl dM (.cons rfl .int .nil) rfl rfl) ?_;obtain⟨X,s,h⟩:=aa h;refine dY rfl rfl rfl (cp rfl rfl dM (am s)) ⟨rfl,rfl,trivial⟩ λM=>?_;refine eG (gY [33] ⟨rfl,trivial⟩) ?_;obtain⟨e,x,h⟩:=aa h;refine jb (av [.tmp 27,.tmp 33] rfl rfl QE rfl (ih a0 ((([]:(List Int))++a1)++[y9.2]) e x)) ?_;obtain⟨U,l,h⟩:=aa h;refine dY rfl rfl rfl (cp rfl rfl my (am l)) ⟨rfl,rfl,trivial⟩ λD=>?_;refine aq (aE (aQ (tn (ab ?_))));refine mq ?_;obtain⟨y,j,h⟩:=aa h;refine jb (bB rfl j) ?_;refine aq (nl ?_);exact jz (D,(y9.1++e,y)) h [0]
    .refine xa ?_;exact jz (c,y9.1) h [0]
   .refine sr (mq ?_);refine aq (nt (aA ?_));refine bQ (gY [4,5,36] ⟨rfl,rfl,rfl,trivial⟩) ?_;cases h;exact ra
def eX(k:Nat)(a0:ae)(a1:(List (List Int))):Nat->Int->Option (Except Bool Unit)
 |0,_=>none
 |n+1,y5=>
  if y5 < (a1.length:Int) then((aM a1 y5).bind λx7=>
  if¬((x7.length:Int)=a0.1) then(some (.error false)) else((ck (y5+1)).bind λx8=>
  eX k a0 a1 n x8)) else(some (.ok ()))
def mF(k:Nat)(a0:ae)(a1:(List (List Int))):Option Bool:=
 (ck ((a0.2.2.2.2.1.length:Int)+1)).bind λx2=>
 if¬((a1.length:Int)=x2) then(some false) else(bE (α:=Unit) (eX k a0 a1 k 0) (some) λ_=>
 some true)
theorem xF(k:Nat)(a0:ae)(a1:(List (List Int)))(r:Bool)(h:mF k a0 a1=some r):
 dk Tryz.prog 66 [.rep au a0,.rep (.slice Tl) a1] [] (λ_:Unit=>(bD [.eq (.bool r)],[])):=by
 unfold mF at h
 replace h:=aY h
 refine dk.of 27 Tryz.func66 rfl Tryz.ntmps66 rfl λS w0=>?_
 refine sr ?_
 refine bx λb1=>?_
 refine cq ?_
 refine nt ?_
 refine aj ?_
 refine sr ?_
 refine mq ?_
 refine ol qp ?_
 refine fl eK ?_
 refine lo lG ?_
 refine ol AA ?_
 obtain⟨x2,l,h⟩:=aa h
 refine jb (bB rfl l) ?_
 refine jb (fh rfl) ?_
 refine nt ?_
 refine cn h (λh=>?_) (λh=>?_)
 .
  refine sr (cq (nt (rx ?_)));cases h;exact ra
 .
  refine sk (dB (Z:=Unit) (α:=Unit) (λz4 x3=>[]) (λz4 x3=>[]) (λe=>e=r) h (λe h=>Option.some.inj h) (λK hR h=>?_) (λz4 x3 h=>?_))
  .refine sr (cq (nt (ak ?_)));refine aI (λz6 y5=>[(1,.rep (.slice Tl) a1),(2,Pt b1),(5,I y5)]) (λz6 y5=>[.obj b1 25 (.rep au a0)]) (eX k a0 a1) k () 0 (λ_=>rfl) h (SE.fin [0] ⟨rfl,rfl,rfl,trivial⟩ rfl) (λn z6 y5 h=>?_);unfold eX at h;refine aj (sr ?_);iterate 2 refine mq ?_
   refine ol qp ?_;refine jb (bF rfl) ?_;refine nt (ci h (λh=>?_) (λh=>?_))
   .refine sk (aj (ak (aj (cL ?_))));refine dm ?_;refine dm ?_;obtain⟨x7,j,h⟩:=aa h;refine db (aU (t:=Tl) rfl qp gi j) ?_;refine da (ap (t:=Tl) rfl gi rfl) ?_;refine da (sX rfl rfl iq) ?_;refine da (aD rfl gW) ?_;refine ea 0 (ax rfl cN ny rfl) ?_;refine df d4 ?_;refine jb (fh rfl) ?_;refine nt (cn h (λh=>?_) (λh=>?_))
    .refine sr (cq (nt (aA (br (bJ (bC ?_))))));obtain rfl:=hR _ h;exact ra
    .refine be (aQ (tn (ab (mq ?_))));obtain⟨x8,c,h⟩:=aa h;refine jb (bB rfl c) ?_;refine aq (nl ?_);exact jz ((),x8) h [0]
   .refine xa ?_;exact jz ((),()) h []
  .refine sr (cq (nt (aA ?_)));cases h;exact ra
def kN(k:Nat)(a0:(List Int))(a1:Int):Nat->Int->Option (Except Int Unit)
 |0,_=>none
 |n+1,y3=>
  if y3 < (a0.length:Int) then((aM a0 y3).bind λx5=>
  if x5=a1 then(some (.error y3)) else((ck (y3+1)).bind λx6=>
  kN k a0 a1 n x6)) else(some (.ok ()))
def uF(k:Nat)(a0:(List Int))(a1:Int):Option Int:=
 bE (α:=Unit) (kN k a0 a1 k 0) (some) λ_=>
 some (-1:Int)
theorem EC(k:Nat)(a0:(List Int))(a1:Int)(r:Int)(h:uF k a0 a1=some r):
 dk Tryz.prog 73 [.rep Tl a0,I a1] [] (λ_:Unit=>(bD [I r],[])):=by
 unfold uF at h
 replace h:=aY h
 refine dk.of 19 Tryz.func73 rfl Tryz.ntmps73 rfl λS w0=>?_
 refine sr ?_
 refine cq ?_
 refine nt ?_
 refine dB (Z:=Unit) (α:=Unit) (λz2 x1=>[]) (λz2 x1=>[]) (λe=>e=r) h (λe h=>Option.some.inj h) (λK hR h=>?_) (λz2 x1 h=>?_)
 .
  refine sr (cq (nt (ak ?_)));refine aI (λz4 y3=>[(0,.rep Tl a0),(1,I a1),(5,I y3)]) (λz4 y3=>[]) (kN k a0 a1) k () 0 (λ_=>rfl) h (SE.fin [] ⟨rfl,rfl,rfl,trivial⟩ rfl) (λn z4 y3 h=>?_);unfold kN at h;refine aj (sr ?_);iterate 2 refine mq ?_
  refine ol iq ?_;refine jb (bF rfl) ?_;refine nt (ci h (λh=>?_) (λh=>?_))
  .refine sk (aj (ak (sr ?_)));iterate 2 refine mq ?_
   obtain⟨x5,j,h⟩:=aa h;refine jb (aU (t:=Ti) rfl iq cN j) ?_;refine ja (ap (t:=Ti) rfl cN rfl) ?_;refine mq ?_;refine jb (hH rfl) ?_;refine nt (ci h (λh=>?_) (λh=>?_))
   .refine sr (mq ?_);refine aq (nt (aA (br (bJ (bC ?_)))));obtain rfl:=hR _ h;exact ra
   .refine be (aQ (tn (ab (mq ?_))));obtain⟨x6,c,h⟩:=aa h;refine jb (bB rfl c) ?_;refine aq (nl ?_);exact jz ((),x6) h []
  .refine xa ?_;exact jz ((),()) h []
 .
  refine sr (cq (nt (aA ?_)));cases h;exact ra
