import Derived.Test.YthnacobbednnbaaGreatVFFacts
open Nat
open List hiding mem_of_getElem?
open Array hiding mem_of_getElem? mk
set_option linter.unusedSimpArgs false
set_option linter.unusedVariables false
set_option maxRecDepth 4000
set_option maxHeartbeats 1000000
namespace Go.Proofs.YthnacobbednnbaaGreat
open K Go Go.Proofs
def dz(k:Nat)(a0:Int)(a1:Int)(a2:Int):Option Bool:=
 ((if a1≤a0 then(some (decide (a0≤a2))) else(some false)):Option (Bool)).bind λx1=>
 some x1
theorem dH(k:Nat)(a0:Int)(a1:Int)(a2:Int)(r:Bool)(h:dz k a0 a1 a2=some r):
 dF Tryz.prog 53 [I a0,I a1,I a2] [] (λ_:Unit=>(bI [.eq (.bool r)],[])):=by
 unfold dz at h
 replace h:=bg h
 refine dF.of 15 Tryz.func53 rfl Tryz.ntmps53 rfl λS w0=>?_
 refine sr ?_
 refine cq ?_
 refine nt ?_
 refine aJ (Z:=Unit) (α:=Bool) (λz2 x1=>[(6,.eq (.bool x1))]) (λz2 x1=>[]) h (λK h=>?_) (λz2 x1 h=>?_)
 .
  refine ae ?_;iterate 2 refine mq ?_
  refine jb (CB rfl) ?_;refine mq ?_;refine cF (s:=10) rfl (λhb=>?_) (λhb=>?_)
  .replace h:=eU (sP hb) h;refine gm ?_;refine gm ?_;refine gb (CB rfl) ?_;refine pt ?_;refine aq (nl ?_);exact jz ((),decide (a0≤a2)) h []
  .replace h:=cV (sQ hb) h;iterate 3 refine gn ?_
   refine pf ?_;refine aq (nl ?_);exact jz ((),false) h []
 .
  refine aA ?_;cases h;exact ra
def fL(k:Nat)(a0:Int)(a1:Int):Option Int:=
 (cH (0≤a1)).bind λ_=>
 some (CX .u8 a0 (oc .u8 1 a1))
theorem j8(k:Nat)(a0:Int)(a1:Int)(r:Int)(h:fL k a0 a1=some r):
 dF Tryz.prog 75 [.eq (.int .u8 a0),I a1] [] (λ_:Unit=>(bI [.eq (.int .u8 r)],[])):=by
 unfold fL at h
 replace h:=bg h
 refine dF.of 9 Tryz.func75 rfl Tryz.ntmps75 rfl λS w0=>?_
 refine sr ?_
 refine cq ?_
 refine nt ?_
 refine sr ?_
 iterate 2 refine mq ?_
 obtain⟨u1,c,h⟩:=aa h
 refine jb (MH rfl (am c)) ?_
 refine jb (RQ rfl) ?_
 refine aq ?_
 refine nt ?_
 refine aA ?_
 cases h
 exact ra
def eL(k:Nat)(a0:Int)(a1:Int):Option Bool:=
 (cH (0≤a1)).bind λ_=>
 some (decide ((pV .u8 (ie .u8 a0 a1) 1)=1))
theorem gx(k:Nat)(a0:Int)(a1:Int)(r:Bool)(h:eL k a0 a1=some r):
 dF Tryz.prog 97 [.eq (.int .u8 a0),I a1] [] (λ_:Unit=>(bI [.eq (.bool r)],[])):=by
 unfold eL at h
 replace h:=bg h
 refine dF.of 10 Tryz.func97 rfl Tryz.ntmps97 rfl λS w0=>?_
 refine sr ?_
 refine cq ?_
 refine nt ?_
 refine sr ?_
 iterate 2 refine mq ?_
 obtain⟨u1,c,h⟩:=aa h
 refine jb (t6 rfl (am c)) ?_
 refine jb (PY rfl) ?_
 refine jb (gu rfl) ?_
 refine aq ?_
 refine nt ?_
 refine aA ?_
 cases h
 exact ra
def cX(k:Nat)(a0:ab)(x8:(List Int)):Nat->(Int×Int)->Option (Except Int Int)
 |0,_=>none
 |n+1,y9=>
  if y9.2 < (x8.length:Int) then((aP x8 y9.2).bind λc=>
  (ck (a0.1 - 1)).bind λh=>
  (dz k c 0 h).bind λr=>
  if¬(r=true) then(some (.error 3)) else((eL k y9.1 c).bind λl=>
  if l=true then(some (.error 4)) else((fL k y9.1 c).bind λj=>
  (ck (y9.2+1)).bind λe=>
  cX k a0 x8 n (j,e)))) else(some (.ok y9.1))
def cY(k:Nat)(a0:ab)(a1:(List (List Int))):Nat->(Int×Int)->Option (Except Int Unit)
 |0,_=>none
 |n+1,y4=>
  if y4.2 < (a1.length:Int) then(bE (α:=Int) ((aP a1 y4.2).bind λx8=>
  cX k a0 x8 k (y4.1,0)) (λe=>some (.error e)) λx6=>
  (ck (y4.2+1)).bind λc=>
  cY k a0 a1 n (x6,c)) else(some (.ok ()))
def iO(k:Nat)(a0:ab)(a1:(List (List Int))):Option Int:=
 if 3 < (a1.length:Int) then(some 6) else(bE (α:=Unit) (cY k a0 a1 k (0,0)) (some) λ_=>
 some 0)
theorem s5(k:Nat)(a0:ab)(a1:(List (List Int)))(r:Int)(h:iO k a0 a1=some r):
 dF Tryz.prog 54 [.rep ap a0,.rep (.slice Tl) a1] [] (λ_:Unit=>(bI [I r],[])):=by
 unfold iO at h
 replace h:=bg h
 refine dF.of 39 Tryz.func54 rfl Tryz.ntmps54 rfl λS w0=>?_
 refine sr ?_
 refine bx λb1=>?_
 refine cq ?_
 refine nt ?_
 refine aj ?_
 refine sr ?_
 refine mq ?_
 refine ol s9 ?_
 refine jb (nS rfl) ?_
 refine nt ?_
 refine ci h (λh=>?_) (λh=>?_)
 .
  refine sr (cq (nt (rx ?_)));cases h;exact ra
 .
  refine sk (sr (cq (nt ?_)));refine dI (Z:=Unit) (α:=Unit) (λz3 x2=>[]) (λz3 x2=>[]) (λe=>e=r) h (λe h=>Option.some.inj h) (λK hR h=>?_) (λz3 x2 h=>?_)
  .refine sr (mq ?_);refine ol s9 ?_;refine eX rfl ?_;refine nt (ak (aI (λz5 y4=>[(2,Pt b1),(5,.eq (.int .u8 y4.1)),(13,.rep (.slice Tl) a1),(14,I (a1.length:Int)),(15,I y4.2)]) (λz5 y4=>[.obj b1 25 (.rep ap a0)]) (cY k a0 a1) k () (0,0) (λ_=>rfl) h (SE.fin [0] ⟨rfl,rfl,rfl,rfl,rfl,trivial⟩ rfl) (λn z5 y4 h=>?_)));unfold cY at h;refine sr (jb (bK rfl) ?_);refine nt (aj (ci h (λh=>?_) (λh=>?_)))
   .refine sk (dI (Z:=Unit) (α:=Int) (λz7 x6=>[(2,Pt b1),(5,.eq (.int .u8 x6)),(13,.rep (.slice Tl) a1),(14,I (a1.length:Int)),(15,I y4.2)]) (λz7 x6=>[.obj b1 25 (.rep ap a0)]) (λe=>e=r) h (λe h=>hR e h) (λK hR h=>?_) (λz7 x6 h=>?_))
    .refine ak (sr ?_);obtain⟨x8,X,h⟩:=aa h;refine jb (bo (t:=Tl) rfl s9 jW X) ?_;refine ja (av (t:=Tl) rfl jW rfl) ?_;refine aq (nt (sr ?_));refine mq ?_;refine ol jk ?_;refine eX rfl ?_;refine nt (ak (aI (λj y9=>[(2,Pt b1),(5,.eq (.int .u8 y9.1)),(13,.rep (.slice Tl) a1),(14,I (a1.length:Int)),(15,I y4.2),(19,.rep Tl x8),(20,I (x8.length:Int)),(21,I y9.2)]) (λj y9=>[.obj b1 25 (.rep ap a0)]) (cX k a0 x8) k () (y4.1,0) (λ_=>rfl) h (SE.fin [0] ⟨rfl,rfl,rfl,rfl,rfl,rfl,rfl,rfl,trivial⟩ rfl) (λn j y9 h=>?_)));unfold cX at h;refine sr (jb (bK rfl) ?_);refine nt (aj (ci h (λh=>?_) (λh=>?_)))
     .refine sk (aj (ak (sr ?_)));obtain⟨c,y,h⟩:=aa h;refine jb (bo (t:=Ti) rfl jk cQ y) ?_;refine ja (av (t:=Ti) rfl cQ rfl) ?_;refine aq (nt (aj (sr ?_)));refine mq ?_;refine fl gI ?_;refine lo cQ ?_;obtain⟨O,x,h⟩:=aa h;refine jb (eD rfl x) ?_;obtain⟨U,F,h⟩:=aa h;refine jc (au [.tmp 25,.const (.int .i64 (0)),.tmp 28] rfl rfl xH rfl (dH k c 0 O U F)) ?_;refine ja (iK rfl) ?_;refine nt (cw h (λh=>?_) (λh=>?_))
      .refine sr (cq (nt (rx (br (bP (br (bP (bF ?_))))))));obtain rfl:=hR _ h;exact ra
      .refine sk (aj (sr ?_));iterate 2 refine mq ?_
       obtain⟨Q,E,h⟩:=aa h;refine jb (au [.tmp 31,.tmp 32] rfl rfl HZ rfl (gx k y9.1 c Q E)) ?_;refine nt (cv h (λh=>?_) (λh=>?_))
       .refine sr (cq (nt (rx (br (bP (br (bP (bF ?_))))))));obtain rfl:=hR _ h;exact ra
       .refine sk (ae ?_);iterate 2 refine mq ?_
        obtain⟨l,D,h⟩:=aa h;refine jb (au [.tmp 34,.tmp 35] rfl rfl Ot rfl (j8 k y9.1 c l D)) ?_;refine aq (aD (aS (tn (ae ?_))));obtain⟨M,u,h⟩:=aa h;refine jb (bG rfl u) ?_;refine mq (nl ?_);exact jz ((),(l,M)) h [0]
     .refine gX (cy (cy (dE (bn ?_))));exact jz ((),y9.1) h [0]
    .refine ae ?_;obtain⟨J,s,h⟩:=aa h;refine jb (bG rfl s) ?_;refine mq (nl ?_);exact jz ((),(x6,J)) h [0]
   .refine xa ?_;exact jz ((),()) h []
  .refine sr (cq (nt (aA ?_)));cases h;exact ra
def fV(k:Nat)(a0:ab)(a1:aQ):Option Int:=
 (((ck (a0.1 - 1)).bind λx5=>
 (dz k a1.1 0 x5).bind λr6=>
 if¬(r6=true) then(some true) else((dz k a1.2.1 0 (a0.2.2.2.2.1.length:Int)).bind λr7=>
 some (!r7))):Option (Bool)).bind λx3=>
 if x3=true then(some 3) else(some 0)
theorem pQ(k:Nat)(a0:ab)(a1:aQ)(r:Int)(h:fV k a0 a1=some r):
 dF Tryz.prog 55 [.rep ap a0,.rep aY a1] [] (λ_:Unit=>(bI [I r],[])):=by
 unfold fV at h
 replace h:=bg h
 refine dF.of 21 Tryz.func55 rfl Tryz.ntmps55 rfl λS w0=>?_
 refine sr ?_
 refine bx λb1=>?_
 refine bx λb2=>?_
 refine cq ?_
 refine nt ?_
 refine aj ?_
 refine aJ (Z:=Unit) (α:=Bool) (λz4 x3=>[(20,.eq (.bool x3))]) (λz4 x3=>[]) h (λK h=>?_) (λz4 x3 h=>?_)
 .
  refine ae (fl Bw ?_);refine lo cQ ?_;refine fl gI ?_;refine fr 1 ?_;refine lo cQ ?_;obtain⟨x5,c,h⟩:=aa h;refine jb (eD rfl c) ?_;obtain⟨r6,j,h⟩:=aa h;refine jc (au [.tmp 6,.const (.int .i64 (0)),.tmp 9] rfl rfl xH rfl (dH k a1.1 0 x5 r6 j)) ?_;refine ja (iK rfl) ?_;refine mq ?_;refine cF (s:=12) rfl (λhb=>?_) (λhb=>?_)
  .replace h:=eU (yU hb) h;iterate 7 refine gn ?_
   refine pt (nl ?_);exact jz ((),true) h []
  .replace h:=cV (sH hb) h;refine ga (aC rfl Bv) ?_;refine fr 1 ?_;refine ox rfl rfl rfl rfl rfl rfl (ay rfl cQ nB rfl) ⟨rfl,trivial⟩ ?_;refine ga (aC rfl dD) ?_;refine fr 1 ?_;refine ox rfl rfl rfl rfl rfl rfl (ay rfl i8 nB rfl) ⟨rfl,trivial⟩ ?_;refine ga (t7 rfl rfl xY) ?_;obtain⟨r7,e,h⟩:=aa h;refine gc (au [.tmp 14,.const (.int .i64 (0)),.tmp 17] rfl rfl xH rfl (dH k a1.2.1 0 (a0.2.2.2.2.1.length:Int) r7 e)) ?_;refine ga (iK rfl) ?_;refine pf (nl ?_);exact jz ((), !r7) h []
 .
  refine cv h (λh=>?_) (λh=>?_)
  .refine sr (cq (nt (rx ?_)));cases h;exact ra
  .refine sk (sr (cq (nt (aA ?_))));cases h;exact ra
def eQ(k:Nat)(a0:ab):Nat->Int->Option (Except Int Unit)
 |0,_=>none
 |n+1,c=>
  if c < (a0.2.2.2.2.1.length:Int) then((aP a0.2.2.2.2.1 c).bind λj=>
  (iO k a0 j).bind λe=>
  if¬(e=0) then(some (.error e)) else((ck (c+1)).bind λh=>
  eQ k a0 n h)) else(some (.ok ()))
def eP(k:Nat)(a0:ab):Nat->Int->Option (Except Int Unit)
 |0,_=>none
 |n+1,c=>
  if c < (a0.2.2.2.2.2.length:Int) then((aP a0.2.2.2.2.2 c).bind λj=>
  (fV k a0 j).bind λe=>
  if¬(e=0) then(some (.error e)) else((ck (c+1)).bind λh=>
  eP k a0 n h)) else(some (.ok ()))
def ml(k:Nat)(a0:ab):Option Int:=
 (((dz k a0.1 1 5).bind λr4=>
 if¬(r4=true) then(some true) else((dz k a0.2.1 0 3).bind λr5=>
 if¬(r5=true) then(some true) else((dz k a0.2.2.1 0 3).bind λr6=>
 if¬(r6=true) then(some true) else((dz k a0.2.2.2.1 1 3).bind λr7=>
 some (!r7))))):Option (Bool)).bind λx2=>
 if x2=true then(some 1) else(if(a0.2.2.2.2.1.length:Int) < 1 then(some 7) else(if 6 < (a0.2.2.2.2.1.length:Int) then(some 6) else(bE (α:=Unit) (eQ k a0 k 0) (some) λ_=>
 if 8 < (a0.2.2.2.2.2.length:Int) then(some 6) else(bE (α:=Unit) (eP k a0 k 0) (some) λ_=>
 some 0))))
theorem xm(k:Nat)(a0:ab)(r:Int)(h:ml k a0=some r):
 dF Tryz.prog 19 [.rep ap a0] [] (λ_:Unit=>(bI [I r],[])):=by
 unfold ml at h
 replace h:=bg h
 refine dF.of 73 Tryz.func19 rfl Tryz.ntmps19 rfl λS w0=>?_
 refine sr ?_
 refine bx λb1=>?_
 refine cq ?_
 refine nt ?_
 refine aj ?_
 refine aJ (Z:=Unit) (α:=Bool) (λz3 x2=>[(1,Pt b1),(31,.eq (.bool x2))]) (λz3 x2=>[.obj b1 25 (.rep ap a0)]) h (λK h=>?_) (λz3 x2 h=>?_)
 .
  refine ae (fl gI ?_);refine lo cQ ?_;obtain⟨r4,Uk,h⟩:=aa h;refine jc (au [.tmp 11,.const (.int .i64 (1)),.const (.int .i64 (5))] rfl rfl xH rfl (dH k a0.1 1 5 r4 Uk)) ?_;refine ja (iK rfl) ?_;refine mq ?_;refine cF (s:=14) rfl (λhb=>?_) (λhb=>?_)
  .replace h:=eU (yU hb) h;iterate 4 refine gn ?_
   refine pt ?_;refine mq ?_;iterate 4 refine gn ?_
   refine pt ?_;refine mq ?_;iterate 4 refine gn ?_
   refine pt (nl ?_);exact jz ((),true) h [0]
  .replace h:=cV (sH hb) h;refine ga (aC rfl By) ?_;refine ox rfl rfl rfl rfl rfl rfl (ay rfl cQ nB rfl) ⟨rfl,trivial⟩ ?_;obtain⟨r5,zz,h⟩:=aa h;refine gc (au [.tmp 16,.const (.int .i64 (0)),.const (.int .i64 (3))] rfl rfl xH rfl (dH k a0.2.1 0 3 r5 zz)) ?_;refine ga (iK rfl) ?_;refine pf ?_;refine mq ?_;refine cF (s:=20) rfl (λhb=>?_) (λhb=>?_)
   .replace h:=eU (yU hb) h;iterate 4 refine gn ?_
    refine pt ?_;refine mq ?_;iterate 4 refine gn ?_
    refine pt (nl ?_);exact jz ((),true) h [0]
   .replace h:=cV (sH hb) h;refine ga (aC rfl xC) ?_;refine ox rfl rfl rfl rfl rfl rfl (ay rfl cQ nB rfl) ⟨rfl,trivial⟩ ?_;obtain⟨r6,qt,h⟩:=aa h;refine gc (au [.tmp 22,.const (.int .i64 (0)),.const (.int .i64 (3))] rfl rfl xH rfl (dH k a0.2.2.1 0 3 r6 qt)) ?_;refine ga (iK rfl) ?_;refine pf ?_;refine mq ?_;refine cF (s:=26) rfl (λhb=>?_) (λhb=>?_)
    .replace h:=eU (yU hb) h;iterate 4 refine gn ?_
     refine pt (nl ?_);exact jz ((),true) h [0]
    .replace h:=cV (sH hb) h;refine ga (aC rfl HT) ?_;refine ox rfl rfl rfl rfl rfl rfl (ay rfl cQ nB rfl) ⟨rfl,trivial⟩ ?_;obtain⟨r7,mw,h⟩:=aa h;refine gc (au [.tmp 28,.const (.int .i64 (1)),.const (.int .i64 (3))] rfl rfl xH rfl (dH k a0.2.2.2.1 1 3 r7 mw)) ?_;refine ga (iK rfl) ?_;refine pf (nl ?_);exact jz ((), !r7) h [0]
 .
  refine cv h (λh=>?_) (λh=>?_)
  .refine sr (cq (nt (rx ?_)));cases h;exact ra
  .refine sk (aj (sr (fl dD ?_)));refine lo i8 ?_;refine ol xY ?_;refine aq (nt (ak (sr ?_)));refine mq ?_;refine jb (bK rfl) ?_;refine aq (nt ?_);refine ci h (λh=>?_) (λh=>?_)
   .refine sr (cq (nt (aA (bP (bF ?_)))));cases h;exact ra
   .refine sr (mq ?_);refine jb (nS rfl) ?_;refine aq (nt ?_);refine ci h (λh=>?_) (λh=>?_)
    .refine sr (cq (nt (aA (bP (bF ?_)))));cases h;exact ra
    .refine bq (aS (tn (dI (Z:=Unit) (α:=Unit) (λz9 x8=>[(1,Pt b1)]) (λz9 x8=>[.obj b1 25 (.rep ap a0)]) (λe=>e=r) h (λe h=>Option.some.inj h) (λK hR h=>?_) (λz9 x8 h=>?_))))
     .refine sr (fl dD ?_);refine lo i8 ?_;refine ol xY ?_;refine eX rfl ?_;refine nt (ak (aI (λx j=>[(1,Pt b1),(42,.rep (.slice (.slice Tl)) a0.2.2.2.2.1),(43,I (a0.2.2.2.2.1.length:Int)),(44,I j)]) (λx j=>[.obj b1 25 (.rep ap a0)]) (eQ k a0) k () 0 (λ_=>rfl) h (SE.fin [0] ⟨rfl,rfl,rfl,rfl,trivial⟩ rfl) (λn x j h=>?_)));unfold eQ at h;refine sr (jb (bK rfl) ?_);refine nt (aj (ci h (λh=>?_) (λh=>?_)))
      .refine sk (aj (ak (sr ?_)));obtain⟨Y,J,h⟩:=aa h;refine jb (bo (t:=(.slice Tl)) rfl xY vf J) ?_;refine ja (av (t:=(.slice Tl)) rfl vf rfl) ?_;refine aq (nt (sr ?_));refine lo fC ?_;refine mq ?_;obtain⟨mc,O,h⟩:=aa h;refine jb (au [.tmp 48,.tmp 49] rfl rfl SY rfl (s5 k a0 Y mc O)) ?_;refine aq (nt (sr ?_));refine mq ?_;refine jb (fq rfl) ?_;refine nt (cn h (λh=>?_) (λh=>?_))
       .refine sr (mq ?_);refine aq (nt (aA (br (bP (bF ?_)))));obtain rfl:=hR _ h;exact ra
       .refine bq (aS (tn (ae ?_)));obtain⟨X,F,h⟩:=aa h;refine jb (bG rfl F) ?_;refine mq (nl ?_);exact jz ((),X) h [0]
      .refine xa ?_;exact jz ((),()) h [0]
     .refine aj (sr (fl m9 ?_));refine lo wS ?_;refine ol Q1 ?_;refine jb (nS rfl) ?_;refine nt (ci h (λh=>?_) (λh=>?_))
      .refine sr (cq (nt (rx ?_)));cases h;exact ra
      .refine sk (dI (Z:=Unit) (α:=Unit) (λu y=>[]) (λu y=>[]) (λe=>e=r) h (λe h=>Option.some.inj h) (λK hR h=>?_) (λu y h=>?_))
       .refine sr (fl m9 ?_);refine lo wS ?_;refine ol Q1 ?_;refine eX rfl ?_;refine nt (ak (aI (λl c=>[(1,Pt b1),(60,Rs aY a0.2.2.2.2.2),(61,I (a0.2.2.2.2.2.length:Int)),(62,I c)]) (λl c=>[.obj b1 25 (.rep ap a0)]) (eP k a0) k () 0 (λ_=>rfl) h (SE.fin [0] ⟨rfl,rfl,rfl,rfl,trivial⟩ rfl) (λn l c h=>?_)));unfold eP at h;refine sr (jb (bK rfl) ?_);refine nt (aj (ci h (λh=>?_) (λh=>?_)))
        .refine sk (aj (ak (sr ?_)));obtain⟨U,E,h⟩:=aa h;refine jb (bo (t:=aY) rfl Q1 rl E) ?_;refine ja (av (t:=aY) rfl rl rfl) ?_;refine aV rfl rfl rfl (ba rfl AC Io) trivial λUl=>?_;refine aH rfl rfl (aF rfl rl rfl rfl rfl) ⟨rfl,rfl,trivial⟩ ?_;refine nt (sr (fr 1 ?_));refine lo fC ?_;refine fr 1 ?_;refine lo rl ?_;obtain⟨gw,M,h⟩:=aa h;refine jb (au [.tmp 66,.tmp 67] rfl rfl SX rfl (pQ k a0 U gw M)) ?_;refine aq (nt (sr ?_));refine mq ?_;refine jb (fq rfl) ?_;refine nt (cn h (λh=>?_) (λh=>?_))
         .refine sr (mq ?_);refine aq (nt (aA (br (bP (bF ?_)))));obtain rfl:=hR _ h;exact ra
         .refine bq (aS (tn (ae ?_)));obtain⟨Q,D,h⟩:=aa h;refine jb (bG rfl D) ?_;refine mq (nl ?_);exact jz ((),Q) h [1]
        .refine xa ?_;exact jz ((),()) h []
       .refine sr (cq (nt (aA ?_)));cases h;exact ra
def cD(k:Nat)(a0:ab)(a1:Int):Nat->((List Int)×Int)->Option (List Int)
 |0,_=>none
 |n+1,y5=>
  if y5.2 < 5 then((((cH (0≤y5.2/\y5.2 < 5)).bind λ_=>
  (eL k a1 y5.2).bind λe=>
  if e=true then((cH (0≤y5.2/\y5.2 < 5)).bind λ_=>
  some (List.set (List.set y5.1 (Int.toNat y5.2) (-1:Int)) (Int.toNat y5.2) a0.2.1)) else(some (List.set y5.1 (Int.toNat y5.2) (-1:Int)))):Option ((List Int))).bind λx7=>
  (ck (y5.2+1)).bind λc=>
  cD k a0 a1 n (x7,c)) else(some y5.1)
def eH(k:Nat)(a0:ab)(a1:Int):Option (List Int):=
 ((cD k a0 a1 k ([0,0,0,0,0],0)):Option ((List Int))).bind λx3=>
 some x3
theorem pM{M:Md Tryz.prog}{bm:Nat}{c0 c1 c2 c3 c4 c5:Value}(hK:Kn M bm 0 [c0,c1,c2,c3,c4,c5])(k:Nat)(a0:ab)(a1:Int)(r:(List Int))(h:eH k a0 a1=some r):
 bX M 94 [.rep (.mo (Pv bm) [c0,c1,c2,c3,c4,c5] ap) a0,.eq (.int .u8 a1)] [] (λ_:Unit=>(bI [.rep Tr r],[])):=by
 unfold eH at h
 replace h:=bg h
 refine bX.of 24 Tryz.func94 rfl Tryz.ntmps94 rfl λS w0=>?_
 refine sr ?_
 refine aV rfl rfl rfl (ba rfl I6 Lr) trivial λb1=>?_
 refine nt ?_
 refine sr ?_
 refine aV rfl rfl rfl (ba rfl I6 Lr) trivial λb2=>?_
 refine nt ?_
 refine aJ (Z:=Unit) (α:=(List Int)) (λz4 x3=>[(4,Pt b1),(5,Pt b2)]) (λz4 x3=>[.obj b1 82 (.rep Tr [0,0,0,0,0]),.obj b2 82 (.rep Tr x3)]) h (λK h=>?_) (λz4 x3 h=>?_)
 .
  refine sr (eX rfl ?_);refine nt (ak (aI (λz6 y5=>[(0,.rep (.mo (Pv bm) [c0,c1,c2,c3,c4,c5] ap) a0),(1,.eq (.int .u8 a1)),(4,Pt b1),(5,Pt b2),(7,I y5.2)]) (λz6 y5=>[.obj b1 82 (.rep Tr [0,0,0,0,0]),.obj b2 82 (.rep Tr y5.1)]) (cD k a0 a1) k () ([0,0,0,0,0],0) (λ_=>rfl) h (SE.fin [1,0] ⟨rfl,rfl,rfl,rfl,rfl,trivial⟩ rfl) (λn z6 y5 h=>?_)));unfold cD at h;refine sr (jb (bK rfl) ?_);refine nt (aj (ci h (λh=>?_) (λh=>?_)))
  .refine sk (aJ (Z:=Unit) (α:=(List Int)) (λz8 x7=>[(0,.rep (.mo (Pv bm) [c0,c1,c2,c3,c4,c5] ap) a0),(1,.eq (.int .u8 a1)),(4,Pt b1),(5,Pt b2),(7,I y5.2)]) (λz8 x7=>[.obj b1 82 (.rep Tr [0,0,0,0,0]),.obj b2 82 (.rep Tr x7)]) h (λK h=>?_) (λz8 x7 h=>?_))
   .refine ak (sr (mq ?_));refine aq (nt (sr ?_));refine mq ?_;obtain⟨u9,e,h⟩:=aa h;refine jb (dM rfl BP cQ (am e).1 (am e).2) ?_;refine fr 1 ?_;refine aH rfl rfl (gq (t:=Ti) (off:=0) (i:=y5.2) (N:=5) rfl cQ .int rfl rfl rfl rfl (am e).1 (am e).2 rfl) ⟨rfl,rfl,trivial⟩ ?_;refine nt (sr ?_);iterate 2 refine mq ?_
    obtain⟨u,l,h⟩:=aa h;refine jb (au [.tmp 12,.tmp 13] rfl rfl HZ rfl (gx k a1 y5.2 u l)) ?_;refine nt (cv h (λh=>?_) (λh=>?_))
    .refine ae ?_;iterate 2 refine mq ?_
     refine ja (kZ rfl) ?_;refine ja (gr rfl gV) ?_;refine ja (iu 1 false rfl By rfl rfl) ?_;refine ja (jd (t:=Ti) rfl cQ (hK.sub 1 1 rfl (le_of_ble_eq_true rfl)) rfl rfl) ?_;obtain⟨x,c,h⟩:=aa h;refine jb (dM rfl BP cQ (am c).1 (am c).2) ?_;refine aH rfl rfl (gq (t:=Ti) (off:=0) (i:=y5.2) (N:=5) rfl cQ .int rfl rfl rfl rfl (am c).1 (am c).2 rfl) ⟨rfl,rfl,trivial⟩ ?_;refine aD (bn ?_);exact jz ((),List.set (List.set y5.1 (Int.toNat y5.2) (-1:Int)) (Int.toNat y5.2) a0.2.1) h [1,0]
    .refine bq (bn ?_);exact jz ((),List.set y5.1 (Int.toNat y5.2) (-1:Int)) h [1,0]
   .refine ae ?_;obtain⟨s,j,h⟩:=aa h;refine jb (bG rfl j) ?_;refine mq (nl ?_);exact jz ((),(x7,s)) h [0,1]
  .refine xa ?_;exact jz ((),y5.1) h [0,1]
 .
  refine sr (fr 1 ?_);refine lo iZ ?_;refine fr 1 ?_;refine aH rfl rfl (aF rfl iZ rfl rfl rfl) ⟨rfl,rfl,trivial⟩ ?_;refine nt (aA ?_);obtain rfl:=Option.some.inj h;exact aL () [.rep Tr x3] 0 ⟨⟨_,_,_,_,_,rfl,(.head _),iZ,(tq),rfl⟩,trivial⟩ rfl
def c7(k:Nat)(a0:(List Int))(a1:Int):Nat->Int->Option (Except Int Unit)
 |0,_=>none
 |n+1,y3=>
  if y3 < (a0.length:Int) then((aP a0 y3).bind λx5=>
  if a1=x5 then(some (.error y3)) else((ck (y3+1)).bind λx6=>
  c7 k a0 a1 n x6)) else(some (.ok ()))
def fZ(k:Nat)(a0:(List Int))(a1:Int):Option Int:=
 bE (α:=Unit) (c7 k a0 a1 k 0) (some) λ_=>
 some (-1:Int)
theorem ma(k:Nat)(a0:(List Int))(a1:Int)(r:Int)(h:fZ k a0 a1=some r):
 dF Tryz.prog 62 [.rep Tl a0,I a1] [] (λ_:Unit=>(bI [I r],[])):=by
 unfold fZ at h
 replace h:=bg h
 refine dF.of 19 Tryz.func62 rfl Tryz.ntmps62 rfl λS w0=>?_
 refine sr ?_
 refine cq ?_
 refine nt ?_
 refine dI (Z:=Unit) (α:=Unit) (λz2 x1=>[]) (λz2 x1=>[]) (λe=>e=r) h (λe h=>Option.some.inj h) (λK hR h=>?_) (λz2 x1 h=>?_)
 .
  refine sr (mq ?_);refine ol jk ?_;refine eX rfl ?_;refine nt (ak (aI (λz4 y3=>[(0,.rep Tl a0),(1,I a1),(7,I (a0.length:Int)),(8,I y3)]) (λz4 y3=>[]) (c7 k a0 a1) k () 0 (λ_=>rfl) h (SE.fin [] ⟨rfl,rfl,rfl,rfl,trivial⟩ rfl) (λn z4 y3 h=>?_)));unfold c7 at h;refine sr (jb (bK rfl) ?_);refine nt (aj (ci h (λh=>?_) (λh=>?_)))
  .refine sk (aj (ak (sr (mq ?_))));refine aq (nt (sr ?_));iterate 3 refine mq ?_
   obtain⟨x5,j,h⟩:=aa h;refine jb (bo (t:=Ti) rfl jk cQ j) ?_;refine ja (av (t:=Ti) rfl cQ rfl) ?_;refine jb (gu rfl) ?_;refine nt (ci h (λh=>?_) (λh=>?_))
   .refine sr (mq ?_);refine aq (nt (aA (br (bP (bF ?_)))));obtain rfl:=hR _ h;exact ra
   .refine bq (aS (tn (ae ?_)));obtain⟨x6,c,h⟩:=aa h;refine jb (bG rfl c) ?_;refine mq (nl ?_);exact jz ((),x6) h []
  .refine xa ?_;exact jz ((),()) h []
 .
  refine sr (cq (nt (aA ?_)));cases h;exact ra
def kO(k:Nat)(a0:Int):Option Bool:=
 some (!decide (a0=a0))
theorem qP(k:Nat)(a0:Int)(r:Bool)(h:kO k a0=some r):
 dF Tryz.prog 173 [I a0] [] (λ_:Unit=>(bI [.eq (.bool r)],[])):=by
 unfold kO at h
 replace h:=bg h
 refine dF.of 6 Tryz.func173 rfl Tryz.ntmps173 rfl λS w0=>?_
 refine sr ?_
 refine cq ?_
 refine nt ?_
 refine sr ?_
 iterate 2 refine mq ?_
 refine jb (fq rfl) ?_
 refine aq ?_
 refine nt ?_
 refine aA ?_
 cases h
 exact ra
def om(k:Nat)(a0:Int)(a1:Int):Option Bool:=
 (((kO k a0).bind λr3=>
 if r3=true then((kO k a1).bind λr4=>
 if¬(r4=true) then(some true) else(some (decide (a0 < a1)))) else(some (decide (a0 < a1)))):Option (Bool)).bind λx1=>
 some x1
theorem zM(k:Nat)(a0:Int)(a1:Int)(r:Bool)(h:om k a0 a1=some r):
 dF Tryz.prog 163 [I a0,I a1] [] (λ_:Unit=>(bI [.eq (.bool r)],[])):=by
 unfold om at h
 replace h:=bg h
 refine dF.of 17 Tryz.func163 rfl Tryz.ntmps163 rfl λS w0=>?_
 refine sr ?_
 refine cq ?_
 refine nt ?_
 refine aJ (Z:=Unit) (α:=Bool) (λz2 x1=>[(4,.eq (.bool x1))]) (λz2 x1=>[]) h (λK h=>?_) (λz2 x1 h=>?_)
 .
  refine ae (mq ?_);obtain⟨r3,e,h⟩:=aa h;refine ja (au [.tmp 5] rfl rfl MK rfl (qP k a0 r3 e)) ?_;refine mq ?_;refine cF (s:=7) rfl (λhb=>?_) (λhb=>?_)
  .replace h:=eU (Np hb) h;refine gm ?_;obtain⟨r4,c,h⟩:=aa h;refine ga (au [.tmp 8] rfl rfl MK rfl (qP k a1 r4 c)) ?_;refine ga (iK rfl) ?_;refine pt ?_;refine mq ?_;refine cF (s:=12) rfl (λhb=>?_) (λhb=>?_)
   .replace h:=eU (yU hb) h;iterate 3 refine gn ?_
    refine pt ?_;refine aq (nl ?_);exact jz ((),true) h []
   .replace h:=cV (sH hb) h;refine gm ?_;refine gm ?_;refine gb (bK rfl) ?_;refine pf ?_;refine aq (nl ?_);exact jz ((),decide (a0 < a1)) h []
  .replace h:=cV (Nq hb) h;iterate 3 refine gn ?_
   refine pf ?_;refine mq ?_;refine gm ?_;refine gm ?_;refine gb (bK rfl) ?_;refine pf ?_;refine aq (nl ?_);exact jz ((),decide (a0 < a1)) h []
 .
  refine aA ?_;cases h;exact ra
def bA(k:Nat)(a1:Int):Nat->((List Int)×Int)->Option (List Int)
 |0,_=>none
 |n+1,y6=>
  ((if a1 < y6.2 then((aP y6.1 y6.2).bind λu=>
  (ck (y6.2 - 1)).bind λs=>
  (aP y6.1 s).bind λr=>
  (om k u r).bind λx=>
  some x) else(some false)):Option (Bool)).bind λx8=>
  if x8=true then((ck (y6.2 - 1)).bind λe=>
  (ck (y6.2 - 1)).bind λl=>
  (aP y6.1 l).bind λc=>
  (aP y6.1 y6.2).bind λj=>
  (aP y6.1 y6.2).bind λD=>
  (aP (List.set y6.1 (Int.toNat y6.2) c) e).bind λy=>
  (ck (y6.2 - 1)).bind λh=>
  bA k a1 n (List.set (List.set y6.1 (Int.toNat y6.2) c) (Int.toNat e) j,h)) else(some y6.1)
def aZ(k:Nat)(a1:Int)(a2:Int):Nat->((List Int)×Int)->Option (List Int)
 |0,_=>none
 |n+1,y2=>
  if y2.2 < a2 then(((bA k a1 k (y2.1,y2.2)):Option ((List Int))).bind λx4=>
  (ck (y2.2+1)).bind λc=>
  aZ k a1 a2 n (x4,c)) else(some y2.1)
def bS(k:Nat)(a0:(List Int))(a1:Int)(a2:Int):Option (List Int):=
 (ck (a1+1)).bind λx1=>
 aZ k a1 a2 k (a0,x1)
theorem i7(k:Nat)(a0:(List Int))(c:Value)(a1:Int)(a2:Int)(r:(List Int))(h:bS k a0 a1 a2=some r):
 dF Tryz.prog 157 [.eq c,I a1,I a2] [.sl c 3 Ti a0] (λ_:Unit=>(bI [],[.sl c 3 Ti r])):=by
 unfold bS at h
 replace h:=bg h
 refine dF.of 49 Tryz.func157 rfl Tryz.ntmps157 rfl λS w0=>?_
 refine sr ?_
 refine mq ?_
 obtain⟨x1,UB,h⟩:=aa h
 refine jb (bG rfl UB) ?_
 refine aq ?_
 refine nt ?_
 refine ak ?_
 refine aI (λz3 y2=>[(0,.eq c),(1,I a1),(2,I a2),(6,I y2.2)]) (λz3 y2=>[.sl c 3 Ti y2.1]) (aZ k a1 a2) k () (a0,x1) (λ_=>rfl) h (SE.fin [0] ⟨rfl,rfl,rfl,rfl,trivial⟩ rfl) (λn z3 y2 h=>?_)
 unfold aZ at h
 refine aj ?_
 refine sr ?_
 iterate 2 refine mq ?_
 refine jb (bK rfl) ?_
 refine nt ?_
 refine ci h (λh=>?_) (λh=>?_)
 .
  refine sk (aJ (Z:=Unit) (α:=(List Int)) (λz5 x4=>[(0,.eq c),(1,I a1),(2,I a2),(6,I y2.2)]) (λz5 x4=>[.sl c 3 Ti x4]) h (λK h=>?_) (λz5 x4 h=>?_))
  .refine ak (sr (mq ?_));refine aq (nt (ak ?_));refine aI (λz7 y6=>[(0,.eq c),(1,I a1),(2,I a2),(6,I y2.2),(7,I y6.2)]) (λz7 y6=>[.sl c 3 Ti y6.1]) (bA k a1) k () (y2.1,y2.2) (λ_=>rfl) h (SE.fin [0] ⟨rfl,rfl,rfl,rfl,rfl,trivial⟩ rfl) (λn z7 y6 h=>?_);unfold bA at h;refine aj (aJ (Z:=Unit) (α:=Bool) (λz9 x8=>[(0,.eq c),(1,I a1),(2,I a2),(6,I y2.2),(7,I y6.2),(30,.eq (.bool x8))]) (λz9 x8=>[.sl c 3 Ti y6.1]) h (λK h=>?_) (λz9 x8 h=>?_))
   .refine cO ?_;refine dm ?_;refine dm ?_;refine db (nS rfl) ?_;refine yg rfl rfl rfl (bD rfl) ⟨rfl,trivial⟩ (λhb=>?_) (λhb=>?_)
    .replace h:=eU (sP hb) h;refine dR rfl rfl rfl rfl rfl (bD rfl) ⟨rfl,rfl,trivial⟩ ?_;refine dR rfl rfl rfl rfl rfl (bD rfl) ⟨rfl,rfl,trivial⟩ ?_;obtain⟨Up,x,h⟩:=aa h;refine kJ 0 rfl rfl rfl rfl rfl rfl (cJ (t:=Ti) rfl jk cQ x) ⟨rfl,rfl,rfl,trivial⟩ ?_;refine kJ 0 rfl rfl rfl rfl rfl rfl (gP (i:=Int.toNat y6.2) (off:=0) rfl cQ (λ_=>rfl) rfl (dC x).2.2 rfl) ⟨rfl,rfl,trivial⟩ ?_;refine dR rfl rfl rfl rfl rfl (bD rfl) ⟨rfl,rfl,trivial⟩ ?_;refine dR rfl rfl rfl rfl rfl (bD rfl) ⟨rfl,rfl,trivial⟩ ?_;obtain⟨Uo,qt,h⟩:=aa h;refine dR rfl rfl rfl rfl rfl (eD rfl qt) ⟨rfl,rfl,rfl,trivial⟩ ?_;obtain⟨Un,u,h⟩:=aa h;refine kJ 0 rfl rfl rfl rfl rfl rfl (cJ (t:=Ti) rfl jk cQ u) ⟨rfl,rfl,rfl,trivial⟩ ?_;refine kJ 0 rfl rfl rfl rfl rfl rfl (gP (i:=Int.toNat Uo) (off:=0) rfl cQ (λ_=>rfl) rfl (dC u).2.2 rfl) ⟨rfl,rfl,trivial⟩ ?_;refine df eo ?_;obtain⟨F,zz,h⟩:=aa h;refine gb (au [.tmp 23,.tmp 28] rfl rfl QG rfl (zM k Up Un F zz)) ?_;refine pt (nl ?_);exact jz ((),F) h [0]
    .replace h:=cV (sQ hb) h;iterate 9 refine dg ?_
     refine df eo ?_;refine gn ?_;refine pf (nl ?_);exact jz ((),false) h [0]
   .refine cv h (λh=>?_) (λh=>?_)
    .refine sk (aj (ak (qX ?_)));refine bR rfl rfl rfl (bD rfl) ⟨rfl,trivial⟩ ?_;refine bR rfl rfl rfl (bD rfl) ⟨rfl,trivial⟩ ?_;refine bR rfl rfl rfl (bD rfl) ⟨rfl,trivial⟩ ?_;refine bR rfl rfl rfl (bD rfl) ⟨rfl,trivial⟩ ?_;obtain⟨y,mw,h⟩:=aa h;refine bR rfl rfl rfl (eD rfl mw) ⟨rfl,rfl,trivial⟩ ?_;refine bR rfl rfl rfl (bD rfl) ⟨rfl,trivial⟩ ?_;refine bR rfl rfl rfl (bD rfl) ⟨rfl,trivial⟩ ?_;obtain⟨Um,mc,h⟩:=aa h;refine bR rfl rfl rfl (eD rfl mc) ⟨rfl,rfl,trivial⟩ ?_;obtain⟨E,s,h⟩:=aa h;refine hH 0 rfl rfl rfl rfl (cJ (t:=Ti) rfl jk cQ s) ⟨rfl,rfl,trivial⟩ ?_;refine hH 0 rfl rfl rfl rfl (gP (i:=Int.toNat Um) (off:=0) rfl cQ (λ_=>rfl) rfl (dC s).2.2 rfl) ⟨rfl,trivial⟩ ?_;refine bR rfl rfl rfl (bD rfl) ⟨rfl,trivial⟩ ?_;refine bR rfl rfl rfl (bD rfl) ⟨rfl,trivial⟩ ?_;obtain⟨D,l,h⟩:=aa h;refine hH 0 rfl rfl rfl rfl (cJ (t:=Ti) rfl jk cQ l) ⟨rfl,rfl,trivial⟩ ?_;refine hH 0 rfl rfl rfl rfl (gP (i:=Int.toNat y6.2) (off:=0) rfl cQ (λ_=>rfl) rfl (dC l).2.2 rfl) ⟨rfl,trivial⟩ ?_;obtain⟨UJ,j,h⟩:=aa h;refine hH 0 rfl rfl rfl rfl (cJ (t:=Ti) rfl jk cQ j) ⟨rfl,rfl,trivial⟩ ?_;refine uR 15 [true,true,false,false,false,true,true,true,true,true,true,true,true,true,true] [48] [] [] rfl (by kernel_rfl) (by kernel_rfl) (by kernel_rfl) eo (λvs hv hB=>?_);obtain⟨w0,UX,rfl,UA⟩:=ax hv;obtain⟨w1,UW,rfl,Uz⟩:=ax UA;obtain⟨w2,UV,rfl,Uy⟩:=ax Uz;obtain⟨w3,UU,rfl,Ux⟩:=ax Uy;obtain⟨w4,UT,rfl,Uw⟩:=ax Ux;obtain⟨w5,US,rfl,Uu⟩:=ax Uw;obtain⟨w6,UR,rfl,Ut⟩:=ax Uu;obtain⟨w7,UQ,rfl,Us⟩:=ax Ut;obtain⟨w8,UP,rfl,Ur⟩:=ax Us;obtain⟨w9,UH,rfl,X⟩:=ax Ur;obtain⟨UO,UG,rfl,U⟩:=ax X;obtain⟨UN,UF,rfl,Q⟩:=ax U;obtain⟨UM,UE,rfl,O⟩:=ax Q;obtain⟨UL,UD,rfl,M⟩:=ax O;obtain⟨UK,UC,rfl,J⟩:=ax M;obtain rfl:=qI J;refine⟨[0],[.sl c 3 Ti y6.1],by kernel_rfl,by decide,?_⟩;refine sD rfl rfl (gp (i:=Int.toNat y6.2) rfl cQ rfl (mX j) rfl .int rfl) ⟨rfl,rfl,trivial⟩ (by kernel_rfl) ?_;obtain⟨UI,e,h⟩:=aa h;refine uN rfl rfl rfl rfl (cJ (t:=Ti) rfl jk cQ e) ⟨rfl,rfl,trivial⟩ (by kernel_rfl) ?_;refine sD rfl rfl (gp (i:=Int.toNat y) rfl cQ rfl (mX e) rfl .int rfl) ⟨rfl,rfl,trivial⟩ (by kernel_rfl) ?_;refine yc ?_;refine bH (SE.fin (Γ':=[(0,.eq c),(1,I a1),(2,I a2),(6,I y2.2),(7,I y6.2)]) (Δ':=[.sl c 3 Ti (List.set (List.set y6.1 (Int.toNat y6.2) E) (Int.toNat y) D)]) [0] ⟨rfl,rfl,rfl,rfl,rfl,trivial⟩ rfl) ?_;refine aS (tn (ae (mq ?_)));obtain⟨Ul,gw,h⟩:=aa h;refine jb (eD rfl gw) ?_;refine aq (nl ?_);exact jz ((),(List.set (List.set y6.1 (Int.toNat y6.2) E) (Int.toNat y) D,Ul)) h [0]
    .refine gX (cy (cy (dE (bn ?_))));exact jz ((),y6.1) h [0]
  .refine ae (mq ?_);obtain⟨Uk,Y,h⟩:=aa h;refine jb (bG rfl Y) ?_;refine aq (nl ?_);exact jz ((),(x4,Uk)) h [0]
 .
  refine gX (cy (cy (dE (jU ?_))));cases h;exact aL () [] 1 trivial rfl
def kg(k:Nat)(a0:Int):Option Int:=
 ((if 4294967296≤a0 then(some (ie .u64 a0 32,32)) else(some (a0,0))):Option (Int×Int)).bind λx1=>
 ((if 65536≤x1.1 then((ck (x1.2+16)).bind λx5=>
 some (ie .u64 x1.1 16,x5)) else(some (x1.1,x1.2))):Option (Int×Int)).bind λx3=>
 ((if 256≤x3.1 then((ck (x3.2+8)).bind λx8=>
 some (ie .u64 x3.1 8,x8)) else(some (x3.1,x3.2))):Option (Int×Int)).bind λx6=>
 (Bo KG (IntKind.u8.wrap x6.1)).bind λx9=>
 (ck (x9.toNat:Int)).bind λe=>
 (ck (x6.2+e)).bind λc=>
 some c
theorem pU(k:Nat)(a0:Int)(r:Int)(h:kg k a0=some r):
 dF Tryz.prog 167 [.eq (.int .u64 a0)] [] (λ_:Unit=>(bI [I r],[])):=by
 unfold kg at h
 replace h:=bg h
 refine dF.of 25 Tryz.func167 rfl Tryz.ntmps167 rfl λS w0=>?_
 refine sr ?_
 refine cq ?_
 refine nt ?_
 refine aJ (Z:=Unit) (α:=Int×Int) (λz2 x1=>[(0,.eq (.int .u64 x1.1)),(2,I x1.2)]) (λz2 x1=>[]) h (λK h=>?_) (λz2 x1 h=>?_)
 .
  refine sr (mq ?_);refine jb (ko rfl) ?_;refine nt (ci h (λh=>?_) (λh=>?_))
  .refine sr (mq ?_);refine cg rfl (t6 rfl (by decide)) ⟨rfl,rfl,trivial⟩ ?_;refine aq (nt (ae ?_));refine cq (nl ?_);exact jz ((),(ie .u64 a0 32,32)) h []
  .refine bq (an ?_);exact jz ((),(a0,0)) h []
 .
  refine aJ (Z:=Unit) (α:=Int×Int) (λz4 x3=>[(0,.eq (.int .u64 x3.1)),(2,I x3.2)]) (λz4 x3=>[]) h (λK h=>?_) (λz4 x3 h=>?_)
  .refine sr (mq ?_);refine jb (ko rfl) ?_;refine nt (ci h (λh=>?_) (λh=>?_))
   .refine sr (mq ?_);refine cg rfl (t6 rfl (by decide)) ⟨rfl,rfl,trivial⟩ ?_;refine aq (nt (ae ?_));refine mq ?_;obtain⟨x5,n,h⟩:=aa h;refine jb (bG rfl n) ?_;refine aq (nl ?_);exact jz ((),(ie .u64 x1.1 16,x5)) h []
   .refine bq (an ?_);exact jz ((),(x1.1,x1.2)) h []
  .refine aJ (Z:=Unit) (α:=Int×Int) (λz7 x6=>[(0,.eq (.int .u64 x6.1)),(2,I x6.2)]) (λz7 x6=>[]) h (λK h=>?_) (λz7 x6 h=>?_)
   .refine sr (mq ?_);refine jb (ko rfl) ?_;refine nt (ci h (λh=>?_) (λh=>?_))
    .refine sr (mq ?_);refine cg rfl (t6 rfl (by decide)) ⟨rfl,rfl,trivial⟩ ?_;refine aq (nt (ae ?_));refine mq ?_;obtain⟨x8,l,h⟩:=aa h;refine jb (bG rfl l) ?_;refine aq (nl ?_);exact jz ((),(ie .u64 x3.1 8,x8)) h []
    .refine bq (an ?_);exact jz ((),(x3.1,x3.2)) h []
   .refine sr ?_;iterate 2 refine mq ?_
    refine ja (rF rfl Rx U5) ?_;obtain⟨x9,j,h⟩:=aa h;refine ja (yS rfl U9 j) ?_;obtain⟨u,e,h⟩:=aa h;refine ja (yT rfl U5 U3 e) ?_;obtain⟨s,c,h⟩:=aa h;refine jb (bG rfl c) ?_;refine aq (nt (aA ?_));cases h;exact ra
def oZ(k:Nat)(a0:Int):Option Int:=
 (kg k a0).bind λr1=>
 some r1
theorem BI(k:Nat)(a0:Int)(r:Int)(h:oZ k a0=some r):
 dF Tryz.prog 156 [.eq (.int .u64 a0)] [] (λ_:Unit=>(bI [I r],[])):=by
 unfold oZ at h
 replace h:=bg h
 refine dF.of 8 Tryz.func156 rfl Tryz.ntmps156 rfl λS w0=>?_
 refine sr ?_
 refine cq ?_
 refine nt ?_
 refine aj ?_
 refine IS (λhb=>(by cases hb)) (λhb=>?_)
 refine sk ?_
 refine sr ?_
 refine mq ?_
 obtain⟨r1,c,h⟩:=aa h
 have e:=pU k a0 r1 c
 refine ja (au [.tmp 6] rfl rfl QF rfl e) ?_
 refine aq ?_
 refine nt ?_
 refine aA ?_
 cases h
 exact ra
def cx(k:Nat)(a0:(List Int))(a1:Int)(a2:Int)(a3:Int):Nat->Unit->Option (List Int)
 |0,_=>none
 |n+1,y1=>
  (ck (a2 - a1)).bind λx3=>
  if x3≤12 then((bS k a0 a1 a2).bind λr4=>
  some r4) else(if a3=0 then(none) else(none))
def cR(k:Nat)(a0:(List Int))(a1:Int)(a2:Int)(a3:Int):Option (List Int):=
 cx k a0 a1 a2 a3 k ()
theorem lF(k:Nat)(a0:(List Int))(c:Value)(a1:Int)(a2:Int)(a3:Int)(r:(List Int))(h:cR k a0 a1 a2 a3=some r):
 dF Tryz.prog 155 [.eq c,I a1,I a2,I a3] [.sl c 3 Ti a0] (λ_:Unit=>(bI [],[.sl c 3 Ti r])):=by
 unfold cR at h
 replace h:=bg h
 refine dF.of 134 Tryz.func155 rfl Tryz.ntmps155 rfl λS w0=>?_
 refine sr ?_
 refine cq ?_
 refine nt ?_
 refine sr ?_
 refine cq ?_
 refine nt ?_
 refine ak ?_
 refine aI (λz2 y1=>[(0,.eq c),(1,I a1),(2,I a2),(3,I a3),(8,.eq (.bool true)),(9,.eq (.bool true))]) (λz2 y1=>[.sl c 3 Ti a0]) (cx k a0 a1 a2 a3) k () () (λ_=>rfl) h (SE.fin [0] ⟨rfl,rfl,rfl,rfl,rfl,rfl,trivial⟩ rfl) (λn z2 y1 h=>?_)
 unfold cx at h
 refine ak ?_
 refine sr ?_
 iterate 2 refine mq ?_
 obtain⟨x3,e,h⟩:=aa h
 refine jb (eD rfl e) ?_
 refine aq ?_
 refine nt ?_
 refine aj ?_
 refine sr ?_
 refine mq ?_
 refine jb (CB rfl) ?_
 refine nt ?_
 refine ci h (λh=>?_) (λh=>?_)
 .
  refine sr ?_;iterate 3 refine mq ?_
  obtain⟨r4,j,h⟩:=aa h;refine kc (au [.tmp 24,.tmp 25,.tmp 26] rfl rfl QH rfl (i7 k a0 c a1 a2 r4 j)) ?_;refine nt (rx (bP (bF (bP ?_))));cases h;exact aL () [] 1 trivial rfl
 .
  refine sk (aj (sr (mq ?_)));refine jb (gu rfl) ?_;refine nt (ci h (λh=>?_) (λh=>?_))
  .cases h
  .cases h
def fF(k:Nat)(a0:(List Int)):Option (List Int):=
 (oZ k (IntKind.u64.wrap (a0.length:Int))).bind λr1=>
 (cR k a0 0 (a0.length:Int) r1).bind λr2=>
 some r2
theorem sX(k:Nat)(a0:(List Int))(c:Value)(r:(List Int))(h:fF k a0=some r):
 dF Tryz.prog 142 [.eq c] [.sl c 3 Ti a0] (λ_:Unit=>(bI [],[.sl c 3 Ti r])):=by
 unfold fF at h
 replace h:=bg h
 refine dF.of 11 Tryz.func142 rfl Tryz.ntmps142 rfl λS w0=>?_
 refine sr ?_
 refine mq ?_
 refine ka (mg rfl rfl jk) ?_
 refine aq ?_
 refine nt ?_
 refine ae ?_
 iterate 3 refine mq ?_
 refine ja (rF rfl U3 TA) ?_
 obtain⟨r1,j,h⟩:=aa h
 have n:=BI k (IntKind.u64.wrap (a0.length:Int)) r1 j
 refine ja (au [.tmp 8] rfl rfl QI rfl n) ?_
 obtain⟨r2,e,h⟩:=aa h
 have l:=lF k a0 c 0 (a0.length:Int) r1 r2 e
 refine lY rfl rfl rfl (au [.tmp 5,.const (.int .i64 (0)),.tmp 6,.tmp 9] rfl rfl QJ rfl l) ⟨rfl,rfl,rfl,rfl,trivial⟩ ?_
 refine aD ?_
 refine jU ?_
 cases h
 exact aL () [] 1 trivial rfl
def cE(k:Nat)(a1:Int)(x3:(List (List Int))):Nat->Int->Option (Except (Int ⊕ (List Int)) Unit)
 |0,_=>none
 |n+1,y4=>
  if y4 < (x3.length:Int) then((aP x3 y4).bind λx6=>
  (fZ k x6 a1).bind λr7=>
  if 0≤r7 then(((if 0 < r7 then((ck (r7 - 1)).bind λs=>
  (aP x6 s).bind λe=>
  (cH (bJ (length ([]:(List Int))+length [e]))).bind λ_=>
  some (([]:(List Int))++[e])) else(some ([]:(List Int)))):Option ((List Int))).bind λx8=>
  (((ck (r7+1)).bind λl=>
  if l < (x6.length:Int) then((ck (r7+1)).bind λj=>
  (aP x6 j).bind λc=>
  (cH (bJ (length x8+length [c]))).bind λ_=>
  some (x8++[c])) else(some x8)):Option ((List Int))).bind λr=>
  (fF k r).bind λu=>
  some (.error (Sum.inr u:(Int ⊕ (List Int))))) else((ck (y4+1)).bind λh=>
  cE k a1 x3 n h)) else(some (.ok ()))
def dT(k:Nat):Nat->ab->Int->Int->Option ((Int ⊕ (List Int)))
 |0,_,_,_=>none
 |m0+1,a0,a1,a2=>
  bE (α:=Unit) ((aP a0.2.2.2.2.1 a2).bind λx3=>
  cE k a1 x3 k 0) (some) λ_=>
  ((if 0 < a2 then((ck (a2 - 1)).bind λh=>
  ((dT k m0) a0 a1 h).bind λc=>
  if JI c=true then((ck (1+(PO c))).bind λe=>
  some e) else(some 1)) else(some 1)):Option (Int)).bind λj=>
  some (Sum.inl j:(Int ⊕ (List Int)))
theorem lj{M:Md Tryz.prog}{bm:Nat}{c0 c1 c2 c3 c4 c5:Value}(hK:Kn M bm 0 [c0,c1,c2,c3,c4,c5])(k:Nat):
 ∀(n:Nat) (a0:ab) (a1:Int) (a2:Int) (r:(Int ⊕ (List Int))),dT k n a0 a1 a2=some r->bX M 115 [.rep (.mo (Pv bm) [c0,c1,c2,c3,c4,c5] ap) a0,I a1,I a2] ([]) (λ_:Unit=>(bI [.rep (.pl 163 165 Tl) r],[])):=by
 intro n
 induction n with
 |zero=>intro a0 a1 a2 r h;cases h
 |succ m0 ih=>
  intro a0 a1 a2 r h;rw [dT] at h;replace h:=bg h;refine bX.of 80 Tryz.func115 rfl Tryz.ntmps115 rfl λS w0=>?_;refine sr (cq (nt ?_));refine dI (Z:=Unit) (α:=Unit) (λz2 x1=>[(0,.rep (.mo (Pv bm) [c0,c1,c2,c3,c4,c5] ap) a0),(1,I a1),(2,I a2)]) (λz2 x1=>[]) (λe=>e=r) h (λe h=>Option.some.inj h) (λK hR h=>?_) (λz2 x1 h=>?_)
  .refine sr (mq ?_);refine ja (kZ rfl) ?_;refine ja (gr rfl gV) ?_;refine ja (iu 1 false rfl dD rfl rfl) ?_;refine ja (jd (t:=(.slice (.slice Tl))) rfl i8 (hK.sub 4 1 rfl (le_of_ble_eq_true rfl)) rfl rfl) ?_;refine mq ?_;obtain⟨x3,Up,h⟩:=aa h;refine jb (bo (t:=(.slice Tl)) rfl xY vf Up) ?_;refine ja (av (t:=(.slice Tl)) rfl vf rfl) ?_;refine ol s9 ?_;refine eX rfl ?_;refine nt (ak (aI (λz5 y4=>[(0,.rep (.mo (Pv bm) [c0,c1,c2,c3,c4,c5] ap) a0),(1,I a1),(2,I a2),(21,.rep (.slice Tl) x3),(22,I (x3.length:Int)),(23,I y4)]) (λz5 y4=>[]) (cE k a1 x3) k () 0 (λ_=>rfl) h (SE.fin [] ⟨rfl,rfl,rfl,rfl,rfl,rfl,trivial⟩ rfl) (λn z5 y4 h=>?_)));unfold cE at h;refine sr (jb (bK rfl) ?_);refine nt (aj (ci h (λh=>?_) (λh=>?_)))
   .refine sk (aj (ak (sr ?_)));obtain⟨x6,Uo,h⟩:=aa h;refine jb (bo (t:=Tl) rfl s9 jW Uo) ?_;refine ja (av (t:=Tl) rfl jW rfl) ?_;refine aq (nt (sr ?_));iterate 2 refine mq ?_
    obtain⟨r7,Ur,h⟩:=aa h;refine jb (au [.tmp 27,.tmp 28] rfl rfl Qz rfl (ma k x6 a1 r7 Ur)) ?_;refine aq (nt (sr ?_));refine mq ?_;refine jb (ko rfl) ?_;refine nt (ci h (λh=>?_) (λh=>?_))
    .refine sr (cq (nt ?_));refine aJ (Z:=Value) (α:=(List Int)) (λz9 x8=>[(8,.rep Tl x6),(9,I r7),(10,.eq z9)]) (λz9 x8=>[.sl z9 3 Ti x8]) h (λK h=>?_) (λz9 x8 h=>?_)
     .refine sr (mq ?_);refine jb (nS rfl) ?_;refine nt (ci h (λh=>?_) (λh=>?_))
      .refine ae ?_;iterate 3 refine mq ?_
       obtain⟨Uu,U,h⟩:=aa h;refine jb (eD rfl U) ?_;obtain⟨x,Q,h⟩:=aa h;refine jb (bo (t:=Ti) rfl jk cQ Q) ?_;refine ja (av (t:=Ti) rfl cQ rfl) ?_;refine ja (bb (t:=Ti) [(.tmp 39,_)] [x] rfl rfl dS (.cons rfl .int .nil) rfl rfl) ?_;refine eE (SE.nil 3 Ti) ?_;obtain⟨Ux,Y,h⟩:=aa h;refine dV rfl rfl rfl (cp rfl rfl dS (am Y)) ⟨rfl,rfl,trivial⟩ λUl=>?_;refine aq (nl ?_);exact jz (Ul,([]:(List Int))++[x]) h [0]
      .refine bq (an (bH (SE.nil 3 Ti) ?_));exact jz ((.slice none 0 0),([]:(List Int))) h [0]
     .refine aJ (Z:=Value) (α:=(List Int)) (λc j=>[(10,.eq c)]) (λc j=>[.sl c 3 Ti j]) h (λK h=>?_) (λc j h=>?_)
      .refine sr (mq ?_);obtain⟨Ut,O,h⟩:=aa h;refine jb (bG rfl O) ?_;refine mq ?_;refine ol jk ?_;refine jb (bK rfl) ?_;refine nt (ci h (λh=>?_) (λh=>?_))
       .refine ae ?_;iterate 3 refine mq ?_
        obtain⟨Us,J,h⟩:=aa h;refine jb (bG rfl J) ?_;obtain⟨u,F,h⟩:=aa h;refine jb (bo (t:=Ti) rfl jk cQ F) ?_;refine ja (av (t:=Ti) rfl cQ rfl) ?_;refine ja (bb (t:=Ti) [(.tmp 52,_)] [u] rfl rfl dS (.cons rfl .int .nil) rfl rfl) ?_;obtain⟨Uw,X,h⟩:=aa h;refine dV rfl rfl rfl (cp rfl rfl dS (am X)) ⟨rfl,rfl,trivial⟩ λUk=>?_;refine aq (nl ?_);exact jz (Uk,x8++[u]) h [0]
       .refine bq (an ?_);exact jz (z9,x8) h [0]
      .refine sr (mq ?_);obtain⟨Un,mc,h⟩:=aa h;refine ka (au [.tmp 55] rfl rfl QK rfl (sX k j c Un mc)) ?_;refine nt (sr (mq ?_));refine eE (jo [10,55,57] ⟨rfl,rfl,rfl,trivial⟩) ?_;refine ja (dX [(0,.tmp 57,_)] rfl PR L1 OG (jD ⟨rfl,trivial⟩) rfl) ?_;refine ja (JR (t0:=163) (t:=Ti) rfl Tv) ?_;refine aq (nt (aA (br (bP (bF ?_)))));obtain rfl:=hR _ h;exact ra
    .refine bq (aS (tn (ae ?_)));obtain⟨zz,E,h⟩:=aa h;refine jb (bG rfl E) ?_;refine mq (nl ?_);exact jz ((),zz) h []
   .refine xa ?_;exact jz ((),()) h []
  .refine sr (cq (nt ?_));refine aJ (Z:=Unit) (α:=Int) (λs l=>[(11,I l)]) (λs l=>[]) h (λK h=>?_) (λs l h=>?_)
   .refine sr (mq ?_);refine jb (nS rfl) ?_;refine nt (ci h (λh=>?_) (λh=>?_))
    .refine sr ?_;iterate 3 refine mq ?_
     obtain⟨qt,D,h⟩:=aa h;refine jb (eD rfl D) ?_;obtain⟨Um,gw,h⟩:=aa h;refine jc (aU [.tmp 64,.tmp 65,.tmp 67] rfl rfl H2 rfl (ih a0 a1 qt Um gw)) ?_;refine cg rfl (CC rfl FY (by decide)) ⟨rfl,trivial⟩ ?_;refine mq ?_;refine xr ?_;refine xr ?_;refine aV rfl rfl rfl (ba rfl Ff MZ) trivial λUy=>?_;refine aH rfl rfl (aF rfl MC trivial rfl rfl) ⟨rfl,rfl,trivial⟩ ?_;refine aq (nt (sr ?_));refine mq (nt ?_);refine cv h (λh=>?_) (λh=>?_)
     .refine ae (mq ?_);refine fl C9 ?_;refine lo cQ ?_;obtain⟨mw,y,h⟩:=aa h;refine jb (bG rfl y) ?_;refine aq (nl ?_);exact jz ((),mw) h []
     .refine bq (an ?_);exact jz ((),1) h []
    .refine bq (an ?_);exact jz ((),1) h []
   .refine sr (mq ?_);refine ja (dX [(0,.tmp 77,_)] rfl PS Ff OH (jD ⟨rfl,trivial⟩) rfl) ?_;refine ja (JS (t1:=165) (t:=Ti) rfl Tz) ?_;refine aq (nt (aA ?_));cases h;exact ra
def ip(k:Nat)(a0:MR):Option (List Int):=
 some ([]:(List Int))
theorem pP(k:Nat)(a0:MR)(r:(List Int))(h:ip k a0=some r):
 dF Tryz.prog 191 [.rep PH a0] [] (λ_:Unit=>(bI [.rep Tl r],[])):=by
 unfold ip at h
 replace h:=bg h
 refine dF.of 3 Tryz.func191 rfl Tryz.ntmps191 rfl λS w0=>?_
 refine sr ?_
 refine bx λb1=>?_
 refine cq ?_
 refine nt ?_
 refine sr ?_
 refine cq ?_
 refine nt ?_
 refine aA ?_
 refine bH (eu (t:=Tl) (x:=([]:(List Int))) 2 rfl .nil rfl rfl) ?_
 cases h
 exact ra
def im(k:Nat)(a0:MQ):Option (List Int):=
 some a0
theorem pK(k:Nat)(a0:MQ)(r:(List Int))(h:im k a0=some r):
 dF Tryz.prog 192 [.rep PG a0] [] (λ_:Unit=>(bI [.rep Tl r],[])):=by
 unfold im at h
 replace h:=bg h
 refine dF.of 5 Tryz.func192 rfl Tryz.ntmps192 rfl λS w0=>?_
 refine sr ?_
 refine bx λb1=>?_
 refine cq ?_
 refine nt ?_
 refine sr ?_
 refine fl KT ?_
 refine lo jW ?_
 refine aq ?_
 refine nt ?_
 refine aA ?_
 cases h
 exact ra
def bT(k:Nat)(a0:ab)(a1:(List Int))(r5:(List Int)):Nat->Int->Option (Except Int Unit)
 |0,_=>none
 |n+1,y6=>
  if y6 < (r5.length:Int) then((aP r5 y6).bind λx8=>
  (cH (0≤x8/\x8 < 5)).bind λ_=>
  (aP a1 x8).bind λe=>
  if(nz 0 a0.2.1)≤e then(some (.error x8)) else((ck (y6+1)).bind λc=>
  bT k a0 a1 r5 n c)) else(some (.ok ()))
def di(k:Nat)(a0:ab)(a1:(List Int))(a2:Int)(a3:Int):Option Int:=
 bE (α:=Unit) ((dT k k a0 a2 a3).bind λr4=>
 (Ie r4 (λn=>ip k n) (λl=>im k l)).bind λr5=>
 bT k a0 a1 r5 k 0) (some) λ_=>
 some (-1:Int)
theorem jH{M:Md Tryz.prog}{bm:Nat}{c0 c1 c2 c3 c4 c5:Value}(hK:Kn M bm 0 [c0,c1,c2,c3,c4,c5])(k:Nat)(a0:ab)(a1:(List Int))(a2:Int)(a3:Int)(r:Int)(h:di k a0 a1 a2 a3=some r):
    bX M 105 [.rep (.mo (Pv bm) [c0,c1,c2,c3,c4,c5] ap) a0,.rep Tr a1,.eq (.int .i64 a2),.eq (.int .i64 a3)] [] (λ_:Unit=>(bI [.eq (.int .i64 r)],[])):=by
  unfold di at h
  replace h:=bg h
  refine bX.of 33 Tryz.func105 rfl Tryz.ntmps105 rfl λS w0=>?_
  refine aj ?_
  refine ae ?_
  refine aV rfl rfl rfl (vV rfl rfl) ⟨rfl,trivial⟩ λb1=>?_
  refine DI rfl ?_
  refine aD ?_
  refine an ?_
  show JC _ _ _ _ _
  refine dI (Z:=Unit) (α:=Unit) (λz3 x2=>[]) (λz3 x2=>[]) (λe=>e=r) h (λe h=>Option.some.inj h) (λK hR h=>?_) (λz3 x2 h=>?_)
  .
    refine aj ?_
    refine ae ?_
    refine gZ rfl rfl ?_
    refine gZ rfl rfl ?_
    refine gZ rfl rfl ?_
    obtain⟨r4,D,h⟩:=aa h
    have E:=lj hK k k a0 a2 a3 r4 D
    refine cg rfl (aU [.tmp 11,.tmp 12,.tmp 13] rfl rfl H2 rfl E) ⟨rfl,rfl,rfl,trivial⟩ ?_
    obtain⟨r5,c,h⟩:=aa h
    refine cg rfl (JU (r:=.rep Tl r5) rfl rfl vp vo (λn hd=>.agI (pP k n r5 (by rw [hd] at c;exact c))) (λl hd=>.agS (pK k l r5 (by rw [hd] at c;exact c)))) ⟨rfl,trivial⟩ ?_
    refine cg rfl (t7 rfl rfl jk) ⟨rfl,trivial⟩ ?_
    refine eX rfl ?_
    refine aD ?_
    refine an ?_
    show JC _ _ _ _ _
    refine ak ?_
    refine aI (λz7 y6=>[(0,.rep (.mo (Pv bm) [c0,c1,c2,c3,c4,c5] ap) a0),(5,.eq (Pv b1)),(15,.rep Tl r5),(16,.eq (.int .i64 (r5.length:Int))),(17,.eq (.int .i64 y6))]) (λz7 y6=>[.obj b1 82 (.rep Tr a1)]) (bT k a0 a1 r5) k () 0 (λ_=>rfl) h (SE.fin [0] ⟨rfl,rfl,rfl,rfl,rfl,trivial⟩ rfl) (λn z7 y6 h=>?_)
    unfold bT at h
    refine aj ?_
    refine ae ?_
    refine cg rfl (bK rfl) ⟨rfl,rfl,trivial⟩ ?_
    refine aD ?_
    refine an ?_
    show JC _ _ _ _ _
    refine aj ?_
    refine iW rfl (λhb=>?_) (λhb=>?_)
    . replace h:=eU (sP hb) h
      refine bq ?_
      refine an ?_
      show JC _ _ _ _ _
      refine aj ?_
      refine ak ?_
      refine aj ?_
      refine ae ?_
      obtain⟨x8,y,h⟩:=aa h
      refine cg rfl (bo (t:=Ti) rfl jk cQ y) ⟨rfl,rfl,trivial⟩ ?_
      refine cg rfl (av (t:=Ti) rfl cQ rfl) ⟨rfl,trivial⟩ ?_
      refine uO rfl rfl ?_
      refine aD ?_
      refine an ?_
      show JC _ _ _ _ _
      refine aj ?_
      refine cO ?_
      refine fj rfl rfl rfl (bD rfl) ⟨rfl,trivial⟩ ?_
      obtain⟨u9,u,h⟩:=aa h
      refine fj rfl rfl rfl (dM rfl BP cQ (am u).1 (am u).2) ⟨rfl,rfl,trivial⟩ ?_
      obtain⟨F,s,h⟩:=aa h
      refine yf 0 rfl rfl rfl rfl (mM (t:=Ti) (off:=0) (i:=x8) (N:=5) rfl cQ (λ_=>rfl) rfl rfl rfl rfl s) ⟨rfl,trivial⟩ ?_
      refine fj rfl rfl rfl (bD rfl) ⟨rfl,trivial⟩ ?_
      refine fj rfl rfl rfl (kZ rfl) ⟨rfl,trivial⟩ ?_
      refine fj rfl rfl rfl (gr rfl gV) ⟨rfl,trivial⟩ ?_
      refine fj rfl rfl rfl (iu 1 false rfl By rfl rfl) ⟨rfl,trivial⟩ ?_
      refine fj rfl rfl rfl (jd (t:=Ti) rfl cQ (hK.sub 1 1 rfl (le_of_ble_eq_true rfl)) rfl rfl) ⟨rfl,trivial⟩ ?_
      refine fj rfl rfl rfl (Cm rfl rfl) ⟨rfl,rfl,trivial⟩ ?_
      refine BV (by kernel_rfl) eo ?_
      refine cg rfl (ko rfl) ⟨rfl,rfl,trivial⟩ ?_
      refine aD ?_
      refine an ?_
      show JC _ _ _ _ _
      refine iW rfl (λhb=>?_) (λhb=>?_)
      . replace h:=eU (sP hb) h
        refine aj ?_
        refine ae ?_
        refine gZ rfl rfl ?_
        refine uO rfl rfl ?_
        refine aD ?_
        refine an ?_
        show JC _ _ _ _ _
        refine aA ?_
        refine bP ?_
        refine bF ?_
        refine bF ?_
        refine bP ?_
        refine bF ?_
        obtain rfl:=hR _ h
        exact aL () [_] 0 ⟨rfl,trivial⟩ rfl
      . replace h:=cV (sQ hb) h
        refine bq ?_
        refine aS ?_
        refine an ?_
        show JC _ _ _ _ _
        refine ae ?_
        obtain⟨x,j,h⟩:=aa h
        refine cg rfl (bG rfl j) ⟨rfl,rfl,trivial⟩ ?_
        refine gZ rfl rfl ?_
        refine aD ?_
        refine an ?_
        exact uP ((),x) h (SE.fin [0] ⟨rfl,rfl,rfl,rfl,rfl,trivial⟩ rfl)
    . replace h:=cV (sQ hb) h
      refine gX ?_
      refine cy ?_
      refine cy ?_
      refine dE ?_
      refine an ?_
      exact uP ((),()) h (SE.fin [] trivial rfl)
  .
    refine aj ?_
    refine ae ?_
    refine DI rfl ?_
    refine aD ?_
    refine an ?_
    show JC _ _ _ _ _
    refine aA ?_
    obtain rfl:=Option.some.inj h
    exact aL () [_] 0 ⟨rfl,trivial⟩ rfl
def co(k:Nat)(a0:ab)(a1:(List Int))(a2:Int):Nat->((List Int)×Int)->Option (List Int)
 |0,_=>none
 |n+1,y6=>
  if y6.2 < a0.1 then((((dT k k a0 y6.2 a2).bind λc=>
  if JI c=true then(if a0.2.2.2.1≤(PO c) then((cH (0≤y6.2/\y6.2 < 5)).bind λ_=>
  some (List.set y6.1 (Int.toNat y6.2) (-1:Int))) else(some y6.1)) else(if¬(JI c=true) then((cH (0≤y6.2/\y6.2 < 5)).bind λ_=>
  (aP a1 y6.2).bind λl=>
  if 0≤l then((cH (0≤y6.2/\y6.2 < 5)).bind λ_=>
  (aP a1 y6.2).bind λj=>
  (ck (j+1)).bind λh=>
  (cH (0≤y6.2/\y6.2 < 5)).bind λ_=>
  some (List.set y6.1 (Int.toNat y6.2) h)) else((di k a0 a1 y6.2 a2).bind λr=>
  if 0≤r then((cH (0≤y6.2/\y6.2 < 5)).bind λ_=>
  some (List.set y6.1 (Int.toNat y6.2) 0)) else(some y6.1))) else(some y6.1))):Option ((List Int))).bind λx8=>
  (ck (y6.2+1)).bind λe=>
  co k a0 a1 a2 n (x8,e)) else(some y6.1)
def gy(k:Nat)(a0:ab)(a1:(List Int))(a2:Int):Option (List Int):=
 ((co k a0 a1 a2 k (a1,0)):Option ((List Int))).bind λx4=>
 some x4
theorem qE{M:Md Tryz.prog}{bm:Nat}{c0 c1 c2 c3 c4 c5:Value}(hK:Kn M bm 0 [c0,c1,c2,c3,c4,c5])(k:Nat)(a0:ab)(a1:(List Int))(a2:Int)(r:(List Int))(h:gy k a0 a1 a2=some r):
 bX M 95 [.rep (.mo (Pv bm) [c0,c1,c2,c3,c4,c5] ap) a0,.rep Tr a1,I a2] [] (λ_:Unit=>(bI [.rep Tr r],[])):=by
 unfold gy at h
 replace h:=bg h
 refine bX.of 60 Tryz.func95 rfl Tryz.ntmps95 rfl λS w0=>?_
 refine sr ?_
 refine bx λb1=>?_
 refine aV rfl rfl rfl (ba rfl I6 Lr) trivial λb2=>?_
 refine nt ?_
 refine sr ?_
 refine fr 1 ?_
 refine lo iZ ?_
 refine aV rfl rfl rfl (ba rfl I6 Lr) trivial λb3=>?_
 refine aH rfl rfl (aF rfl iZ rfl rfl rfl) ⟨rfl,rfl,trivial⟩ ?_
 refine nt ?_
 refine aJ (Z:=Unit) (α:=(List Int)) (λz5 x4=>[(6,Pt b2),(7,Pt b3)]) (λz5 x4=>[.obj b2 82 (.rep Tr [0,0,0,0,0]),.obj b3 82 (.rep Tr x4)]) h (λK h=>?_) (λz5 x4 h=>?_)
 .
  refine sr (mq ?_);refine ja (kZ rfl) ?_;refine ja (gr rfl gV) ?_;refine ja (iu 1 false rfl gI rfl rfl) ?_;refine ja (jd (t:=Ti) rfl cQ (hK.sub 0 1 rfl (le_of_ble_eq_true rfl)) rfl rfl) ?_;refine eX rfl ?_;refine nt (ak (aI (λz7 y6=>[(0,.rep (.mo (Pv bm) [c0,c1,c2,c3,c4,c5] ap) a0),(2,I a2),(4,Pt b1),(6,Pt b2),(7,Pt b3),(16,I a0.1),(17,I y6.2)]) (λz7 y6=>[.obj b1 82 (.rep Tr a1),.obj b2 82 (.rep Tr [0,0,0,0,0]),.obj b3 82 (.rep Tr y6.1)]) (co k a0 a1 a2) k () (a1,0) (λ_=>rfl) h (SE.fin [1,2,0] ⟨rfl,rfl,rfl,rfl,rfl,rfl,rfl,trivial⟩ rfl) (λn z7 y6 h=>?_)));unfold co at h;refine sr (jb (bK rfl) ?_);refine nt (aj (ci h (λh=>?_) (λh=>?_)))
  .refine sk (aJ (Z:=Unit) (α:=(List Int)) (λz9 x8=>[(0,.rep (.mo (Pv bm) [c0,c1,c2,c3,c4,c5] ap) a0),(2,I a2),(4,Pt b1),(6,Pt b2),(7,Pt b3),(16,I a0.1),(17,I y6.2)]) (λz9 x8=>[.obj b1 82 (.rep Tr a1),.obj b2 82 (.rep Tr [0,0,0,0,0]),.obj b3 82 (.rep Tr x8)]) h (λK h=>?_) (λz9 x8 h=>?_))
   .refine ak (sr (mq ?_));refine aq (nt (sr ?_));iterate 3 refine mq ?_
    obtain⟨U,F,h⟩:=aa h;refine jc (aU [.tmp 20,.tmp 21,.tmp 22] rfl rfl H2 rfl (lj hK k k a0 y6.2 a2 U F)) ?_;refine nt (ak (sr (cg rfl (CC rfl FY (by decide)) ⟨rfl,trivial⟩ ?_)));refine xr ?_;refine xr ?_;refine nt (cv h (λh=>?_) (λh=>?_))
    .refine sr (aV rfl rfl rfl (ba rfl Ff MZ) trivial λUk=>?_);refine aH rfl rfl (aF rfl MC trivial rfl rfl) ⟨rfl,rfl,trivial⟩ ?_;refine nt (aj (cO ?_));refine da (aC rfl C9) ?_;refine ea 0 (ay rfl cQ nB rfl) ?_;refine dm ?_;refine da (kZ rfl) ?_;refine da (gr rfl gV) ?_;refine da (iu 1 false rfl HT rfl rfl) ?_;refine da (jd (t:=Ti) rfl cQ (hK.sub 3 1 rfl (le_of_ble_eq_true rfl)) rfl rfl) ?_;refine df eo ?_;refine jb (ko rfl) ?_;refine nt (ci h (λh=>?_) (λh=>?_))
     .refine ae (mq ?_);obtain⟨qt,j,h⟩:=aa h;refine jb (dM rfl BP cQ (am j).1 (am j).2) ?_;refine fr 3 ?_;refine aH rfl rfl (gq (t:=Ti) (off:=0) (i:=y6.2) (N:=5) rfl cQ .int rfl rfl rfl rfl (am j).1 (am j).2 rfl) ⟨rfl,rfl,trivial⟩ ?_;refine aD (aS (bn ?_));exact jz ((),List.set y6.1 (Int.toNat y6.2) (-1:Int)) h [2,3,0]
     .refine bq (aS (bn ?_));exact jz ((),y6.1) h [1,2,3]
    .refine sr (cg rfl (JY rfl Nw (by decide)) ⟨rfl,trivial⟩ ?_);refine xr ?_;refine xr ?_;refine nt (cw h (λh=>?_) (λh=>?_))
     .refine sr (aV rfl rfl rfl (ba rfl L1 QZ) trivial λzz=>?_);refine aH rfl rfl (aF rfl PI trivial rfl rfl) ⟨rfl,rfl,trivial⟩ ?_;refine nt (sr (mq ?_));obtain⟨mw,s,h⟩:=aa h;refine jb (dM rfl BP cQ (am s).1 (am s).2) ?_;obtain⟨Y,D,h⟩:=aa h;refine fr 1 ?_;refine ka (mM (t:=Ti) (off:=0) (i:=y6.2) (N:=5) rfl cQ (λ_=>rfl) rfl rfl rfl rfl D) ?_;refine jb (ko rfl) ?_;refine nt (ci h (λh=>?_) (λh=>?_))
      .refine ae ?_;iterate 2 refine mq ?_
       obtain⟨u16,l,h⟩:=aa h;refine jb (dM rfl BP cQ (am l).1 (am l).2) ?_;obtain⟨X,y,h⟩:=aa h;refine ka (mM (t:=Ti) (off:=0) (i:=y6.2) (N:=5) rfl cQ (λ_=>rfl) rfl rfl rfl rfl y) ?_;obtain⟨O,x,h⟩:=aa h;refine jb (bG rfl x) ?_;obtain⟨mc,e,h⟩:=aa h;refine jb (dM rfl BP cQ (am e).1 (am e).2) ?_;refine fr 3 ?_;refine aH rfl rfl (gq (t:=Ti) (off:=0) (i:=y6.2) (N:=5) rfl cQ .int rfl rfl rfl rfl (am e).1 (am e).2 rfl) ⟨rfl,rfl,trivial⟩ ?_;refine aD (aS (bn ?_));exact jz ((),List.set y6.1 (Int.toNat y6.2) O) h [1,3,0]
      .refine sr (mq ?_);refine lo iZ ?_;iterate 2 refine mq ?_
       obtain⟨Q,E,h⟩:=aa h;refine cg rfl (aU [.tmp 50,.tmp 51,.tmp 52,.tmp 53] rfl rfl MP rfl (jH hK k a0 a1 y6.2 a2 Q E)) ⟨rfl,rfl,rfl,rfl,trivial⟩ ?_;refine jb (ko rfl) ?_;refine nt (ci h (λh=>?_) (λh=>?_))
       .refine ae (mq ?_);obtain⟨gw,c,h⟩:=aa h;refine jb (dM rfl BP cQ (am c).1 (am c).2) ?_;refine fr 3 ?_;refine aH rfl rfl (gq (t:=Ti) (off:=0) (i:=y6.2) (N:=5) rfl cQ .int rfl rfl rfl rfl (am c).1 (am c).2 rfl) ⟨rfl,rfl,trivial⟩ ?_;refine aD (aS (bn ?_));exact jz ((),List.set y6.1 (Int.toNat y6.2) 0) h [1,3,0]
       .refine bq (aS (bn ?_));exact jz ((),y6.1) h [0,2,3]
     .refine bq (aS (bn ?_));exact jz ((),y6.1) h [0,1,2]
   .refine ae ?_;obtain⟨J,u,h⟩:=aa h;refine jb (bG rfl u) ?_;refine mq (nl ?_);exact jz ((),(x8,J)) h [0,1,2]
  .refine xa ?_;exact jz ((),y6.1) h [1,2]
 .
  refine sr (fr 1 ?_);refine lo iZ ?_;refine fr 1 ?_;refine aH rfl rfl (aF rfl iZ rfl rfl rfl) ⟨rfl,rfl,trivial⟩ ?_;refine nt (aA ?_);obtain rfl:=Option.some.inj h;exact aL () [.rep Tr x4] 0 ⟨⟨_,_,_,_,_,rfl,(.head _),iZ,(tq),rfl⟩,trivial⟩ rfl
def hJ(k:Nat)(a0:List Int):Option (List Int):=
 (cH (bJ (length a0))).bind λ_=>some a0
theorem rm(k:Nat)(a0:List Int)(r:List Int)(h:hJ k a0=some r):
 dF Tryz.prog 50 [.rep Tl a0] [] (λz:Value=>(bI [.eq z],[.sl z 3 Ti r])):=by
 unfold hJ at h
 replace h:=bg h
 refine dF.of 8 Tryz.func50 rfl Tryz.ntmps50 rfl λS w0=>?_
 obtain⟨u1,c,h⟩:=aa h
 cases h
 refine sr ?_
 refine cq ?_
 refine nt ?_
 refine aj ?_
 refine sr ?_
 refine mq ?_
 refine aM (Δ:=[]) (F:=_) (λ_ _ _=>ag rfl _) rfl rfl (JW rfl jk) ⟨rfl,rfl,trivial⟩ λb=>?_
 refine nt ?_
 refine iW rfl (λhb=>?_) (λhb=>?_)
 .
  refine sr (cq (nt (rx ?_)));obtain rfl:=b.2 hb;refine bH (SE.nil 3 Ti) ?_;exact aL (.slice none 0 0) [.eq (.slice none 0 0)] 1 ⟨rfl,trivial⟩ rfl
 .
  refine sk (sr (aV rfl rfl rfl (k9 (t:=Ti) [] [] rfl rfl dS .nil rfl rfl) trivial λv1=>?_));refine mq ?_;refine dV rfl rfl rfl (cp rfl rfl dS (by simpa using am c)) ⟨rfl,rfl,trivial⟩ λv2=>?_;refine aq (nt (aA ?_));exact aL v2 [.eq v2] 1 ⟨rfl,trivial⟩ rfl
def iq(k:Nat)(a0:(List Int))(a1:(List Int)):Nat->Int->Option (Except Bool Unit)
 |0,_=>none
 |n+1,y3=>
  if y3 < (a0.length:Int) then((aP a0 y3).bind λx5=>
  (aP a1 y3).bind λx6=>
  if¬(x5=x6) then(some (.error false)) else((ck (y3+1)).bind λx7=>
  iq k a0 a1 n x7)) else(some (.ok ()))
def iQ(k:Nat)(a0:(List Int))(a1:(List Int)):Option Bool:=
 if¬((a0.length:Int)=(a1.length:Int)) then(some false) else(bE (α:=Unit) (iq k a0 a1 k 0) (some) λ_=>
 some true)
theorem kh(k:Nat)(a0:(List Int))(a1:(List Int))(r:Bool)(h:iQ k a0 a1=some r):
 dF Tryz.prog 23 [.rep Tl a0,.rep Tl a1] [] (λ_:Unit=>(bI [.eq (.bool r)],[])):=by
 unfold iQ at h
 replace h:=bg h
 refine dF.of 26 Tryz.func23 rfl Tryz.ntmps23 rfl λS w0=>?_
 refine sr ?_
 refine cq ?_
 refine nt ?_
 refine aj ?_
 refine sr ?_
 refine mq ?_
 refine ol jk ?_
 refine mq ?_
 refine ol jk ?_
 refine jb (fq rfl) ?_
 refine nt ?_
 refine cn h (λh=>?_) (λh=>?_)
 .
  refine sr (cq (nt (rx ?_)));cases h;exact ra
 .
  refine sk (dI (Z:=Unit) (α:=Unit) (λz2 x1=>[]) (λz2 x1=>[]) (λe=>e=r) h (λe h=>Option.some.inj h) (λK hR h=>?_) (λz2 x1 h=>?_))
  .refine sr (cq (nt (ak ?_)));refine aI (λz4 y3=>[(0,.rep Tl a0),(1,.rep Tl a1),(5,I y3)]) (λz4 y3=>[]) (iq k a0 a1) k () 0 (λ_=>rfl) h (SE.fin [] ⟨rfl,rfl,rfl,trivial⟩ rfl) (λn z4 y3 h=>?_);unfold iq at h;refine aj (sr ?_);iterate 2 refine mq ?_
   refine ol jk ?_;refine jb (bK rfl) ?_;refine nt (ci h (λh=>?_) (λh=>?_))
   .refine sk (aj (ak (aj (cO ?_))));refine dm ?_;refine dm ?_;obtain⟨x5,l,h⟩:=aa h;refine db (bo (t:=Ti) rfl jk cQ l) ?_;refine da (av (t:=Ti) rfl cQ rfl) ?_;refine dm ?_;refine dm ?_;obtain⟨x6,j,h⟩:=aa h;refine db (bo (t:=Ti) rfl jk cQ j) ?_;refine da (av (t:=Ti) rfl cQ rfl) ?_;refine df eo ?_;refine jb (fq rfl) ?_;refine nt (cn h (λh=>?_) (λh=>?_))
    .refine sr (cq (nt (aA (br (bP (bF ?_))))));obtain rfl:=hR _ h;exact ra
    .refine bq (aS (tn (ae (mq ?_))));obtain⟨x7,c,h⟩:=aa h;refine jb (bG rfl c) ?_;refine aq (nl ?_);exact jz ((),x7) h []
   .refine xa ?_;exact jz ((),()) h []
  .refine sr (cq (nt (aA ?_)));cases h;exact ra
def gR(k:Nat)(a0:(List (List Int)))(a1:(List (List Int))):Nat->Int->Option (Except Bool Unit)
 |0,_=>none
 |n+1,y3=>
  if y3 < (a0.length:Int) then((aP a0 y3).bind λx5=>
  (aP a1 y3).bind λx6=>
  (iQ k x5 x6).bind λr7=>
  if¬(r7=true) then(some (.error false)) else((ck (y3+1)).bind λx8=>
  gR k a0 a1 n x8)) else(some (.ok ()))
def jA(k:Nat)(a0:(List (List Int)))(a1:(List (List Int))):Option Bool:=
 if¬((a0.length:Int)=(a1.length:Int)) then(some false) else(bE (α:=Unit) (gR k a0 a1 k 0) (some) λ_=>
 some true)
theorem mt(k:Nat)(a0:(List (List Int)))(a1:(List (List Int)))(r:Bool)(h:jA k a0 a1=some r):
 dF Tryz.prog 21 [.rep (.slice Tl) a0,.rep (.slice Tl) a1] [] (λ_:Unit=>(bI [.eq (.bool r)],[])):=by
 unfold jA at h
 replace h:=bg h
 refine dF.of 27 Tryz.func21 rfl Tryz.ntmps21 rfl λS w0=>?_
 refine sr ?_
 refine cq ?_
 refine nt ?_
 refine aj ?_
 refine sr ?_
 refine mq ?_
 refine ol s9 ?_
 refine mq ?_
 refine ol s9 ?_
 refine jb (fq rfl) ?_
 refine nt ?_
 refine cn h (λh=>?_) (λh=>?_)
 .
  refine sr (cq (nt (rx ?_)));cases h;exact ra
 .
  refine sk (dI (Z:=Unit) (α:=Unit) (λz2 x1=>[]) (λz2 x1=>[]) (λe=>e=r) h (λe h=>Option.some.inj h) (λK hR h=>?_) (λz2 x1 h=>?_))
  .refine sr (cq (nt (ak ?_)));refine aI (λz4 y3=>[(0,.rep (.slice Tl) a0),(1,.rep (.slice Tl) a1),(5,I y3)]) (λz4 y3=>[]) (gR k a0 a1) k () 0 (λ_=>rfl) h (SE.fin [] ⟨rfl,rfl,rfl,trivial⟩ rfl) (λn z4 y3 h=>?_);unfold gR at h;refine aj (sr ?_);iterate 2 refine mq ?_
   refine ol s9 ?_;refine jb (bK rfl) ?_;refine nt (ci h (λh=>?_) (λh=>?_))
   .refine sk (aj (ak (aj (cO ?_))));refine dm ?_;refine dm ?_;obtain⟨x5,l,h⟩:=aa h;refine db (bo (t:=Tl) rfl s9 jW l) ?_;refine da (av (t:=Tl) rfl jW rfl) ?_;refine dm ?_;refine dm ?_;obtain⟨x6,j,h⟩:=aa h;refine db (bo (t:=Tl) rfl s9 jW j) ?_;refine da (av (t:=Tl) rfl jW rfl) ?_;refine df eo ?_;obtain⟨r7,s,h⟩:=aa h;refine jb (au [.tmp 20,.tmp 24] rfl rfl Ox rfl (kh k x5 x6 r7 s)) ?_;refine ja (iK rfl) ?_;refine nt (cw h (λh=>?_) (λh=>?_))
    .refine sr (cq (nt (aA (br (bP (bF ?_))))));obtain rfl:=hR _ h;exact ra
    .refine bq (aS (tn (ae (mq ?_))));obtain⟨x8,c,h⟩:=aa h;refine jb (bG rfl c) ?_;refine aq (nl ?_);exact jz ((),x8) h []
   .refine xa ?_;exact jz ((),()) h []
  .refine sr (cq (nt (aA ?_)));cases h;exact ra
def de{σ:Type}(k:Nat)(a0:Int)(a3:Int)(self:Int->Int->σ->Option (Bool×σ)):Nat->(Int×σ)->Option (Except (Bool×σ) (σ))
 |0,_=>none
 |n+1,y5=>
  if y5.1 < a3 then((fL k a0 y5.1).bind λr7=>
  (ck (y5.1+1)).bind λx8=>
  (self r7 x8 y5.2).bind λr9=>
  if¬(r9.1=true) then(some (.error (false,r9.2))) else((ck (y5.1+1)).bind λc=>
  de k a0 a3 self n (c,r9.2))) else(some (.ok y5.2))
def dh{σ:Type}(k:Nat)(Y:σ->Int->Option (σ×Bool))(a3:Int):Nat->Int->Int->σ->Option (Bool×σ)
 |0,_,_,_=>none
 |m0+1,a0,a1,s0=>
  (Y s0 a0).bind λr1=>
  if¬(r1.2=true) then(some (false,r1.1)) else(bE (α:=σ) (de k a0 a3 (dh k Y a3 m0) k (a1,r1.1)) (some) λx3=>
  some (true,x3))
theorem rN{M:Md Tryz.prog}{σ Z:Type}(E:Z->σ->List D)(l:Nat)(Y:σ->Int->Option (σ×Bool))(k:Nat)(u:Nat)(a3:Int)(j:Nat)(c:Nat)(hY:∀z s p r,Y s p=some r->YT M l [.eq (.int .u8 p)] (E z s) (λz':Z=>(.eq (.bool r.2),E z' r.1))):
 ∀(n:Nat) (a0:Int) (a1:Int) (z0:Z) (s0:σ) (r:Bool×σ),dh k Y a3 n a0 a1 s0=some r->bX M 107 [.eq (.int .u8 a0),I a1,Pt u,Pt j,Pt c] ([.obj u 122 (.eq (.func (.yield l) #[] #[])),.obj j 3 (I a3),.obj c 121 (.eq (.func (.func 107) #[] #[(Pv u),(Pv j),(Pv c)]))]++E z0 s0) (λz:Z=>(bI [.eq (.bool r.1)],[.obj u 122 (.eq (.func (.yield l) #[] #[])),.obj j 3 (I a3),.obj c 121 (.eq (.func (.func 107) #[] #[(Pv u),(Pv j),(Pv c)]))]++E z r.2)):=by
 intro n
 induction n with
 |zero=>intro a0 a1 z0 s0 r h;cases h
 |succ m0 ih=>
  intro a0 a1 z0 s0 r h;rw [dh] at h;replace h:=bg h;refine bX.of 27 Tryz.func107 rfl Tryz.ntmps107 rfl λS w0=>?_;refine sr (cq (nt (aj (sr ?_))));refine lo PK ?_;refine mq ?_;obtain⟨r1,U,h⟩:=aa h;refine fr 2 ?_;refine fr 2 ?_;refine fr 2 ?_;refine IJ [.obj u 122 (.eq (.func (.yield l) #[] #[])),.obj j 3 (I a3),.obj c 121 (.eq (.func (.func 107) #[] #[(Pv u),(Pv j),(Pv c)]))] rfl rfl rfl (JM [.tmp 10] rfl rfl rfl (hY z0 s0 a0 r1 U)) ⟨rfl,rfl,trivial⟩ λz2=>?_;refine ja (iK rfl) ?_;refine nt (cw h (λh=>?_) (λh=>?_))
  .refine sr (cq (nt (rx ?_)));cases h;exact tB z2 [_] ⟨rfl,trivial⟩ rfl
  .refine sk (dI (Z:=Z) (α:=σ) (λz4 x3=>[]) (λz4 x3=>[.obj u 122 (.eq (.func (.yield l) #[] #[])),.obj j 3 (I a3),.obj c 121 (.eq (.func (.func 107) #[] #[(Pv u),(Pv j),(Pv c)]))]++E z4 x3) (λe=>e=r) h (λe h=>Option.some.inj h) (λK hR h=>?_) (λz4 x3 h=>?_))
   .refine sr (mq ?_);refine aq (nt (ak ?_));refine aI (Z:=Z) (α:=Int×σ) (λz6 y5=>[(0,.eq (.int .u8 a0)),(3,Pt j),(4,Pt c),(8,I y5.1)]) (λz6 y5=>[.obj j 3 (I a3),.obj c 121 (.eq (.func (.func 107) #[] #[(Pv u),(Pv j),(Pv c)])),.obj u 122 (.eq (.func (.yield l) #[] #[]))]++E z6 y5.2) (de k a0 a3 (dh k Y a3 m0)) k z2 (a1,r1.1) (λ_=>rfl) h (kH [.obj u 122 (.eq (.func (.yield l) #[] #[])),.obj j 3 (I a3),.obj c 121 (.eq (.func (.func 107) #[] #[(Pv u),(Pv j),(Pv c)]))] (E z2 r1.1) [1,2,0] ⟨rfl,rfl,rfl,rfl,trivial⟩ rfl) (λn z6 y5 h=>?_);unfold de at h;refine aj (sr (mq ?_));refine lo cQ ?_;refine jb (bK rfl) ?_;refine nt (ci h (λh=>?_) (λh=>?_))
    .refine sk (aj (ak (aj (cO ?_))));refine ea 1 (ay rfl F5 nB rfl) ?_;refine dm ?_;refine dm ?_;obtain⟨r7,Q,h⟩:=aa h;refine db (au [.tmp 20,.tmp 21] rfl rfl Ot rfl (j8 k a0 y5.1 r7 Q)) ?_;refine dm ?_;obtain⟨x8,J,h⟩:=aa h;refine db (bG rfl J) ?_;refine df eo ?_;obtain⟨r9,O,h⟩:=aa h;refine fr 1 ?_;refine fr 1 ?_;refine fr 2 ?_;refine Ai rfl rfl rfl (qy (fs:=[]) (cs:=[(Pv u),(Pv j),(Pv c)]) (ags:=[.eq (.int .u8 r7),I x8]) [.tmp 22,.tmp 24] rfl rfl MN rfl (ih r7 x8 z6 y5.2 r9 O)) ⟨rfl,rfl,rfl,trivial⟩ λx=>?_;refine ja (iK rfl) ?_;refine nt (cw h (λh=>?_) (λh=>?_))
     .refine sr (cq (nt (aA (br (bP (bF ?_))))));obtain rfl:=hR _ h;exact tB x [_] ⟨rfl,trivial⟩ rfl
     .refine bq (aS (tn (ae (mq ?_))));obtain⟨F,y,h⟩:=aa h;refine jb (bG rfl y) ?_;refine aq (nl ?_);exact uP (x,(F,r9.2)) h (kH [.obj u 122 (.eq (.func (.yield l) #[] #[])),.obj j 3 (I a3),.obj c 121 (.eq (.func (.func 107) #[] #[(Pv u),(Pv j),(Pv c)]))] (E x r9.2) [1,2,0] ⟨rfl,rfl,rfl,rfl,trivial⟩ rfl)
    .refine xa ?_;exact uP (z6,y5.2) h (kH [.obj j 3 (I a3),.obj c 121 (.eq (.func (.func 107) #[] #[(Pv u),(Pv j),(Pv c)])),.obj u 122 (.eq (.func (.yield l) #[] #[]))] (E z6 y5.2) [2,0,1] trivial rfl)
   .refine sr (cq (nt (aA ?_)));cases h;exact tB z4 [_] ⟨rfl,trivial⟩ rfl
def jI{σ:Type}(k:Nat)(Y:σ->Int->Option (σ×Bool))(a1:Int)(s0:σ):Option (σ):=
 (dh k Y a1 k 0 0 s0).bind λr3=>
 some r3.2
theorem nY{M:Md Tryz.prog}{σ Z:Type}(E:Z->σ->List D)(l:Nat)(Y:σ->Int->Option (σ×Bool))(k:Nat)(a1:Int)(c:Nat)(hY:∀z s p r,Y s p=some r->YT M l [.eq (.int .u8 p)] (E z s) (λz':Z=>(.eq (.bool r.2),E z' r.1))):
 ∀(z0:Z) (s0:σ) (r:σ),jI k Y a1 s0=some r->bX M 106 [.eq (.func (.yield l) #[] #[]),Pt c] ([.obj c 3 (I a1)]++E z0 s0) (λz:Z=>(bI [],[.obj c 3 (I a1)]++E z r)):=by
 intro z0 s0 r h
 unfold jI at h
 replace h:=bg h
 refine bX.of 7 Tryz.func106 rfl Tryz.ntmps106 rfl λS w0=>?_
 refine sr ?_
 refine bx λb1=>?_
 refine nt ?_
 refine sr ?_
 refine aV rfl rfl rfl (ba rfl Pn Q0) trivial λb2=>?_
 refine nt ?_
 refine sr ?_
 refine jc (rD [] [.tmp 2,.tmp 1,.tmp 3] [] [(Pv b1),(Pv c),(Pv b2)] rfl rfl rfl) ?_
 refine aH rfl rfl (aF rfl F5 rfl rfl rfl) ⟨rfl,rfl,trivial⟩ ?_
 refine nt ?_
 refine ae ?_
 refine lo F5 ?_
 obtain⟨r3,e,h⟩:=aa h
 have j:=rN E l Y k b1 a1 c b2 hY k 0 0 z0 s0 r3 e
 refine fr 2 ?_
 refine fr 2 ?_
 refine Ai rfl rfl rfl (qy (fs:=[]) (cs:=[(Pv b1),(Pv c),(Pv b2)]) (ags:=[.eq (.int .u8 0),I 0]) [.const (.int .u8 (0)),.const (.int .i64 (0))] rfl rfl MN rfl j) ⟨rfl,rfl,rfl,trivial⟩ λz4=>?_
 refine aD ?_
 refine jU ?_
 refine bH (kH (Γ':=[]) [.obj b1 122 (.eq (.func (.yield l) #[] #[])),.obj c 3 (I a1),.obj b2 121 (.eq (.func (.func 107) #[] #[(Pv b1),(Pv c),(Pv b2)]))] (E z4 r3.2) [1] trivial rfl) ?_
 cases h
 exact tB z4 [] trivial rfl
theorem qG(a0:Int):dF Tryz.prog 84 [I a0] [] (λz:Nat=>(bI [.eq (.func (.func 106) #[] #[(Pv z)])],[.obj z 3 (I a0)])):=by
 refine dF.of 4 Tryz.func84 rfl Tryz.ntmps84 rfl λS w0=>?_;refine sr (bx λz=>?_);refine cq (nt (sr ?_));refine ja (rD [] [.tmp 1] [] [(Pv z)] rfl rfl rfl) ?_;refine aq (nt (aA ?_));exact aL z [_] 1 ⟨rfl,trivial⟩ rfl
def dL(k:Nat)(a0:(List Int)):Nat->(Int×Int)->Option Int
 |0,_=>none
 |n+1,y4=>
  if y4.2 < (a0.length:Int) then((aP a0 y4.2).bind λx6=>
  (ck (y4.2+1)).bind λx7=>
  dL k a0 n (iT y4.1 x6,x7)) else(some y4.1)
def ix(k:Nat)(a0:(List Int)):Option Int:=
 if(a0.length:Int) < 1 then(none) else((aP a0 0).bind λx1=>
 ((dL k a0 k (x1,1)):Option (Int)).bind λx2=>
 some x2)
theorem nJ(k:Nat)(a0:(List Int))(r:Int)(h:ix k a0=some r):
 dF Tryz.prog 61 [.rep Tl a0] [] (λ_:Unit=>(bI [I r],[])):=by
 unfold ix at h
 replace h:=bg h
 refine dF.of 25 Tryz.func61 rfl Tryz.ntmps61 rfl λS w0=>?_
 refine sr ?_
 refine cq ?_
 refine nt ?_
 refine aj ?_
 refine sr ?_
 refine mq ?_
 refine ol jk ?_
 refine jb (bK rfl) ?_
 refine nt ?_
 refine ci h (λh=>?_) (λh=>?_)
 .
  cases h
 .
  refine sk (sr (mq ?_));obtain⟨x1,j,h⟩:=aa h;refine jb (bo (t:=Ti) rfl jk cQ j) ?_;refine ja (av (t:=Ti) rfl cQ rfl) ?_;refine aq (nt ?_);refine aJ (Z:=Unit) (α:=Int) (λz3 x2=>[(3,I x2)]) (λz3 x2=>[]) h (λK h=>?_) (λz3 x2 h=>?_)
  .refine sr (cq (nt (ak ?_)));refine aI (λz5 y4=>[(0,.rep Tl a0),(3,I y4.1),(4,I y4.2)]) (λz5 y4=>[]) (dL k a0) k () (x1,1) (λ_=>rfl) h (SE.fin [] ⟨rfl,rfl,rfl,trivial⟩ rfl) (λn z5 y4 h=>?_);unfold dL at h;refine aj (sr ?_);iterate 2 refine mq ?_
   refine ol jk ?_;refine jb (bK rfl) ?_;refine nt (ci h (λh=>?_) (λh=>?_))
   .refine sk (aj (ak (ae ?_)));iterate 3 refine mq ?_
    obtain⟨x6,e,h⟩:=aa h;refine jb (bo (t:=Ti) rfl jk cQ e) ?_;refine ja (av (t:=Ti) rfl cQ rfl) ?_;refine jb (PW rfl rfl) ?_;refine aq (aD (aS (tn (ae ?_))));refine mq ?_;obtain⟨x7,c,h⟩:=aa h;refine jb (bG rfl c) ?_;refine aq (nl ?_);exact jz ((),(iT y4.1 x6,x7)) h []
   .refine xa ?_;exact jz ((),y4.1) h []
  .refine sr (mq ?_);refine aq (nt (aA ?_));cases h;exact ra
def dn(k:Nat)(a0:Int):Nat->((List Int)×Int)->Option (List Int)
 |0,_=>none
 |n+1,y3=>
  if y3.2 < 5 then((((eL k a0 y3.2).bind λr7=>
  if r7=true then((cH (bJ (length y3.1+length [y3.2]))).bind λ_=>
  some (y3.1++[y3.2])) else(some y3.1)):Option ((List Int))).bind λx5=>
  (ck (y3.2+1)).bind λc=>
  dn k a0 n (x5,c)) else(some y3.1)
def fM(k:Nat)(a0:Int):Option (List Int):=
 ((dn k a0 k (([]:(List Int)),0)):Option ((List Int))).bind λx1=>
 some x1
theorem j9(k:Nat)(a0:Int)(r:(List Int))(h:fM k a0=some r):
 dF Tryz.prog 69 [.eq (.int .u8 a0)] [] (λ_:Unit=>(bI [.rep Tl r],[])):=by
 unfold fM at h
 replace h:=bg h
 refine dF.of 17 Tryz.func69 rfl Tryz.ntmps69 rfl λS w0=>?_
 refine sr ?_
 refine cq ?_
 refine nt ?_
 refine sr ?_
 refine cq ?_
 refine nt ?_
 refine aJ (Z:=Value) (α:=(List Int)) (λz2 x1=>[(3,.eq z2)]) (λz2 x1=>[.sl z2 3 Ti x1]) h (λK h=>?_) (λz2 x1 h=>?_)
 .
  refine sr (eX rfl ?_);refine nt (ak (iD (SE.nil 3 Ti) ?_));refine aI (λz4 y3=>[(0,.eq (.int .u8 a0)),(3,.eq z4),(5,I y3.2)]) (λz4 y3=>[.sl z4 3 Ti y3.1]) (dn k a0) k (.slice none 0 0) (([]:(List Int)),0) (λ_=>rfl) h (SE.fin [0] ⟨rfl,rfl,rfl,trivial⟩ rfl) (λn z4 y3 h=>?_);unfold dn at h;refine sr (jb (bK rfl) ?_);refine nt (aj (ci h (λh=>?_) (λh=>?_)))
  .refine sk (aJ (Z:=Value) (α:=(List Int)) (λz6 x5=>[(0,.eq (.int .u8 a0)),(3,.eq z6),(5,I y3.2)]) (λz6 x5=>[.sl z6 3 Ti x5]) h (λK h=>?_) (λz6 x5 h=>?_))
   .refine ak (sr (mq ?_));refine aq (nt (sr ?_));iterate 2 refine mq ?_
    obtain⟨r7,l,h⟩:=aa h;refine jb (au [.tmp 8,.tmp 9] rfl rfl HZ rfl (gx k a0 y3.2 r7 l)) ?_;refine nt (cv h (λh=>?_) (λh=>?_))
    .refine ae ?_;iterate 2 refine mq ?_
     refine ja (bb (t:=Ti) [(.tmp 12,_)] [y3.2] rfl rfl dS (.cons rfl .int .nil) rfl rfl) ?_;obtain⟨u8,j,h⟩:=aa h;refine dV rfl rfl rfl (cp rfl rfl dS (am j)) ⟨rfl,rfl,trivial⟩ λv9=>?_;refine aq (aD (bn ?_));exact jz (v9,y3.1++[y3.2]) h [0]
    .refine bq (bn ?_);exact jz (z4,y3.1) h [0]
   .refine ae ?_;obtain⟨e,c,h⟩:=aa h;refine jb (bG rfl c) ?_;refine mq (nl ?_);exact jz (z6,(x5,e)) h [0]
  .refine xa ?_;exact jz (z4,y3.1) h [0]
 .
  refine sr (mq ?_);refine aq (nt (aA ?_));refine bH (jo [2,3,16] ⟨rfl,rfl,rfl,trivial⟩) ?_;cases h;exact ra
def fG(k:Nat):Nat->((List Int)×Int×Int)->Option (List Int)
 |0,_=>none
 |n+1,y2=>
  if y2.2.1 < y2.2.2 then((aP y2.1 y2.2.2).bind λx4=>
  (aP y2.1 y2.2.1).bind λx5=>
  (aP y2.1 y2.2.1).bind λx6=>
  (aP (List.set y2.1 (Int.toNat y2.2.1) x4) y2.2.2).bind λx7=>
  (ck (y2.2.1+1)).bind λx8=>
  (ck (y2.2.2 - 1)).bind λx9=>
  fG k n (List.set (List.set y2.1 (Int.toNat y2.2.1) x4) (Int.toNat y2.2.2) x5,x8,x9)) else(some y2.1)
def jX(k:Nat)(a0:(List Int)):Option (List Int):=
 (ck ((a0.length:Int) - 1)).bind λx1=>
 fG k k (a0,0,x1)
theorem pC(k:Nat)(a0:(List Int))(c:Value)(r:(List Int))(h:jX k a0=some r):
 dF Tryz.prog 80 [.eq c] [.sl c 3 Ti a0] (λ_:Unit=>(bI [],[.sl c 3 Ti r])):=by
 unfold jX at h
 replace h:=bg h
 refine dF.of 28 Tryz.func80 rfl Tryz.ntmps80 rfl λS w0=>?_
 refine sr ?_
 refine mq ?_
 refine ka (mg rfl rfl jk) ?_
 obtain⟨x1,mc,h⟩:=aa h
 refine jb (eD rfl mc) ?_
 refine cq ?_
 refine aq ?_
 refine nt ?_
 refine ak ?_
 refine aI (λz3 y2=>[(0,.eq c),(2,I y2.2.1),(3,I y2.2.2)]) (λz3 y2=>[.sl c 3 Ti y2.1]) (fG k) k () (a0,0,x1) (λ_=>rfl) h (SE.fin [0] ⟨rfl,rfl,rfl,trivial⟩ rfl) (λn z3 y2 h=>?_)
 unfold fG at h
 refine aj ?_
 refine sr ?_
 iterate 2 refine mq ?_
 refine jb (bK rfl) ?_
 refine nt ?_
 refine ci h (λh=>?_) (λh=>?_)
 .
  refine sk (aj (ak (qX ?_)));refine bR rfl rfl rfl (bD rfl) ⟨rfl,trivial⟩ ?_;refine bR rfl rfl rfl (bD rfl) ⟨rfl,trivial⟩ ?_;refine bR rfl rfl rfl (bD rfl) ⟨rfl,trivial⟩ ?_;refine bR rfl rfl rfl (bD rfl) ⟨rfl,trivial⟩ ?_;refine bR rfl rfl rfl (bD rfl) ⟨rfl,trivial⟩ ?_;refine bR rfl rfl rfl (bD rfl) ⟨rfl,trivial⟩ ?_;obtain⟨x4,D,h⟩:=aa h;refine hH 0 rfl rfl rfl rfl (cJ (t:=Ti) rfl jk cQ D) ⟨rfl,rfl,trivial⟩ ?_;refine hH 0 rfl rfl rfl rfl (gP (i:=Int.toNat y2.2.2) (off:=0) rfl cQ (λ_=>rfl) rfl (dC D).2.2 rfl) ⟨rfl,trivial⟩ ?_;refine bR rfl rfl rfl (bD rfl) ⟨rfl,trivial⟩ ?_;refine bR rfl rfl rfl (bD rfl) ⟨rfl,trivial⟩ ?_;obtain⟨x5,y,h⟩:=aa h;refine hH 0 rfl rfl rfl rfl (cJ (t:=Ti) rfl jk cQ y) ⟨rfl,rfl,trivial⟩ ?_;refine hH 0 rfl rfl rfl rfl (gP (i:=Int.toNat y2.2.1) (off:=0) rfl cQ (λ_=>rfl) rfl (dC y).2.2 rfl) ⟨rfl,trivial⟩ ?_;obtain⟨x6,x,h⟩:=aa h;refine hH 0 rfl rfl rfl rfl (cJ (t:=Ti) rfl jk cQ x) ⟨rfl,rfl,trivial⟩ ?_;refine uR 13 [true,true,false,false,true,true,true,true,true,true,true,true,true] [27] [] [] rfl (by kernel_rfl) (by kernel_rfl) (by kernel_rfl) eo (λvs hv hB=>?_);obtain⟨w0,Uy,rfl,Y⟩:=ax hv;obtain⟨w1,Ux,rfl,X⟩:=ax Y;obtain⟨w2,Uw,rfl,U⟩:=ax X;obtain⟨w3,Uu,rfl,Q⟩:=ax U;obtain⟨w4,Ut,rfl,O⟩:=ax Q;obtain⟨w5,Us,rfl,M⟩:=ax O;obtain⟨w6,Ur,rfl,J⟩:=ax M;obtain⟨w7,Up,rfl,F⟩:=ax J;obtain⟨w8,Uo,rfl,E⟩:=ax F;obtain⟨w9,Uk,rfl,s⟩:=ax E;obtain⟨Un,zz,rfl,l⟩:=ax s;obtain⟨Um,qt,rfl,j⟩:=ax l;obtain⟨Ul,mw,rfl,e⟩:=ax j;obtain rfl:=qI e;refine⟨[0],[.sl c 3 Ti y2.1],by kernel_rfl,by decide,?_⟩;refine sD rfl rfl (gp (i:=Int.toNat y2.2.1) rfl cQ rfl (mX x) rfl .int rfl) ⟨rfl,rfl,trivial⟩ (by kernel_rfl) ?_;obtain⟨x7,u,h⟩:=aa h;refine uN rfl rfl rfl rfl (cJ (t:=Ti) rfl jk cQ u) ⟨rfl,rfl,trivial⟩ (by kernel_rfl) ?_;refine sD rfl rfl (gp (i:=Int.toNat y2.2.2) rfl cQ rfl (mX u) rfl .int rfl) ⟨rfl,rfl,trivial⟩ (by kernel_rfl) ?_;refine yc ?_;refine bH (SE.fin (Γ':=[(0,.eq c),(2,I y2.2.1),(3,I y2.2.2)]) (Δ':=[.sl c 3 Ti (List.set (List.set y2.1 (Int.toNat y2.2.1) x4) (Int.toNat y2.2.2) x5)]) [0] ⟨rfl,rfl,rfl,trivial⟩ rfl) ?_;refine aS (tn (ae (mq ?_)));obtain⟨x8,gw,h⟩:=aa h;refine jb (bG rfl gw) ?_;refine mq ?_;obtain⟨x9,Z,h⟩:=aa h;refine jb (eD rfl Z) ?_;refine aq ?_;refine aq (nl ?_);exact jz ((),(List.set (List.set y2.1 (Int.toNat y2.2.1) x4) (Int.toNat y2.2.2) x5,x8,x9)) h [0]
 .
  refine gX (cy (cy (dE (jU ?_))));cases h;exact aL () [] 1 trivial rfl
def iH(k:Nat)(a0:(List Int)):Nat->(Int×Int)->Option Int
 |0,_=>none
 |n+1,y4=>
  if y4.2 < (a0.length:Int) then((aP a0 y4.2).bind λx6=>
  (ck (y4.2+1)).bind λx7=>
  iH k a0 n (nz y4.1 x6,x7)) else(some y4.1)
def nK(k:Nat)(a0:(List Int)):Option Int:=
 if(a0.length:Int) < 1 then(none) else((aP a0 0).bind λx1=>
 ((iH k a0 k (x1,1)):Option (Int)).bind λx2=>
 some x2)
theorem tO(k:Nat)(a0:(List Int))(r:Int)(h:nK k a0=some r):
 dF Tryz.prog 83 [.rep Tl a0] [] (λ_:Unit=>(bI [I r],[])):=by
 unfold nK at h
 replace h:=bg h
 refine dF.of 25 Tryz.func83 rfl Tryz.ntmps83 rfl λS w0=>?_
 refine sr ?_
 refine cq ?_
 refine nt ?_
 refine aj ?_
 refine sr ?_
 refine mq ?_
 refine ol jk ?_
 refine jb (bK rfl) ?_
 refine nt ?_
 refine ci h (λh=>?_) (λh=>?_)
 .
  cases h
 .
  refine sk (sr (mq ?_));obtain⟨x1,j,h⟩:=aa h;refine jb (bo (t:=Ti) rfl jk cQ j) ?_;refine ja (av (t:=Ti) rfl cQ rfl) ?_;refine aq (nt ?_);refine aJ (Z:=Unit) (α:=Int) (λz3 x2=>[(3,I x2)]) (λz3 x2=>[]) h (λK h=>?_) (λz3 x2 h=>?_)
  .refine sr (cq (nt (ak ?_)));refine aI (λz5 y4=>[(0,.rep Tl a0),(3,I y4.1),(4,I y4.2)]) (λz5 y4=>[]) (iH k a0) k () (x1,1) (λ_=>rfl) h (SE.fin [] ⟨rfl,rfl,rfl,trivial⟩ rfl) (λn z5 y4 h=>?_);unfold iH at h;refine aj (sr ?_);iterate 2 refine mq ?_
   refine ol jk ?_;refine jb (bK rfl) ?_;refine nt (ci h (λh=>?_) (λh=>?_))
   .refine sk (aj (ak (ae ?_)));iterate 3 refine mq ?_
    obtain⟨x6,e,h⟩:=aa h;refine jb (bo (t:=Ti) rfl jk cQ e) ?_;refine ja (av (t:=Ti) rfl cQ rfl) ?_;refine jb (Cm rfl rfl) ?_;refine aq (aD (aS (tn (ae ?_))));refine mq ?_;obtain⟨x7,c,h⟩:=aa h;refine jb (bG rfl c) ?_;refine aq (nl ?_);exact jz ((),(nz y4.1 x6,x7)) h []
   .refine xa ?_;exact jz ((),y4.1) h []
  .refine sr (mq ?_);refine aq (nt (aA ?_));cases h;exact ra
def gB(k:Nat)(a0:Int)(a1:Int)(a2:Bool):Option aQ:=
 some (a0,a1,a2)
theorem jy(k:Nat)(a0:Int)(a1:Int)(a2:Bool)(r:aQ)(h:gB k a0 a1 a2=some r):
 dF Tryz.prog 29 [I a0,I a1,.eq (.bool a2)] [] (λ_:Unit=>(bI [.rep aY r],[])):=by
 unfold gB at h
 replace h:=bg h
 refine dF.of 11 Tryz.func29 rfl Tryz.ntmps29 rfl λS w0=>?_
 refine sr ?_
 refine aV rfl rfl rfl (ba rfl AC Io) trivial λb1=>?_
 refine nt ?_
 refine sr ?_
 iterate 3 refine mq ?_
 refine jc (dX [(0,.tmp 7,_),(1,.tmp 8,_),(2,.tmp 9,_)] rfl PP AC MV (jD ⟨rfl,rfl,rfl,trivial⟩) rfl) ?_
 refine aH rfl rfl (aF rfl rl trivial rfl rfl) ⟨rfl,rfl,trivial⟩ ?_
 refine nt ?_
 refine aA ?_
 refine bH (gh (a:=.agg (.pair (I a0) (.pair (I a1) (.eq (.bool a2))))) (a':=.rep aY (a0,a1,a2)) (iY (.agg (.pair .int (.pair .int .bool))))) ?_
 cases h
 exact aL () [.rep aY (a0,a1,a2)] 0 ⟨⟨_,_,_,_,_,rfl,(.head _),rl,(tq),rfl⟩,trivial⟩ rfl
def iC(k:Nat)(a0:(List aQ)):Option ab:=
 (gB k 1 2 true).bind λr2=>
 (gB k 2 1 false).bind λr3=>
 (gB k 3 3 false).bind λr4=>
 (cH (bJ (length [r2,r3,r4]+length a0))).bind λ_=>
 some (4,1,1,2,[[[0,1,2],[3]],[[0,1],[2,3]],[[1,2,3]],[[1,3],[2]]],[r2,r3,r4]++a0)
theorem gQ(k:Nat)(a0:(List aQ))(r:ab)(h:iC k a0=some r):
 dF Tryz.prog 44 [Rs aY a0] [] (λ_:Unit=>(bI [.rep ap r],[])):=by
 unfold iC at h
 replace h:=bg h
 refine dF.of 24 Tryz.func44 rfl Tryz.ntmps44 rfl λS w0=>?_
 refine sr ?_
 refine aV rfl rfl rfl (ba rfl va Aa) trivial λb1=>?_
 refine nt ?_
 refine sr ?_
 obtain⟨r2,l,h⟩:=aa h
 have u:=jy k 1 2 true r2 l
 refine jc (au [.const (.int .i64 (1)),.const (.int .i64 (2)),.const (.bool true)] rfl rfl KZ rfl u) ?_
 obtain⟨r3,j,h⟩:=aa h
 have s:=jy k 2 1 false r3 j
 refine jc (au [.const (.int .i64 (2)),.const (.int .i64 (1)),.const (.bool false)] rfl rfl KZ rfl s) ?_
 obtain⟨r4,e,h⟩:=aa h
 have n:=jy k 3 3 false r4 e
 refine jc (au [.const (.int .i64 (3)),.const (.int .i64 (3)),.const (.bool false)] rfl rfl KZ rfl n) ?_
 refine aV rfl rfl rfl (k9 (t:=aY) [(.tmp 4,_),(.tmp 5,_),(.tmp 6,_)] [r2,r3,r4] rfl rfl yI (.cons rfl .rep (.cons rfl .rep (.cons rfl .rep .nil))) rfl rfl) ⟨rfl,rfl,rfl,trivial⟩ λv5=>?_
 refine aq ?_
 refine nt ?_
 refine sr ?_
 refine jc (bb (t:=Ti) [(.const (.int .i64 (0)),_),(.const (.int .i64 (1)),_),(.const (.int .i64 (2)),_)] [0,1,2] rfl rfl dS (.cons rfl .int (.cons rfl .int (.cons rfl .int .nil))) rfl rfl) ?_
 refine ja (bb (t:=Ti) [(.const (.int .i64 (3)),_)] [3] rfl rfl dS (.cons rfl .int .nil) rfl rfl) ?_
 refine jb (bb (t:=Tl) [(.tmp 8,_),(.tmp 9,_)] [[0,1,2],[3]] rfl rfl pe (.cons rfl .rep (.cons rfl .rep .nil)) rfl rfl) ?_
 refine jb (bb (t:=Ti) [(.const (.int .i64 (0)),_),(.const (.int .i64 (1)),_)] [0,1] rfl rfl dS (.cons rfl .int (.cons rfl .int .nil)) rfl rfl) ?_
 refine jb (bb (t:=Ti) [(.const (.int .i64 (2)),_),(.const (.int .i64 (3)),_)] [2,3] rfl rfl dS (.cons rfl .int (.cons rfl .int .nil)) rfl rfl) ?_
 refine jb (bb (t:=Tl) [(.tmp 11,_),(.tmp 12,_)] [[0,1],[2,3]] rfl rfl pe (.cons rfl .rep (.cons rfl .rep .nil)) rfl rfl) ?_
 refine jc (bb (t:=Ti) [(.const (.int .i64 (1)),_),(.const (.int .i64 (2)),_),(.const (.int .i64 (3)),_)] [1,2,3] rfl rfl dS (.cons rfl .int (.cons rfl .int (.cons rfl .int .nil))) rfl rfl) ?_
 refine ja (bb (t:=Tl) [(.tmp 14,_)] [[1,2,3]] rfl rfl pe (.cons rfl .rep .nil) rfl rfl) ?_
 refine jb (bb (t:=Ti) [(.const (.int .i64 (1)),_),(.const (.int .i64 (3)),_)] [1,3] rfl rfl dS (.cons rfl .int (.cons rfl .int .nil)) rfl rfl) ?_
 refine ja (bb (t:=Ti) [(.const (.int .i64 (2)),_)] [2] rfl rfl dS (.cons rfl .int .nil) rfl rfl) ?_
 refine jb (bb (t:=Tl) [(.tmp 16,_),(.tmp 17,_)] [[1,3],[2]] rfl rfl pe (.cons rfl .rep (.cons rfl .rep .nil)) rfl rfl) ?_
 refine cg rfl (bb (t:=(.slice Tl)) [(.tmp 10,_),(.tmp 13,_),(.tmp 15,_),(.tmp 18,_)] [[[0,1,2],[3]],[[0,1],[2,3]],[[1,2,3]],[[1,3],[2]]] rfl rfl wT (.cons rfl .rep (.cons rfl .rep (.cons rfl .rep (.cons rfl .rep .nil)))) rfl rfl) ⟨rfl,rfl,rfl,rfl,trivial⟩ ?_
 iterate 2 refine mq ?_
 obtain⟨u6,c,h⟩:=aa h
 refine dV rfl rfl rfl (cp rfl rfl yI (am c)) ⟨rfl,rfl,trivial⟩ λv7=>?_
 refine eE (jo [22] ⟨rfl,trivial⟩) ?_
 refine cg rfl (dX [(0,.const (.int .i64 (4)),_),(1,.const (.int .i64 (1)),_),(2,.const (.int .i64 (1)),_),(3,.const (.int .i64 (2)),_),(4,.tmp 19,_),(5,.tmp 22,_)] rfl PQ va MX (jD ⟨rfl,rfl,rfl,rfl,rfl,rfl,trivial⟩) rfl) ⟨rfl,rfl,rfl,rfl,rfl,rfl,trivial⟩ ?_
 refine aH rfl rfl (aF rfl fC trivial rfl rfl) ⟨rfl,rfl,trivial⟩ ?_
 refine nt ?_
 refine aA ?_
 refine bH (gh (a:=.agg (.pair (I 4) (.pair (I 1) (.pair (I 1) (.pair (I 2) (.pair (.rep (.slice (.slice Tl)) [[[0,1,2],[3]],[[0,1],[2,3]],[[1,2,3]],[[1,3],[2]]]) (Rs aY ([r2,r3,r4]++a0)))))))) (a':=.rep ap (4,1,1,2,[[[0,1,2],[3]],[[0,1],[2,3]],[[1,2,3]],[[1,3],[2]]],[r2,r3,r4]++a0)) (iY (.agg (.pair .int (.pair .int (.pair .int (.pair .int (.pair .rep .rep)))))))) ?_
 cases h
 exact aL () [.rep ap (4,1,1,2,[[[0,1,2],[3]],[[0,1],[2,3]],[[1,2,3]],[[1,3],[2]]],[r2,r3,r4]++a0)] 0 ⟨⟨_,_,_,_,_,rfl,(.head _),fC,(tq),rfl⟩,trivial⟩ rfl
def kA(k:Nat)(a0:Int):Option Int:=
 (fM k a0).bind λr1=>
 some (r1.length:Int)
theorem nn(k:Nat)(a0:Int)(r:Int)(h:kA k a0=some r):
 dF Tryz.prog 89 [.eq (.int .u8 a0)] [] (λ_:Unit=>(bI [I r],[])):=by
 unfold kA at h
 replace h:=bg h
 refine dF.of 6 Tryz.func89 rfl Tryz.ntmps89 rfl λS w0=>?_
 refine sr ?_
 refine cq ?_
 refine nt ?_
 refine sr ?_
 refine mq ?_
 obtain⟨r1,c,h⟩:=aa h
 have e:=j9 k a0 r1 c
 refine ja (au [.tmp 3] rfl rfl Ou rfl e) ?_
 refine ol jk ?_
 refine aq ?_
 refine nt ?_
 refine aA ?_
 cases h
 exact ra
def mT(k:Nat)(a0:Int)(a1:Int):Option Int:=
 (kA k a0).bind λr1=>
 (kA k a1).bind λr2=>
 (ck (r1 - r2)).bind λx3=>
 some x3
theorem s4(k:Nat)(a0:Int)(a1:Int)(c:Nat)(r:Int)(h:mT k a0 a1=some r):
 dF Tryz.prog 104 [.eq (.int .u8 a0),.eq (.int .u8 a1),Pt c] [.obj c 104 (.eq (.func (.func 89) #[] #[]))] (λ_:Unit=>(bI [I r],[.obj c 104 (.eq (.func (.func 89) #[] #[]))])):=by
 unfold mT at h
 replace h:=bg h
 refine dF.of 13 Tryz.func104 rfl Tryz.ntmps104 rfl λS w0=>?_
 refine sr ?_
 refine cq ?_
 refine nt ?_
 refine aj ?_
 refine cO ?_
 refine ea 0 (ay rfl MD nB rfl) ?_
 refine dm ?_
 obtain⟨r1,l,h⟩:=aa h
 have s:=nn k a0 r1 l
 refine db (tl (fs:=[]) (cs:=[]) (ags:=[.eq (.int .u8 a0)]) [.tmp 7] rfl rfl Qu rfl s) ?_
 refine ea 0 (ay rfl MD nB rfl) ?_
 refine dm ?_
 refine df eo ?_
 obtain⟨r2,j,h⟩:=aa h
 have n:=nn k a1 r2 j
 refine jb (tl (fs:=[]) (cs:=[]) (ags:=[.eq (.int .u8 a1)]) [.tmp 10] rfl rfl Qu rfl n) ?_
 obtain⟨x3,e,h⟩:=aa h
 refine jb (eD rfl e) ?_
 refine aq ?_
 refine nt ?_
 refine aA ?_
 cases h
 exact aL () [_] 1 ⟨rfl,trivial⟩ rfl
def fH(k:Nat)(a0:(List Int)):Nat->(Int×Int)->Option Int
 |0,_=>none
 |n+1,y4=>
  if y4.2 < (a0.length:Int) then((((aP a0 y4.2).bind λx8=>
  (mT k x8 y4.1).bind λr9=>
  if r9 < 0 then((aP a0 y4.2).bind λe=>
  some e) else(some y4.1)):Option (Int)).bind λx6=>
  (ck (y4.2+1)).bind λc=>
  fH k a0 n (x6,c)) else(some y4.1)
def jY(k:Nat)(a0:(List Int)):Option Int:=
 if(a0.length:Int) < 1 then(none) else((aP a0 0).bind λx1=>
 ((fH k a0 k (x1,1)):Option (Int)).bind λx2=>
 some x2)
theorem pD(k:Nat)(a0:(List Int))(c_a1_0:Nat)(r:Int)(h:jY k a0=some r):
 dF Tryz.prog 103 [.rep (.slice (.int .u8)) a0,.eq (.func (.func 104) #[] #[(Pv c_a1_0)])] [.obj c_a1_0 104 (.eq (.func (.func 89) #[] #[]))] (λ_:Unit=>(bI [.eq (.int .u8 r)],[.obj c_a1_0 104 (.eq (.func (.func 89) #[] #[]))])):=by
 unfold jY at h
 replace h:=bg h
 refine dF.of 33 Tryz.func103 rfl Tryz.ntmps103 rfl λS w0=>?_
 refine sr ?_
 refine cq ?_
 refine nt ?_
 refine aj ?_
 refine sr ?_
 refine mq ?_
 refine ol AA ?_
 refine jb (bK rfl) ?_
 refine nt ?_
 refine ci h (λh=>?_) (λh=>?_)
 .
  cases h
 .
  refine sk (sr (mq ?_));obtain⟨x1,u,h⟩:=aa h;refine jb (bo (t:=(.int .u8)) rfl AA pz u) ?_;refine ja (av (t:=(.int .u8)) rfl pz rfl) ?_;refine aq (nt ?_);refine aJ (Z:=Unit) (α:=Int) (λz3 x2=>[(5,.eq (.int .u8 x2))]) (λz3 x2=>[.obj c_a1_0 104 (.eq (.func (.func 89) #[] #[]))]) h (λK h=>?_) (λz3 x2 h=>?_)
  .refine sr (cq (nt (ak ?_)));refine aI (λz5 y4=>[(0,.rep (.slice (.int .u8)) a0),(1,.eq (.func (.func 104) #[] #[(Pv c_a1_0)])),(5,.eq (.int .u8 y4.1)),(6,I y4.2)]) (λz5 y4=>[.obj c_a1_0 104 (.eq (.func (.func 89) #[] #[]))]) (fH k a0) k () (x1,1) (λ_=>rfl) h (SE.fin [0] ⟨rfl,rfl,rfl,rfl,trivial⟩ rfl) (λn z5 y4 h=>?_);unfold fH at h;refine aj (sr ?_);iterate 2 refine mq ?_
   refine ol AA ?_;refine jb (bK rfl) ?_;refine nt (ci h (λh=>?_) (λh=>?_))
   .refine sk (aJ (Z:=Unit) (α:=Int) (λz7 x6=>[(0,.rep (.slice (.int .u8)) a0),(1,.eq (.func (.func 104) #[] #[(Pv c_a1_0)])),(5,.eq (.int .u8 x6)),(6,I y4.2)]) (λz7 x6=>[.obj c_a1_0 104 (.eq (.func (.func 89) #[] #[]))]) h (λK h=>?_) (λz7 x6 h=>?_))
    .refine ak (sr ?_);iterate 3 refine mq ?_
     obtain⟨x8,s,h⟩:=aa h;refine jb (bo (t:=(.int .u8)) rfl AA pz s) ?_;refine ja (av (t:=(.int .u8)) rfl pz rfl) ?_;refine mq ?_;obtain⟨r9,x,h⟩:=aa h;refine kc (tl (fs:=[]) (cs:=[(Pv c_a1_0)]) (ags:=[.eq (.int .u8 x8),.eq (.int .u8 y4.1)]) [.tmp 24,.tmp 25] rfl rfl QP rfl (s4 k x8 y4.1 c_a1_0 r9 x)) ?_;refine jb (bK rfl) ?_;refine nt (ci h (λh=>?_) (λh=>?_))
     .refine ae ?_;iterate 2 refine mq ?_
      obtain⟨l,e,h⟩:=aa h;refine jb (bo (t:=(.int .u8)) rfl AA pz e) ?_;refine ja (av (t:=(.int .u8)) rfl pz rfl) ?_;refine aq (aD (bn ?_));exact jz ((),l) h [0]
     .refine bq (bn ?_);exact jz ((),y4.1) h [0]
    .refine ae (mq ?_);obtain⟨j,c,h⟩:=aa h;refine jb (bG rfl c) ?_;refine aq (nl ?_);exact jz ((),(x6,j)) h [0]
   .refine xa ?_;exact jz ((),y4.1) h [0]
  .refine sr (mq ?_);refine aq (nt (aA ?_));cases h;exact aL () [_] 1 ⟨rfl,trivial⟩ rfl
def pN(k:Nat)(a0:(List Int)):Option Int:=
 (jY k a0).bind λr2=>
 some r2
theorem vt(k:Nat)(a0:(List Int))(r:Int)(h:pN k a0=some r):
 dF Tryz.prog 71 [.rep (.slice (.int .u8)) a0,.eq (.func (.func 89) #[] #[])] [] (λ_:Unit=>(bI [.eq (.int .u8 r)],[])):=by
 unfold pN at h
 replace h:=bg h
 refine dF.of 8 Tryz.func71 rfl Tryz.ntmps71 rfl λS w0=>?_
 refine sr ?_
 refine bx λb1=>?_
 refine cq ?_
 refine nt ?_
 refine sr ?_
 refine mq ?_
 refine ja (rD [] [.tmp 3] [] [(Pv b1)] rfl rfl rfl) ?_
 obtain⟨r2,c,h⟩:=aa h
 have e:=pD k a0 b1 r2 c
 refine kb (au [.tmp 5,.tmp 6] rfl rfl QQ rfl e) ?_
 refine aq ?_
 refine nt ?_
 refine aA ?_
 cases h
 exact ra
def lN(k:Nat)(a0:(List Int)):Option bp:=
 some (a0,0,1)
theorem uk(k:Nat)(a0:(List Int))(r:bp)(h:lN k a0=some r):
 dF Tryz.prog 12 [.rep Tl a0] [] (λz:Nat=>(bI [Pt z],[.obj z 74 (.agg (.pair (.rep Tl r.1) (.pair (I r.2.1) (.eq (.int .u64 r.2.2)))))])):=by
 unfold lN at h
 replace h:=bg h
 refine dF.of 6 Tryz.func12 rfl Tryz.ntmps12 rfl λS w0=>?_
 refine sr ?_
 refine cq ?_
 refine nt ?_
 refine sr ?_
 refine mq ?_
 refine jb (dX [(0,.tmp 3,_),(2,.const (.int .u64 (1)),_)] rfl RO RH QX (jD ⟨rfl,rfl,trivial⟩) rfl) ?_
 refine aV rfl rfl rfl (vV rfl trivial) ⟨rfl,trivial⟩ λb1=>?_
 refine aq ?_
 refine nt ?_
 refine aA ?_
 cases h
 exact aL b1 [Pt b1] 1 ⟨rfl,trivial⟩ rfl
def iS(k:Nat)(a0:(List Int)):Option (List Int):=
 (cH (bJ (length ([]:(List Int))+length a0))).bind λ_=>
 some (([]:(List Int))++a0)
theorem s8(k:Nat)(a0:(List Int))(r:(List Int))(h:iS k a0=some r):
 dF Tryz.prog 16 [.rep Tl a0] [] (λz:Value=>(bI [.eq z],[.sl z 3 Ti r])):=by
 unfold iS at h
 replace h:=bg h
 refine dF.of 6 Tryz.func16 rfl Tryz.ntmps16 rfl λS w0=>?_
 refine sr ?_
 refine cq ?_
 refine nt ?_
 refine sr ?_
 refine aV rfl rfl rfl (k9 (t:=Ti) [] ([]:(List Int)) rfl rfl dS .nil rfl rfl) trivial λv1=>?_
 refine mq ?_
 obtain⟨u2,c,h⟩:=aa h
 refine dV rfl rfl rfl (cp rfl rfl dS (am c)) ⟨rfl,rfl,trivial⟩ λv3=>?_
 refine aq ?_
 refine nt ?_
 refine aA ?_
 cases h
 exact aL v3 [.eq v3] 1 ⟨rfl,trivial⟩ rfl
def dB(k:Nat)(a0:(List (List Int))):Nat->((List (List Int))×Int)->Option (List (List Int))
 |0,_=>none
 |n+1,y3=>
  if y3.2 < (a0.length:Int) then((aP a0 y3.2).bind λx5=>
  (iS k x5).bind λr6=>
  (cH (bJ (length y3.1+length [r6]))).bind λ_=>
  (ck (y3.2+1)).bind λc=>
  dB k a0 n (y3.1++[r6],c)) else(some y3.1)
def f6(k:Nat)(a0:(List (List Int))):Option (List (List Int)):=
 ((dB k a0 k (([]:(List (List Int))),0)):Option ((List (List Int)))).bind λx1=>
 some x1
theorem my(k:Nat)(a0:(List (List Int)))(r:(List (List Int)))(h:f6 k a0=some r):
 dF Tryz.prog 47 [.rep (.slice Tl) a0] [] (λz:Value=>(bI [.eq z],[.sl z 28 Tl r])):=by
 unfold f6 at h
 replace h:=bg h
 refine dF.of 20 Tryz.func47 rfl Tryz.ntmps47 rfl λS w0=>?_
 refine sr ?_
 refine cq ?_
 refine nt ?_
 refine sr ?_
 refine cq ?_
 refine nt ?_
 refine aJ (Z:=Value) (α:=(List (List Int))) (λz2 x1=>[(3,.eq z2)]) (λz2 x1=>[.sl z2 28 Tl x1]) h (λK h=>?_) (λz2 x1 h=>?_)
 .
  refine sr (cq (nt (ak ?_)));refine iD (SE.nil 28 Tl) ?_;refine aI (λz4 y3=>[(0,.rep (.slice Tl) a0),(3,.eq z4),(4,I y3.2)]) (λz4 y3=>[.sl z4 28 Tl y3.1]) (dB k a0) k (.slice none 0 0) (([]:(List (List Int))),0) (λ_=>rfl) h (SE.fin [0] ⟨rfl,rfl,rfl,trivial⟩ rfl) (λn z4 y3 h=>?_);unfold dB at h;refine aj (sr ?_);iterate 2 refine mq ?_
  refine ol s9 ?_;refine jb (bK rfl) ?_;refine nt (ci h (λh=>?_) (λh=>?_))
  .refine sk (aj (ak (ae ?_)));iterate 3 refine mq ?_
   obtain⟨x5,j,h⟩:=aa h;refine jb (bo (t:=Tl) rfl s9 jW j) ?_;refine ja (av (t:=Tl) rfl jW rfl) ?_;obtain⟨r6,s,h⟩:=aa h;refine aV rfl rfl rfl (au [.tmp 15] rfl rfl Tf rfl (s8 k x5 r6 s)) ⟨rfl,trivial⟩ λv7=>?_;refine eE (jo [16] ⟨rfl,trivial⟩) ?_;refine ja (bb (t:=Tl) [(.tmp 16,_)] [r6] rfl rfl pe (.cons rfl .rep .nil) rfl rfl) ?_;obtain⟨u8,l,h⟩:=aa h;refine dV rfl rfl rfl (cp rfl rfl pe (am l)) ⟨rfl,rfl,trivial⟩ λv9=>?_;refine aq (aD (aS (tn (ae ?_))));refine mq ?_;obtain⟨e,c,h⟩:=aa h;refine jb (bG rfl c) ?_;refine aq (nl ?_);exact jz (v9,(y3.1++[r6],e)) h [0]
  .refine xa ?_;exact jz (z4,y3.1) h [0]
 .
  refine sr (mq ?_);refine aq (nt (aA ?_));cases h;exact aL z2 [.eq z2] 1 ⟨rfl,trivial⟩ rfl
def dA(k:Nat)(a0:ab):Nat->((List (List (List Int)))×Int)->Option (List (List (List Int)))
 |0,_=>none
 |n+1,y9=>
  if y9.2 < (a0.2.2.2.2.1.length:Int) then((aP a0.2.2.2.2.1 y9.2).bind λh=>
  (f6 k h).bind λc=>
  (cH (bJ (length y9.1+length [c]))).bind λ_=>
  (ck (y9.2+1)).bind λe=>
  dA k a0 n (y9.1++[c],e)) else(some y9.1)
def ic(k:Nat)(a0:ab):Option ab:=
 (cH (bJ (length ([]:(List aQ))+length a0.2.2.2.2.2))).bind λ_=>
 ((dA k a0 k (([]:(List (List (List Int)))),0)):Option ((List (List (List Int))))).bind λx7=>
 some (a0.1,a0.2.1,a0.2.2.1,a0.2.2.2.1,x7,([]:(List aQ))++a0.2.2.2.2.2)
theorem rV(k:Nat)(a0:ab)(r:ab)(h:ic k a0=some r):
 dF Tryz.prog 15 [.rep ap a0] [] (λz:Value=>(bI [.agg (.pair (I r.1) (.pair (I r.2.1) (.pair (I r.2.2.1) (.pair (I r.2.2.2.1) (.pair (.rep (.slice (.slice Tl)) r.2.2.2.2.1) (.eq z))))))],[.sl z 27 aY r.2.2.2.2.2])):=by
 unfold ic at h
 replace h:=bg h
 refine dF.of 30 Tryz.func15 rfl Tryz.ntmps15 rfl λS w0=>?_
 refine sr ?_
 refine bx λb1=>?_
 refine aV rfl rfl rfl (ba rfl va Aa) trivial λb2=>?_
 refine nt ?_
 refine sr ?_
 refine fl dD ?_
 refine fr 1 ?_
 refine lo i8 ?_
 refine aq ?_
 refine nt ?_
 refine sr ?_
 refine aV rfl rfl rfl (k9 (t:=aY) [] ([]:(List aQ)) rfl rfl yI .nil rfl rfl) trivial λv3=>?_
 refine fl m9 ?_
 refine fr 1 ?_
 refine lo wS ?_
 obtain⟨u4,E,h⟩:=aa h
 refine fr 1 ?_
 refine dV rfl rfl rfl (cp rfl rfl yI (am E)) ⟨rfl,rfl,trivial⟩ λv5=>?_
 refine fl dD ?_
 refine fr 1 ?_
 refine aH rfl rfl (aF rfl i8 rfl rfl rfl) ⟨rfl,rfl,trivial⟩ ?_
 refine fl m9 ?_
 refine fr 1 ?_
 refine nh λo6=>?_
 refine fr 1 ?_
 refine aH rfl rfl (aF rfl wS o6 rfl rfl) ⟨rfl,rfl,trivial⟩ ?_
 refine nt ?_
 refine aJ (Z:=Value) (α:=(List (List (List Int)))) (λz8 x7=>[(1,Pt b1),(2,Pt b2)]) (λz8 x7=>[.obj b1 25 (.agg (.pair (I a0.1) (.pair (I a0.2.1) (.pair (I a0.2.2.1) (.pair (I a0.2.2.2.1) (.pair (.eq z8) (.eq v5))))))),.sl z8 36 (.slice Tl) x7,.sl v5 27 aY (([]:(List aQ))++a0.2.2.2.2.2),.obj b2 25 (.agg (.pair (I 0) (.pair (I 0) (.pair (I 0) (.pair (I 0) (.pair (.eq (.slice none 0 0)) (.eq (.slice none 0 0))))))))]) h (λK h=>?_) (λz8 x7 h=>?_)
 .
  refine sr (cq (nt (ak ?_)));refine iD (SE.nil 36 (.slice Tl)) ?_;refine dx 1 rfl ?_;refine iD (gh (a:=.agg (.pair (.rep Ti a0.1) (.pair (.rep Ti a0.2.1) (.pair (.rep Ti a0.2.2.1) (.pair (.rep Ti a0.2.2.2.1) (.pair (.eq (.slice none 0 0)) (.eq v5))))))) (a':=.agg (.pair (I a0.1) (.pair (I a0.2.1) (.pair (I a0.2.2.1) (.pair (I a0.2.2.2.1) (.pair (.eq (.slice none 0 0)) (.eq v5))))))) (AE.agg (AE.pair AE.int (AE.pair AE.int (AE.pair AE.int (AE.pair AE.int AE.rfl)))))) ?_;refine aI (λc y9=>[(1,Pt b1),(2,Pt b2),(3,.rep (.slice (.slice Tl)) a0.2.2.2.2.1),(4,I y9.2)]) (λc y9=>[.obj b1 25 (.agg (.pair (I a0.1) (.pair (I a0.2.1) (.pair (I a0.2.2.1) (.pair (I a0.2.2.2.1) (.pair (.eq c) (.eq v5))))))),.sl c 36 (.slice Tl) y9.1,.sl v5 27 aY (([]:(List aQ))++a0.2.2.2.2.2),.obj b2 25 (.agg (.pair (I 0) (.pair (I 0) (.pair (I 0) (.pair (I 0) (.pair (.eq (.slice none 0 0)) (.eq (.slice none 0 0))))))))]) (dA k a0) k (.slice none 0 0) (([]:(List (List (List Int)))),0) (λ_=>rfl) h (SE.fin [0,1,2,3] ⟨rfl,rfl,rfl,rfl,trivial⟩ rfl) (λn c y9 h=>?_);unfold dA at h;refine aj (sr ?_);iterate 2 refine mq ?_
  refine ol xY ?_;refine jb (bK rfl) ?_;refine nt (ci h (λh=>?_) (λh=>?_))
  .refine sk (aj (ak (cO ?_)));refine da (aC rfl dD) ?_;refine ea 0 (ay rfl i8 nB rfl) ?_;refine dm ?_;refine dm ?_;obtain⟨y,l,h⟩:=aa h;refine db (bo (t:=(.slice Tl)) rfl xY vf l) ?_;refine da (av (t:=(.slice Tl)) rfl vf rfl) ?_;obtain⟨e,u,h⟩:=aa h;refine da (xZ (au [.tmp 24] rfl rfl QB rfl (my k y e u))) ?_;refine da (bb (t:=(.slice Tl)) [(.tmp 25,_)] [e] rfl rfl wT (.cons rfl .rep .nil) rfl rfl) ?_;refine df eo ?_;obtain⟨F,s,h⟩:=aa h;refine fr 1 ?_;refine dV rfl rfl rfl (cp rfl rfl wT (am s)) ⟨rfl,rfl,trivial⟩ λD=>?_;refine fl dD ?_;refine nh λo15=>?_;refine fr 1 ?_;refine aH rfl rfl (aF rfl i8 o15 rfl rfl) ⟨rfl,rfl,trivial⟩ ?_;refine aD (aS (tn (ae (mq ?_))));obtain⟨x,j,h⟩:=aa h;refine jb (bG rfl j) ?_;refine aq (nl ?_);exact jz (D,(y9.1++[e],x)) h [0,1,2,3]
  .refine xa ?_;exact jz (c,y9.1) h [0,1,2,3]
 .
  refine sr (lo fC ?_);refine fr 3 ?_;refine aH rfl rfl (aF rfl fC trivial rfl rfl) ⟨rfl,rfl,trivial⟩ ?_;refine nt (aA (bi 2 rfl ?_));refine bH (jm (off:=4) [] trivial rfl rfl) ?_;refine bH (SE.fin (Γ':=[(2,_)]) [2,0,1] ⟨rfl,trivial⟩ rfl) ?_;cases h;exact aL v5 [.agg (.pair (I a0.1) (.pair (I a0.2.1) (.pair (I a0.2.2.1) (.pair (I a0.2.2.2.1) (.pair (.rep (.slice (.slice Tl)) x7) (.eq v5))))))] 1 ⟨⟨_,_,_,_,_,rfl,(.tail _ (.head _)),fC,(tq),rfl⟩,trivial⟩ rfl
def ia(k:Nat)(a0:bp):Option (Int×bp):=
 ((if a0.2.1 < (a0.1.length:Int) then((aP a0.1 a0.2.1).bind λx3=>
 some (IntKind.u64.wrap ((IntKind.u64.wrap ((IntKind.u64.wrap (a0.2.2 * 6364136223846793005))+1442695040888963407))+(IntKind.u64.wrap ((IntKind.u64.wrap x3) * 2862933555777941757))))) else(some (IntKind.u64.wrap ((IntKind.u64.wrap (a0.2.2 * 6364136223846793005))+1442695040888963407)))):Option (Int)).bind λx1=>
 (ck (a0.2.1+1)).bind λx4=>
 some (ie .u64 (rW .u64 (IntKind.u64.wrap ((rW .u64 x1 (ie .u64 x1 29)) * 2685821657736338717)) (ie .u64 (IntKind.u64.wrap ((rW .u64 x1 (ie .u64 x1 29)) * 2685821657736338717)) 32)) 8,(a0.1,x4,x1))
theorem rT(k:Nat)(a0:bp)(c:Nat)(r:Int×bp)(h:ia k a0=some r):
 dF Tryz.prog 59 [Pt c] [.obj c 74 (.agg (.pair (.rep Tl a0.1) (.pair (I a0.2.1) (.eq (.int .u64 a0.2.2)))))] (λ_:Unit=>(bI [.eq (.int .u64 r.1)],[.obj c 74 (.agg (.pair (.rep Tl r.2.1) (.pair (I r.2.2.1) (.eq (.int .u64 r.2.2.2)))))])):=by
 unfold ia at h
 replace h:=bg h
 refine dF.of 67 Tryz.func59 rfl Tryz.ntmps59 rfl λS w0=>?_
 refine sr ?_
 refine cq ?_
 refine nt ?_
 refine sr ?_
 iterate 2 refine mq ?_
 refine ja (cL rfl) ?_
 refine fl sa ?_
 refine lo D6 ?_
 refine jb (A4 rfl) ?_
 refine jb (GW rfl) ?_
 refine ja (cL rfl) ?_
 refine fl sa ?_
 refine aH rfl rfl (aF rfl D6 rfl rfl rfl) ⟨rfl,rfl,trivial⟩ ?_
 refine nt ?_
 refine aJ (Z:=Unit) (α:=Int) (λz2 x1=>[(0,Pt c)]) (λz2 x1=>[.obj c 74 (.agg (.pair (.rep Tl a0.1) (.pair (I a0.2.1) (.eq (.int .u64 x1)))))]) h (λK h=>?_) (λz2 x1 h=>?_)
 .
  refine aj (cO ?_);refine dm ?_;refine da (cL rfl) ?_;refine da (aC rfl xB) ?_;refine ea 0 (ay rfl cQ nB rfl) ?_;refine dm ?_;refine da (cL rfl) ?_;refine da (aC rfl HQ) ?_;refine ea 0 (ay rfl jW nB rfl) ?_;refine da (t7 rfl rfl jk) ?_;refine df eo ?_;refine jb (bK rfl) ?_;refine nt (ci h (λh=>?_) (λh=>?_))
  .refine cO ?_;refine dm ?_;refine dm ?_;refine da (cL rfl) ?_;refine da (aC rfl sa) ?_;refine ea 0 (ay rfl D6 nB rfl) ?_;refine dm ?_;refine da (cL rfl) ?_;refine da (aC rfl HQ) ?_;refine ea 0 (ay rfl jW nB rfl) ?_;refine dm ?_;refine da (cL rfl) ?_;refine da (aC rfl xB) ?_;refine ea 0 (ay rfl cQ nB rfl) ?_;obtain⟨x3,j,h⟩:=aa h;refine db (bo (t:=Ti) rfl jk cQ j) ?_;refine da (av (t:=Ti) rfl cQ rfl) ?_;refine da (rF rfl U3 Rx) ?_;refine db (A4 rfl) ?_;refine db (GW rfl) ?_;refine df eo ?_;refine ja (cL rfl) ?_;refine fl sa ?_;refine aH rfl rfl (aF rfl D6 rfl rfl rfl) ⟨rfl,rfl,trivial⟩ ?_;refine nl ?_;exact jz ((),IntKind.u64.wrap ((IntKind.u64.wrap ((IntKind.u64.wrap (a0.2.2 * 6364136223846793005))+1442695040888963407))+(IntKind.u64.wrap ((IntKind.u64.wrap x3) * 2862933555777941757)))) h [0]
  .refine bq (an ?_);exact jz ((),IntKind.u64.wrap ((IntKind.u64.wrap (a0.2.2 * 6364136223846793005))+1442695040888963407)) h [0]
 .
  refine sr (mq ?_);refine ja (cL rfl) ?_;refine fl xB ?_;refine lo cQ ?_;obtain⟨x4,e,h⟩:=aa h;refine jb (bG rfl e) ?_;refine ja (cL rfl) ?_;refine fl xB ?_;refine aH rfl rfl (aF rfl cQ rfl rfl rfl) ⟨rfl,rfl,trivial⟩ ?_;refine nt (aj (cO ?_));refine dm ?_;refine da (cL rfl) ?_;refine da (aC rfl sa) ?_;refine ea 0 (ay rfl D6 nB rfl) ?_;refine dm ?_;refine da (cL rfl) ?_;refine da (aC rfl sa) ?_;refine ea 0 (ay rfl D6 nB rfl) ?_;refine fj rfl rfl rfl (t6 rfl (by decide)) ⟨rfl,rfl,trivial⟩ ?_;refine df eo ?_;refine jb (MG rfl) ?_;refine aq (nt (sr ?_));refine mq ?_;refine jb (A4 rfl) ?_;refine aq (nt (sr ?_));iterate 2 refine mq ?_
  refine cg rfl (t6 rfl (by decide)) ⟨rfl,rfl,trivial⟩ ?_;refine jb (MG rfl) ?_;refine cg rfl (t6 rfl (by decide)) ⟨rfl,rfl,trivial⟩ ?_;refine aq (nt (aA ?_));cases h;exact aL () [_] 1 ⟨rfl,trivial⟩ rfl
def bU(k:Nat)(a0:bp)(a1:Int):Option (Int×bp):=
 if a1 < 1 then(some (0,(a0.1,a0.2.1,a0.2.2))) else((ia k (a0.1,a0.2.1,a0.2.2)).bind λr1=>
 (ck (a1+1)).bind λx2=>
 (cH ((IntKind.u64.wrap x2)≠0)).bind λ_=>
 (ck (Int.tmod r1.1 (IntKind.u64.wrap x2))).bind λx4=>
 some (x4,(r1.2.1,r1.2.2.1,r1.2.2.2)))
theorem bZ(k:Nat)(a0:bp)(c:Nat)(a1:Int)(r:Int×bp)(h:bU k a0 a1=some r):
 dF Tryz.prog 24 [Pt c,I a1] [.obj c 74 (.agg (.pair (.rep Tl a0.1) (.pair (I a0.2.1) (.eq (.int .u64 a0.2.2)))))] (λ_:Unit=>(bI [I r.1],[.obj c 74 (.agg (.pair (.rep Tl r.2.1) (.pair (I r.2.2.1) (.eq (.int .u64 r.2.2.2)))))])):=by
 unfold bU at h
 replace h:=bg h
 refine dF.of 14 Tryz.func24 rfl Tryz.ntmps24 rfl λS w0=>?_
 refine sr ?_
 refine cq ?_
 refine nt ?_
 refine aj ?_
 refine sr ?_
 refine mq ?_
 refine jb (bK rfl) ?_
 refine nt ?_
 refine ci h (λh=>?_) (λh=>?_)
 .
  refine sr (cq (nt (rx ?_)));cases h;exact aL () [_] 1 ⟨rfl,trivial⟩ rfl
 .
  refine sk (sr (mq ?_));obtain⟨r1,n,h⟩:=aa h;refine ka (au [.tmp 7] rfl rfl SV rfl (rT k (a0.1,a0.2.1,a0.2.2) c r1 n)) ?_;refine mq ?_;obtain⟨x2,j,h⟩:=aa h;refine jb (bG rfl j) ?_;refine ja (rF rfl U3 Rx) ?_;obtain⟨u3,l,h⟩:=aa h;refine jb (PV rfl (am l)) ?_;obtain⟨x4,e,h⟩:=aa h;refine ja (yT rfl Rx U3 e) ?_;refine aq (nt (aA ?_));cases h;exact aL () [_] 1 ⟨rfl,trivial⟩ rfl
def ec(k:Nat)(a0:bp)(a1:Int):Option (Bool×bp):=
 (ck (a1 - 1)).bind λx1=>
 (bU k (a0.1,a0.2.1,a0.2.2) x1).bind λr2=>
 some (decide (r2.1=0),(r2.2.1,r2.2.2.1,r2.2.2.2))
theorem gU(k:Nat)(a0:bp)(c:Nat)(a1:Int)(r:Bool×bp)(h:ec k a0 a1=some r):
 dF Tryz.prog 46 [Pt c,I a1] [.obj c 74 (.agg (.pair (.rep Tl a0.1) (.pair (I a0.2.1) (.eq (.int .u64 a0.2.2)))))] (λ_:Unit=>(bI [.eq (.bool r.1)],[.obj c 74 (.agg (.pair (.rep Tl r.2.1) (.pair (I r.2.2.1) (.eq (.int .u64 r.2.2.2)))))])):=by
 unfold ec at h
 replace h:=bg h
 refine dF.of 10 Tryz.func46 rfl Tryz.ntmps46 rfl λS w0=>?_
 refine sr ?_
 refine cq ?_
 refine nt ?_
 refine sr ?_
 iterate 2 refine mq ?_
 obtain⟨x1,e,h⟩:=aa h
 refine jb (eD rfl e) ?_
 obtain⟨r2,j,h⟩:=aa h
 have l:=bZ k (a0.1,a0.2.1,a0.2.2) c x1 r2 j
 refine kb (au [.tmp 5,.tmp 7] rfl rfl ux rfl l) ?_
 refine jb (gu rfl) ?_
 refine aq ?_
 refine nt ?_
 refine aA ?_
 cases h
 exact aL () [_] 1 ⟨rfl,trivial⟩ rfl
def fy(k:Nat)(a0:bp)(a1:Int)(a2:Int):Option (Int×bp):=
 (ck (a2 - a1)).bind λx1=>
 (bU k (a0.1,a0.2.1,a0.2.2) x1).bind λr2=>
 (ck (a1+r2.1)).bind λx3=>
 some (x3,(r2.2.1,r2.2.2.1,r2.2.2.2))
theorem iR(k:Nat)(a0:bp)(c:Nat)(a1:Int)(a2:Int)(r:Int×bp)(h:fy k a0 a1 a2=some r):
 dF Tryz.prog 98 [Pt c,I a1,I a2] [.obj c 74 (.agg (.pair (.rep Tl a0.1) (.pair (I a0.2.1) (.eq (.int .u64 a0.2.2)))))] (λ_:Unit=>(bI [I r.1],[.obj c 74 (.agg (.pair (.rep Tl r.2.1) (.pair (I r.2.2.1) (.eq (.int .u64 r.2.2.2)))))])):=by
 unfold fy at h
 replace h:=bg h
 refine dF.of 14 Tryz.func98 rfl Tryz.ntmps98 rfl λS w0=>?_
 refine sr ?_
 refine cq ?_
 refine nt ?_
 refine sr ?_
 iterate 4 refine mq ?_
 obtain⟨x1,j,h⟩:=aa h
 refine jb (eD rfl j) ?_
 obtain⟨r2,l,h⟩:=aa h
 have n:=bZ k (a0.1,a0.2.1,a0.2.2) c x1 r2 l
 refine kb (au [.tmp 8,.tmp 11] rfl rfl ux rfl n) ?_
 obtain⟨x3,e,h⟩:=aa h
 refine jb (bG rfl e) ?_
 refine aq ?_
 refine nt ?_
 refine aA ?_
 cases h
 exact aL () [_] 1 ⟨rfl,trivial⟩ rfl
def gC(k:Nat)(a0:bp)(a1:(List Int)):Option (Int×bp):=
 (ck ((a1.length:Int) - 1)).bind λx1=>
 (bU k (a0.1,a0.2.1,a0.2.2) x1).bind λr2=>
 (aP a1 r2.1).bind λx3=>
 some (x3,(r2.2.1,r2.2.2.1,r2.2.2.2))
theorem lm(k:Nat)(a0:bp)(c:Nat)(a1:(List Int))(r:Int×bp)(h:gC k a0 a1=some r):
 dF Tryz.prog 99 [Pt c,.rep Tl a1] [.obj c 74 (.agg (.pair (.rep Tl a0.1) (.pair (I a0.2.1) (.eq (.int .u64 a0.2.2)))))] (λ_:Unit=>(bI [I r.1],[.obj c 74 (.agg (.pair (.rep Tl r.2.1) (.pair (I r.2.2.1) (.eq (.int .u64 r.2.2.2)))))])):=by
 unfold gC at h
 replace h:=bg h
 refine dF.of 13 Tryz.func99 rfl Tryz.ntmps99 rfl λS w0=>?_
 refine sr ?_
 refine cq ?_
 refine nt ?_
 refine sr ?_
 iterate 3 refine mq ?_
 refine ol jk ?_
 obtain⟨x1,j,h⟩:=aa h
 refine jb (eD rfl j) ?_
 obtain⟨r2,l,h⟩:=aa h
 have n:=bZ k (a0.1,a0.2.1,a0.2.2) c x1 r2 l
 refine kb (au [.tmp 6,.tmp 9] rfl rfl ux rfl n) ?_
 obtain⟨x3,e,h⟩:=aa h
 refine jb (bo (t:=Ti) rfl jk cQ e) ?_
 refine ja (av (t:=Ti) rfl cQ rfl) ?_
 refine aq ?_
 refine nt ?_
 refine aA ?_
 cases h
 exact aL () [_] 1 ⟨rfl,trivial⟩ rfl
def dQ(k:Nat)(a1:Int):Nat->((List Int)×Int×Int×(List Int)×Int)->Option ((List Int)×(List Int)×Int×Int)
 |0,_=>none
 |n+1,y3=>
  if y3.2.2.2.2 < a1 then((bU k (y3.1,y3.2.1,y3.2.2.1) y3.2.2.2.2).bind λr5=>
  (cH (bJ (length y3.2.2.2.1+length [y3.2.2.2.2]))).bind λ_=>
  (aP (y3.2.2.2.1++[y3.2.2.2.2]) r5.1).bind λx8=>
  (aP (y3.2.2.2.1++[y3.2.2.2.2]) y3.2.2.2.2).bind λx9=>
  (aP (List.set (y3.2.2.2.1++[y3.2.2.2.2]) (Int.toNat y3.2.2.2.2) x8) r5.1).bind λe=>
  (ck (y3.2.2.2.2+1)).bind λc=>
  dQ k a1 n (r5.2.1,r5.2.2.1,r5.2.2.2,List.set (List.set (y3.2.2.2.1++[y3.2.2.2.2]) (Int.toNat y3.2.2.2.2) x8) (Int.toNat r5.1) y3.2.2.2.2,c)) else(some (y3.2.2.2.1,y3.1,y3.2.1,y3.2.2.1))
def gG(k:Nat)(a0:bp)(a1:Int):Option ((List Int)×bp):=
 ((dQ k a1 k (a0.1,a0.2.1,a0.2.2,([]:(List Int)),0)):Option ((List Int)×(List Int)×Int×Int)).bind λx1=>
 some (x1.1,(x1.2.1,x1.2.2.1,x1.2.2.2))
theorem qJ(k:Nat)(a0:bp)(c:Nat)(a1:Int)(r:(List Int)×bp)(h:gG k a0 a1=some r):
 dF Tryz.prog 117 [Pt c,I a1] [.obj c 74 (.agg (.pair (.rep Tl a0.1) (.pair (I a0.2.1) (.eq (.int .u64 a0.2.2)))))] (λ_:Unit=>(bI [.rep Tl r.1],[.obj c 74 (.agg (.pair (.rep Tl r.2.1) (.pair (I r.2.2.1) (.eq (.int .u64 r.2.2.2)))))])):=by
 unfold gG at h
 replace h:=bg h
 refine dF.of 32 Tryz.func117 rfl Tryz.ntmps117 rfl λS w0=>?_
 refine sr ?_
 refine cq ?_
 refine nt ?_
 refine sr ?_
 refine cq ?_
 refine nt ?_
 refine aJ (Z:=Value) (α:=(List Int)×(List Int)×Int×Int) (λz2 x1=>[(5,.eq z2)]) (λz2 x1=>[.sl z2 3 Ti x1.1,.obj c 74 (.agg (.pair (.rep Tl x1.2.1) (.pair (I x1.2.2.1) (.eq (.int .u64 x1.2.2.2)))))]) h (λK h=>?_) (λz2 x1 h=>?_)
 .
  refine sr (cq (nt (ak ?_)));refine iD (SE.nil 3 Ti) ?_;refine aI (λz4 y3=>[(0,Pt c),(1,I a1),(5,.eq z4),(6,I y3.2.2.2.2)]) (λz4 y3=>[.obj c 74 (.agg (.pair (.rep Tl y3.1) (.pair (I y3.2.1) (.eq (.int .u64 y3.2.2.1))))),.sl z4 3 Ti y3.2.2.2.1]) (dQ k a1) k (.slice none 0 0) (a0.1,a0.2.1,a0.2.2,([]:(List Int)),0) (λ_=>rfl) h (SE.fin [1,0] ⟨rfl,rfl,rfl,rfl,trivial⟩ rfl) (λn z4 y3 h=>?_);unfold dQ at h;refine aj (sr ?_);iterate 2 refine mq ?_
  refine jb (bK rfl) ?_;refine nt (ci h (λh=>?_) (λh=>?_))
  .refine sk (aj (ak (sr ?_)));iterate 2 refine mq ?_
   obtain⟨r5,y,h⟩:=aa h;refine kb (au [.tmp 13,.tmp 14] rfl rfl ux rfl (bZ k (y3.1,y3.2.1,y3.2.2.1) c y3.2.2.2.2 r5 y)) ?_;refine aq (nt (sr ?_));iterate 2 refine mq ?_
   refine ja (bb (t:=Ti) [(.tmp 17,_)] [y3.2.2.2.2] rfl rfl dS (.cons rfl .int .nil) rfl rfl) ?_;obtain⟨u6,x,h⟩:=aa h;refine fr 1 ?_;refine dV rfl rfl rfl (cp rfl rfl dS (am x)) ⟨rfl,rfl,trivial⟩ λv7=>?_;refine aq (nt (ae ?_));iterate 6 refine mq ?_
   obtain⟨x8,l,h⟩:=aa h;refine kb (cJ (t:=Ti) rfl jk cQ l) ?_;refine ka (gP (i:=Int.toNat r5.1) (off:=0) rfl cQ (λ_=>rfl) rfl (dC l).2.2 rfl) ?_;refine mq ?_;obtain⟨x9,j,h⟩:=aa h;refine kb (cJ (t:=Ti) rfl jk cQ j) ?_;refine aH rfl rfl (gp (i:=Int.toNat y3.2.2.2.2) rfl cQ rfl (mX j) rfl .int rfl) ⟨rfl,rfl,trivial⟩ ?_;obtain⟨D,e,h⟩:=aa h;refine kb (cJ (t:=Ti) rfl jk cQ e) ?_;refine aH rfl rfl (gp (i:=Int.toNat r5.1) rfl cQ rfl (mX e) rfl .int rfl) ⟨rfl,rfl,trivial⟩ ?_;refine aD (aS (tn (ae (mq ?_))));obtain⟨u,s,h⟩:=aa h;refine jb (bG rfl s) ?_;refine aq (nl ?_);exact jz (v7,(r5.2.1,r5.2.2.1,r5.2.2.2,List.set (List.set (y3.2.2.2.1++[y3.2.2.2.2]) (Int.toNat y3.2.2.2.2) x8) (Int.toNat r5.1) y3.2.2.2.2,u)) h [1,0]
  .refine xa ?_;exact jz (z4,(y3.2.2.2.1,y3.1,y3.2.1,y3.2.2.1)) h [1,0]
 .
  refine sr (mq ?_);refine aq (nt (aA ?_));refine bH (jo [4,5,31] ⟨rfl,rfl,rfl,trivial⟩) ?_;cases h;exact aL () [_] 1 ⟨rfl,trivial⟩ rfl
def ib(k:Nat)(a0:bp)(a1:xI):Option (aQ×bp):=
 (ck (a1.1 - 1)).bind λx3=>
 (bU k (a0.1,a0.2.1,a0.2.2) x3).bind λr4=>
 (bU k (r4.2.1,r4.2.2.1,r4.2.2.2) (a1.2.2.2.2.1.length:Int)).bind λr5=>
 (ec k (r5.2.1,r5.2.2.1,r5.2.2.2) 2).bind λr6=>
 some ((r4.1,r5.1,r6.1),(r6.2.1,r6.2.2.1,r6.2.2.2))
theorem rU(k:Nat)(a0:bp)(c:Nat)(a1:xI)(r:aQ×bp)(h:ib k a0 a1=some r):
 dF Tryz.prog 67 [Pt c,.rep Cd a1] [.obj c 74 (.agg (.pair (.rep Tl a0.1) (.pair (I a0.2.1) (.eq (.int .u64 a0.2.2)))))] (λ_:Unit=>(bI [.rep aY r.1],[.obj c 74 (.agg (.pair (.rep Tl r.2.1) (.pair (I r.2.2.1) (.eq (.int .u64 r.2.2.2)))))])):=by
 unfold ib at h
 replace h:=bg h
 refine dF.of 18 Tryz.func67 rfl Tryz.ntmps67 rfl λS w0=>?_
 refine sr ?_
 refine bx λb1=>?_
 refine aV rfl rfl rfl (ba rfl AC Io) trivial λb2=>?_
 refine nt ?_
 refine aj ?_
 refine E5 [1,2,3,5,6,7,8,10,0,4,9,11,12,13] (by kernel_rfl) ?_
 refine bR rfl rfl rfl (aC rfl gI) ⟨rfl,trivial⟩ ?_
 refine hH 1 rfl rfl rfl rfl (ay rfl cQ nB rfl) ⟨rfl,trivial⟩ ?_
 obtain⟨x3,E,h⟩:=aa h
 refine bR rfl rfl rfl (eD rfl E) ⟨rfl,rfl,trivial⟩ ?_
 refine bR rfl rfl rfl (bD rfl) ⟨rfl,trivial⟩ ?_
 refine bR rfl rfl rfl (aC rfl dD) ⟨rfl,trivial⟩ ?_
 refine hH 1 rfl rfl rfl rfl (ay rfl i8 nB rfl) ⟨rfl,trivial⟩ ?_
 refine bR rfl rfl rfl (t7 rfl rfl xY) ⟨rfl,trivial⟩ ?_
 refine bR rfl rfl rfl (bD rfl) ⟨rfl,trivial⟩ ?_
 refine bR rfl rfl rfl (bD rfl) ⟨rfl,trivial⟩ ?_
 refine uR 9 [true,true,true,false,false,false,false,false,true] [9,14] [1] [.obj b1 25 (.rep Cd a1)] rfl (by kernel_rfl) (by kernel_rfl) (by kernel_rfl) eo (λvs hv hB=>?_)
 obtain⟨w0,Uk,rfl,D⟩:=ax hv
 obtain⟨w1,zz,rfl,y⟩:=ax D
 obtain⟨w2,qt,rfl,x⟩:=ax y
 obtain⟨w3,mw,rfl,u⟩:=ax x
 obtain⟨w4,mc,rfl,s⟩:=ax u
 obtain⟨w5,gw,rfl,n⟩:=ax s
 obtain⟨w6,Z,rfl,l⟩:=ax n
 obtain⟨w7,Y,rfl,j⟩:=ax l
 obtain⟨w8,X,rfl,e⟩:=ax j
 obtain rfl:=qI e
 refine⟨[1,0,2],[.obj b2 27 (.agg (.pair (I 0) (.pair (I 0) (.eq (.bool false))))),.obj c 74 (.agg (.pair (.rep Tl a0.1) (.pair (I a0.2.1) (.eq (.int .u64 a0.2.2)))))],by kernel_rfl,by decide,?_⟩
 obtain⟨r4,M,h⟩:=aa h
 have U:=bZ k (a0.1,a0.2.1,a0.2.2) c x3 r4 M
 refine qV 1 rfl ?_
 refine uN rfl rfl rfl rfl (au [.tmp 5,.tmp 8] rfl rfl ux rfl U) ⟨rfl,rfl,trivial⟩ (by kernel_rfl) ?_
 obtain⟨r5,J,h⟩:=aa h
 have Q:=bZ k (r4.2.1,r4.2.2.1,r4.2.2.2) c (a1.2.2.2.2.1.length:Int) r5 J
 refine uN rfl rfl rfl rfl (au [.tmp 10,.tmp 13] rfl rfl ux rfl Q) ⟨rfl,rfl,trivial⟩ (by kernel_rfl) ?_
 refine OT (by kernel_rfl) ?_
 obtain⟨r6,F,h⟩:=aa h
 have O:=gU k (r5.2.1,r5.2.2.1,r5.2.2.2) c 2 r6 F
 refine fr 1 ?_
 refine kb (au [.tmp 15,.const (.int .i64 (2))] rfl rfl KY rfl O) ?_
 refine jc (dX [(0,.tmp 9,_),(1,.tmp 14,_),(2,.tmp 16,_)] rfl PP AC MV (jD ⟨rfl,rfl,rfl,trivial⟩) rfl) ?_
 refine fr 2 ?_
 refine aH rfl rfl (aF rfl rl trivial rfl rfl) ⟨rfl,rfl,trivial⟩ ?_
 refine nt ?_
 refine aA ?_
 refine bH (gh (a:=.agg (.pair (I r4.1) (.pair (I r5.1) (.eq (.bool r6.1))))) (a':=.rep aY (r4.1,r5.1,r6.1)) (iY (.agg (.pair .int (.pair .int .bool))))) ?_
 refine bH (SE.fin (Γ':=[(4,_)]) [1,0,2] ⟨rfl,trivial⟩ rfl) ?_
 cases h
 exact aL () [.rep aY (r4.1,r5.1,r6.1)] 1 ⟨⟨_,_,_,_,_,rfl,(.tail _ (.head _)),rl,(tq),rfl⟩,trivial⟩ rfl
def ff(k:Nat)(a1:Int):Nat->((List Int)×Int×Int×(List Int)×Int)->Option ((List Int)×(List Int)×Int×Int)
 |0,_=>none
 |n+1,y3=>
  if y3.2.2.2.2 < a1 then((((ec k (y3.1,y3.2.1,y3.2.2.1) 3).bind λr7=>
  if r7.1=true then((cH (bJ (length y3.2.2.2.1+length [y3.2.2.2.2]))).bind λ_=>
  some (r7.2.1,r7.2.2.1,r7.2.2.2,y3.2.2.2.1++[y3.2.2.2.2])) else(some (r7.2.1,r7.2.2.1,r7.2.2.2,y3.2.2.2.1))):Option ((List Int)×Int×Int×(List Int))).bind λx5=>
  (ck (y3.2.2.2.2+1)).bind λc=>
  ff k a1 n (x5.1,x5.2.1,x5.2.2.1,x5.2.2.2,c)) else(some (y3.2.2.2.1,y3.1,y3.2.1,y3.2.2.1))
def jL(k:Nat)(a0:bp)(a1:Int):Option ((List Int)×bp):=
 ((ff k a1 k (a0.1,a0.2.1,a0.2.2,([]:(List Int)),0)):Option ((List Int)×(List Int)×Int×Int)).bind λx1=>
 some (x1.1,(x1.2.1,x1.2.2.1,x1.2.2.2))
theorem um(k:Nat)(a0:bp)(c:Nat)(a1:Int)(r:(List Int)×bp)(h:jL k a0 a1=some r):
 dF Tryz.prog 14 [Pt c,I a1] [.obj c 74 (.agg (.pair (.rep Tl a0.1) (.pair (I a0.2.1) (.eq (.int .u64 a0.2.2)))))] (λ_:Unit=>(bI [.rep Tl r.1],[.obj c 74 (.agg (.pair (.rep Tl r.2.1) (.pair (I r.2.2.1) (.eq (.int .u64 r.2.2.2)))))])):=by
 unfold jL at h
 replace h:=bg h
 refine dF.of 19 Tryz.func14 rfl Tryz.ntmps14 rfl λS w0=>?_
 refine sr ?_
 refine cq ?_
 refine nt ?_
 refine sr ?_
 refine cq ?_
 refine nt ?_
 refine aJ (Z:=Value) (α:=(List Int)×(List Int)×Int×Int) (λz2 x1=>[(5,.eq z2)]) (λz2 x1=>[.sl z2 3 Ti x1.1,.obj c 74 (.agg (.pair (.rep Tl x1.2.1) (.pair (I x1.2.2.1) (.eq (.int .u64 x1.2.2.2)))))]) h (λK h=>?_) (λz2 x1 h=>?_)
 .
  refine sr (cq (nt (ak ?_)));refine iD (SE.nil 3 Ti) ?_;refine aI (λz4 y3=>[(0,Pt c),(1,I a1),(5,.eq z4),(6,I y3.2.2.2.2)]) (λz4 y3=>[.obj c 74 (.agg (.pair (.rep Tl y3.1) (.pair (I y3.2.1) (.eq (.int .u64 y3.2.2.1))))),.sl z4 3 Ti y3.2.2.2.1]) (ff k a1) k (.slice none 0 0) (a0.1,a0.2.1,a0.2.2,([]:(List Int)),0) (λ_=>rfl) h (SE.fin [1,0] ⟨rfl,rfl,rfl,rfl,trivial⟩ rfl) (λn z4 y3 h=>?_);unfold ff at h;refine aj (sr ?_);iterate 2 refine mq ?_
  refine jb (bK rfl) ?_;refine nt (ci h (λh=>?_) (λh=>?_))
  .refine sk (aJ (Z:=Value) (α:=(List Int)×Int×Int×(List Int)) (λz6 x5=>[(0,Pt c),(1,I a1),(5,.eq z6),(6,I y3.2.2.2.2)]) (λz6 x5=>[.obj c 74 (.agg (.pair (.rep Tl x5.1) (.pair (I x5.2.1) (.eq (.int .u64 x5.2.2.1))))),.sl z6 3 Ti x5.2.2.2]) h (λK h=>?_) (λz6 x5 h=>?_))
   .refine ak (sr (mq ?_));obtain⟨r7,s,h⟩:=aa h;refine kb (au [.tmp 12,.const (.int .i64 (3))] rfl rfl KY rfl (gU k (y3.1,y3.2.1,y3.2.2.1) c 3 r7 s)) ?_;refine nt (cv h (λh=>?_) (λh=>?_))
    .refine ae ?_;iterate 2 refine mq ?_
     refine ja (bb (t:=Ti) [(.tmp 15,_)] [y3.2.2.2.2] rfl rfl dS (.cons rfl .int .nil) rfl rfl) ?_;obtain⟨u8,l,h⟩:=aa h;refine fr 1 ?_;refine dV rfl rfl rfl (cp rfl rfl dS (am l)) ⟨rfl,rfl,trivial⟩ λv9=>?_;refine aq (aD (bn ?_));exact jz (v9,(r7.2.1,r7.2.2.1,r7.2.2.2,y3.2.2.2.1++[y3.2.2.2.2])) h [1,0]
    .refine bq (bn ?_);exact jz (z4,(r7.2.1,r7.2.2.1,r7.2.2.2,y3.2.2.2.1)) h [0,1]
   .refine ae (mq ?_);obtain⟨j,e,h⟩:=aa h;refine jb (bG rfl e) ?_;refine aq (nl ?_);exact jz (z6,(x5.1,x5.2.1,x5.2.2.1,x5.2.2.2,j)) h [0,1]
  .refine xa ?_;exact jz (z4,(y3.2.2.2.1,y3.1,y3.2.1,y3.2.2.1)) h [1,0]
 .
  refine sr (mq ?_);refine aq (nt (aA ?_));refine bH (jo [4,5,18] ⟨rfl,rfl,rfl,trivial⟩) ?_;cases h;exact aL () [_] 1 ⟨rfl,trivial⟩ rfl
def eR(k:Nat)(a0:ab)(a1:(List (List Int))):Nat->Int->Option (Except Bool Unit)
 |0,_=>none
 |n+1,y5=>
  if y5 < (a1.length:Int) then((aP a1 y5).bind λx7=>
  if¬((x7.length:Int)=a0.1) then(some (.error false)) else((ck (y5+1)).bind λx8=>
  eR k a0 a1 n x8)) else(some (.ok ()))
def mm(k:Nat)(a0:ab)(a1:(List (List Int))):Option Bool:=
 (ck ((a0.2.2.2.2.1.length:Int)+1)).bind λx2=>
 if¬((a1.length:Int)=x2) then(some false) else(bE (α:=Unit) (eR k a0 a1 k 0) (some) λ_=>
 some true)
theorem xq(k:Nat)(a0:ab)(a1:(List (List Int)))(r:Bool)(h:mm k a0 a1=some r):
 dF Tryz.prog 66 [.rep ap a0,.rep (.slice Tl) a1] [] (λ_:Unit=>(bI [.eq (.bool r)],[])):=by
 unfold mm at h
 replace h:=bg h
 refine dF.of 27 Tryz.func66 rfl Tryz.ntmps66 rfl λS w0=>?_
 refine sr ?_
 refine bx λb1=>?_
 refine cq ?_
 refine nt ?_
 refine aj ?_
 refine sr ?_
 refine mq ?_
 refine ol s9 ?_
 refine fl dD ?_
 refine lo i8 ?_
 refine ol xY ?_
 obtain⟨x2,l,h⟩:=aa h
 refine jb (bG rfl l) ?_
 refine jb (fq rfl) ?_
 refine nt ?_
 refine cn h (λh=>?_) (λh=>?_)
 .
  refine sr (cq (nt (rx ?_)));cases h;exact ra
 .
  refine sk (dI (Z:=Unit) (α:=Unit) (λz4 x3=>[]) (λz4 x3=>[]) (λe=>e=r) h (λe h=>Option.some.inj h) (λK hR h=>?_) (λz4 x3 h=>?_))
  .refine sr (cq (nt (ak ?_)));refine aI (λz6 y5=>[(1,.rep (.slice Tl) a1),(2,Pt b1),(5,I y5)]) (λz6 y5=>[.obj b1 25 (.rep ap a0)]) (eR k a0 a1) k () 0 (λ_=>rfl) h (SE.fin [0] ⟨rfl,rfl,rfl,trivial⟩ rfl) (λn z6 y5 h=>?_);unfold eR at h;refine aj (sr ?_);iterate 2 refine mq ?_
   refine ol s9 ?_;refine jb (bK rfl) ?_;refine nt (ci h (λh=>?_) (λh=>?_))
   .refine sk (aj (ak (aj (cO ?_))));refine dm ?_;refine dm ?_;obtain⟨x7,j,h⟩:=aa h;refine db (bo (t:=Tl) rfl s9 jW j) ?_;refine da (av (t:=Tl) rfl jW rfl) ?_;refine da (t7 rfl rfl jk) ?_;refine da (aC rfl gI) ?_;refine ea 0 (ay rfl cQ nB rfl) ?_;refine df eo ?_;refine jb (fq rfl) ?_;refine nt (cn h (λh=>?_) (λh=>?_))
    .refine sr (cq (nt (aA (br (bP (bF ?_))))));obtain rfl:=hR _ h;exact ra
    .refine bq (aS (tn (ae (mq ?_))));obtain⟨x8,c,h⟩:=aa h;refine jb (bG rfl c) ?_;refine aq (nl ?_);exact jz ((),x8) h [0]
   .refine xa ?_;exact jz ((),()) h []
  .refine sr (cq (nt (aA ?_)));cases h;exact ra
