import Derived.Test.YthnacobbednnbaaGreatVBFacts
open Nat
open List hiding mem_of_getElem?
open Array hiding mem_of_getElem? mk
set_option linter.unusedSimpArgs false
set_option linter.unusedVariables false
set_option maxRecDepth 4000
set_option maxHeartbeats 1000000
namespace Go.Proofs.YthnacobbednnbaaGreat
open K Go Go.Proofs
def iv(k:Nat)(a0:ab)(y4:Int):Nat->Int->Option (Except Bool Unit)
 |0,_=>none
 |n+1,c=>
  (aG a0.2.2.2.2.1 y4).bind λl=>
  if c < (l.length:Int) then((aG a0.2.2.2.2.1 y4).bind λj=>
  (aG j c).bind λh=>
  if 20 < (h.length:Int) then(some (.error true)) else((ck (c+1)).bind λe=>
  iv k a0 y4 n e)) else(some (.ok ()))
def iw(k:Nat)(a0:ab):Nat->Int->Option (Except Bool Unit)
 |0,_=>none
 |n+1,y4=>
  ((if y4 < (a0.2.2.2.2.1.length:Int) then(some (decide (y4 < 20))) else(some false)):Option (Bool)).bind λx6=>
  if x6=true then(bE (α:=Unit) ((aG a0.2.2.2.2.1 y4).bind λh=>
  if 20 < (h.length:Int) then(some (.error true)) else(iv k a0 y4 k 0)) (λe=>some (.error e)) λ_=>
  (ck (y4+1)).bind λc=>
  iw k a0 n c) else(some (.ok ()))
def pw(k:Nat)(a0:ab):Option Bool:=
 bE (α:=Unit) (iw k a0 k 0) (some) λ_=>
 ((if 20 < (a0.2.2.2.2.1.length:Int) then(some true) else(some (decide (20 < (a0.2.2.2.2.2.length:Int))))):Option (Bool)).bind λc=>
 some c
theorem A7(k:Nat)(a0:ab)(r:Bool)(h:pw k a0=some r):
 cT Tryz.prog 10 [.rep am a0] [] (λ_:Unit=>(bC [.eq (.bool r)],[])):=by
 unfold pw at h
 replace h:=aX h
 refine cT.of 53 Tryz.func10 rfl Tryz.ntmps10 rfl λS w0=>?_
 refine sr ?_
 refine bx λb1=>?_
 refine cq ?_
 refine nt ?_
 refine cS (Z:=Unit) (α:=Unit) (λz3 x2=>[(1,Pt b1)]) (λz3 x2=>[.obj b1 25 (.rep am a0)]) (λe=>e=r) h (λe h=>Option.some.inj h) (λK hR h=>?_) (λz3 x2 h=>?_)
 .
  refine sr (cq (nt (ah ?_)));refine aC (λz5 y4=>[(1,Pt b1),(3,I y4)]) (λz5 y4=>[.obj b1 25 (.rep am a0)]) (iw k a0) k () 0 (λ_=>rfl) h (SE.fin [0] ⟨rfl,rfl,trivial⟩ rfl) (λn z5 y4 h=>?_);unfold iw at h;refine aj (aE (Z:=Unit) (α:=Bool) (λz7 x6=>[(1,Pt b1),(3,I y4),(13,.eq (.bool x6))]) (λz7 x6=>[.obj b1 25 (.rep am a0)]) h (λK h=>?_) (λz7 x6 h=>?_))
  .refine ae (mq ?_);refine fl cj ?_;refine lo fB ?_;refine ol pJ ?_;refine jb (bj rfl) ?_;refine mq ?_;refine cf (s:=10) rfl (λhb=>?_) (λhb=>?_)
   .replace h:=ee (vM hb) h;refine gm ?_;refine gb (bj rfl) ?_;refine pt (nl ?_);exact jz ((),decide (y4 < 20)) h [0]
   .replace h:=cK (vO hb) h;iterate 2 refine gn ?_
    refine pf (nl ?_);exact jz ((),false) h [0]
  .refine cv h (λh=>?_) (λh=>?_)
   .refine sk (cS (Z:=Unit) (α:=Unit) (λz9 x8=>[(1,Pt b1),(3,I y4)]) (λz9 x8=>[.obj b1 25 (.rep am a0)]) (λe=>e=r) h (λe h=>hR e h) (λK hR h=>?_) (λz9 x8 h=>?_))
    .refine ah (aj (sr (fl cj ?_)));refine lo fB ?_;refine mq ?_;obtain⟨Y,J,h⟩:=aa h;refine jb (aD (t:=(.slice Tl)) rfl pJ kE J) ?_;refine ja (ao (t:=(.slice Tl)) rfl kE rfl) ?_;refine ol nK ?_;refine jb (jm rfl) ?_;refine nt (ci h (λh=>?_) (λh=>?_))
     .refine sr (cq (nt (rx (br (bb (bg ?_))))));obtain rfl:=hR _ h;exact ra
     .refine sk (sr (cq (nt (ah ?_))));refine aC (λu c=>[(1,Pt b1),(3,I y4),(4,I c)]) (λu c=>[.obj b1 25 (.rep am a0)]) (iv k a0 y4) k () 0 (λ_=>rfl) h (SE.fin [0] ⟨rfl,rfl,rfl,trivial⟩ rfl) (λn u c h=>?_);unfold iv at h;refine aj (sr (mq ?_));refine fl cj ?_;refine lo fB ?_;refine mq ?_;obtain⟨X,F,h⟩:=aa h;refine jb (aD (t:=(.slice Tl)) rfl pJ kE F) ?_;refine ja (ao (t:=(.slice Tl)) rfl kE rfl) ?_;refine ol nK ?_;refine jb (bj rfl) ?_;refine nt (ci h (λh=>?_) (λh=>?_))
      .refine sk (aj (ah (sr (fl cj ?_))));refine lo fB ?_;refine mq ?_;obtain⟨U,E,h⟩:=aa h;refine jb (aD (t:=(.slice Tl)) rfl pJ kE E) ?_;refine ja (ao (t:=(.slice Tl)) rfl kE rfl) ?_;refine mq ?_;obtain⟨Q,D,h⟩:=aa h;refine jb (aD (t:=Tl) rfl nK eT D) ?_;refine ja (ao (t:=Tl) rfl eT rfl) ?_;refine ol gA ?_;refine jb (jm rfl) ?_;refine nt (ci h (λh=>?_) (λh=>?_))
       .refine sr (cq (nt (aA (br (bb (br (bb (bg ?_))))))));obtain rfl:=hR _ h;exact ra
       .refine aZ (aI (tn (ae (mq ?_))));obtain⟨O,y,h⟩:=aa h;refine jb (be rfl y) ?_;refine aq (nl ?_);exact jz ((),O) h [0]
      .refine fA (bJ (bJ (cZ (bn ?_))));exact jz ((),()) h [0]
    .refine ae (mq ?_);obtain⟨M,x,h⟩:=aa h;refine jb (be rfl x) ?_;refine aq (nl ?_);exact jz ((),M) h [0]
   .refine xa ?_;exact jz ((),()) h [0]
 .
  refine aE (Z:=Unit) (α:=Bool) (λl j=>[(2,.eq (.bool j))]) (λl j=>[]) h (λK h=>?_) (λl j h=>?_)
  .refine ae (fl cj ?_);refine lo fB ?_;refine ol pJ ?_;refine jb (jm rfl) ?_;refine mq ?_;refine cf (s:=47) rfl (λhb=>?_) (λhb=>?_)
   .replace h:=ee (vM hb) h;iterate 4 refine gn ?_
    refine pt ?_;refine aq (nl ?_);exact jz ((),true) h []
   .replace h:=cK (vO hb) h;refine ga (au rfl fR) ?_;refine eP rfl rfl rfl rfl rfl rfl (an rfl nm ju rfl) ⟨rfl,trivial⟩ ?_;refine ga (pi rfl rfl Cf) ?_;refine gb (jm rfl) ?_;refine pf ?_;refine aq (nl ?_);exact jz ((),decide (20 < (a0.2.2.2.2.2.length:Int))) h []
  .refine aA ?_;cases h;exact ra
def dT(k:Nat)(a0:Int)(a1:Int)(a2:Int):Option Bool:=
 ((if a1≤a0 then(some (decide (a0≤a2))) else(some false)):Option (Bool)).bind λx1=>
 some x1
theorem dX(k:Nat)(a0:Int)(a1:Int)(a2:Int)(r:Bool)(h:dT k a0 a1 a2=some r):
 cT Tryz.prog 53 [I a0,I a1,I a2] [] (λ_:Unit=>(bC [.eq (.bool r)],[])):=by
 unfold dT at h
 replace h:=aX h
 refine cT.of 15 Tryz.func53 rfl Tryz.ntmps53 rfl λS w0=>?_
 refine sr ?_
 refine cq ?_
 refine nt ?_
 refine aE (Z:=Unit) (α:=Bool) (λz2 x1=>[(6,.eq (.bool x1))]) (λz2 x1=>[]) h (λK h=>?_) (λz2 x1 h=>?_)
 .
  refine ae ?_;iterate 2 refine mq ?_
  refine jb (AH rfl) ?_;refine mq ?_;refine cf (s:=10) rfl (λhb=>?_) (λhb=>?_)
  .replace h:=ee (vM hb) h;refine gm ?_;refine gm ?_;refine gb (AH rfl) ?_;refine pt ?_;refine aq (nl ?_);exact jz ((),decide (a0≤a2)) h []
  .replace h:=cK (vO hb) h;iterate 3 refine gn ?_
   refine pf ?_;refine aq (nl ?_);exact jz ((),false) h []
 .
  refine aA ?_;cases h;exact ra
def gp(k:Nat)(a0:Int)(a1:Int):Option Int:=
 (bS (0≤a1)).bind λ_=>
 some (ED .u8 a0 (pz .u8 1 a1))
theorem li(k:Nat)(a0:Int)(a1:Int)(r:Int)(h:gp k a0 a1=some r):
 cT Tryz.prog 75 [.eq (.int .u8 a0),I a1] [] (λ_:Unit=>(bC [.eq (.int .u8 r)],[])):=by
 unfold gp at h
 replace h:=aX h
 refine cT.of 9 Tryz.func75 rfl Tryz.ntmps75 rfl λS w0=>?_
 refine sr ?_
 refine cq ?_
 refine nt ?_
 refine sr ?_
 iterate 2 refine mq ?_
 obtain⟨u1,c,h⟩:=aa h
 refine jb (Om rfl (ap c)) ?_
 refine jb (Up rfl) ?_
 refine aq ?_
 refine nt ?_
 refine aA ?_
 cases h
 exact ra
def fj(k:Nat)(a0:Int)(a1:Int):Option Bool:=
 (bS (0≤a1)).bind λ_=>
 some (decide ((rp .u8 (ib .u8 a0 a1) 1)=1))
theorem ip(k:Nat)(a0:Int)(a1:Int)(r:Bool)(h:fj k a0 a1=some r):
 cT Tryz.prog 97 [.eq (.int .u8 a0),I a1] [] (λ_:Unit=>(bC [.eq (.bool r)],[])):=by
 unfold fj at h
 replace h:=aX h
 refine cT.of 10 Tryz.func97 rfl Tryz.ntmps97 rfl λS w0=>?_
 refine sr ?_
 refine cq ?_
 refine nt ?_
 refine sr ?_
 iterate 2 refine mq ?_
 obtain⟨u1,c,h⟩:=aa h
 refine jb (vm rfl (ap c)) ?_
 refine jb (Rw rfl) ?_
 refine jb (jE rfl) ?_
 refine aq ?_
 refine nt ?_
 refine aA ?_
 cases h
 exact ra
def dj(k:Nat)(a0:ab)(x8:(List Int)):Nat->(Int×Int)->Option (Except Int Int)
 |0,_=>none
 |n+1,y9=>
  if y9.2 < (x8.length:Int) then((aG x8 y9.2).bind λc=>
  (ck (a0.1 - 1)).bind λh=>
  (dT k c 0 h).bind λr=>
  if¬(r=true) then(some (.error 3)) else((fj k y9.1 c).bind λl=>
  if l=true then(some (.error 4)) else((gp k y9.1 c).bind λj=>
  (ck (y9.2+1)).bind λe=>
  dj k a0 x8 n (j,e)))) else(some (.ok y9.1))
def dk(k:Nat)(a0:ab)(a1:(List (List Int))):Nat->(Int×Int)->Option (Except Int Unit)
 |0,_=>none
 |n+1,y4=>
  if y4.2 < (a1.length:Int) then(bE (α:=Int) ((aG a1 y4.2).bind λx8=>
  dj k a0 x8 k (y4.1,0)) (λe=>some (.error e)) λx6=>
  (ck (y4.2+1)).bind λc=>
  dk k a0 a1 n (x6,c)) else(some (.ok ()))
def jM(k:Nat)(a0:ab)(a1:(List (List Int))):Option Int:=
 if 3 < (a1.length:Int) then(some 6) else(bE (α:=Unit) (dk k a0 a1 k (0,0)) (some) λ_=>
 some 0)
theorem ut(k:Nat)(a0:ab)(a1:(List (List Int)))(r:Int)(h:jM k a0 a1=some r):
 cT Tryz.prog 54 [.rep am a0,.rep (.slice Tl) a1] [] (λ_:Unit=>(bC [I r],[])):=by
 unfold jM at h
 replace h:=aX h
 refine cT.of 39 Tryz.func54 rfl Tryz.ntmps54 rfl λS w0=>?_
 refine sr ?_
 refine bx λb1=>?_
 refine cq ?_
 refine nt ?_
 refine aj ?_
 refine sr ?_
 refine mq ?_
 refine ol nK ?_
 refine jb (jm rfl) ?_
 refine nt ?_
 refine ci h (λh=>?_) (λh=>?_)
 .
  refine sr (cq (nt (rx ?_)));cases h;exact ra
 .
  refine sk (sr (cq (nt ?_)));refine cS (Z:=Unit) (α:=Unit) (λz3 x2=>[]) (λz3 x2=>[]) (λe=>e=r) h (λe h=>Option.some.inj h) (λK hR h=>?_) (λz3 x2 h=>?_)
  .refine sr (mq ?_);refine ol nK ?_;refine fH rfl ?_;refine nt (ah (aC (λz5 y4=>[(2,Pt b1),(5,.eq (.int .u8 y4.1)),(13,.rep (.slice Tl) a1),(14,I (a1.length:Int)),(15,I y4.2)]) (λz5 y4=>[.obj b1 25 (.rep am a0)]) (dk k a0 a1) k () (0,0) (λ_=>rfl) h (SE.fin [0] ⟨rfl,rfl,rfl,rfl,rfl,trivial⟩ rfl) (λn z5 y4 h=>?_)));unfold dk at h;refine sr (jb (bj rfl) ?_);refine nt (aj (ci h (λh=>?_) (λh=>?_)))
   .refine sk (cS (Z:=Unit) (α:=Int) (λz7 x6=>[(2,Pt b1),(5,.eq (.int .u8 x6)),(13,.rep (.slice Tl) a1),(14,I (a1.length:Int)),(15,I y4.2)]) (λz7 x6=>[.obj b1 25 (.rep am a0)]) (λe=>e=r) h (λe h=>hR e h) (λK hR h=>?_) (λz7 x6 h=>?_))
    .refine ah (sr ?_);obtain⟨x8,X,h⟩:=aa h;refine jb (aD (t:=Tl) rfl nK eT X) ?_;refine ja (ao (t:=Tl) rfl eT rfl) ?_;refine aq (nt (sr ?_));refine mq ?_;refine ol gA ?_;refine fH rfl ?_;refine nt (ah (aC (λj y9=>[(2,Pt b1),(5,.eq (.int .u8 y9.1)),(13,.rep (.slice Tl) a1),(14,I (a1.length:Int)),(15,I y4.2),(19,.rep Tl x8),(20,I (x8.length:Int)),(21,I y9.2)]) (λj y9=>[.obj b1 25 (.rep am a0)]) (dj k a0 x8) k () (y4.1,0) (λ_=>rfl) h (SE.fin [0] ⟨rfl,rfl,rfl,rfl,rfl,rfl,rfl,rfl,trivial⟩ rfl) (λn j y9 h=>?_)));unfold dj at h;refine sr (jb (bj rfl) ?_);refine nt (aj (ci h (λh=>?_) (λh=>?_)))
     .refine sk (aj (ah (sr ?_)));obtain⟨c,y,h⟩:=aa h;refine jb (aD (t:=Ti) rfl gA bQ y) ?_;refine ja (ao (t:=Ti) rfl bQ rfl) ?_;refine aq (nt (aj (sr ?_)));refine mq ?_;refine fl eU ?_;refine lo bQ ?_;obtain⟨O,x,h⟩:=aa h;refine jb (eo rfl x) ?_;obtain⟨U,F,h⟩:=aa h;refine jc (ax [.tmp 25,.const (.int .i64 (0)),.tmp 28] rfl rfl zi rfl (dX k c 0 O U F)) ?_;refine ja (fh rfl) ?_;refine nt (cw h (λh=>?_) (λh=>?_))
      .refine sr (cq (nt (rx (br (bb (br (bb (bg ?_))))))));obtain rfl:=hR _ h;exact ra
      .refine sk (aj (sr ?_));iterate 2 refine mq ?_
       obtain⟨Q,E,h⟩:=aa h;refine jb (ax [.tmp 31,.tmp 32] rfl rfl Jh rfl (ip k y9.1 c Q E)) ?_;refine nt (cv h (λh=>?_) (λh=>?_))
       .refine sr (cq (nt (rx (br (bb (br (bb (bg ?_))))))));obtain rfl:=hR _ h;exact ra
       .refine sk (ae ?_);iterate 2 refine mq ?_
        obtain⟨l,D,h⟩:=aa h;refine jb (ax [.tmp 34,.tmp 35] rfl rfl P7 rfl (li k y9.1 c l D)) ?_;refine aq (aF (aI (tn (ae ?_))));obtain⟨M,u,h⟩:=aa h;refine jb (be rfl u) ?_;refine mq (nl ?_);exact jz ((),(l,M)) h [0]
     .refine fA (bJ (bJ (cZ (bn ?_))));exact jz ((),y9.1) h [0]
    .refine ae ?_;obtain⟨J,s,h⟩:=aa h;refine jb (be rfl s) ?_;refine mq (nl ?_);exact jz ((),(x6,J)) h [0]
   .refine xa ?_;exact jz ((),()) h []
  .refine sr (cq (nt (aA ?_)));cases h;exact ra
def gI(k:Nat)(a0:ab)(a1:aQ):Option Int:=
 (((ck (a0.1 - 1)).bind λx5=>
 (dT k a1.1 0 x5).bind λr6=>
 if¬(r6=true) then(some true) else((dT k a1.2.1 0 (a0.2.2.2.2.1.length:Int)).bind λr7=>
 some (!r7))):Option (Bool)).bind λx3=>
 if x3=true then(some 3) else(some 0)
theorem qX(k:Nat)(a0:ab)(a1:aQ)(r:Int)(h:gI k a0 a1=some r):
 cT Tryz.prog 55 [.rep am a0,.rep aJ a1] [] (λ_:Unit=>(bC [I r],[])):=by
 unfold gI at h
 replace h:=aX h
 refine cT.of 21 Tryz.func55 rfl Tryz.ntmps55 rfl λS w0=>?_
 refine sr ?_
 refine bx λb1=>?_
 refine bx λb2=>?_
 refine cq ?_
 refine nt ?_
 refine aj ?_
 refine aE (Z:=Unit) (α:=Bool) (λz4 x3=>[(20,.eq (.bool x3))]) (λz4 x3=>[]) h (λK h=>?_) (λz4 x3 h=>?_)
 .
  refine ae (fl ze ?_);refine lo bQ ?_;refine fl eU ?_;refine fr 1 ?_;refine lo bQ ?_;obtain⟨x5,c,h⟩:=aa h;refine jb (eo rfl c) ?_;obtain⟨r6,j,h⟩:=aa h;refine jc (ax [.tmp 6,.const (.int .i64 (0)),.tmp 9] rfl rfl zi rfl (dX k a1.1 0 x5 r6 j)) ?_;refine ja (fh rfl) ?_;refine mq ?_;refine cf (s:=12) rfl (λhb=>?_) (λhb=>?_)
  .replace h:=ee (um hb) h;iterate 7 refine gn ?_
   refine pt (nl ?_);exact jz ((),true) h []
  .replace h:=cK (ox hb) h;refine ga (au rfl zd) ?_;refine fr 1 ?_;refine eP rfl rfl rfl rfl rfl rfl (an rfl bQ ju rfl) ⟨rfl,trivial⟩ ?_;refine ga (au rfl cj) ?_;refine fr 1 ?_;refine eP rfl rfl rfl rfl rfl rfl (an rfl fB ju rfl) ⟨rfl,trivial⟩ ?_;refine ga (pi rfl rfl pJ) ?_;obtain⟨r7,e,h⟩:=aa h;refine gc (ax [.tmp 14,.const (.int .i64 (0)),.tmp 17] rfl rfl zi rfl (dX k a1.2.1 0 (a0.2.2.2.2.1.length:Int) r7 e)) ?_;refine ga (fh rfl) ?_;refine pf (nl ?_);exact jz ((), !r7) h []
 .
  refine cv h (λh=>?_) (λh=>?_)
  .refine sr (cq (nt (rx ?_)));cases h;exact ra
  .refine sk (sr (cq (nt (aA ?_))));cases h;exact ra
def fx(k:Nat)(a0:ab):Nat->Int->Option (Except Int Unit)
 |0,_=>none
 |n+1,c=>
  if c < (a0.2.2.2.2.1.length:Int) then((aG a0.2.2.2.2.1 c).bind λj=>
  (jM k a0 j).bind λe=>
  if¬(e=0) then(some (.error e)) else((ck (c+1)).bind λh=>
  fx k a0 n h)) else(some (.ok ()))
def fu(k:Nat)(a0:ab):Nat->Int->Option (Except Int Unit)
 |0,_=>none
 |n+1,c=>
  if c < (a0.2.2.2.2.2.length:Int) then((aG a0.2.2.2.2.2 c).bind λj=>
  (gI k a0 j).bind λe=>
  if¬(e=0) then(some (.error e)) else((ck (c+1)).bind λh=>
  fu k a0 n h)) else(some (.ok ()))
def nE(k:Nat)(a0:ab):Option Int:=
 (((dT k a0.1 1 5).bind λr4=>
 if¬(r4=true) then(some true) else((dT k a0.2.1 0 3).bind λr5=>
 if¬(r5=true) then(some true) else((dT k a0.2.2.1 0 3).bind λr6=>
 if¬(r6=true) then(some true) else((dT k a0.2.2.2.1 1 3).bind λr7=>
 some (!r7))))):Option (Bool)).bind λx2=>
 if x2=true then(some 1) else(if(a0.2.2.2.2.1.length:Int) < 1 then(some 7) else(if 6 < (a0.2.2.2.2.1.length:Int) then(some 6) else(bE (α:=Unit) (fx k a0 k 0) (some) λ_=>
 if 8 < (a0.2.2.2.2.2.length:Int) then(some 6) else(bE (α:=Unit) (fu k a0 k 0) (some) λ_=>
 some 0))))
theorem yR(k:Nat)(a0:ab)(r:Int)(h:nE k a0=some r):
 cT Tryz.prog 19 [.rep am a0] [] (λ_:Unit=>(bC [I r],[])):=by
 unfold nE at h
 replace h:=aX h
 refine cT.of 73 Tryz.func19 rfl Tryz.ntmps19 rfl λS w0=>?_
 refine sr ?_
 refine bx λb1=>?_
 refine cq ?_
 refine nt ?_
 refine aj ?_
 refine aE (Z:=Unit) (α:=Bool) (λz3 x2=>[(1,Pt b1),(31,.eq (.bool x2))]) (λz3 x2=>[.obj b1 25 (.rep am a0)]) h (λK h=>?_) (λz3 x2 h=>?_)
 .
  refine ae (fl eU ?_);refine lo bQ ?_;obtain⟨r4,Wa,h⟩:=aa h;refine jc (ax [.tmp 11,.const (.int .i64 (1)),.const (.int .i64 (5))] rfl rfl zi rfl (dX k a0.1 1 5 r4 Wa)) ?_;refine ja (fh rfl) ?_;refine mq ?_;refine cf (s:=14) rfl (λhb=>?_) (λhb=>?_)
  .replace h:=ee (um hb) h;iterate 4 refine gn ?_
   refine pt ?_;refine mq ?_;iterate 4 refine gn ?_
   refine pt ?_;refine mq ?_;iterate 4 refine gn ?_
   refine pt (nl ?_);exact jz ((),true) h [0]
  .replace h:=cK (ox hb) h;refine ga (au rfl pD) ?_;refine eP rfl rfl rfl rfl rfl rfl (an rfl bQ ju rfl) ⟨rfl,trivial⟩ ?_;obtain⟨r5,zz,h⟩:=aa h;refine gc (ax [.tmp 16,.const (.int .i64 (0)),.const (.int .i64 (3))] rfl rfl zi rfl (dX k a0.2.1 0 3 r5 zz)) ?_;refine ga (fh rfl) ?_;refine pf ?_;refine mq ?_;refine cf (s:=20) rfl (λhb=>?_) (λhb=>?_)
   .replace h:=ee (um hb) h;iterate 4 refine gn ?_
    refine pt ?_;refine mq ?_;iterate 4 refine gn ?_
    refine pt (nl ?_);exact jz ((),true) h [0]
   .replace h:=cK (ox hb) h;refine ga (au rfl pC) ?_;refine eP rfl rfl rfl rfl rfl rfl (an rfl bQ ju rfl) ⟨rfl,trivial⟩ ?_;obtain⟨r6,qt,h⟩:=aa h;refine gc (ax [.tmp 22,.const (.int .i64 (0)),.const (.int .i64 (3))] rfl rfl zi rfl (dX k a0.2.2.1 0 3 r6 qt)) ?_;refine ga (fh rfl) ?_;refine pf ?_;refine mq ?_;refine cf (s:=26) rfl (λhb=>?_) (λhb=>?_)
    .replace h:=ee (um hb) h;iterate 4 refine gn ?_
     refine pt (nl ?_);exact jz ((),true) h [0]
    .replace h:=cK (ox hb) h;refine ga (au rfl tH) ?_;refine eP rfl rfl rfl rfl rfl rfl (an rfl bQ ju rfl) ⟨rfl,trivial⟩ ?_;obtain⟨r7,mw,h⟩:=aa h;refine gc (ax [.tmp 28,.const (.int .i64 (1)),.const (.int .i64 (3))] rfl rfl zi rfl (dX k a0.2.2.2.1 1 3 r7 mw)) ?_;refine ga (fh rfl) ?_;refine pf (nl ?_);exact jz ((), !r7) h [0]
 .
  refine cv h (λh=>?_) (λh=>?_)
  .refine sr (cq (nt (rx ?_)));cases h;exact ra
  .refine sk (aj (sr (fl cj ?_)));refine lo fB ?_;refine ol pJ ?_;refine aq (nt (ah (sr ?_)));refine mq ?_;refine jb (bj rfl) ?_;refine aq (nt ?_);refine ci h (λh=>?_) (λh=>?_)
   .refine sr (cq (nt (aA (bb (bg ?_)))));cases h;exact ra
   .refine sr (mq ?_);refine jb (jm rfl) ?_;refine aq (nt ?_);refine ci h (λh=>?_) (λh=>?_)
    .refine sr (cq (nt (aA (bb (bg ?_)))));cases h;exact ra
    .refine aZ (aI (tn (cS (Z:=Unit) (α:=Unit) (λz9 x8=>[(1,Pt b1)]) (λz9 x8=>[.obj b1 25 (.rep am a0)]) (λe=>e=r) h (λe h=>Option.some.inj h) (λK hR h=>?_) (λz9 x8 h=>?_))))
     .refine sr (fl cj ?_);refine lo fB ?_;refine ol pJ ?_;refine fH rfl ?_;refine nt (ah (aC (λx j=>[(1,Pt b1),(42,.rep (.slice (.slice Tl)) a0.2.2.2.2.1),(43,I (a0.2.2.2.2.1.length:Int)),(44,I j)]) (λx j=>[.obj b1 25 (.rep am a0)]) (fx k a0) k () 0 (λ_=>rfl) h (SE.fin [0] ⟨rfl,rfl,rfl,rfl,trivial⟩ rfl) (λn x j h=>?_)));unfold fx at h;refine sr (jb (bj rfl) ?_);refine nt (aj (ci h (λh=>?_) (λh=>?_)))
      .refine sk (aj (ah (sr ?_)));obtain⟨Y,J,h⟩:=aa h;refine jb (aD (t:=(.slice Tl)) rfl pJ kE J) ?_;refine ja (ao (t:=(.slice Tl)) rfl kE rfl) ?_;refine aq (nt (sr ?_));refine lo dF ?_;refine mq ?_;obtain⟨mc,O,h⟩:=aa h;refine jb (ax [.tmp 48,.tmp 49] rfl rfl Vf rfl (ut k a0 Y mc O)) ?_;refine aq (nt (sr ?_));refine mq ?_;refine jb (d5 rfl) ?_;refine nt (cn h (λh=>?_) (λh=>?_))
       .refine sr (mq ?_);refine aq (nt (aA (br (bb (bg ?_)))));obtain rfl:=hR _ h;exact ra
       .refine aZ (aI (tn (ae ?_)));obtain⟨X,F,h⟩:=aa h;refine jb (be rfl F) ?_;refine mq (nl ?_);exact jz ((),X) h [0]
      .refine xa ?_;exact jz ((),()) h [0]
     .refine aj (sr (fl fR ?_));refine lo nm ?_;refine ol Cf ?_;refine jb (jm rfl) ?_;refine nt (ci h (λh=>?_) (λh=>?_))
      .refine sr (cq (nt (rx ?_)));cases h;exact ra
      .refine sk (cS (Z:=Unit) (α:=Unit) (λu y=>[]) (λu y=>[]) (λe=>e=r) h (λe h=>Option.some.inj h) (λK hR h=>?_) (λu y h=>?_))
       .refine sr (fl fR ?_);refine lo nm ?_;refine ol Cf ?_;refine fH rfl ?_;refine nt (ah (aC (λl c=>[(1,Pt b1),(60,Rs aJ a0.2.2.2.2.2),(61,I (a0.2.2.2.2.2.length:Int)),(62,I c)]) (λl c=>[.obj b1 25 (.rep am a0)]) (fu k a0) k () 0 (λ_=>rfl) h (SE.fin [0] ⟨rfl,rfl,rfl,rfl,trivial⟩ rfl) (λn l c h=>?_)));unfold fu at h;refine sr (jb (bj rfl) ?_);refine nt (aj (ci h (λh=>?_) (λh=>?_)))
        .refine sk (aj (ah (sr ?_)));obtain⟨U,E,h⟩:=aa h;refine jb (aD (t:=aJ) rfl Cf mY E) ?_;refine ja (ao (t:=aJ) rfl mY rfl) ?_;refine aW rfl rfl rfl (bv rfl Fv Nw) trivial λWb=>?_;refine aO rfl rfl (aN rfl mY rfl rfl rfl) ⟨rfl,rfl,trivial⟩ ?_;refine nt (sr (fr 1 ?_));refine lo dF ?_;refine fr 1 ?_;refine lo mY ?_;obtain⟨gw,M,h⟩:=aa h;refine jb (ax [.tmp 66,.tmp 67] rfl rfl Ve rfl (qX k a0 U gw M)) ?_;refine aq (nt (sr ?_));refine mq ?_;refine jb (d5 rfl) ?_;refine nt (cn h (λh=>?_) (λh=>?_))
         .refine sr (mq ?_);refine aq (nt (aA (br (bb (bg ?_)))));obtain rfl:=hR _ h;exact ra
         .refine aZ (aI (tn (ae ?_)));obtain⟨Q,D,h⟩:=aa h;refine jb (be rfl D) ?_;refine mq (nl ?_);exact jz ((),Q) h [1]
        .refine xa ?_;exact jz ((),()) h []
       .refine sr (cq (nt (aA ?_)));cases h;exact ra
def cO(k:Nat)(a0:ab)(a1:Int):Nat->((List Int)×Int)->Option (List Int)
 |0,_=>none
 |n+1,y5=>
  if y5.2 < 5 then((((bS (0≤y5.2/\y5.2 < 5)).bind λ_=>
  (fj k a1 y5.2).bind λe=>
  if e=true then((bS (0≤y5.2/\y5.2 < 5)).bind λ_=>
  some (List.set (List.set y5.1 (Int.toNat y5.2) (-1:Int)) (Int.toNat y5.2) a0.2.1)) else(some (List.set y5.1 (Int.toNat y5.2) (-1:Int)))):Option ((List Int))).bind λx7=>
  (ck (y5.2+1)).bind λc=>
  cO k a0 a1 n (x7,c)) else(some y5.1)
def eX(k:Nat)(a0:ab)(a1:Int):Option (List Int):=
 ((cO k a0 a1 k ([0,0,0,0,0],0)):Option ((List Int))).bind λx3=>
 some x3
theorem qU{M:Md Tryz.prog}{bm:Nat}{c0 c1 c2 c3 c4 c5:Value}(hK:Kn M bm 0 [c0,c1,c2,c3,c4,c5])(k:Nat)(a0:ab)(a1:Int)(r:(List Int))(h:eX k a0 a1=some r):
 co M 94 [.rep (.mo (Pv bm) [c0,c1,c2,c3,c4,c5] am) a0,.eq (.int .u8 a1)] [] (λ_:Unit=>(bC [.rep Tr r],[])):=by
 unfold eX at h
 replace h:=aX h
 refine co.of 24 Tryz.func94 rfl Tryz.ntmps94 rfl λS w0=>?_
 refine sr ?_
 refine aW rfl rfl rfl (bv rfl Kz Nv) trivial λb1=>?_
 refine nt ?_
 refine sr ?_
 refine aW rfl rfl rfl (bv rfl Kz Nv) trivial λb2=>?_
 refine nt ?_
 refine aE (Z:=Unit) (α:=(List Int)) (λz4 x3=>[(4,Pt b1),(5,Pt b2)]) (λz4 x3=>[.obj b1 82 (.rep Tr [0,0,0,0,0]),.obj b2 82 (.rep Tr x3)]) h (λK h=>?_) (λz4 x3 h=>?_)
 .
  refine sr (fH rfl ?_);refine nt (ah (aC (λz6 y5=>[(0,.rep (.mo (Pv bm) [c0,c1,c2,c3,c4,c5] am) a0),(1,.eq (.int .u8 a1)),(4,Pt b1),(5,Pt b2),(7,I y5.2)]) (λz6 y5=>[.obj b1 82 (.rep Tr [0,0,0,0,0]),.obj b2 82 (.rep Tr y5.1)]) (cO k a0 a1) k () ([0,0,0,0,0],0) (λ_=>rfl) h (SE.fin [1,0] ⟨rfl,rfl,rfl,rfl,rfl,trivial⟩ rfl) (λn z6 y5 h=>?_)));unfold cO at h;refine sr (jb (bj rfl) ?_);refine nt (aj (ci h (λh=>?_) (λh=>?_)))
  .refine sk (aE (Z:=Unit) (α:=(List Int)) (λz8 x7=>[(0,.rep (.mo (Pv bm) [c0,c1,c2,c3,c4,c5] am) a0),(1,.eq (.int .u8 a1)),(4,Pt b1),(5,Pt b2),(7,I y5.2)]) (λz8 x7=>[.obj b1 82 (.rep Tr [0,0,0,0,0]),.obj b2 82 (.rep Tr x7)]) h (λK h=>?_) (λz8 x7 h=>?_))
   .refine ah (sr (mq ?_));refine aq (nt (sr ?_));refine mq ?_;obtain⟨u9,e,h⟩:=aa h;refine jb (ec rfl D1 bQ (ap e).1 (ap e).2) ?_;refine fr 1 ?_;refine aO rfl rfl (il (t:=Ti) (off:=0) (i:=y5.2) (N:=5) rfl bQ .int rfl rfl rfl rfl (ap e).1 (ap e).2 rfl) ⟨rfl,rfl,trivial⟩ ?_;refine nt (sr ?_);iterate 2 refine mq ?_
    obtain⟨u,l,h⟩:=aa h;refine jb (ax [.tmp 12,.tmp 13] rfl rfl Jh rfl (ip k a1 y5.2 u l)) ?_;refine nt (cv h (λh=>?_) (λh=>?_))
    .refine ae ?_;iterate 2 refine mq ?_
     refine ja (l7 rfl) ?_;refine ja (io rfl iE) ?_;refine ja (jf 1 false rfl pD rfl rfl) ?_;refine ja (jX (t:=Ti) rfl bQ (hK.sub 1 1 rfl (le_of_ble_eq_true rfl)) rfl rfl) ?_;obtain⟨x,c,h⟩:=aa h;refine jb (ec rfl D1 bQ (ap c).1 (ap c).2) ?_;refine aO rfl rfl (il (t:=Ti) (off:=0) (i:=y5.2) (N:=5) rfl bQ .int rfl rfl rfl rfl (ap c).1 (ap c).2 rfl) ⟨rfl,rfl,trivial⟩ ?_;refine aF (bn ?_);exact jz ((),List.set (List.set y5.1 (Int.toNat y5.2) (-1:Int)) (Int.toNat y5.2) a0.2.1) h [1,0]
    .refine aZ (bn ?_);exact jz ((),List.set y5.1 (Int.toNat y5.2) (-1:Int)) h [1,0]
   .refine ae ?_;obtain⟨s,j,h⟩:=aa h;refine jb (be rfl j) ?_;refine mq (nl ?_);exact jz ((),(x7,s)) h [0,1]
  .refine xa ?_;exact jz ((),y5.1) h [0,1]
 .
  refine sr (fr 1 ?_);refine lo jT ?_;refine fr 1 ?_;refine aO rfl rfl (aN rfl jT rfl rfl rfl) ⟨rfl,rfl,trivial⟩ ?_;refine nt (aA ?_);obtain rfl:=Option.some.inj h;exact aP () [.rep Tr x3] 0 ⟨⟨_,_,_,_,_,rfl,(.head _),jT,(oL),rfl⟩,trivial⟩ rfl
def dq(k:Nat)(a0:(List Int))(a1:Int):Nat->Int->Option (Except Int Unit)
 |0,_=>none
 |n+1,y3=>
  if y3 < (a0.length:Int) then((aG a0 y3).bind λx5=>
  if a1=x5 then(some (.error y3)) else((ck (y3+1)).bind λx6=>
  dq k a0 a1 n x6)) else(some (.ok ()))
def gP(k:Nat)(a0:(List Int))(a1:Int):Option Int:=
 bE (α:=Unit) (dq k a0 a1 k 0) (some) λ_=>
 some (-1:Int)
theorem np(k:Nat)(a0:(List Int))(a1:Int)(r:Int)(h:gP k a0 a1=some r):
 cT Tryz.prog 62 [.rep Tl a0,I a1] [] (λ_:Unit=>(bC [I r],[])):=by
 unfold gP at h
 replace h:=aX h
 refine cT.of 19 Tryz.func62 rfl Tryz.ntmps62 rfl λS w0=>?_
 refine sr ?_
 refine cq ?_
 refine nt ?_
 refine cS (Z:=Unit) (α:=Unit) (λz2 x1=>[]) (λz2 x1=>[]) (λe=>e=r) h (λe h=>Option.some.inj h) (λK hR h=>?_) (λz2 x1 h=>?_)
 .
  refine sr (mq ?_);refine ol gA ?_;refine fH rfl ?_;refine nt (ah (aC (λz4 y3=>[(0,.rep Tl a0),(1,I a1),(7,I (a0.length:Int)),(8,I y3)]) (λz4 y3=>[]) (dq k a0 a1) k () 0 (λ_=>rfl) h (SE.fin [] ⟨rfl,rfl,rfl,rfl,trivial⟩ rfl) (λn z4 y3 h=>?_)));unfold dq at h;refine sr (jb (bj rfl) ?_);refine nt (aj (ci h (λh=>?_) (λh=>?_)))
  .refine sk (aj (ah (sr (mq ?_))));refine aq (nt (sr ?_));iterate 3 refine mq ?_
   obtain⟨x5,j,h⟩:=aa h;refine jb (aD (t:=Ti) rfl gA bQ j) ?_;refine ja (ao (t:=Ti) rfl bQ rfl) ?_;refine jb (jE rfl) ?_;refine nt (ci h (λh=>?_) (λh=>?_))
   .refine sr (mq ?_);refine aq (nt (aA (br (bb (bg ?_)))));obtain rfl:=hR _ h;exact ra
   .refine aZ (aI (tn (ae ?_)));obtain⟨x6,c,h⟩:=aa h;refine jb (be rfl c) ?_;refine mq (nl ?_);exact jz ((),x6) h []
  .refine xa ?_;exact jz ((),()) h []
 .
  refine sr (cq (nt (aA ?_)));cases h;exact ra
def lM(k:Nat)(a0:Int):Option Bool:=
 some (!decide (a0=a0))
theorem sC(k:Nat)(a0:Int)(r:Bool)(h:lM k a0=some r):
 cT Tryz.prog 173 [I a0] [] (λ_:Unit=>(bC [.eq (.bool r)],[])):=by
 unfold lM at h
 replace h:=aX h
 refine cT.of 6 Tryz.func173 rfl Tryz.ntmps173 rfl λS w0=>?_
 refine sr ?_
 refine cq ?_
 refine nt ?_
 refine sr ?_
 iterate 2 refine mq ?_
 refine jb (d5 rfl) ?_
 refine aq ?_
 refine nt ?_
 refine aA ?_
 cases h
 exact ra
def pH(k:Nat)(a0:Int)(a1:Int):Option Bool:=
 (((lM k a0).bind λr3=>
 if r3=true then((lM k a1).bind λr4=>
 if¬(r4=true) then(some true) else(some (decide (a0 < a1)))) else(some (decide (a0 < a1)))):Option (Bool)).bind λx1=>
 some x1
theorem By(k:Nat)(a0:Int)(a1:Int)(r:Bool)(h:pH k a0 a1=some r):
 cT Tryz.prog 163 [I a0,I a1] [] (λ_:Unit=>(bC [.eq (.bool r)],[])):=by
 unfold pH at h
 replace h:=aX h
 refine cT.of 17 Tryz.func163 rfl Tryz.ntmps163 rfl λS w0=>?_
 refine sr ?_
 refine cq ?_
 refine nt ?_
 refine aE (Z:=Unit) (α:=Bool) (λz2 x1=>[(4,.eq (.bool x1))]) (λz2 x1=>[]) h (λK h=>?_) (λz2 x1 h=>?_)
 .
  refine ae (mq ?_);obtain⟨r3,e,h⟩:=aa h;refine ja (ax [.tmp 5] rfl rfl Oq rfl (sC k a0 r3 e)) ?_;refine mq ?_;refine cf (s:=7) rfl (λhb=>?_) (λhb=>?_)
  .replace h:=ee (KP hb) h;refine gm ?_;obtain⟨r4,c,h⟩:=aa h;refine ga (ax [.tmp 8] rfl rfl Oq rfl (sC k a1 r4 c)) ?_;refine ga (fh rfl) ?_;refine pt ?_;refine mq ?_;refine cf (s:=12) rfl (λhb=>?_) (λhb=>?_)
   .replace h:=ee (um hb) h;iterate 3 refine gn ?_
    refine pt ?_;refine aq (nl ?_);exact jz ((),true) h []
   .replace h:=cK (ox hb) h;refine gm ?_;refine gm ?_;refine gb (bj rfl) ?_;refine pf ?_;refine aq (nl ?_);exact jz ((),decide (a0 < a1)) h []
  .replace h:=cK (KQ hb) h;iterate 3 refine gn ?_
   refine pf ?_;refine mq ?_;refine gm ?_;refine gm ?_;refine gb (bj rfl) ?_;refine pf ?_;refine aq (nl ?_);exact jz ((),decide (a0 < a1)) h []
 .
  refine aA ?_;cases h;exact ra
def bq(k:Nat)(a1:Int):Nat->((List Int)×Int)->Option (List Int)
 |0,_=>none
 |n+1,y6=>
  ((if a1 < y6.2 then((aG y6.1 y6.2).bind λu=>
  (ck (y6.2 - 1)).bind λs=>
  (aG y6.1 s).bind λr=>
  (pH k u r).bind λx=>
  some x) else(some false)):Option (Bool)).bind λx8=>
  if x8=true then((ck (y6.2 - 1)).bind λe=>
  (ck (y6.2 - 1)).bind λl=>
  (aG y6.1 l).bind λc=>
  (aG y6.1 y6.2).bind λj=>
  (aG y6.1 y6.2).bind λD=>
  (aG (List.set y6.1 (Int.toNat y6.2) c) e).bind λy=>
  (ck (y6.2 - 1)).bind λh=>
  bq k a1 n (List.set (List.set y6.1 (Int.toNat y6.2) c) (Int.toNat e) j,h)) else(some y6.1)
def bu(k:Nat)(a1:Int)(a2:Int):Nat->((List Int)×Int)->Option (List Int)
 |0,_=>none
 |n+1,y2=>
  if y2.2 < a2 then(((bq k a1 k (y2.1,y2.2)):Option ((List Int))).bind λx4=>
  (ck (y2.2+1)).bind λc=>
  bu k a1 a2 n (x4,c)) else(some y2.1)
def bZ(k:Nat)(a0:(List Int))(a1:Int)(a2:Int):Option (List Int):=
 (ck (a1+1)).bind λx1=>
 bu k a1 a2 k (a0,x1)
theorem jU(k:Nat)(a0:(List Int))(c:Value)(a1:Int)(a2:Int)(r:(List Int))(h:bZ k a0 a1 a2=some r):
 cT Tryz.prog 157 [.eq c,I a1,I a2] [.sl c 3 Ti a0] (λ_:Unit=>(bC [],[.sl c 3 Ti r])):=by
 unfold bZ at h
 replace h:=aX h
 refine cT.of 49 Tryz.func157 rfl Tryz.ntmps157 rfl λS w0=>?_
 refine sr ?_
 refine mq ?_
 obtain⟨x1,Wv,h⟩:=aa h
 refine jb (be rfl Wv) ?_
 refine aq ?_
 refine nt ?_
 refine ah ?_
 refine aC (λz3 y2=>[(0,.eq c),(1,I a1),(2,I a2),(6,I y2.2)]) (λz3 y2=>[.sl c 3 Ti y2.1]) (bu k a1 a2) k () (a0,x1) (λ_=>rfl) h (SE.fin [0] ⟨rfl,rfl,rfl,rfl,trivial⟩ rfl) (λn z3 y2 h=>?_)
 unfold bu at h
 refine aj ?_
 refine sr ?_
 iterate 2 refine mq ?_
 refine jb (bj rfl) ?_
 refine nt ?_
 refine ci h (λh=>?_) (λh=>?_)
 .
  refine sk (aE (Z:=Unit) (α:=(List Int)) (λz5 x4=>[(0,.eq c),(1,I a1),(2,I a2),(6,I y2.2)]) (λz5 x4=>[.sl c 3 Ti x4]) h (λK h=>?_) (λz5 x4 h=>?_))
  .refine ah (sr (mq ?_));refine aq (nt (ah ?_));refine aC (λz7 y6=>[(0,.eq c),(1,I a1),(2,I a2),(6,I y2.2),(7,I y6.2)]) (λz7 y6=>[.sl c 3 Ti y6.1]) (bq k a1) k () (y2.1,y2.2) (λ_=>rfl) h (SE.fin [0] ⟨rfl,rfl,rfl,rfl,rfl,trivial⟩ rfl) (λn z7 y6 h=>?_);unfold bq at h;refine aj (aE (Z:=Unit) (α:=Bool) (λz9 x8=>[(0,.eq c),(1,I a1),(2,I a2),(6,I y2.2),(7,I y6.2),(30,.eq (.bool x8))]) (λz9 x8=>[.sl c 3 Ti y6.1]) h (λK h=>?_) (λz9 x8 h=>?_))
   .refine bz ?_;refine dm ?_;refine dm ?_;refine db (jm rfl) ?_;refine mX rfl rfl rfl (aY rfl) ⟨rfl,trivial⟩ (λhb=>?_) (λhb=>?_)
    .replace h:=ee (vM hb) h;refine bB rfl rfl rfl rfl rfl (aY rfl) ⟨rfl,rfl,trivial⟩ ?_;refine bB rfl rfl rfl rfl rfl (aY rfl) ⟨rfl,rfl,trivial⟩ ?_;obtain⟨Wh,x,h⟩:=aa h;refine ia 0 rfl rfl rfl rfl rfl rfl (cI (t:=Ti) rfl gA bQ x) ⟨rfl,rfl,rfl,trivial⟩ ?_;refine ia 0 rfl rfl rfl rfl rfl rfl (gU (i:=Int.toNat y6.2) (off:=0) rfl bQ (λ_=>rfl) rfl (dJ x).2.2 rfl) ⟨rfl,rfl,trivial⟩ ?_;refine bB rfl rfl rfl rfl rfl (aY rfl) ⟨rfl,rfl,trivial⟩ ?_;refine bB rfl rfl rfl rfl rfl (aY rfl) ⟨rfl,rfl,trivial⟩ ?_;obtain⟨Wg,qt,h⟩:=aa h;refine bB rfl rfl rfl rfl rfl (eo rfl qt) ⟨rfl,rfl,rfl,trivial⟩ ?_;obtain⟨We,u,h⟩:=aa h;refine ia 0 rfl rfl rfl rfl rfl rfl (cI (t:=Ti) rfl gA bQ u) ⟨rfl,rfl,rfl,trivial⟩ ?_;refine ia 0 rfl rfl rfl rfl rfl rfl (gU (i:=Int.toNat Wg) (off:=0) rfl bQ (λ_=>rfl) rfl (dJ u).2.2 rfl) ⟨rfl,rfl,trivial⟩ ?_;refine df cQ ?_;obtain⟨F,zz,h⟩:=aa h;refine gb (ax [.tmp 23,.tmp 28] rfl rfl SS rfl (By k Wh We F zz)) ?_;refine pt (nl ?_);exact jz ((),F) h [0]
    .replace h:=cK (vO hb) h;iterate 9 refine dg ?_
     refine df cQ ?_;refine gn ?_;refine pf (nl ?_);exact jz ((),false) h [0]
   .refine cv h (λh=>?_) (λh=>?_)
    .refine sk (aj (ah (sL ?_)));refine bX rfl rfl rfl (aY rfl) ⟨rfl,trivial⟩ ?_;refine bX rfl rfl rfl (aY rfl) ⟨rfl,trivial⟩ ?_;refine bX rfl rfl rfl (aY rfl) ⟨rfl,trivial⟩ ?_;refine bX rfl rfl rfl (aY rfl) ⟨rfl,trivial⟩ ?_;obtain⟨y,mw,h⟩:=aa h;refine bX rfl rfl rfl (eo rfl mw) ⟨rfl,rfl,trivial⟩ ?_;refine bX rfl rfl rfl (aY rfl) ⟨rfl,trivial⟩ ?_;refine bX rfl rfl rfl (aY rfl) ⟨rfl,trivial⟩ ?_;obtain⟨Wc,mc,h⟩:=aa h;refine bX rfl rfl rfl (eo rfl mc) ⟨rfl,rfl,trivial⟩ ?_;obtain⟨E,s,h⟩:=aa h;refine iN 0 rfl rfl rfl rfl (cI (t:=Ti) rfl gA bQ s) ⟨rfl,rfl,trivial⟩ ?_;refine iN 0 rfl rfl rfl rfl (gU (i:=Int.toNat Wc) (off:=0) rfl bQ (λ_=>rfl) rfl (dJ s).2.2 rfl) ⟨rfl,trivial⟩ ?_;refine bX rfl rfl rfl (aY rfl) ⟨rfl,trivial⟩ ?_;refine bX rfl rfl rfl (aY rfl) ⟨rfl,trivial⟩ ?_;obtain⟨D,l,h⟩:=aa h;refine iN 0 rfl rfl rfl rfl (cI (t:=Ti) rfl gA bQ l) ⟨rfl,rfl,trivial⟩ ?_;refine iN 0 rfl rfl rfl rfl (gU (i:=Int.toNat y6.2) (off:=0) rfl bQ (λ_=>rfl) rfl (dJ l).2.2 rfl) ⟨rfl,trivial⟩ ?_;obtain⟨WG,j,h⟩:=aa h;refine iN 0 rfl rfl rfl rfl (cI (t:=Ti) rfl gA bQ j) ⟨rfl,rfl,trivial⟩ ?_;refine wl 15 [true,true,false,false,false,true,true,true,true,true,true,true,true,true,true] [48] [] [] rfl (by kernel_rfl) (by kernel_rfl) (by kernel_rfl) cQ (λvs hv hB=>?_);obtain⟨w0,WW,rfl,Wu⟩:=aH hv;obtain⟨w1,WU,rfl,Wt⟩:=aH Wu;obtain⟨w2,WT,rfl,Ws⟩:=aH Wt;obtain⟨w3,WS,rfl,Wq⟩:=aH Ws;obtain⟨w4,WR,rfl,Wp⟩:=aH Wq;obtain⟨w5,WQ,rfl,Wn⟩:=aH Wp;obtain⟨w6,WP,rfl,Wm⟩:=aH Wn;obtain⟨w7,WO,rfl,Wj⟩:=aH Wm;obtain⟨w8,WN,rfl,Wi⟩:=aH Wj;obtain⟨w9,WC,rfl,X⟩:=aH Wi;obtain⟨WM,WB,rfl,U⟩:=aH X;obtain⟨WL,WA,rfl,Q⟩:=aH U;obtain⟨WJ,Wz,rfl,O⟩:=aH Q;obtain⟨WI,Wy,rfl,M⟩:=aH O;obtain⟨WH,Wx,rfl,J⟩:=aH M;obtain rfl:=sj J;refine⟨[0],[.sl c 3 Ti y6.1],by kernel_rfl,by decide,?_⟩;refine tV rfl rfl (ik (i:=Int.toNat y6.2) rfl bQ rfl (od j) rfl .int rfl) ⟨rfl,rfl,trivial⟩ (by kernel_rfl) ?_;obtain⟨WE,e,h⟩:=aa h;refine we rfl rfl rfl rfl (cI (t:=Ti) rfl gA bQ e) ⟨rfl,rfl,trivial⟩ (by kernel_rfl) ?_;refine tV rfl rfl (ik (i:=Int.toNat y) rfl bQ rfl (od e) rfl .int rfl) ⟨rfl,rfl,trivial⟩ (by kernel_rfl) ?_;refine zG ?_;refine bK (SE.fin (Γ':=[(0,.eq c),(1,I a1),(2,I a2),(6,I y2.2),(7,I y6.2)]) (Δ':=[.sl c 3 Ti (List.set (List.set y6.1 (Int.toNat y6.2) E) (Int.toNat y) D)]) [0] ⟨rfl,rfl,rfl,rfl,rfl,trivial⟩ rfl) ?_;refine aI (tn (ae (mq ?_)));obtain⟨Wb,gw,h⟩:=aa h;refine jb (eo rfl gw) ?_;refine aq (nl ?_);exact jz ((),(List.set (List.set y6.1 (Int.toNat y6.2) E) (Int.toNat y) D,Wb)) h [0]
    .refine fA (bJ (bJ (cZ (bn ?_))));exact jz ((),y6.1) h [0]
  .refine ae (mq ?_);obtain⟨Wa,Y,h⟩:=aa h;refine jb (be rfl Y) ?_;refine aq (nl ?_);exact jz ((),(x4,Wa)) h [0]
 .
  refine fA (bJ (bJ (cZ (kW ?_))));cases h;exact aP () [] 1 trivial rfl
def ll(k:Nat)(a0:Int):Option Int:=
 ((if 4294967296≤a0 then(some (ib .u64 a0 32,32)) else(some (a0,0))):Option (Int×Int)).bind λx1=>
 ((if 65536≤x1.1 then((ck (x1.2+16)).bind λx5=>
 some (ib .u64 x1.1 16,x5)) else(some (x1.1,x1.2))):Option (Int×Int)).bind λx3=>
 ((if 256≤x3.1 then((ck (x3.2+8)).bind λx8=>
 some (ib .u64 x3.1 8,x8)) else(some (x3.1,x3.2))):Option (Int×Int)).bind λx6=>
 (Du MB (IntKind.u8.wrap x6.1)).bind λx9=>
 (ck (x9.toNat:Int)).bind λe=>
 (ck (x6.2+e)).bind λc=>
 some c
theorem rl(k:Nat)(a0:Int)(r:Int)(h:ll k a0=some r):
 cT Tryz.prog 167 [.eq (.int .u64 a0)] [] (λ_:Unit=>(bC [I r],[])):=by
 unfold ll at h
 replace h:=aX h
 refine cT.of 25 Tryz.func167 rfl Tryz.ntmps167 rfl λS w0=>?_
 refine sr ?_
 refine cq ?_
 refine nt ?_
 refine aE (Z:=Unit) (α:=Int×Int) (λz2 x1=>[(0,.eq (.int .u64 x1.1)),(2,I x1.2)]) (λz2 x1=>[]) h (λK h=>?_) (λz2 x1 h=>?_)
 .
  refine sr (mq ?_);refine jb (iI rfl) ?_;refine nt (ci h (λh=>?_) (λh=>?_))
  .refine sr (mq ?_);refine cz rfl (vm rfl (by decide)) ⟨rfl,rfl,trivial⟩ ?_;refine aq (nt (ae ?_));refine cq (nl ?_);exact jz ((),(ib .u64 a0 32,32)) h []
  .refine aZ (av ?_);exact jz ((),(a0,0)) h []
 .
  refine aE (Z:=Unit) (α:=Int×Int) (λz4 x3=>[(0,.eq (.int .u64 x3.1)),(2,I x3.2)]) (λz4 x3=>[]) h (λK h=>?_) (λz4 x3 h=>?_)
  .refine sr (mq ?_);refine jb (iI rfl) ?_;refine nt (ci h (λh=>?_) (λh=>?_))
   .refine sr (mq ?_);refine cz rfl (vm rfl (by decide)) ⟨rfl,rfl,trivial⟩ ?_;refine aq (nt (ae ?_));refine mq ?_;obtain⟨x5,n,h⟩:=aa h;refine jb (be rfl n) ?_;refine aq (nl ?_);exact jz ((),(ib .u64 x1.1 16,x5)) h []
   .refine aZ (av ?_);exact jz ((),(x1.1,x1.2)) h []
  .refine aE (Z:=Unit) (α:=Int×Int) (λz7 x6=>[(0,.eq (.int .u64 x6.1)),(2,I x6.2)]) (λz7 x6=>[]) h (λK h=>?_) (λz7 x6 h=>?_)
   .refine sr (mq ?_);refine jb (iI rfl) ?_;refine nt (ci h (λh=>?_) (λh=>?_))
    .refine sr (mq ?_);refine cz rfl (vm rfl (by decide)) ⟨rfl,rfl,trivial⟩ ?_;refine aq (nt (ae ?_));refine mq ?_;obtain⟨x8,l,h⟩:=aa h;refine jb (be rfl l) ?_;refine aq (nl ?_);exact jz ((),(ib .u64 x3.1 8,x8)) h []
    .refine aZ (av ?_);exact jz ((),(x3.1,x3.2)) h []
   .refine sr ?_;iterate 2 refine mq ?_
    refine ja (s7 rfl Ub U5) ?_;obtain⟨x9,j,h⟩:=aa h;refine ja (AI rfl U9 j) ?_;obtain⟨u,e,h⟩:=aa h;refine ja (AK rfl U5 U3 e) ?_;obtain⟨s,c,h⟩:=aa h;refine jb (be rfl c) ?_;refine aq (nt (aA ?_));cases h;exact ra
def ql(k:Nat)(a0:Int):Option Int:=
 (ll k a0).bind λr1=>
 some r1
theorem DL(k:Nat)(a0:Int)(r:Int)(h:ql k a0=some r):
 cT Tryz.prog 156 [.eq (.int .u64 a0)] [] (λ_:Unit=>(bC [I r],[])):=by
 unfold ql at h
 replace h:=aX h
 refine cT.of 8 Tryz.func156 rfl Tryz.ntmps156 rfl λS w0=>?_
 refine sr ?_
 refine cq ?_
 refine nt ?_
 refine aj ?_
 refine J4 (λhb=>(by cases hb)) (λhb=>?_)
 refine sk ?_
 refine sr ?_
 refine mq ?_
 obtain⟨r1,c,h⟩:=aa h
 have e:=rl k a0 r1 c
 refine ja (ax [.tmp 6] rfl rfl SR rfl e) ?_
 refine aq ?_
 refine nt ?_
 refine aA ?_
 cases h
 exact ra
def cL(k:Nat)(a0:(List Int))(a1:Int)(a2:Int)(a3:Int):Nat->Unit->Option (List Int)
 |0,_=>none
 |n+1,y1=>
  (ck (a2 - a1)).bind λx3=>
  if x3≤12 then((bZ k a0 a1 a2).bind λr4=>
  some r4) else(if a3=0 then(none) else(none))
def c7(k:Nat)(a0:(List Int))(a1:Int)(a2:Int)(a3:Int):Option (List Int):=
 cL k a0 a1 a2 a3 k ()
theorem mE(k:Nat)(a0:(List Int))(c:Value)(a1:Int)(a2:Int)(a3:Int)(r:(List Int))(h:c7 k a0 a1 a2 a3=some r):
 cT Tryz.prog 155 [.eq c,I a1,I a2,I a3] [.sl c 3 Ti a0] (λ_:Unit=>(bC [],[.sl c 3 Ti r])):=by
 unfold c7 at h
 replace h:=aX h
 refine cT.of 134 Tryz.func155 rfl Tryz.ntmps155 rfl λS w0=>?_
 refine sr ?_
 refine cq ?_
 refine nt ?_
 refine sr ?_
 refine cq ?_
 refine nt ?_
 refine ah ?_
 refine aC (λz2 y1=>[(0,.eq c),(1,I a1),(2,I a2),(3,I a3),(8,.eq (.bool true)),(9,.eq (.bool true))]) (λz2 y1=>[.sl c 3 Ti a0]) (cL k a0 a1 a2 a3) k () () (λ_=>rfl) h (SE.fin [0] ⟨rfl,rfl,rfl,rfl,rfl,rfl,trivial⟩ rfl) (λn z2 y1 h=>?_)
 unfold cL at h
 refine ah ?_
 refine sr ?_
 iterate 2 refine mq ?_
 obtain⟨x3,e,h⟩:=aa h
 refine jb (eo rfl e) ?_
 refine aq ?_
 refine nt ?_
 refine aj ?_
 refine sr ?_
 refine mq ?_
 refine jb (AH rfl) ?_
 refine nt ?_
 refine ci h (λh=>?_) (λh=>?_)
 .
  refine sr ?_;iterate 3 refine mq ?_
  obtain⟨r4,j,h⟩:=aa h;refine kc (ax [.tmp 24,.tmp 25,.tmp 26] rfl rfl SU rfl (jU k a0 c a1 a2 r4 j)) ?_;refine nt (rx (bb (bg (bb ?_))));cases h;exact aP () [] 1 trivial rfl
 .
  refine sk (aj (sr (mq ?_)));refine jb (jE rfl) ?_;refine nt (ci h (λh=>?_) (λh=>?_))
  .cases h
  .cases h
def gf(k:Nat)(a0:(List Int)):Option (List Int):=
 (ql k (IntKind.u64.wrap (a0.length:Int))).bind λr1=>
 (c7 k a0 0 (a0.length:Int) r1).bind λr2=>
 some r2
theorem uj(k:Nat)(a0:(List Int))(c:Value)(r:(List Int))(h:gf k a0=some r):
 cT Tryz.prog 142 [.eq c] [.sl c 3 Ti a0] (λ_:Unit=>(bC [],[.sl c 3 Ti r])):=by
 unfold gf at h
 replace h:=aX h
 refine cT.of 11 Tryz.func142 rfl Tryz.ntmps142 rfl λS w0=>?_
 refine sr ?_
 refine mq ?_
 refine ka (nB rfl rfl gA) ?_
 refine aq ?_
 refine nt ?_
 refine ae ?_
 iterate 3 refine mq ?_
 refine ja (s7 rfl U3 VA) ?_
 obtain⟨r1,j,h⟩:=aa h
 have n:=DL k (IntKind.u64.wrap (a0.length:Int)) r1 j
 refine ja (ax [.tmp 8] rfl rfl SV rfl n) ?_
 obtain⟨r2,e,h⟩:=aa h
 have l:=mE k a0 c 0 (a0.length:Int) r1 r2 e
 refine nf rfl rfl rfl (ax [.tmp 5,.const (.int .i64 (0)),.tmp 6,.tmp 9] rfl rfl SX rfl l) ⟨rfl,rfl,rfl,rfl,trivial⟩ ?_
 refine aF ?_
 refine kW ?_
 cases h
 exact aP () [] 1 trivial rfl
def cP(k:Nat)(a1:Int)(x3:(List (List Int))):Nat->Int->Option (Except (Int ⊕ (List Int)) Unit)
 |0,_=>none
 |n+1,y4=>
  if y4 < (x3.length:Int) then((aG x3 y4).bind λx6=>
  (gP k x6 a1).bind λr7=>
  if 0≤r7 then(((if 0 < r7 then((ck (r7 - 1)).bind λs=>
  (aG x6 s).bind λe=>
  (bS (bi (length ([]:(List Int))+length [e]))).bind λ_=>
  some (([]:(List Int))++[e])) else(some ([]:(List Int)))):Option ((List Int))).bind λx8=>
  (((ck (r7+1)).bind λl=>
  if l < (x6.length:Int) then((ck (r7+1)).bind λj=>
  (aG x6 j).bind λc=>
  (bS (bi (length x8+length [c]))).bind λ_=>
  some (x8++[c])) else(some x8)):Option ((List Int))).bind λr=>
  (gf k r).bind λu=>
  some (.error (Sum.inr u:(Int ⊕ (List Int))))) else((ck (y4+1)).bind λh=>
  cP k a1 x3 n h)) else(some (.ok ()))
def ew(k:Nat):Nat->ab->Int->Int->Option ((Int ⊕ (List Int)))
 |0,_,_,_=>none
 |m0+1,a0,a1,a2=>
  bE (α:=Unit) ((aG a0.2.2.2.2.1 a2).bind λx3=>
  cP k a1 x3 k 0) (some) λ_=>
  ((if 0 < a2 then((ck (a2 - 1)).bind λh=>
  ((ew k m0) a0 a1 h).bind λc=>
  if Ll c=true then((ck (1+(Rh c))).bind λe=>
  some e) else(some 1)) else(some 1)):Option (Int)).bind λj=>
  some (Sum.inl j:(Int ⊕ (List Int)))
theorem me{M:Md Tryz.prog}{bm:Nat}{c0 c1 c2 c3 c4 c5:Value}(hK:Kn M bm 0 [c0,c1,c2,c3,c4,c5])(k:Nat):
 ∀(n:Nat) (a0:ab) (a1:Int) (a2:Int) (r:(Int ⊕ (List Int))),ew k n a0 a1 a2=some r->co M 115 [.rep (.mo (Pv bm) [c0,c1,c2,c3,c4,c5] am) a0,I a1,I a2] ([]) (λ_:Unit=>(bC [.rep (.pl 163 165 Tl) r],[])):=by
 intro n
 induction n with
 |zero=>intro a0 a1 a2 r h;cases h
 |succ m0 ih=>
  intro a0 a1 a2 r h;rw [ew] at h;replace h:=aX h;refine co.of 80 Tryz.func115 rfl Tryz.ntmps115 rfl λS w0=>?_;refine sr (cq (nt ?_));refine cS (Z:=Unit) (α:=Unit) (λz2 x1=>[(0,.rep (.mo (Pv bm) [c0,c1,c2,c3,c4,c5] am) a0),(1,I a1),(2,I a2)]) (λz2 x1=>[]) (λe=>e=r) h (λe h=>Option.some.inj h) (λK hR h=>?_) (λz2 x1 h=>?_)
  .refine sr (mq ?_);refine ja (l7 rfl) ?_;refine ja (io rfl iE) ?_;refine ja (jf 1 false rfl cj rfl rfl) ?_;refine ja (jX (t:=(.slice (.slice Tl))) rfl fB (hK.sub 4 1 rfl (le_of_ble_eq_true rfl)) rfl rfl) ?_;refine mq ?_;obtain⟨x3,Wh,h⟩:=aa h;refine jb (aD (t:=(.slice Tl)) rfl pJ kE Wh) ?_;refine ja (ao (t:=(.slice Tl)) rfl kE rfl) ?_;refine ol nK ?_;refine fH rfl ?_;refine nt (ah (aC (λz5 y4=>[(0,.rep (.mo (Pv bm) [c0,c1,c2,c3,c4,c5] am) a0),(1,I a1),(2,I a2),(21,.rep (.slice Tl) x3),(22,I (x3.length:Int)),(23,I y4)]) (λz5 y4=>[]) (cP k a1 x3) k () 0 (λ_=>rfl) h (SE.fin [] ⟨rfl,rfl,rfl,rfl,rfl,rfl,trivial⟩ rfl) (λn z5 y4 h=>?_)));unfold cP at h;refine sr (jb (bj rfl) ?_);refine nt (aj (ci h (λh=>?_) (λh=>?_)))
   .refine sk (aj (ah (sr ?_)));obtain⟨x6,Wg,h⟩:=aa h;refine jb (aD (t:=Tl) rfl nK eT Wg) ?_;refine ja (ao (t:=Tl) rfl eT rfl) ?_;refine aq (nt (sr ?_));iterate 2 refine mq ?_
    obtain⟨r7,Wi,h⟩:=aa h;refine jb (ax [.tmp 27,.tmp 28] rfl rfl SJ rfl (np k x6 a1 r7 Wi)) ?_;refine aq (nt (sr ?_));refine mq ?_;refine jb (iI rfl) ?_;refine nt (ci h (λh=>?_) (λh=>?_))
    .refine sr (cq (nt ?_));refine aE (Z:=Value) (α:=(List Int)) (λz9 x8=>[(8,.rep Tl x6),(9,I r7),(10,.eq z9)]) (λz9 x8=>[.sl z9 3 Ti x8]) h (λK h=>?_) (λz9 x8 h=>?_)
     .refine sr (mq ?_);refine jb (jm rfl) ?_;refine nt (ci h (λh=>?_) (λh=>?_))
      .refine ae ?_;iterate 3 refine mq ?_
       obtain⟨Wn,U,h⟩:=aa h;refine jb (eo rfl U) ?_;obtain⟨x,Q,h⟩:=aa h;refine jb (aD (t:=Ti) rfl gA bQ Q) ?_;refine ja (ao (t:=Ti) rfl bQ rfl) ?_;refine ja (aV (t:=Ti) [(.tmp 39,_)] [x] rfl rfl cV (.cons rfl .int .nil) rfl rfl) ?_;refine eD (SE.nil 3 Ti) ?_;obtain⟨Wq,Y,h⟩:=aa h;refine cR rfl rfl rfl (bp rfl rfl cV (ap Y)) ⟨rfl,rfl,trivial⟩ λWb=>?_;refine aq (nl ?_);exact jz (Wb,([]:(List Int))++[x]) h [0]
      .refine aZ (av (bK (SE.nil 3 Ti) ?_));exact jz ((.slice none 0 0),([]:(List Int))) h [0]
     .refine aE (Z:=Value) (α:=(List Int)) (λc j=>[(10,.eq c)]) (λc j=>[.sl c 3 Ti j]) h (λK h=>?_) (λc j h=>?_)
      .refine sr (mq ?_);obtain⟨Wm,O,h⟩:=aa h;refine jb (be rfl O) ?_;refine mq ?_;refine ol gA ?_;refine jb (bj rfl) ?_;refine nt (ci h (λh=>?_) (λh=>?_))
       .refine ae ?_;iterate 3 refine mq ?_
        obtain⟨Wj,J,h⟩:=aa h;refine jb (be rfl J) ?_;obtain⟨u,F,h⟩:=aa h;refine jb (aD (t:=Ti) rfl gA bQ F) ?_;refine ja (ao (t:=Ti) rfl bQ rfl) ?_;refine ja (aV (t:=Ti) [(.tmp 52,_)] [u] rfl rfl cV (.cons rfl .int .nil) rfl rfl) ?_;obtain⟨Wp,X,h⟩:=aa h;refine cR rfl rfl rfl (bp rfl rfl cV (ap X)) ⟨rfl,rfl,trivial⟩ λWa=>?_;refine aq (nl ?_);exact jz (Wa,x8++[u]) h [0]
       .refine aZ (av ?_);exact jz (z9,x8) h [0]
      .refine sr (mq ?_);obtain⟨We,mc,h⟩:=aa h;refine ka (ax [.tmp 55] rfl rfl SZ rfl (uj k j c We mc)) ?_;refine nt (sr (mq ?_));refine eD (gy [10,55,57] ⟨rfl,rfl,rfl,trivial⟩) ?_;refine ja (eC [(0,.tmp 57,_)] rfl Rm N7 Ql (kG ⟨rfl,trivial⟩) rfl) ?_;refine ja (Lt (t0:=163) (t:=Ti) rfl Vy) ?_;refine aq (nt (aA (br (bb (bg ?_)))));obtain rfl:=hR _ h;exact ra
    .refine aZ (aI (tn (ae ?_)));obtain⟨zz,E,h⟩:=aa h;refine jb (be rfl E) ?_;refine mq (nl ?_);exact jz ((),zz) h []
   .refine xa ?_;exact jz ((),()) h []
  .refine sr (cq (nt ?_));refine aE (Z:=Unit) (α:=Int) (λs l=>[(11,I l)]) (λs l=>[]) h (λK h=>?_) (λs l h=>?_)
   .refine sr (mq ?_);refine jb (jm rfl) ?_;refine nt (ci h (λh=>?_) (λh=>?_))
    .refine sr ?_;iterate 3 refine mq ?_
     obtain⟨qt,D,h⟩:=aa h;refine jb (eo rfl D) ?_;obtain⟨Wc,gw,h⟩:=aa h;refine jc (bo [.tmp 64,.tmp 65,.tmp 67] rfl rfl Ji rfl (ih a0 a1 qt Wc gw)) ?_;refine cz rfl (Ek rfl HD (by decide)) ⟨rfl,trivial⟩ ?_;refine mq ?_;refine xr ?_;refine xr ?_;refine aW rfl rfl rfl (bv rfl G5 OG) trivial λWs=>?_;refine aO rfl rfl (aN rfl Oh trivial rfl rfl) ⟨rfl,rfl,trivial⟩ ?_;refine aq (nt (sr ?_));refine mq (nt ?_);refine cv h (λh=>?_) (λh=>?_)
     .refine ae (mq ?_);refine fl EM ?_;refine lo bQ ?_;obtain⟨mw,y,h⟩:=aa h;refine jb (be rfl y) ?_;refine aq (nl ?_);exact jz ((),mw) h []
     .refine aZ (av ?_);exact jz ((),1) h []
    .refine aZ (av ?_);exact jz ((),1) h []
   .refine sr (mq ?_);refine ja (eC [(0,.tmp 77,_)] rfl Rn G5 Qm (kG ⟨rfl,trivial⟩) rfl) ?_;refine ja (Lu (t1:=165) (t:=Ti) rfl Vz) ?_;refine aq (nt (aA ?_));cases h;exact ra
def jd(k:Nat)(a0:Oz):Option (List Int):=
 some ([]:(List Int))
theorem qW(k:Nat)(a0:Oz)(r:(List Int))(h:jd k a0=some r):
 cT Tryz.prog 191 [.rep Q7 a0] [] (λ_:Unit=>(bC [.rep Tl r],[])):=by
 unfold jd at h
 replace h:=aX h
 refine cT.of 3 Tryz.func191 rfl Tryz.ntmps191 rfl λS w0=>?_
 refine sr ?_
 refine bx λb1=>?_
 refine cq ?_
 refine nt ?_
 refine sr ?_
 refine cq ?_
 refine nt ?_
 refine aA ?_
 refine bK (eB (t:=Tl) (x:=([]:(List Int))) 2 rfl .nil rfl rfl) ?_
 cases h
 exact ra
def i8(k:Nat)(a0:Oy):Option (List Int):=
 some a0
theorem qS(k:Nat)(a0:Oy)(r:(List Int))(h:i8 k a0=some r):
 cT Tryz.prog 192 [.rep Q6 a0] [] (λ_:Unit=>(bC [.rep Tl r],[])):=by
 unfold i8 at h
 replace h:=aX h
 refine cT.of 5 Tryz.func192 rfl Tryz.ntmps192 rfl λS w0=>?_
 refine sr ?_
 refine bx λb1=>?_
 refine cq ?_
 refine nt ?_
 refine sr ?_
 refine fl MM ?_
 refine lo eT ?_
 refine aq ?_
 refine nt ?_
 refine aA ?_
 cases h
 exact ra
def ce(k:Nat)(a0:ab)(a1:(List Int))(r5:(List Int)):Nat->Int->Option (Except Int Unit)
 |0,_=>none
 |n+1,y6=>
  if y6 < (r5.length:Int) then((aG r5 y6).bind λx8=>
  (bS (0≤x8/\x8 < 5)).bind λ_=>
  (aG a1 x8).bind λe=>
  if(pA 0 a0.2.1)≤e then(some (.error x8)) else((ck (y6+1)).bind λc=>
  ce k a0 a1 r5 n c)) else(some (.ok ()))
def dH(k:Nat)(a0:ab)(a1:(List Int))(a2:Int)(a3:Int):Option Int:=
 bE (α:=Unit) ((ew k k a0 a2 a3).bind λr4=>
 (Js r4 (λn=>jd k n) (λl=>i8 k l)).bind λr5=>
 ce k a0 a1 r5 k 0) (some) λ_=>
 some (-1:Int)
theorem kK{M:Md Tryz.prog}{bm:Nat}{c0 c1 c2 c3 c4 c5:Value}(hK:Kn M bm 0 [c0,c1,c2,c3,c4,c5])(k:Nat)(a0:ab)(a1:(List Int))(a2:Int)(a3:Int)(r:Int)(h:dH k a0 a1 a2 a3=some r):
    co M 105 [.rep (.mo (Pv bm) [c0,c1,c2,c3,c4,c5] am) a0,.rep Tr a1,.eq (.int .i64 a2),.eq (.int .i64 a3)] [] (λ_:Unit=>(bC [.eq (.int .i64 r)],[])):=by
  unfold dH at h
  replace h:=aX h
  refine co.of 33 Tryz.func105 rfl Tryz.ntmps105 rfl λS w0=>?_
  refine aj ?_
  refine ae ?_
  refine aW rfl rfl rfl (xw rfl rfl) ⟨rfl,trivial⟩ λb1=>?_
  refine Fa rfl ?_
  refine aF ?_
  refine av ?_
  show JC _ _ _ _ _
  refine cS (Z:=Unit) (α:=Unit) (λz3 x2=>[]) (λz3 x2=>[]) (λe=>e=r) h (λe h=>Option.some.inj h) (λK hR h=>?_) (λz3 x2 h=>?_)
  .
    refine aj ?_
    refine ae ?_
    refine iJ rfl rfl ?_
    refine iJ rfl rfl ?_
    refine iJ rfl rfl ?_
    obtain⟨r4,D,h⟩:=aa h
    have E:=me hK k k a0 a2 a3 r4 D
    refine cz rfl (bo [.tmp 11,.tmp 12,.tmp 13] rfl rfl Ji rfl E) ⟨rfl,rfl,rfl,trivial⟩ ?_
    obtain⟨r5,c,h⟩:=aa h
    refine cz rfl (Lx (r:=.rep Tl r5) rfl rfl wO wN (λn hd=>.agI (qW k n r5 (by rw [hd] at c;exact c))) (λl hd=>.agS (qS k l r5 (by rw [hd] at c;exact c)))) ⟨rfl,trivial⟩ ?_
    refine cz rfl (pi rfl rfl gA) ⟨rfl,trivial⟩ ?_
    refine fH rfl ?_
    refine aF ?_
    refine av ?_
    show JC _ _ _ _ _
    refine ah ?_
    refine aC (λz7 y6=>[(0,.rep (.mo (Pv bm) [c0,c1,c2,c3,c4,c5] am) a0),(5,.eq (Pv b1)),(15,.rep Tl r5),(16,.eq (.int .i64 (r5.length:Int))),(17,.eq (.int .i64 y6))]) (λz7 y6=>[.obj b1 82 (.rep Tr a1)]) (ce k a0 a1 r5) k () 0 (λ_=>rfl) h (SE.fin [0] ⟨rfl,rfl,rfl,rfl,rfl,trivial⟩ rfl) (λn z7 y6 h=>?_)
    unfold ce at h
    refine aj ?_
    refine ae ?_
    refine cz rfl (bj rfl) ⟨rfl,rfl,trivial⟩ ?_
    refine aF ?_
    refine av ?_
    show JC _ _ _ _ _
    refine aj ?_
    refine jS rfl (λhb=>?_) (λhb=>?_)
    . replace h:=ee (vM hb) h
      refine aZ ?_
      refine av ?_
      show JC _ _ _ _ _
      refine aj ?_
      refine ah ?_
      refine aj ?_
      refine ae ?_
      obtain⟨x8,y,h⟩:=aa h
      refine cz rfl (aD (t:=Ti) rfl gA bQ y) ⟨rfl,rfl,trivial⟩ ?_
      refine cz rfl (ao (t:=Ti) rfl bQ rfl) ⟨rfl,trivial⟩ ?_
      refine wh rfl rfl ?_
      refine aF ?_
      refine av ?_
      show JC _ _ _ _ _
      refine aj ?_
      refine bz ?_
      refine fV rfl rfl rfl (aY rfl) ⟨rfl,trivial⟩ ?_
      obtain⟨u9,u,h⟩:=aa h
      refine fV rfl rfl rfl (ec rfl D1 bQ (ap u).1 (ap u).2) ⟨rfl,rfl,trivial⟩ ?_
      obtain⟨F,s,h⟩:=aa h
      refine zJ 0 rfl rfl rfl rfl (nT (t:=Ti) (off:=0) (i:=x8) (N:=5) rfl bQ (λ_=>rfl) rfl rfl rfl rfl s) ⟨rfl,trivial⟩ ?_
      refine fV rfl rfl rfl (aY rfl) ⟨rfl,trivial⟩ ?_
      refine fV rfl rfl rfl (l7 rfl) ⟨rfl,trivial⟩ ?_
      refine fV rfl rfl rfl (io rfl iE) ⟨rfl,trivial⟩ ?_
      refine fV rfl rfl rfl (jf 1 false rfl pD rfl rfl) ⟨rfl,trivial⟩ ?_
      refine fV rfl rfl rfl (jX (t:=Ti) rfl bQ (hK.sub 1 1 rfl (le_of_ble_eq_true rfl)) rfl rfl) ⟨rfl,trivial⟩ ?_
      refine fV rfl rfl rfl (Ej rfl rfl) ⟨rfl,rfl,trivial⟩ ?_
      refine D6 (by kernel_rfl) cQ ?_
      refine cz rfl (iI rfl) ⟨rfl,rfl,trivial⟩ ?_
      refine aF ?_
      refine av ?_
      show JC _ _ _ _ _
      refine jS rfl (λhb=>?_) (λhb=>?_)
      . replace h:=ee (vM hb) h
        refine aj ?_
        refine ae ?_
        refine iJ rfl rfl ?_
        refine wh rfl rfl ?_
        refine aF ?_
        refine av ?_
        show JC _ _ _ _ _
        refine aA ?_
        refine bb ?_
        refine bg ?_
        refine bg ?_
        refine bb ?_
        refine bg ?_
        obtain rfl:=hR _ h
        exact aP () [_] 0 ⟨rfl,trivial⟩ rfl
      . replace h:=cK (vO hb) h
        refine aZ ?_
        refine aI ?_
        refine av ?_
        show JC _ _ _ _ _
        refine ae ?_
        obtain⟨x,j,h⟩:=aa h
        refine cz rfl (be rfl j) ⟨rfl,rfl,trivial⟩ ?_
        refine iJ rfl rfl ?_
        refine aF ?_
        refine av ?_
        exact wi ((),x) h (SE.fin [0] ⟨rfl,rfl,rfl,rfl,rfl,trivial⟩ rfl)
    . replace h:=cK (vO hb) h
      refine fA ?_
      refine bJ ?_
      refine bJ ?_
      refine cZ ?_
      refine av ?_
      exact wi ((),()) h (SE.fin [] trivial rfl)
  .
    refine aj ?_
    refine ae ?_
    refine Fa rfl ?_
    refine aF ?_
    refine av ?_
    show JC _ _ _ _ _
    refine aA ?_
    obtain rfl:=Option.some.inj h
    exact aP () [_] 0 ⟨rfl,trivial⟩ rfl
def cH(k:Nat)(a0:ab)(a1:(List Int))(a2:Int):Nat->((List Int)×Int)->Option (List Int)
 |0,_=>none
 |n+1,y6=>
  if y6.2 < a0.1 then((((ew k k a0 y6.2 a2).bind λc=>
  if Ll c=true then(if a0.2.2.2.1≤(Rh c) then((bS (0≤y6.2/\y6.2 < 5)).bind λ_=>
  some (List.set y6.1 (Int.toNat y6.2) (-1:Int))) else(some y6.1)) else(if¬(Ll c=true) then((bS (0≤y6.2/\y6.2 < 5)).bind λ_=>
  (aG a1 y6.2).bind λl=>
  if 0≤l then((bS (0≤y6.2/\y6.2 < 5)).bind λ_=>
  (aG a1 y6.2).bind λj=>
  (ck (j+1)).bind λh=>
  (bS (0≤y6.2/\y6.2 < 5)).bind λ_=>
  some (List.set y6.1 (Int.toNat y6.2) h)) else((dH k a0 a1 y6.2 a2).bind λr=>
  if 0≤r then((bS (0≤y6.2/\y6.2 < 5)).bind λ_=>
  some (List.set y6.1 (Int.toNat y6.2) 0)) else(some y6.1))) else(some y6.1))):Option ((List Int))).bind λx8=>
  (ck (y6.2+1)).bind λe=>
  cH k a0 a1 a2 n (x8,e)) else(some y6.1)
def iq(k:Nat)(a0:ab)(a1:(List Int))(a2:Int):Option (List Int):=
 ((cH k a0 a1 a2 k (a1,0)):Option ((List Int))).bind λx4=>
 some x4
theorem sb{M:Md Tryz.prog}{bm:Nat}{c0 c1 c2 c3 c4 c5:Value}(hK:Kn M bm 0 [c0,c1,c2,c3,c4,c5])(k:Nat)(a0:ab)(a1:(List Int))(a2:Int)(r:(List Int))(h:iq k a0 a1 a2=some r):
 co M 95 [.rep (.mo (Pv bm) [c0,c1,c2,c3,c4,c5] am) a0,.rep Tr a1,I a2] [] (λ_:Unit=>(bC [.rep Tr r],[])):=by
 unfold iq at h
 replace h:=aX h
 refine co.of 60 Tryz.func95 rfl Tryz.ntmps95 rfl λS w0=>?_
 refine sr ?_
 refine bx λb1=>?_
 refine aW rfl rfl rfl (bv rfl Kz Nv) trivial λb2=>?_
 refine nt ?_
 refine sr ?_
 refine fr 1 ?_
 refine lo jT ?_
 refine aW rfl rfl rfl (bv rfl Kz Nv) trivial λb3=>?_
 refine aO rfl rfl (aN rfl jT rfl rfl rfl) ⟨rfl,rfl,trivial⟩ ?_
 refine nt ?_
 refine aE (Z:=Unit) (α:=(List Int)) (λz5 x4=>[(6,Pt b2),(7,Pt b3)]) (λz5 x4=>[.obj b2 82 (.rep Tr [0,0,0,0,0]),.obj b3 82 (.rep Tr x4)]) h (λK h=>?_) (λz5 x4 h=>?_)
 .
  refine sr (mq ?_);refine ja (l7 rfl) ?_;refine ja (io rfl iE) ?_;refine ja (jf 1 false rfl eU rfl rfl) ?_;refine ja (jX (t:=Ti) rfl bQ (hK.sub 0 1 rfl (le_of_ble_eq_true rfl)) rfl rfl) ?_;refine fH rfl ?_;refine nt (ah (aC (λz7 y6=>[(0,.rep (.mo (Pv bm) [c0,c1,c2,c3,c4,c5] am) a0),(2,I a2),(4,Pt b1),(6,Pt b2),(7,Pt b3),(16,I a0.1),(17,I y6.2)]) (λz7 y6=>[.obj b1 82 (.rep Tr a1),.obj b2 82 (.rep Tr [0,0,0,0,0]),.obj b3 82 (.rep Tr y6.1)]) (cH k a0 a1 a2) k () (a1,0) (λ_=>rfl) h (SE.fin [1,2,0] ⟨rfl,rfl,rfl,rfl,rfl,rfl,rfl,trivial⟩ rfl) (λn z7 y6 h=>?_)));unfold cH at h;refine sr (jb (bj rfl) ?_);refine nt (aj (ci h (λh=>?_) (λh=>?_)))
  .refine sk (aE (Z:=Unit) (α:=(List Int)) (λz9 x8=>[(0,.rep (.mo (Pv bm) [c0,c1,c2,c3,c4,c5] am) a0),(2,I a2),(4,Pt b1),(6,Pt b2),(7,Pt b3),(16,I a0.1),(17,I y6.2)]) (λz9 x8=>[.obj b1 82 (.rep Tr a1),.obj b2 82 (.rep Tr [0,0,0,0,0]),.obj b3 82 (.rep Tr x8)]) h (λK h=>?_) (λz9 x8 h=>?_))
   .refine ah (sr (mq ?_));refine aq (nt (sr ?_));iterate 3 refine mq ?_
    obtain⟨U,F,h⟩:=aa h;refine jc (bo [.tmp 20,.tmp 21,.tmp 22] rfl rfl Ji rfl (me hK k k a0 y6.2 a2 U F)) ?_;refine nt (ah (sr (cz rfl (Ek rfl HD (by decide)) ⟨rfl,trivial⟩ ?_)));refine xr ?_;refine xr ?_;refine nt (cv h (λh=>?_) (λh=>?_))
    .refine sr (aW rfl rfl rfl (bv rfl G5 OG) trivial λWa=>?_);refine aO rfl rfl (aN rfl Oh trivial rfl rfl) ⟨rfl,rfl,trivial⟩ ?_;refine nt (aj (bz ?_));refine da (au rfl EM) ?_;refine ea 0 (an rfl bQ ju rfl) ?_;refine dm ?_;refine da (l7 rfl) ?_;refine da (io rfl iE) ?_;refine da (jf 1 false rfl tH rfl rfl) ?_;refine da (jX (t:=Ti) rfl bQ (hK.sub 3 1 rfl (le_of_ble_eq_true rfl)) rfl rfl) ?_;refine df cQ ?_;refine jb (iI rfl) ?_;refine nt (ci h (λh=>?_) (λh=>?_))
     .refine ae (mq ?_);obtain⟨qt,j,h⟩:=aa h;refine jb (ec rfl D1 bQ (ap j).1 (ap j).2) ?_;refine fr 3 ?_;refine aO rfl rfl (il (t:=Ti) (off:=0) (i:=y6.2) (N:=5) rfl bQ .int rfl rfl rfl rfl (ap j).1 (ap j).2 rfl) ⟨rfl,rfl,trivial⟩ ?_;refine aF (aI (bn ?_));exact jz ((),List.set y6.1 (Int.toNat y6.2) (-1:Int)) h [2,3,0]
     .refine aZ (aI (bn ?_));exact jz ((),y6.1) h [1,2,3]
    .refine sr (cz rfl (LD rfl O0 (by decide)) ⟨rfl,trivial⟩ ?_);refine xr ?_;refine xr ?_;refine nt (cw h (λh=>?_) (λh=>?_))
     .refine sr (aW rfl rfl rfl (bv rfl N7 TC) trivial λzz=>?_);refine aO rfl rfl (aN rfl Q8 trivial rfl rfl) ⟨rfl,rfl,trivial⟩ ?_;refine nt (sr (mq ?_));obtain⟨mw,s,h⟩:=aa h;refine jb (ec rfl D1 bQ (ap s).1 (ap s).2) ?_;obtain⟨Y,D,h⟩:=aa h;refine fr 1 ?_;refine ka (nT (t:=Ti) (off:=0) (i:=y6.2) (N:=5) rfl bQ (λ_=>rfl) rfl rfl rfl rfl D) ?_;refine jb (iI rfl) ?_;refine nt (ci h (λh=>?_) (λh=>?_))
      .refine ae ?_;iterate 2 refine mq ?_
       obtain⟨u16,l,h⟩:=aa h;refine jb (ec rfl D1 bQ (ap l).1 (ap l).2) ?_;obtain⟨X,y,h⟩:=aa h;refine ka (nT (t:=Ti) (off:=0) (i:=y6.2) (N:=5) rfl bQ (λ_=>rfl) rfl rfl rfl rfl y) ?_;obtain⟨O,x,h⟩:=aa h;refine jb (be rfl x) ?_;obtain⟨mc,e,h⟩:=aa h;refine jb (ec rfl D1 bQ (ap e).1 (ap e).2) ?_;refine fr 3 ?_;refine aO rfl rfl (il (t:=Ti) (off:=0) (i:=y6.2) (N:=5) rfl bQ .int rfl rfl rfl rfl (ap e).1 (ap e).2 rfl) ⟨rfl,rfl,trivial⟩ ?_;refine aF (aI (bn ?_));exact jz ((),List.set y6.1 (Int.toNat y6.2) O) h [1,3,0]
      .refine sr (mq ?_);refine lo jT ?_;iterate 2 refine mq ?_
       obtain⟨Q,E,h⟩:=aa h;refine cz rfl (bo [.tmp 50,.tmp 51,.tmp 52,.tmp 53] rfl rfl Ox rfl (kK hK k a0 a1 y6.2 a2 Q E)) ⟨rfl,rfl,rfl,rfl,trivial⟩ ?_;refine jb (iI rfl) ?_;refine nt (ci h (λh=>?_) (λh=>?_))
       .refine ae (mq ?_);obtain⟨gw,c,h⟩:=aa h;refine jb (ec rfl D1 bQ (ap c).1 (ap c).2) ?_;refine fr 3 ?_;refine aO rfl rfl (il (t:=Ti) (off:=0) (i:=y6.2) (N:=5) rfl bQ .int rfl rfl rfl rfl (ap c).1 (ap c).2 rfl) ⟨rfl,rfl,trivial⟩ ?_;refine aF (aI (bn ?_));exact jz ((),List.set y6.1 (Int.toNat y6.2) 0) h [1,3,0]
       .refine aZ (aI (bn ?_));exact jz ((),y6.1) h [0,2,3]
     .refine aZ (aI (bn ?_));exact jz ((),y6.1) h [0,1,2]
   .refine ae ?_;obtain⟨J,u,h⟩:=aa h;refine jb (be rfl u) ?_;refine mq (nl ?_);exact jz ((),(x8,J)) h [0,1,2]
  .refine xa ?_;exact jz ((),y6.1) h [1,2]
 .
  refine sr (fr 1 ?_);refine lo jT ?_;refine fr 1 ?_;refine aO rfl rfl (aN rfl jT rfl rfl rfl) ⟨rfl,rfl,trivial⟩ ?_;refine nt (aA ?_);obtain rfl:=Option.some.inj h;exact aP () [.rep Tr x4] 0 ⟨⟨_,_,_,_,_,rfl,(.head _),jT,(oL),rfl⟩,trivial⟩ rfl
def mZ(k:Nat)(a0:List Int):Option (List Int):=
 (bS (bi (length a0))).bind λ_=>some a0
theorem sT(k:Nat)(a0:List Int)(r:List Int)(h:mZ k a0=some r):
 cT Tryz.prog 50 [.rep Tl a0] [] (λz:Value=>(bC [.eq z],[.sl z 3 Ti r])):=by
 unfold mZ at h
 replace h:=aX h
 refine cT.of 8 Tryz.func50 rfl Tryz.ntmps50 rfl λS w0=>?_
 obtain⟨u1,c,h⟩:=aa h
 cases h
 refine sr ?_
 refine cq ?_
 refine nt ?_
 refine aj ?_
 refine sr ?_
 refine mq ?_
 refine aR (Δ:=[]) (F:=_) (λ_ _ _=>ai rfl _) rfl rfl (LA rfl gA) ⟨rfl,rfl,trivial⟩ λb=>?_
 refine nt ?_
 refine jS rfl (λhb=>?_) (λhb=>?_)
 .
  refine sr (cq (nt (rx ?_)));obtain rfl:=b.2 hb;refine bK (SE.nil 3 Ti) ?_;exact aP (.slice none 0 0) [.eq (.slice none 0 0)] 1 ⟨rfl,trivial⟩ rfl
 .
  refine sk (sr (aW rfl rfl rfl (im (t:=Ti) [] [] rfl rfl cV .nil rfl rfl) trivial λv1=>?_));refine mq ?_;refine cR rfl rfl rfl (bp rfl rfl cV (by simpa using ap c)) ⟨rfl,rfl,trivial⟩ λv2=>?_;refine aq (nt (aA ?_));exact aP v2 [.eq v2] 1 ⟨rfl,trivial⟩ rfl
def dO(k:Nat)(a0:(List Int))(a1:(List Int)):Nat->Int->Option (Except Bool Unit)
 |0,_=>none
 |n+1,y3=>
  if y3 < (a0.length:Int) then((aG a0 y3).bind λx5=>
  (aG a1 y3).bind λx6=>
  if¬(x5=x6) then(some (.error false)) else((ck (y3+1)).bind λx7=>
  dO k a0 a1 n x7)) else(some (.ok ()))
def gr(k:Nat)(a0:(List Int))(a1:(List Int)):Option Bool:=
 if¬((a0.length:Int)=(a1.length:Int)) then(some false) else(bE (α:=Unit) (dO k a0 a1 k 0) (some) λ_=>
 some true)
theorem lm(k:Nat)(a0:(List Int))(a1:(List Int))(r:Bool)(h:gr k a0 a1=some r):
 cT Tryz.prog 23 [.rep Tl a0,.rep Tl a1] [] (λ_:Unit=>(bC [.eq (.bool r)],[])):=by
 unfold gr at h
 replace h:=aX h
 refine cT.of 26 Tryz.func23 rfl Tryz.ntmps23 rfl λS w0=>?_
 refine sr ?_
 refine cq ?_
 refine nt ?_
 refine aj ?_
 refine sr ?_
 refine mq ?_
 refine ol gA ?_
 refine mq ?_
 refine ol gA ?_
 refine jb (d5 rfl) ?_
 refine nt ?_
 refine cn h (λh=>?_) (λh=>?_)
 .
  refine sr (cq (nt (rx ?_)));cases h;exact ra
 .
  refine sk (cS (Z:=Unit) (α:=Unit) (λz2 x1=>[]) (λz2 x1=>[]) (λe=>e=r) h (λe h=>Option.some.inj h) (λK hR h=>?_) (λz2 x1 h=>?_))
  .refine sr (cq (nt (ah ?_)));refine aC (λz4 y3=>[(0,.rep Tl a0),(1,.rep Tl a1),(5,I y3)]) (λz4 y3=>[]) (dO k a0 a1) k () 0 (λ_=>rfl) h (SE.fin [] ⟨rfl,rfl,rfl,trivial⟩ rfl) (λn z4 y3 h=>?_);unfold dO at h;refine aj (sr ?_);iterate 2 refine mq ?_
   refine ol gA ?_;refine jb (bj rfl) ?_;refine nt (ci h (λh=>?_) (λh=>?_))
   .refine sk (aj (ah (aj (bz ?_))));refine dm ?_;refine dm ?_;obtain⟨x5,l,h⟩:=aa h;refine db (aD (t:=Ti) rfl gA bQ l) ?_;refine da (ao (t:=Ti) rfl bQ rfl) ?_;refine dm ?_;refine dm ?_;obtain⟨x6,j,h⟩:=aa h;refine db (aD (t:=Ti) rfl gA bQ j) ?_;refine da (ao (t:=Ti) rfl bQ rfl) ?_;refine df cQ ?_;refine jb (d5 rfl) ?_;refine nt (cn h (λh=>?_) (λh=>?_))
    .refine sr (cq (nt (aA (br (bb (bg ?_))))));obtain rfl:=hR _ h;exact ra
    .refine aZ (aI (tn (ae (mq ?_))));obtain⟨x7,c,h⟩:=aa h;refine jb (be rfl c) ?_;refine aq (nl ?_);exact jz ((),x7) h []
   .refine xa ?_;exact jz ((),()) h []
  .refine sr (cq (nt (aA ?_)));cases h;exact ra
def dC(k:Nat)(a0:(List (List Int)))(a1:(List (List Int))):Nat->Int->Option (Except Bool Unit)
 |0,_=>none
 |n+1,y3=>
  if y3 < (a0.length:Int) then((aG a0 y3).bind λx5=>
  (aG a1 y3).bind λx6=>
  (gr k x5 x6).bind λr7=>
  if¬(r7=true) then(some (.error false)) else((ck (y3+1)).bind λx8=>
  dC k a0 a1 n x8)) else(some (.ok ()))
def fE(k:Nat)(a0:(List (List Int)))(a1:(List (List Int))):Option Bool:=
 if¬((a0.length:Int)=(a1.length:Int)) then(some false) else(bE (α:=Unit) (dC k a0 a1 k 0) (some) λ_=>
 some true)
theorem j8(k:Nat)(a0:(List (List Int)))(a1:(List (List Int)))(r:Bool)(h:fE k a0 a1=some r):
 cT Tryz.prog 21 [.rep (.slice Tl) a0,.rep (.slice Tl) a1] [] (λ_:Unit=>(bC [.eq (.bool r)],[])):=by
 unfold fE at h
 replace h:=aX h
 refine cT.of 27 Tryz.func21 rfl Tryz.ntmps21 rfl λS w0=>?_
 refine sr ?_
 refine cq ?_
 refine nt ?_
 refine aj ?_
 refine sr ?_
 refine mq ?_
 refine ol nK ?_
 refine mq ?_
 refine ol nK ?_
 refine jb (d5 rfl) ?_
 refine nt ?_
 refine cn h (λh=>?_) (λh=>?_)
 .
  refine sr (cq (nt (rx ?_)));cases h;exact ra
 .
  refine sk (cS (Z:=Unit) (α:=Unit) (λz2 x1=>[]) (λz2 x1=>[]) (λe=>e=r) h (λe h=>Option.some.inj h) (λK hR h=>?_) (λz2 x1 h=>?_))
  .refine sr (cq (nt (ah ?_)));refine aC (λz4 y3=>[(0,.rep (.slice Tl) a0),(1,.rep (.slice Tl) a1),(5,I y3)]) (λz4 y3=>[]) (dC k a0 a1) k () 0 (λ_=>rfl) h (SE.fin [] ⟨rfl,rfl,rfl,trivial⟩ rfl) (λn z4 y3 h=>?_);unfold dC at h;refine aj (sr ?_);iterate 2 refine mq ?_
   refine ol nK ?_;refine jb (bj rfl) ?_;refine nt (ci h (λh=>?_) (λh=>?_))
   .refine sk (aj (ah (aj (bz ?_))));refine dm ?_;refine dm ?_;obtain⟨x5,l,h⟩:=aa h;refine db (aD (t:=Tl) rfl nK eT l) ?_;refine da (ao (t:=Tl) rfl eT rfl) ?_;refine dm ?_;refine dm ?_;obtain⟨x6,j,h⟩:=aa h;refine db (aD (t:=Tl) rfl nK eT j) ?_;refine da (ao (t:=Tl) rfl eT rfl) ?_;refine df cQ ?_;obtain⟨r7,s,h⟩:=aa h;refine jb (ax [.tmp 20,.tmp 24] rfl rfl Qb rfl (lm k x5 x6 r7 s)) ?_;refine ja (fh rfl) ?_;refine nt (cw h (λh=>?_) (λh=>?_))
    .refine sr (cq (nt (aA (br (bb (bg ?_))))));obtain rfl:=hR _ h;exact ra
    .refine aZ (aI (tn (ae (mq ?_))));obtain⟨x8,c,h⟩:=aa h;refine jb (be rfl c) ?_;refine aq (nl ?_);exact jz ((),x8) h []
   .refine xa ?_;exact jz ((),()) h []
  .refine sr (cq (nt (aA ?_)));cases h;exact ra
def dz{σ:Type}(k:Nat)(a0:Int)(a3:Int)(self:Int->Int->σ->Option (Bool×σ)):Nat->(Int×σ)->Option (Except (Bool×σ) (σ))
 |0,_=>none
 |n+1,y5=>
  if y5.1 < a3 then((gp k a0 y5.1).bind λr7=>
  (ck (y5.1+1)).bind λx8=>
  (self r7 x8 y5.2).bind λr9=>
  if¬(r9.1=true) then(some (.error (false,r9.2))) else((ck (y5.1+1)).bind λc=>
  dz k a0 a3 self n (c,r9.2))) else(some (.ok y5.2))
def dG{σ:Type}(k:Nat)(Y:σ->Int->Option (σ×Bool))(a3:Int):Nat->Int->Int->σ->Option (Bool×σ)
 |0,_,_,_=>none
 |m0+1,a0,a1,s0=>
  (Y s0 a0).bind λr1=>
  if¬(r1.2=true) then(some (false,r1.1)) else(bE (α:=σ) (dz k a0 a3 (dG k Y a3 m0) k (a1,r1.1)) (some) λx3=>
  some (true,x3))
theorem tg{M:Md Tryz.prog}{σ Z:Type}(E:Z->σ->List D)(l:Nat)(Y:σ->Int->Option (σ×Bool))(k:Nat)(u:Nat)(a3:Int)(j:Nat)(c:Nat)(hY:∀z s p r,Y s p=some r->YT M l [.eq (.int .u8 p)] (E z s) (λz':Z=>(.eq (.bool r.2),E z' r.1))):
 ∀(n:Nat) (a0:Int) (a1:Int) (z0:Z) (s0:σ) (r:Bool×σ),dG k Y a3 n a0 a1 s0=some r->co M 107 [.eq (.int .u8 a0),I a1,Pt u,Pt j,Pt c] ([.obj u 122 (.eq (.func (.yield l) #[] #[])),.obj j 3 (I a3),.obj c 121 (.eq (.func (.func 107) #[] #[(Pv u),(Pv j),(Pv c)]))]++E z0 s0) (λz:Z=>(bC [.eq (.bool r.1)],[.obj u 122 (.eq (.func (.yield l) #[] #[])),.obj j 3 (I a3),.obj c 121 (.eq (.func (.func 107) #[] #[(Pv u),(Pv j),(Pv c)]))]++E z r.2)):=by
 intro n
 induction n with
 |zero=>intro a0 a1 z0 s0 r h;cases h
 |succ m0 ih=>
  intro a0 a1 z0 s0 r h;rw [dG] at h;replace h:=aX h;refine co.of 27 Tryz.func107 rfl Tryz.ntmps107 rfl λS w0=>?_;refine sr (cq (nt (aj (sr ?_))));refine lo Q9 ?_;refine mq ?_;obtain⟨r1,U,h⟩:=aa h;refine fr 2 ?_;refine fr 2 ?_;refine fr 2 ?_;refine JV [.obj u 122 (.eq (.func (.yield l) #[] #[])),.obj j 3 (I a3),.obj c 121 (.eq (.func (.func 107) #[] #[(Pv u),(Pv j),(Pv c)]))] rfl rfl rfl (Lq [.tmp 10] rfl rfl rfl (hY z0 s0 a0 r1 U)) ⟨rfl,rfl,trivial⟩ λz2=>?_;refine ja (fh rfl) ?_;refine nt (cw h (λh=>?_) (λh=>?_))
  .refine sr (cq (nt (rx ?_)));cases h;exact uO z2 [_] ⟨rfl,trivial⟩ rfl
  .refine sk (cS (Z:=Z) (α:=σ) (λz4 x3=>[]) (λz4 x3=>[.obj u 122 (.eq (.func (.yield l) #[] #[])),.obj j 3 (I a3),.obj c 121 (.eq (.func (.func 107) #[] #[(Pv u),(Pv j),(Pv c)]))]++E z4 x3) (λe=>e=r) h (λe h=>Option.some.inj h) (λK hR h=>?_) (λz4 x3 h=>?_))
   .refine sr (mq ?_);refine aq (nt (ah ?_));refine aC (Z:=Z) (α:=Int×σ) (λz6 y5=>[(0,.eq (.int .u8 a0)),(3,Pt j),(4,Pt c),(8,I y5.1)]) (λz6 y5=>[.obj j 3 (I a3),.obj c 121 (.eq (.func (.func 107) #[] #[(Pv u),(Pv j),(Pv c)])),.obj u 122 (.eq (.func (.yield l) #[] #[]))]++E z6 y5.2) (dz k a0 a3 (dG k Y a3 m0)) k z2 (a1,r1.1) (λ_=>rfl) h (lH [.obj u 122 (.eq (.func (.yield l) #[] #[])),.obj j 3 (I a3),.obj c 121 (.eq (.func (.func 107) #[] #[(Pv u),(Pv j),(Pv c)]))] (E z2 r1.1) [1,2,0] ⟨rfl,rfl,rfl,rfl,trivial⟩ rfl) (λn z6 y5 h=>?_);unfold dz at h;refine aj (sr (mq ?_));refine lo bQ ?_;refine jb (bj rfl) ?_;refine nt (ci h (λh=>?_) (λh=>?_))
    .refine sk (aj (ah (aj (bz ?_))));refine ea 1 (an rfl HG ju rfl) ?_;refine dm ?_;refine dm ?_;obtain⟨r7,Q,h⟩:=aa h;refine db (ax [.tmp 20,.tmp 21] rfl rfl P7 rfl (li k a0 y5.1 r7 Q)) ?_;refine dm ?_;obtain⟨x8,J,h⟩:=aa h;refine db (be rfl J) ?_;refine df cQ ?_;obtain⟨r9,O,h⟩:=aa h;refine fr 1 ?_;refine fr 1 ?_;refine fr 2 ?_;refine BQ rfl rfl rfl (rW (fs:=[]) (cs:=[(Pv u),(Pv j),(Pv c)]) (ags:=[.eq (.int .u8 r7),I x8]) [.tmp 22,.tmp 24] rfl rfl Ou rfl (ih r7 x8 z6 y5.2 r9 O)) ⟨rfl,rfl,rfl,trivial⟩ λx=>?_;refine ja (fh rfl) ?_;refine nt (cw h (λh=>?_) (λh=>?_))
     .refine sr (cq (nt (aA (br (bb (bg ?_))))));obtain rfl:=hR _ h;exact uO x [_] ⟨rfl,trivial⟩ rfl
     .refine aZ (aI (tn (ae (mq ?_))));obtain⟨F,y,h⟩:=aa h;refine jb (be rfl y) ?_;refine aq (nl ?_);exact wi (x,(F,r9.2)) h (lH [.obj u 122 (.eq (.func (.yield l) #[] #[])),.obj j 3 (I a3),.obj c 121 (.eq (.func (.func 107) #[] #[(Pv u),(Pv j),(Pv c)]))] (E x r9.2) [1,2,0] ⟨rfl,rfl,rfl,rfl,trivial⟩ rfl)
    .refine xa ?_;exact wi (z6,y5.2) h (lH [.obj j 3 (I a3),.obj c 121 (.eq (.func (.func 107) #[] #[(Pv u),(Pv j),(Pv c)])),.obj u 122 (.eq (.func (.yield l) #[] #[]))] (E z6 y5.2) [2,0,1] trivial rfl)
   .refine sr (cq (nt (aA ?_)));cases h;exact uO z4 [_] ⟨rfl,trivial⟩ rfl
def kL{σ:Type}(k:Nat)(Y:σ->Int->Option (σ×Bool))(a1:Int)(s0:σ):Option (σ):=
 (dG k Y a1 k 0 0 s0).bind λr3=>
 some r3.2
theorem pu{M:Md Tryz.prog}{σ Z:Type}(E:Z->σ->List D)(l:Nat)(Y:σ->Int->Option (σ×Bool))(k:Nat)(a1:Int)(c:Nat)(hY:∀z s p r,Y s p=some r->YT M l [.eq (.int .u8 p)] (E z s) (λz':Z=>(.eq (.bool r.2),E z' r.1))):
 ∀(z0:Z) (s0:σ) (r:σ),kL k Y a1 s0=some r->co M 106 [.eq (.func (.yield l) #[] #[]),Pt c] ([.obj c 3 (I a1)]++E z0 s0) (λz:Z=>(bC [],[.obj c 3 (I a1)]++E z r)):=by
 intro z0 s0 r h
 unfold kL at h
 replace h:=aX h
 refine co.of 7 Tryz.func106 rfl Tryz.ntmps106 rfl λS w0=>?_
 refine sr ?_
 refine bx λb1=>?_
 refine nt ?_
 refine sr ?_
 refine aW rfl rfl rfl (bv rfl QY TD) trivial λb2=>?_
 refine nt ?_
 refine sr ?_
 refine jc (s5 [] [.tmp 2,.tmp 1,.tmp 3] [] [(Pv b1),(Pv c),(Pv b2)] rfl rfl rfl) ?_
 refine aO rfl rfl (aN rfl HG rfl rfl rfl) ⟨rfl,rfl,trivial⟩ ?_
 refine nt ?_
 refine ae ?_
 refine lo HG ?_
 obtain⟨r3,e,h⟩:=aa h
 have j:=tg E l Y k b1 a1 c b2 hY k 0 0 z0 s0 r3 e
 refine fr 2 ?_
 refine fr 2 ?_
 refine BQ rfl rfl rfl (rW (fs:=[]) (cs:=[(Pv b1),(Pv c),(Pv b2)]) (ags:=[.eq (.int .u8 0),I 0]) [.const (.int .u8 (0)),.const (.int .i64 (0))] rfl rfl Ou rfl j) ⟨rfl,rfl,rfl,trivial⟩ λz4=>?_
 refine aF ?_
 refine kW ?_
 refine bK (lH (Γ':=[]) [.obj b1 122 (.eq (.func (.yield l) #[] #[])),.obj c 3 (I a1),.obj b2 121 (.eq (.func (.func 107) #[] #[(Pv b1),(Pv c),(Pv b2)]))] (E z4 r3.2) [1] trivial rfl) ?_
 cases h
 exact uO z4 [] trivial rfl
theorem sd(a0:Int):cT Tryz.prog 84 [I a0] [] (λz:Nat=>(bC [.eq (.func (.func 106) #[] #[(Pv z)])],[.obj z 3 (I a0)])):=by
 refine cT.of 4 Tryz.func84 rfl Tryz.ntmps84 rfl λS w0=>?_;refine sr (bx λz=>?_);refine cq (nt (sr ?_));refine ja (s5 [] [.tmp 1] [] [(Pv z)] rfl rfl rfl) ?_;refine aq (nt (aA ?_));exact aP z [_] 1 ⟨rfl,trivial⟩ rfl
def d4(k:Nat)(a0:(List Int)):Nat->(Int×Int)->Option Int
 |0,_=>none
 |n+1,y4=>
  if y4.2 < (a0.length:Int) then((aG a0 y4.2).bind λx6=>
  (ck (y4.2+1)).bind λx7=>
  d4 k a0 n (jh y4.1 x6,x7)) else(some y4.1)
def jl(k:Nat)(a0:(List Int)):Option Int:=
 if(a0.length:Int) < 1 then(none) else((aG a0 0).bind λx1=>
 ((d4 k a0 k (x1,1)):Option (Int)).bind λx2=>
 some x2)
theorem oU(k:Nat)(a0:(List Int))(r:Int)(h:jl k a0=some r):
 cT Tryz.prog 61 [.rep Tl a0] [] (λ_:Unit=>(bC [I r],[])):=by
 unfold jl at h
 replace h:=aX h
 refine cT.of 25 Tryz.func61 rfl Tryz.ntmps61 rfl λS w0=>?_
 refine sr ?_
 refine cq ?_
 refine nt ?_
 refine aj ?_
 refine sr ?_
 refine mq ?_
 refine ol gA ?_
 refine jb (bj rfl) ?_
 refine nt ?_
 refine ci h (λh=>?_) (λh=>?_)
 .
  cases h
 .
  refine sk (sr (mq ?_));obtain⟨x1,j,h⟩:=aa h;refine jb (aD (t:=Ti) rfl gA bQ j) ?_;refine ja (ao (t:=Ti) rfl bQ rfl) ?_;refine aq (nt ?_);refine aE (Z:=Unit) (α:=Int) (λz3 x2=>[(3,I x2)]) (λz3 x2=>[]) h (λK h=>?_) (λz3 x2 h=>?_)
  .refine sr (cq (nt (ah ?_)));refine aC (λz5 y4=>[(0,.rep Tl a0),(3,I y4.1),(4,I y4.2)]) (λz5 y4=>[]) (d4 k a0) k () (x1,1) (λ_=>rfl) h (SE.fin [] ⟨rfl,rfl,rfl,trivial⟩ rfl) (λn z5 y4 h=>?_);unfold d4 at h;refine aj (sr ?_);iterate 2 refine mq ?_
   refine ol gA ?_;refine jb (bj rfl) ?_;refine nt (ci h (λh=>?_) (λh=>?_))
   .refine sk (aj (ah (ae ?_)));iterate 3 refine mq ?_
    obtain⟨x6,e,h⟩:=aa h;refine jb (aD (t:=Ti) rfl gA bQ e) ?_;refine ja (ao (t:=Ti) rfl bQ rfl) ?_;refine jb (Rt rfl rfl) ?_;refine aq (aF (aI (tn (ae ?_))));refine mq ?_;obtain⟨x7,c,h⟩:=aa h;refine jb (be rfl c) ?_;refine aq (nl ?_);exact jz ((),(jh y4.1 x6,x7)) h []
   .refine xa ?_;exact jz ((),y4.1) h []
  .refine sr (mq ?_);refine aq (nt (aA ?_));cases h;exact ra
def i7(k:Nat)(a0:Int):Nat->((List Int)×Int)->Option (List Int)
 |0,_=>none
 |n+1,y3=>
  if y3.2 < 5 then((((fj k a0 y3.2).bind λr7=>
  if r7=true then((bS (bi (length y3.1+length [y3.2]))).bind λ_=>
  some (y3.1++[y3.2])) else(some y3.1)):Option ((List Int))).bind λx5=>
  (ck (y3.2+1)).bind λc=>
  i7 k a0 n (x5,c)) else(some y3.1)
def jJ(k:Nat)(a0:Int):Option (List Int):=
 ((i7 k a0 k (([]:(List Int)),0)):Option ((List Int))).bind λx1=>
 some x1
theorem lj(k:Nat)(a0:Int)(r:(List Int))(h:jJ k a0=some r):
 cT Tryz.prog 69 [.eq (.int .u8 a0)] [] (λ_:Unit=>(bC [.rep Tl r],[])):=by
 unfold jJ at h
 replace h:=aX h
 refine cT.of 17 Tryz.func69 rfl Tryz.ntmps69 rfl λS w0=>?_
 refine sr ?_
 refine cq ?_
 refine nt ?_
 refine sr ?_
 refine cq ?_
 refine nt ?_
 refine aE (Z:=Value) (α:=(List Int)) (λz2 x1=>[(3,.eq z2)]) (λz2 x1=>[.sl z2 3 Ti x1]) h (λK h=>?_) (λz2 x1 h=>?_)
 .
  refine sr (fH rfl ?_);refine nt (ah (hP (SE.nil 3 Ti) ?_));refine aC (λz4 y3=>[(0,.eq (.int .u8 a0)),(3,.eq z4),(5,I y3.2)]) (λz4 y3=>[.sl z4 3 Ti y3.1]) (i7 k a0) k (.slice none 0 0) (([]:(List Int)),0) (λ_=>rfl) h (SE.fin [0] ⟨rfl,rfl,rfl,trivial⟩ rfl) (λn z4 y3 h=>?_);unfold i7 at h;refine sr (jb (bj rfl) ?_);refine nt (aj (ci h (λh=>?_) (λh=>?_)))
  .refine sk (aE (Z:=Value) (α:=(List Int)) (λz6 x5=>[(0,.eq (.int .u8 a0)),(3,.eq z6),(5,I y3.2)]) (λz6 x5=>[.sl z6 3 Ti x5]) h (λK h=>?_) (λz6 x5 h=>?_))
   .refine ah (sr (mq ?_));refine aq (nt (sr ?_));iterate 2 refine mq ?_
    obtain⟨r7,l,h⟩:=aa h;refine jb (ax [.tmp 8,.tmp 9] rfl rfl Jh rfl (ip k a0 y3.2 r7 l)) ?_;refine nt (cv h (λh=>?_) (λh=>?_))
    .refine ae ?_;iterate 2 refine mq ?_
     refine ja (aV (t:=Ti) [(.tmp 12,_)] [y3.2] rfl rfl cV (.cons rfl .int .nil) rfl rfl) ?_;obtain⟨u8,j,h⟩:=aa h;refine cR rfl rfl rfl (bp rfl rfl cV (ap j)) ⟨rfl,rfl,trivial⟩ λv9=>?_;refine aq (aF (bn ?_));exact jz (v9,y3.1++[y3.2]) h [0]
    .refine aZ (bn ?_);exact jz (z4,y3.1) h [0]
   .refine ae ?_;obtain⟨e,c,h⟩:=aa h;refine jb (be rfl c) ?_;refine mq (nl ?_);exact jz (z6,(x5,e)) h [0]
  .refine xa ?_;exact jz (z4,y3.1) h [0]
 .
  refine sr (mq ?_);refine aq (nt (aA ?_));refine bK (gy [2,3,16] ⟨rfl,rfl,rfl,trivial⟩) ?_;cases h;exact ra
def gg(k:Nat):Nat->((List Int)×Int×Int)->Option (List Int)
 |0,_=>none
 |n+1,y2=>
  if y2.2.1 < y2.2.2 then((aG y2.1 y2.2.2).bind λx4=>
  (aG y2.1 y2.2.1).bind λx5=>
  (aG y2.1 y2.2.1).bind λx6=>
  (aG (List.set y2.1 (Int.toNat y2.2.1) x4) y2.2.2).bind λx7=>
  (ck (y2.2.1+1)).bind λx8=>
  (ck (y2.2.2 - 1)).bind λx9=>
  gg k n (List.set (List.set y2.1 (Int.toNat y2.2.1) x4) (Int.toNat y2.2.2) x5,x8,x9)) else(some y2.1)
def kY(k:Nat)(a0:(List Int)):Option (List Int):=
 (ck ((a0.length:Int) - 1)).bind λx1=>
 gg k k (a0,0,x1)
theorem qJ(k:Nat)(a0:(List Int))(c:Value)(r:(List Int))(h:kY k a0=some r):
 cT Tryz.prog 80 [.eq c] [.sl c 3 Ti a0] (λ_:Unit=>(bC [],[.sl c 3 Ti r])):=by
 unfold kY at h
 replace h:=aX h
 refine cT.of 28 Tryz.func80 rfl Tryz.ntmps80 rfl λS w0=>?_
 refine sr ?_
 refine mq ?_
 refine ka (nB rfl rfl gA) ?_
 obtain⟨x1,mc,h⟩:=aa h
 refine jb (eo rfl mc) ?_
 refine cq ?_
 refine aq ?_
 refine nt ?_
 refine ah ?_
 refine aC (λz3 y2=>[(0,.eq c),(2,I y2.2.1),(3,I y2.2.2)]) (λz3 y2=>[.sl c 3 Ti y2.1]) (gg k) k () (a0,0,x1) (λ_=>rfl) h (SE.fin [0] ⟨rfl,rfl,rfl,trivial⟩ rfl) (λn z3 y2 h=>?_)
 unfold gg at h
 refine aj ?_
 refine sr ?_
 iterate 2 refine mq ?_
 refine jb (bj rfl) ?_
 refine nt ?_
 refine ci h (λh=>?_) (λh=>?_)
 .
  refine sk (aj (ah (sL ?_)));refine bX rfl rfl rfl (aY rfl) ⟨rfl,trivial⟩ ?_;refine bX rfl rfl rfl (aY rfl) ⟨rfl,trivial⟩ ?_;refine bX rfl rfl rfl (aY rfl) ⟨rfl,trivial⟩ ?_;refine bX rfl rfl rfl (aY rfl) ⟨rfl,trivial⟩ ?_;refine bX rfl rfl rfl (aY rfl) ⟨rfl,trivial⟩ ?_;refine bX rfl rfl rfl (aY rfl) ⟨rfl,trivial⟩ ?_;obtain⟨x4,D,h⟩:=aa h;refine iN 0 rfl rfl rfl rfl (cI (t:=Ti) rfl gA bQ D) ⟨rfl,rfl,trivial⟩ ?_;refine iN 0 rfl rfl rfl rfl (gU (i:=Int.toNat y2.2.2) (off:=0) rfl bQ (λ_=>rfl) rfl (dJ D).2.2 rfl) ⟨rfl,trivial⟩ ?_;refine bX rfl rfl rfl (aY rfl) ⟨rfl,trivial⟩ ?_;refine bX rfl rfl rfl (aY rfl) ⟨rfl,trivial⟩ ?_;obtain⟨x5,y,h⟩:=aa h;refine iN 0 rfl rfl rfl rfl (cI (t:=Ti) rfl gA bQ y) ⟨rfl,rfl,trivial⟩ ?_;refine iN 0 rfl rfl rfl rfl (gU (i:=Int.toNat y2.2.1) (off:=0) rfl bQ (λ_=>rfl) rfl (dJ y).2.2 rfl) ⟨rfl,trivial⟩ ?_;obtain⟨x6,x,h⟩:=aa h;refine iN 0 rfl rfl rfl rfl (cI (t:=Ti) rfl gA bQ x) ⟨rfl,rfl,trivial⟩ ?_;refine wl 13 [true,true,false,false,true,true,true,true,true,true,true,true,true] [27] [] [] rfl (by kernel_rfl) (by kernel_rfl) (by kernel_rfl) cQ (λvs hv hB=>?_);obtain⟨w0,Ws,rfl,Y⟩:=aH hv;obtain⟨w1,Wq,rfl,X⟩:=aH Y;obtain⟨w2,Wp,rfl,U⟩:=aH X;obtain⟨w3,Wn,rfl,Q⟩:=aH U;obtain⟨w4,Wm,rfl,O⟩:=aH Q;obtain⟨w5,Wj,rfl,M⟩:=aH O;obtain⟨w6,Wi,rfl,J⟩:=aH M;obtain⟨w7,Wh,rfl,F⟩:=aH J;obtain⟨w8,Wg,rfl,E⟩:=aH F;obtain⟨w9,Wa,rfl,s⟩:=aH E;obtain⟨We,zz,rfl,l⟩:=aH s;obtain⟨Wc,qt,rfl,j⟩:=aH l;obtain⟨Wb,mw,rfl,e⟩:=aH j;obtain rfl:=sj e;refine⟨[0],[.sl c 3 Ti y2.1],by kernel_rfl,by decide,?_⟩;refine tV rfl rfl (ik (i:=Int.toNat y2.2.1) rfl bQ rfl (od x) rfl .int rfl) ⟨rfl,rfl,trivial⟩ (by kernel_rfl) ?_;obtain⟨x7,u,h⟩:=aa h;refine we rfl rfl rfl rfl (cI (t:=Ti) rfl gA bQ u) ⟨rfl,rfl,trivial⟩ (by kernel_rfl) ?_;refine tV rfl rfl (ik (i:=Int.toNat y2.2.2) rfl bQ rfl (od u) rfl .int rfl) ⟨rfl,rfl,trivial⟩ (by kernel_rfl) ?_;refine zG ?_;refine bK (SE.fin (Γ':=[(0,.eq c),(2,I y2.2.1),(3,I y2.2.2)]) (Δ':=[.sl c 3 Ti (List.set (List.set y2.1 (Int.toNat y2.2.1) x4) (Int.toNat y2.2.2) x5)]) [0] ⟨rfl,rfl,rfl,trivial⟩ rfl) ?_;refine aI (tn (ae (mq ?_)));obtain⟨x8,gw,h⟩:=aa h;refine jb (be rfl gw) ?_;refine mq ?_;obtain⟨x9,Z,h⟩:=aa h;refine jb (eo rfl Z) ?_;refine aq ?_;refine aq (nl ?_);exact jz ((),(List.set (List.set y2.1 (Int.toNat y2.2.1) x4) (Int.toNat y2.2.2) x5,x8,x9)) h [0]
 .
  refine fA (bJ (bJ (cZ (kW ?_))));cases h;exact aP () [] 1 trivial rfl
def jA(k:Nat)(a0:(List Int)):Nat->(Int×Int)->Option Int
 |0,_=>none
 |n+1,y4=>
  if y4.2 < (a0.length:Int) then((aG a0 y4.2).bind λx6=>
  (ck (y4.2+1)).bind λx7=>
  jA k a0 n (pA y4.1 x6,x7)) else(some y4.1)
def oV(k:Nat)(a0:(List Int)):Option Int:=
 if(a0.length:Int) < 1 then(none) else((aG a0 0).bind λx1=>
 ((jA k a0 k (x1,1)):Option (Int)).bind λx2=>
 some x2)
theorem uY(k:Nat)(a0:(List Int))(r:Int)(h:oV k a0=some r):
 cT Tryz.prog 83 [.rep Tl a0] [] (λ_:Unit=>(bC [I r],[])):=by
 unfold oV at h
 replace h:=aX h
 refine cT.of 25 Tryz.func83 rfl Tryz.ntmps83 rfl λS w0=>?_
 refine sr ?_
 refine cq ?_
 refine nt ?_
 refine aj ?_
 refine sr ?_
 refine mq ?_
 refine ol gA ?_
 refine jb (bj rfl) ?_
 refine nt ?_
 refine ci h (λh=>?_) (λh=>?_)
 .
  cases h
 .
  refine sk (sr (mq ?_));obtain⟨x1,j,h⟩:=aa h;refine jb (aD (t:=Ti) rfl gA bQ j) ?_;refine ja (ao (t:=Ti) rfl bQ rfl) ?_;refine aq (nt ?_);refine aE (Z:=Unit) (α:=Int) (λz3 x2=>[(3,I x2)]) (λz3 x2=>[]) h (λK h=>?_) (λz3 x2 h=>?_)
  .refine sr (cq (nt (ah ?_)));refine aC (λz5 y4=>[(0,.rep Tl a0),(3,I y4.1),(4,I y4.2)]) (λz5 y4=>[]) (jA k a0) k () (x1,1) (λ_=>rfl) h (SE.fin [] ⟨rfl,rfl,rfl,trivial⟩ rfl) (λn z5 y4 h=>?_);unfold jA at h;refine aj (sr ?_);iterate 2 refine mq ?_
   refine ol gA ?_;refine jb (bj rfl) ?_;refine nt (ci h (λh=>?_) (λh=>?_))
   .refine sk (aj (ah (ae ?_)));iterate 3 refine mq ?_
    obtain⟨x6,e,h⟩:=aa h;refine jb (aD (t:=Ti) rfl gA bQ e) ?_;refine ja (ao (t:=Ti) rfl bQ rfl) ?_;refine jb (Ej rfl rfl) ?_;refine aq (aF (aI (tn (ae ?_))));refine mq ?_;obtain⟨x7,c,h⟩:=aa h;refine jb (be rfl c) ?_;refine aq (nl ?_);exact jz ((),(pA y4.1 x6,x7)) h []
   .refine xa ?_;exact jz ((),y4.1) h []
  .refine sr (mq ?_);refine aq (nt (aA ?_));cases h;exact ra
def mg(k:Nat)(a0:Int)(a1:Int)(a2:Bool):Option aQ:=
 some (a0,a1,a2)
theorem m9(k:Nat)(a0:Int)(a1:Int)(a2:Bool)(r:aQ)(h:mg k a0 a1 a2=some r):
 cT Tryz.prog 29 [I a0,I a1,.eq (.bool a2)] [] (λ_:Unit=>(bC [.rep aJ r],[])):=by
 unfold mg at h
 replace h:=aX h
 refine cT.of 11 Tryz.func29 rfl Tryz.ntmps29 rfl λS w0=>?_
 refine sr ?_
 refine aW rfl rfl rfl (bv rfl Fv Nw) trivial λb1=>?_
 refine nt ?_
 refine sr ?_
 iterate 3 refine mq ?_
 refine jc (eC [(0,.tmp 7,_),(1,.tmp 8,_),(2,.tmp 9,_)] rfl Ri Fv OD (kG ⟨rfl,rfl,rfl,trivial⟩) rfl) ?_
 refine aO rfl rfl (aN rfl mY trivial rfl rfl) ⟨rfl,rfl,trivial⟩ ?_
 refine nt ?_
 refine aA ?_
 refine bK (iF (a:=.agg (.pair (I a0) (.pair (I a1) (.eq (.bool a2))))) (a':=.rep aJ (a0,a1,a2)) (kp (.agg (.pair .int (.pair .int .bool))))) ?_
 cases h
 exact aP () [.rep aJ (a0,a1,a2)] 0 ⟨⟨_,_,_,_,_,rfl,(.head _),mY,(oL),rfl⟩,trivial⟩ rfl
def jq(k:Nat)(a0:(List aQ)):Option ab:=
 (mg k 1 2 true).bind λr2=>
 (mg k 2 1 false).bind λr3=>
 (mg k 3 3 false).bind λr4=>
 (bS (bi (length [r2,r3,r4]+length a0))).bind λ_=>
 some (4,1,1,2,[[[0,1,2],[3]],[[0,1],[2,3]],[[1,2,3]],[[1,3],[2]]],[r2,r3,r4]++a0)
theorem iD(k:Nat)(a0:(List aQ))(r:ab)(h:jq k a0=some r):
 cT Tryz.prog 44 [Rs aJ a0] [] (λ_:Unit=>(bC [.rep am r],[])):=by
 unfold jq at h
 replace h:=aX h
 refine cT.of 24 Tryz.func44 rfl Tryz.ntmps44 rfl λS w0=>?_
 refine sr ?_
 refine aW rfl rfl rfl (bv rfl uQ zx) trivial λb1=>?_
 refine nt ?_
 refine sr ?_
 obtain⟨r2,l,h⟩:=aa h
 have u:=m9 k 1 2 true r2 l
 refine jc (ax [.const (.int .i64 (1)),.const (.int .i64 (2)),.const (.bool true)] rfl rfl Qa rfl u) ?_
 obtain⟨r3,j,h⟩:=aa h
 have s:=m9 k 2 1 false r3 j
 refine jc (ax [.const (.int .i64 (2)),.const (.int .i64 (1)),.const (.bool false)] rfl rfl Qa rfl s) ?_
 obtain⟨r4,e,h⟩:=aa h
 have n:=m9 k 3 3 false r4 e
 refine jc (ax [.const (.int .i64 (3)),.const (.int .i64 (3)),.const (.bool false)] rfl rfl Qa rfl n) ?_
 refine aW rfl rfl rfl (im (t:=aJ) [(.tmp 4,_),(.tmp 5,_),(.tmp 6,_)] [r2,r3,r4] rfl rfl Ai (.cons rfl .rep (.cons rfl .rep (.cons rfl .rep .nil))) rfl rfl) ⟨rfl,rfl,rfl,trivial⟩ λv5=>?_
 refine aq ?_
 refine nt ?_
 refine sr ?_
 refine jc (aV (t:=Ti) [(.const (.int .i64 (0)),_),(.const (.int .i64 (1)),_),(.const (.int .i64 (2)),_)] [0,1,2] rfl rfl cV (.cons rfl .int (.cons rfl .int (.cons rfl .int .nil))) rfl rfl) ?_
 refine ja (aV (t:=Ti) [(.const (.int .i64 (3)),_)] [3] rfl rfl cV (.cons rfl .int .nil) rfl rfl) ?_
 refine jb (aV (t:=Tl) [(.tmp 8,_),(.tmp 9,_)] [[0,1,2],[3]] rfl rfl lT (.cons rfl .rep (.cons rfl .rep .nil)) rfl rfl) ?_
 refine jb (aV (t:=Ti) [(.const (.int .i64 (0)),_),(.const (.int .i64 (1)),_)] [0,1] rfl rfl cV (.cons rfl .int (.cons rfl .int .nil)) rfl rfl) ?_
 refine jb (aV (t:=Ti) [(.const (.int .i64 (2)),_),(.const (.int .i64 (3)),_)] [2,3] rfl rfl cV (.cons rfl .int (.cons rfl .int .nil)) rfl rfl) ?_
 refine jb (aV (t:=Tl) [(.tmp 11,_),(.tmp 12,_)] [[0,1],[2,3]] rfl rfl lT (.cons rfl .rep (.cons rfl .rep .nil)) rfl rfl) ?_
 refine jc (aV (t:=Ti) [(.const (.int .i64 (1)),_),(.const (.int .i64 (2)),_),(.const (.int .i64 (3)),_)] [1,2,3] rfl rfl cV (.cons rfl .int (.cons rfl .int (.cons rfl .int .nil))) rfl rfl) ?_
 refine ja (aV (t:=Tl) [(.tmp 14,_)] [[1,2,3]] rfl rfl lT (.cons rfl .rep .nil) rfl rfl) ?_
 refine jb (aV (t:=Ti) [(.const (.int .i64 (1)),_),(.const (.int .i64 (3)),_)] [1,3] rfl rfl cV (.cons rfl .int (.cons rfl .int .nil)) rfl rfl) ?_
 refine ja (aV (t:=Ti) [(.const (.int .i64 (2)),_)] [2] rfl rfl cV (.cons rfl .int .nil) rfl rfl) ?_
 refine jb (aV (t:=Tl) [(.tmp 16,_),(.tmp 17,_)] [[1,3],[2]] rfl rfl lT (.cons rfl .rep (.cons rfl .rep .nil)) rfl rfl) ?_
 refine cz rfl (aV (t:=(.slice Tl)) [(.tmp 10,_),(.tmp 13,_),(.tmp 15,_),(.tmp 18,_)] [[[0,1,2],[3]],[[0,1],[2,3]],[[1,2,3]],[[1,3],[2]]] rfl rfl yt (.cons rfl .rep (.cons rfl .rep (.cons rfl .rep (.cons rfl .rep .nil)))) rfl rfl) ⟨rfl,rfl,rfl,rfl,trivial⟩ ?_
 iterate 2 refine mq ?_
 obtain⟨u6,c,h⟩:=aa h
 refine cR rfl rfl rfl (bp rfl rfl Ai (ap c)) ⟨rfl,rfl,trivial⟩ λv7=>?_
 refine eD (gy [22] ⟨rfl,trivial⟩) ?_
 refine cz rfl (eC [(0,.const (.int .i64 (4)),_),(1,.const (.int .i64 (1)),_),(2,.const (.int .i64 (1)),_),(3,.const (.int .i64 (2)),_),(4,.tmp 19,_),(5,.tmp 22,_)] rfl Rj uQ OE (kG ⟨rfl,rfl,rfl,rfl,rfl,rfl,trivial⟩) rfl) ⟨rfl,rfl,rfl,rfl,rfl,rfl,trivial⟩ ?_
 refine aO rfl rfl (aN rfl dF trivial rfl rfl) ⟨rfl,rfl,trivial⟩ ?_
 refine nt ?_
 refine aA ?_
 refine bK (iF (a:=.agg (.pair (I 4) (.pair (I 1) (.pair (I 1) (.pair (I 2) (.pair (.rep (.slice (.slice Tl)) [[[0,1,2],[3]],[[0,1],[2,3]],[[1,2,3]],[[1,3],[2]]]) (Rs aJ ([r2,r3,r4]++a0)))))))) (a':=.rep am (4,1,1,2,[[[0,1,2],[3]],[[0,1],[2,3]],[[1,2,3]],[[1,3],[2]]],[r2,r3,r4]++a0)) (kp (.agg (.pair .int (.pair .int (.pair .int (.pair .int (.pair .rep .rep)))))))) ?_
 cases h
 exact aP () [.rep am (4,1,1,2,[[[0,1,2],[3]],[[0,1],[2,3]],[[1,2,3]],[[1,3],[2]]],[r2,r3,r4]++a0)] 0 ⟨⟨_,_,_,_,_,rfl,(.head _),dF,(oL),rfl⟩,trivial⟩ rfl
def lB(k:Nat)(a0:Int):Option Int:=
 (jJ k a0).bind λr1=>
 some (r1.length:Int)
theorem oC(k:Nat)(a0:Int)(r:Int)(h:lB k a0=some r):
 cT Tryz.prog 89 [.eq (.int .u8 a0)] [] (λ_:Unit=>(bC [I r],[])):=by
 unfold lB at h
 replace h:=aX h
 refine cT.of 6 Tryz.func89 rfl Tryz.ntmps89 rfl λS w0=>?_
 refine sr ?_
 refine cq ?_
 refine nt ?_
 refine sr ?_
 refine mq ?_
 obtain⟨r1,c,h⟩:=aa h
 have e:=lj k a0 r1 c
 refine ja (ax [.tmp 3] rfl rfl P8 rfl e) ?_
 refine ol gA ?_
 refine aq ?_
 refine nt ?_
 refine aA ?_
 cases h
 exact ra
def nZ(k:Nat)(a0:Int)(a1:Int):Option Int:=
 (lB k a0).bind λr1=>
 (lB k a1).bind λr2=>
 (ck (r1 - r2)).bind λx3=>
 some x3
theorem uq(k:Nat)(a0:Int)(a1:Int)(c:Nat)(r:Int)(h:nZ k a0 a1=some r):
 cT Tryz.prog 104 [.eq (.int .u8 a0),.eq (.int .u8 a1),Pt c] [.obj c 104 (.eq (.func (.func 89) #[] #[]))] (λ_:Unit=>(bC [I r],[.obj c 104 (.eq (.func (.func 89) #[] #[]))])):=by
 unfold nZ at h
 replace h:=aX h
 refine cT.of 13 Tryz.func104 rfl Tryz.ntmps104 rfl λS w0=>?_
 refine sr ?_
 refine cq ?_
 refine nt ?_
 refine aj ?_
 refine bz ?_
 refine ea 0 (an rfl Oi ju rfl) ?_
 refine dm ?_
 obtain⟨r1,l,h⟩:=aa h
 have s:=oC k a0 r1 l
 refine db (uG (fs:=[]) (cs:=[]) (ags:=[.eq (.int .u8 a0)]) [.tmp 7] rfl rfl Sz rfl s) ?_
 refine ea 0 (an rfl Oi ju rfl) ?_
 refine dm ?_
 refine df cQ ?_
 obtain⟨r2,j,h⟩:=aa h
 have n:=oC k a1 r2 j
 refine jb (uG (fs:=[]) (cs:=[]) (ags:=[.eq (.int .u8 a1)]) [.tmp 10] rfl rfl Sz rfl n) ?_
 obtain⟨x3,e,h⟩:=aa h
 refine jb (eo rfl e) ?_
 refine aq ?_
 refine nt ?_
 refine aA ?_
 cases h
 exact aP () [_] 1 ⟨rfl,trivial⟩ rfl
def gh(k:Nat)(a0:(List Int)):Nat->(Int×Int)->Option Int
 |0,_=>none
 |n+1,y4=>
  if y4.2 < (a0.length:Int) then((((aG a0 y4.2).bind λx8=>
  (nZ k x8 y4.1).bind λr9=>
  if r9 < 0 then((aG a0 y4.2).bind λe=>
  some e) else(some y4.1)):Option (Int)).bind λx6=>
  (ck (y4.2+1)).bind λc=>
  gh k a0 n (x6,c)) else(some y4.1)
def kZ(k:Nat)(a0:(List Int)):Option Int:=
 if(a0.length:Int) < 1 then(none) else((aG a0 0).bind λx1=>
 ((gh k a0 k (x1,1)):Option (Int)).bind λx2=>
 some x2)
theorem qK(k:Nat)(a0:(List Int))(c_a1_0:Nat)(r:Int)(h:kZ k a0=some r):
 cT Tryz.prog 103 [.rep (.slice (.int .u8)) a0,.eq (.func (.func 104) #[] #[(Pv c_a1_0)])] [.obj c_a1_0 104 (.eq (.func (.func 89) #[] #[]))] (λ_:Unit=>(bC [.eq (.int .u8 r)],[.obj c_a1_0 104 (.eq (.func (.func 89) #[] #[]))])):=by
 unfold kZ at h
 replace h:=aX h
 refine cT.of 33 Tryz.func103 rfl Tryz.ntmps103 rfl λS w0=>?_
 refine sr ?_
 refine cq ?_
 refine nt ?_
 refine aj ?_
 refine sr ?_
 refine mq ?_
 refine ol Ce ?_
 refine jb (bj rfl) ?_
 refine nt ?_
 refine ci h (λh=>?_) (λh=>?_)
 .
  cases h
 .
  refine sk (sr (mq ?_));obtain⟨x1,u,h⟩:=aa h;refine jb (aD (t:=(.int .u8)) rfl Ce qG u) ?_;refine ja (ao (t:=(.int .u8)) rfl qG rfl) ?_;refine aq (nt ?_);refine aE (Z:=Unit) (α:=Int) (λz3 x2=>[(5,.eq (.int .u8 x2))]) (λz3 x2=>[.obj c_a1_0 104 (.eq (.func (.func 89) #[] #[]))]) h (λK h=>?_) (λz3 x2 h=>?_)
  .refine sr (cq (nt (ah ?_)));refine aC (λz5 y4=>[(0,.rep (.slice (.int .u8)) a0),(1,.eq (.func (.func 104) #[] #[(Pv c_a1_0)])),(5,.eq (.int .u8 y4.1)),(6,I y4.2)]) (λz5 y4=>[.obj c_a1_0 104 (.eq (.func (.func 89) #[] #[]))]) (gh k a0) k () (x1,1) (λ_=>rfl) h (SE.fin [0] ⟨rfl,rfl,rfl,rfl,trivial⟩ rfl) (λn z5 y4 h=>?_);unfold gh at h;refine aj (sr ?_);iterate 2 refine mq ?_
   refine ol Ce ?_;refine jb (bj rfl) ?_;refine nt (ci h (λh=>?_) (λh=>?_))
   .refine sk (aE (Z:=Unit) (α:=Int) (λz7 x6=>[(0,.rep (.slice (.int .u8)) a0),(1,.eq (.func (.func 104) #[] #[(Pv c_a1_0)])),(5,.eq (.int .u8 x6)),(6,I y4.2)]) (λz7 x6=>[.obj c_a1_0 104 (.eq (.func (.func 89) #[] #[]))]) h (λK h=>?_) (λz7 x6 h=>?_))
    .refine ah (sr ?_);iterate 3 refine mq ?_
     obtain⟨x8,s,h⟩:=aa h;refine jb (aD (t:=(.int .u8)) rfl Ce qG s) ?_;refine ja (ao (t:=(.int .u8)) rfl qG rfl) ?_;refine mq ?_;obtain⟨r9,x,h⟩:=aa h;refine kc (uG (fs:=[]) (cs:=[(Pv c_a1_0)]) (ags:=[.eq (.int .u8 x8),.eq (.int .u8 y4.1)]) [.tmp 24,.tmp 25] rfl rfl Tf rfl (uq k x8 y4.1 c_a1_0 r9 x)) ?_;refine jb (bj rfl) ?_;refine nt (ci h (λh=>?_) (λh=>?_))
     .refine ae ?_;iterate 2 refine mq ?_
      obtain⟨l,e,h⟩:=aa h;refine jb (aD (t:=(.int .u8)) rfl Ce qG e) ?_;refine ja (ao (t:=(.int .u8)) rfl qG rfl) ?_;refine aq (aF (bn ?_));exact jz ((),l) h [0]
     .refine aZ (bn ?_);exact jz ((),y4.1) h [0]
    .refine ae (mq ?_);obtain⟨j,c,h⟩:=aa h;refine jb (be rfl c) ?_;refine aq (nl ?_);exact jz ((),(x6,j)) h [0]
   .refine xa ?_;exact jz ((),y4.1) h [0]
  .refine sr (mq ?_);refine aq (nt (aA ?_));cases h;exact aP () [_] 1 ⟨rfl,trivial⟩ rfl
def qV(k:Nat)(a0:(List Int)):Option Int:=
 (kZ k a0).bind λr2=>
 some r2
theorem wQ(k:Nat)(a0:(List Int))(r:Int)(h:qV k a0=some r):
 cT Tryz.prog 71 [.rep (.slice (.int .u8)) a0,.eq (.func (.func 89) #[] #[])] [] (λ_:Unit=>(bC [.eq (.int .u8 r)],[])):=by
 unfold qV at h
 replace h:=aX h
 refine cT.of 8 Tryz.func71 rfl Tryz.ntmps71 rfl λS w0=>?_
 refine sr ?_
 refine bx λb1=>?_
 refine cq ?_
 refine nt ?_
 refine sr ?_
 refine mq ?_
 refine ja (s5 [] [.tmp 3] [] [(Pv b1)] rfl rfl rfl) ?_
 obtain⟨r2,c,h⟩:=aa h
 have e:=qK k a0 b1 r2 c
 refine kb (ax [.tmp 5,.tmp 6] rfl rfl Tj rfl e) ?_
 refine aq ?_
 refine nt ?_
 refine aA ?_
 cases h
 exact ra
def mO(k:Nat)(a0:(List Int)):Option bP:=
 some (a0,0,1)
theorem vB(k:Nat)(a0:(List Int))(r:bP)(h:mO k a0=some r):
 cT Tryz.prog 12 [.rep Tl a0] [] (λz:Nat=>(bC [Pt z],[.obj z 74 (.agg (.pair (.rep Tl r.1) (.pair (I r.2.1) (.eq (.int .u64 r.2.2)))))])):=by
 unfold mO at h
 replace h:=aX h
 refine cT.of 6 Tryz.func12 rfl Tryz.ntmps12 rfl λS w0=>?_
 refine sr ?_
 refine cq ?_
 refine nt ?_
 refine sr ?_
 refine mq ?_
 refine jb (eC [(0,.tmp 3,_),(2,.const (.int .u64 (1)),_)] rfl Uo Ui TA (kG ⟨rfl,rfl,trivial⟩) rfl) ?_
 refine aW rfl rfl rfl (xw rfl trivial) ⟨rfl,trivial⟩ λb1=>?_
 refine aq ?_
 refine nt ?_
 refine aA ?_
 cases h
 exact aP b1 [Pt b1] 1 ⟨rfl,trivial⟩ rfl
def jP(k:Nat)(a0:(List Int)):Option (List Int):=
 (bS (bi (length ([]:(List Int))+length a0))).bind λ_=>
 some (([]:(List Int))++a0)
theorem uv(k:Nat)(a0:(List Int))(r:(List Int))(h:jP k a0=some r):
 cT Tryz.prog 16 [.rep Tl a0] [] (λz:Value=>(bC [.eq z],[.sl z 3 Ti r])):=by
 unfold jP at h
 replace h:=aX h
 refine cT.of 6 Tryz.func16 rfl Tryz.ntmps16 rfl λS w0=>?_
 refine sr ?_
 refine cq ?_
 refine nt ?_
 refine sr ?_
 refine aW rfl rfl rfl (im (t:=Ti) [] ([]:(List Int)) rfl rfl cV .nil rfl rfl) trivial λv1=>?_
 refine mq ?_
 obtain⟨u2,c,h⟩:=aa h
 refine cR rfl rfl rfl (bp rfl rfl cV (ap c)) ⟨rfl,rfl,trivial⟩ λv3=>?_
 refine aq ?_
 refine nt ?_
 refine aA ?_
 cases h
 exact aP v3 [.eq v3] 1 ⟨rfl,trivial⟩ rfl
def dE(k:Nat)(a0:(List (List Int))):Nat->((List (List Int))×Int)->Option (List (List Int))
 |0,_=>none
 |n+1,y3=>
  if y3.2 < (a0.length:Int) then((aG a0 y3.2).bind λx5=>
  (jP k x5).bind λr6=>
  (bS (bi (length y3.1+length [r6]))).bind λ_=>
  (ck (y3.2+1)).bind λc=>
  dE k a0 n (y3.1++[r6],c)) else(some y3.1)
def gW(k:Nat)(a0:(List (List Int))):Option (List (List Int)):=
 ((dE k a0 k (([]:(List (List Int))),0)):Option ((List (List Int)))).bind λx1=>
 some x1
theorem nG(k:Nat)(a0:(List (List Int)))(r:(List (List Int)))(h:gW k a0=some r):
 cT Tryz.prog 47 [.rep (.slice Tl) a0] [] (λz:Value=>(bC [.eq z],[.sl z 28 Tl r])):=by
 unfold gW at h
 replace h:=aX h
 refine cT.of 20 Tryz.func47 rfl Tryz.ntmps47 rfl λS w0=>?_
 refine sr ?_
 refine cq ?_
 refine nt ?_
 refine sr ?_
 refine cq ?_
 refine nt ?_
 refine aE (Z:=Value) (α:=(List (List Int))) (λz2 x1=>[(3,.eq z2)]) (λz2 x1=>[.sl z2 28 Tl x1]) h (λK h=>?_) (λz2 x1 h=>?_)
 .
  refine sr (cq (nt (ah ?_)));refine hP (SE.nil 28 Tl) ?_;refine aC (λz4 y3=>[(0,.rep (.slice Tl) a0),(3,.eq z4),(4,I y3.2)]) (λz4 y3=>[.sl z4 28 Tl y3.1]) (dE k a0) k (.slice none 0 0) (([]:(List (List Int))),0) (λ_=>rfl) h (SE.fin [0] ⟨rfl,rfl,rfl,trivial⟩ rfl) (λn z4 y3 h=>?_);unfold dE at h;refine aj (sr ?_);iterate 2 refine mq ?_
  refine ol nK ?_;refine jb (bj rfl) ?_;refine nt (ci h (λh=>?_) (λh=>?_))
  .refine sk (aj (ah (ae ?_)));iterate 3 refine mq ?_
   obtain⟨x5,j,h⟩:=aa h;refine jb (aD (t:=Tl) rfl nK eT j) ?_;refine ja (ao (t:=Tl) rfl eT rfl) ?_;obtain⟨r6,s,h⟩:=aa h;refine aW rfl rfl rfl (ax [.tmp 15] rfl rfl Vr rfl (uv k x5 r6 s)) ⟨rfl,trivial⟩ λv7=>?_;refine eD (gy [16] ⟨rfl,trivial⟩) ?_;refine ja (aV (t:=Tl) [(.tmp 16,_)] [r6] rfl rfl lT (.cons rfl .rep .nil) rfl rfl) ?_;obtain⟨u8,l,h⟩:=aa h;refine cR rfl rfl rfl (bp rfl rfl lT (ap l)) ⟨rfl,rfl,trivial⟩ λv9=>?_;refine aq (aF (aI (tn (ae ?_))));refine mq ?_;obtain⟨e,c,h⟩:=aa h;refine jb (be rfl c) ?_;refine aq (nl ?_);exact jz (v9,(y3.1++[r6],e)) h [0]
  .refine xa ?_;exact jz (z4,y3.1) h [0]
 .
  refine sr (mq ?_);refine aq (nt (aA ?_));cases h;exact aP z2 [.eq z2] 1 ⟨rfl,trivial⟩ rfl
def dD(k:Nat)(a0:ab):Nat->((List (List (List Int)))×Int)->Option (List (List (List Int)))
 |0,_=>none
 |n+1,y9=>
  if y9.2 < (a0.2.2.2.2.1.length:Int) then((aG a0.2.2.2.2.1 y9.2).bind λh=>
  (gW k h).bind λc=>
  (bS (bi (length y9.1+length [c]))).bind λ_=>
  (ck (y9.2+1)).bind λe=>
  dD k a0 n (y9.1++[c],e)) else(some y9.1)
def gV(k:Nat)(a0:ab):Option ab:=
 (bS (bi (length ([]:(List aQ))+length a0.2.2.2.2.2))).bind λ_=>
 ((dD k a0 k (([]:(List (List (List Int)))),0)):Option ((List (List (List Int))))).bind λx7=>
 some (a0.1,a0.2.1,a0.2.2.1,a0.2.2.2.1,x7,([]:(List aQ))++a0.2.2.2.2.2)
theorem nF(k:Nat)(a0:ab)(r:ab)(h:gV k a0=some r):
 cT Tryz.prog 15 [.rep am a0] [] (λz:Value=>(bC [.agg (.pair (I r.1) (.pair (I r.2.1) (.pair (I r.2.2.1) (.pair (I r.2.2.2.1) (.pair (.rep (.slice (.slice Tl)) r.2.2.2.2.1) (.eq z))))))],[.sl z 27 aJ r.2.2.2.2.2])):=by
 unfold gV at h
 replace h:=aX h
 refine cT.of 30 Tryz.func15 rfl Tryz.ntmps15 rfl λS w0=>?_
 refine sr ?_
 refine bx λb1=>?_
 refine aW rfl rfl rfl (bv rfl uQ zx) trivial λb2=>?_
 refine nt ?_
 refine sr ?_
 refine fl cj ?_
 refine fr 1 ?_
 refine lo fB ?_
 refine aq ?_
 refine nt ?_
 refine sr ?_
 refine aW rfl rfl rfl (im (t:=aJ) [] ([]:(List aQ)) rfl rfl Ai .nil rfl rfl) trivial λv3=>?_
 refine fl fR ?_
 refine fr 1 ?_
 refine lo nm ?_
 obtain⟨u4,E,h⟩:=aa h
 refine fr 1 ?_
 refine cR rfl rfl rfl (bp rfl rfl Ai (ap E)) ⟨rfl,rfl,trivial⟩ λv5=>?_
 refine fl cj ?_
 refine fr 1 ?_
 refine aO rfl rfl (aN rfl fB rfl rfl rfl) ⟨rfl,rfl,trivial⟩ ?_
 refine fl fR ?_
 refine fr 1 ?_
 refine ot λo6=>?_
 refine fr 1 ?_
 refine aO rfl rfl (aN rfl nm o6 rfl rfl) ⟨rfl,rfl,trivial⟩ ?_
 refine nt ?_
 refine aE (Z:=Value) (α:=(List (List (List Int)))) (λz8 x7=>[(1,Pt b1),(2,Pt b2)]) (λz8 x7=>[.obj b1 25 (.agg (.pair (I a0.1) (.pair (I a0.2.1) (.pair (I a0.2.2.1) (.pair (I a0.2.2.2.1) (.pair (.eq z8) (.eq v5))))))),.sl z8 36 (.slice Tl) x7,.sl v5 27 aJ (([]:(List aQ))++a0.2.2.2.2.2),.obj b2 25 (.agg (.pair (I 0) (.pair (I 0) (.pair (I 0) (.pair (I 0) (.pair (.eq (.slice none 0 0)) (.eq (.slice none 0 0))))))))]) h (λK h=>?_) (λz8 x7 h=>?_)
 .
  refine sr (cq (nt (ah ?_)));refine hP (SE.nil 36 (.slice Tl)) ?_;refine dI 1 rfl ?_;refine hP (iF (a:=.agg (.pair (.rep Ti a0.1) (.pair (.rep Ti a0.2.1) (.pair (.rep Ti a0.2.2.1) (.pair (.rep Ti a0.2.2.2.1) (.pair (.eq (.slice none 0 0)) (.eq v5))))))) (a':=.agg (.pair (I a0.1) (.pair (I a0.2.1) (.pair (I a0.2.2.1) (.pair (I a0.2.2.2.1) (.pair (.eq (.slice none 0 0)) (.eq v5))))))) (AE.agg (AE.pair AE.int (AE.pair AE.int (AE.pair AE.int (AE.pair AE.int AE.rfl)))))) ?_;refine aC (λc y9=>[(1,Pt b1),(2,Pt b2),(3,.rep (.slice (.slice Tl)) a0.2.2.2.2.1),(4,I y9.2)]) (λc y9=>[.obj b1 25 (.agg (.pair (I a0.1) (.pair (I a0.2.1) (.pair (I a0.2.2.1) (.pair (I a0.2.2.2.1) (.pair (.eq c) (.eq v5))))))),.sl c 36 (.slice Tl) y9.1,.sl v5 27 aJ (([]:(List aQ))++a0.2.2.2.2.2),.obj b2 25 (.agg (.pair (I 0) (.pair (I 0) (.pair (I 0) (.pair (I 0) (.pair (.eq (.slice none 0 0)) (.eq (.slice none 0 0))))))))]) (dD k a0) k (.slice none 0 0) (([]:(List (List (List Int)))),0) (λ_=>rfl) h (SE.fin [0,1,2,3] ⟨rfl,rfl,rfl,rfl,trivial⟩ rfl) (λn c y9 h=>?_);unfold dD at h;refine aj (sr ?_);iterate 2 refine mq ?_
  refine ol pJ ?_;refine jb (bj rfl) ?_;refine nt (ci h (λh=>?_) (λh=>?_))
  .refine sk (aj (ah (bz ?_)));refine da (au rfl cj) ?_;refine ea 0 (an rfl fB ju rfl) ?_;refine dm ?_;refine dm ?_;obtain⟨y,l,h⟩:=aa h;refine db (aD (t:=(.slice Tl)) rfl pJ kE l) ?_;refine da (ao (t:=(.slice Tl)) rfl kE rfl) ?_;obtain⟨e,u,h⟩:=aa h;refine da (zD (ax [.tmp 24] rfl rfl SN rfl (nG k y e u))) ?_;refine da (aV (t:=(.slice Tl)) [(.tmp 25,_)] [e] rfl rfl yt (.cons rfl .rep .nil) rfl rfl) ?_;refine df cQ ?_;obtain⟨F,s,h⟩:=aa h;refine fr 1 ?_;refine cR rfl rfl rfl (bp rfl rfl yt (ap s)) ⟨rfl,rfl,trivial⟩ λD=>?_;refine fl cj ?_;refine ot λo15=>?_;refine fr 1 ?_;refine aO rfl rfl (aN rfl fB o15 rfl rfl) ⟨rfl,rfl,trivial⟩ ?_;refine aF (aI (tn (ae (mq ?_))));obtain⟨x,j,h⟩:=aa h;refine jb (be rfl j) ?_;refine aq (nl ?_);exact jz (D,(y9.1++[e],x)) h [0,1,2,3]
  .refine xa ?_;exact jz (c,y9.1) h [0,1,2,3]
 .
  refine sr (lo dF ?_);refine fr 3 ?_;refine aO rfl rfl (aN rfl dF trivial rfl rfl) ⟨rfl,rfl,trivial⟩ ?_;refine nt (aA (bG 2 rfl ?_));refine bK (jj (off:=4) [] trivial rfl rfl) ?_;refine bK (SE.fin (Γ':=[(2,_)]) [2,0,1] ⟨rfl,trivial⟩ rfl) ?_;cases h;exact aP v5 [.agg (.pair (I a0.1) (.pair (I a0.2.1) (.pair (I a0.2.2.1) (.pair (I a0.2.2.2.1) (.pair (.rep (.slice (.slice Tl)) x7) (.eq v5))))))] 1 ⟨⟨_,_,_,_,_,rfl,(.tail _ (.head _)),dF,(oL),rfl⟩,trivial⟩ rfl
def iR(k:Nat)(a0:bP):Option (Int×bP):=
 ((if a0.2.1 < (a0.1.length:Int) then((aG a0.1 a0.2.1).bind λx3=>
 some (IntKind.u64.wrap ((IntKind.u64.wrap ((IntKind.u64.wrap (a0.2.2 * 6364136223846793005))+1442695040888963407))+(IntKind.u64.wrap ((IntKind.u64.wrap x3) * 2862933555777941757))))) else(some (IntKind.u64.wrap ((IntKind.u64.wrap (a0.2.2 * 6364136223846793005))+1442695040888963407)))):Option (Int)).bind λx1=>
 (ck (a0.2.1+1)).bind λx4=>
 some (ib .u64 (rm .u64 (IntKind.u64.wrap ((rm .u64 x1 (ib .u64 x1 29)) * 2685821657736338717)) (ib .u64 (IntKind.u64.wrap ((rm .u64 x1 (ib .u64 x1 29)) * 2685821657736338717)) 32)) 8,(a0.1,x4,x1))
theorem tw(k:Nat)(a0:bP)(c:Nat)(r:Int×bP)(h:iR k a0=some r):
 cT Tryz.prog 59 [Pt c] [.obj c 74 (.agg (.pair (.rep Tl a0.1) (.pair (I a0.2.1) (.eq (.int .u64 a0.2.2)))))] (λ_:Unit=>(bC [.eq (.int .u64 r.1)],[.obj c 74 (.agg (.pair (.rep Tl r.2.1) (.pair (I r.2.2.1) (.eq (.int .u64 r.2.2.2)))))])):=by
 unfold iR at h
 replace h:=aX h
 refine cT.of 67 Tryz.func59 rfl Tryz.ntmps59 rfl λS w0=>?_
 refine sr ?_
 refine cq ?_
 refine nt ?_
 refine sr ?_
 iterate 2 refine mq ?_
 refine ja (cU rfl) ?_
 refine fl tG ?_
 refine lo FH ?_
 refine jb (C7 rfl) ?_
 refine jb (Iq rfl) ?_
 refine ja (cU rfl) ?_
 refine fl tG ?_
 refine aO rfl rfl (aN rfl FH rfl rfl rfl) ⟨rfl,rfl,trivial⟩ ?_
 refine nt ?_
 refine aE (Z:=Unit) (α:=Int) (λz2 x1=>[(0,Pt c)]) (λz2 x1=>[.obj c 74 (.agg (.pair (.rep Tl a0.1) (.pair (I a0.2.1) (.eq (.int .u64 x1)))))]) h (λK h=>?_) (λz2 x1 h=>?_)
 .
  refine aj (bz ?_);refine dm ?_;refine da (cU rfl) ?_;refine da (au rfl zc) ?_;refine ea 0 (an rfl bQ ju rfl) ?_;refine dm ?_;refine da (cU rfl) ?_;refine da (au rfl Jc) ?_;refine ea 0 (an rfl eT ju rfl) ?_;refine da (pi rfl rfl gA) ?_;refine df cQ ?_;refine jb (bj rfl) ?_;refine nt (ci h (λh=>?_) (λh=>?_))
  .refine bz ?_;refine dm ?_;refine dm ?_;refine da (cU rfl) ?_;refine da (au rfl tG) ?_;refine ea 0 (an rfl FH ju rfl) ?_;refine dm ?_;refine da (cU rfl) ?_;refine da (au rfl Jc) ?_;refine ea 0 (an rfl eT ju rfl) ?_;refine dm ?_;refine da (cU rfl) ?_;refine da (au rfl zc) ?_;refine ea 0 (an rfl bQ ju rfl) ?_;obtain⟨x3,j,h⟩:=aa h;refine db (aD (t:=Ti) rfl gA bQ j) ?_;refine da (ao (t:=Ti) rfl bQ rfl) ?_;refine da (s7 rfl U3 Ub) ?_;refine db (C7 rfl) ?_;refine db (Iq rfl) ?_;refine df cQ ?_;refine ja (cU rfl) ?_;refine fl tG ?_;refine aO rfl rfl (aN rfl FH rfl rfl rfl) ⟨rfl,rfl,trivial⟩ ?_;refine nl ?_;exact jz ((),IntKind.u64.wrap ((IntKind.u64.wrap ((IntKind.u64.wrap (a0.2.2 * 6364136223846793005))+1442695040888963407))+(IntKind.u64.wrap ((IntKind.u64.wrap x3) * 2862933555777941757)))) h [0]
  .refine aZ (av ?_);exact jz ((),IntKind.u64.wrap ((IntKind.u64.wrap (a0.2.2 * 6364136223846793005))+1442695040888963407)) h [0]
 .
  refine sr (mq ?_);refine ja (cU rfl) ?_;refine fl zc ?_;refine lo bQ ?_;obtain⟨x4,e,h⟩:=aa h;refine jb (be rfl e) ?_;refine ja (cU rfl) ?_;refine fl zc ?_;refine aO rfl rfl (aN rfl bQ rfl rfl rfl) ⟨rfl,rfl,trivial⟩ ?_;refine nt (aj (bz ?_));refine dm ?_;refine da (cU rfl) ?_;refine da (au rfl tG) ?_;refine ea 0 (an rfl FH ju rfl) ?_;refine dm ?_;refine da (cU rfl) ?_;refine da (au rfl tG) ?_;refine ea 0 (an rfl FH ju rfl) ?_;refine fV rfl rfl rfl (vm rfl (by decide)) ⟨rfl,rfl,trivial⟩ ?_;refine df cQ ?_;refine jb (Ol rfl) ?_;refine aq (nt (sr ?_));refine mq ?_;refine jb (C7 rfl) ?_;refine aq (nt (sr ?_));iterate 2 refine mq ?_
  refine cz rfl (vm rfl (by decide)) ⟨rfl,rfl,trivial⟩ ?_;refine jb (Ol rfl) ?_;refine cz rfl (vm rfl (by decide)) ⟨rfl,rfl,trivial⟩ ?_;refine aq (nt (aA ?_));cases h;exact aP () [_] 1 ⟨rfl,trivial⟩ rfl
def cg(k:Nat)(a0:bP)(a1:Int):Option (Int×bP):=
 if a1 < 1 then(some (0,(a0.1,a0.2.1,a0.2.2))) else((iR k (a0.1,a0.2.1,a0.2.2)).bind λr1=>
 (ck (a1+1)).bind λx2=>
 (bS ((IntKind.u64.wrap x2)≠0)).bind λ_=>
 (ck (Int.tmod r1.1 (IntKind.u64.wrap x2))).bind λx4=>
 some (x4,(r1.2.1,r1.2.2.1,r1.2.2.2)))
theorem cD(k:Nat)(a0:bP)(c:Nat)(a1:Int)(r:Int×bP)(h:cg k a0 a1=some r):
 cT Tryz.prog 24 [Pt c,I a1] [.obj c 74 (.agg (.pair (.rep Tl a0.1) (.pair (I a0.2.1) (.eq (.int .u64 a0.2.2)))))] (λ_:Unit=>(bC [I r.1],[.obj c 74 (.agg (.pair (.rep Tl r.2.1) (.pair (I r.2.2.1) (.eq (.int .u64 r.2.2.2)))))])):=by
 unfold cg at h
 replace h:=aX h
 refine cT.of 14 Tryz.func24 rfl Tryz.ntmps24 rfl λS w0=>?_
 refine sr ?_
 refine cq ?_
 refine nt ?_
 refine aj ?_
 refine sr ?_
 refine mq ?_
 refine jb (bj rfl) ?_
 refine nt ?_
 refine ci h (λh=>?_) (λh=>?_)
 .
  refine sr (cq (nt (rx ?_)));cases h;exact aP () [_] 1 ⟨rfl,trivial⟩ rfl
 .
  refine sk (sr (mq ?_));obtain⟨r1,n,h⟩:=aa h;refine ka (ax [.tmp 7] rfl rfl U8 rfl (tw k (a0.1,a0.2.1,a0.2.2) c r1 n)) ?_;refine mq ?_;obtain⟨x2,j,h⟩:=aa h;refine jb (be rfl j) ?_;refine ja (s7 rfl U3 Ub) ?_;obtain⟨u3,l,h⟩:=aa h;refine jb (Rr rfl (ap l)) ?_;obtain⟨x4,e,h⟩:=aa h;refine ja (AK rfl Ub U3 e) ?_;refine aq (nt (aA ?_));cases h;exact aP () [_] 1 ⟨rfl,trivial⟩ rfl
def fF(k:Nat)(a0:bP)(a1:Int):Option (Bool×bP):=
 (ck (a1 - 1)).bind λx1=>
 (cg k (a0.1,a0.2.1,a0.2.2) x1).bind λr2=>
 some (decide (r2.1=0),(r2.2.1,r2.2.2.1,r2.2.2.2))
theorem j9(k:Nat)(a0:bP)(c:Nat)(a1:Int)(r:Bool×bP)(h:fF k a0 a1=some r):
 cT Tryz.prog 46 [Pt c,I a1] [.obj c 74 (.agg (.pair (.rep Tl a0.1) (.pair (I a0.2.1) (.eq (.int .u64 a0.2.2)))))] (λ_:Unit=>(bC [.eq (.bool r.1)],[.obj c 74 (.agg (.pair (.rep Tl r.2.1) (.pair (I r.2.2.1) (.eq (.int .u64 r.2.2.2)))))])):=by
 unfold fF at h
 replace h:=aX h
 refine cT.of 10 Tryz.func46 rfl Tryz.ntmps46 rfl λS w0=>?_
 refine sr ?_
 refine cq ?_
 refine nt ?_
 refine sr ?_
 iterate 2 refine mq ?_
 obtain⟨x1,e,h⟩:=aa h
 refine jb (eo rfl e) ?_
 obtain⟨r2,j,h⟩:=aa h
 have l:=cD k (a0.1,a0.2.1,a0.2.2) c x1 r2 j
 refine kb (ax [.tmp 5,.tmp 7] rfl rfl vJ rfl l) ?_
 refine jb (jE rfl) ?_
 refine aq ?_
 refine nt ?_
 refine aA ?_
 cases h
 exact aP () [_] 1 ⟨rfl,trivial⟩ rfl
def f8(k:Nat)(a0:bP)(a1:Int)(a2:Int):Option (Int×bP):=
 (ck (a2 - a1)).bind λx1=>
 (cg k (a0.1,a0.2.1,a0.2.2) x1).bind λr2=>
 (ck (a1+r2.1)).bind λx3=>
 some (x3,(r2.2.1,r2.2.2.1,r2.2.2.2))
theorem jO(k:Nat)(a0:bP)(c:Nat)(a1:Int)(a2:Int)(r:Int×bP)(h:f8 k a0 a1 a2=some r):
 cT Tryz.prog 98 [Pt c,I a1,I a2] [.obj c 74 (.agg (.pair (.rep Tl a0.1) (.pair (I a0.2.1) (.eq (.int .u64 a0.2.2)))))] (λ_:Unit=>(bC [I r.1],[.obj c 74 (.agg (.pair (.rep Tl r.2.1) (.pair (I r.2.2.1) (.eq (.int .u64 r.2.2.2)))))])):=by
 unfold f8 at h
 replace h:=aX h
 refine cT.of 14 Tryz.func98 rfl Tryz.ntmps98 rfl λS w0=>?_
 refine sr ?_
 refine cq ?_
 refine nt ?_
 refine sr ?_
 iterate 4 refine mq ?_
 obtain⟨x1,j,h⟩:=aa h
 refine jb (eo rfl j) ?_
 obtain⟨r2,l,h⟩:=aa h
 have n:=cD k (a0.1,a0.2.1,a0.2.2) c x1 r2 l
 refine kb (ax [.tmp 8,.tmp 11] rfl rfl vJ rfl n) ?_
 obtain⟨x3,e,h⟩:=aa h
 refine jb (be rfl e) ?_
 refine aq ?_
 refine nt ?_
 refine aA ?_
 cases h
 exact aP () [_] 1 ⟨rfl,trivial⟩ rfl
def ix(k:Nat)(a0:bP)(a1:(List Int)):Option (Int×bP):=
 (ck ((a1.length:Int) - 1)).bind λx1=>
 (cg k (a0.1,a0.2.1,a0.2.2) x1).bind λr2=>
 (aG a1 r2.1).bind λx3=>
 some (x3,(r2.2.1,r2.2.2.1,r2.2.2.2))
theorem mh(k:Nat)(a0:bP)(c:Nat)(a1:(List Int))(r:Int×bP)(h:ix k a0 a1=some r):
 cT Tryz.prog 99 [Pt c,.rep Tl a1] [.obj c 74 (.agg (.pair (.rep Tl a0.1) (.pair (I a0.2.1) (.eq (.int .u64 a0.2.2)))))] (λ_:Unit=>(bC [I r.1],[.obj c 74 (.agg (.pair (.rep Tl r.2.1) (.pair (I r.2.2.1) (.eq (.int .u64 r.2.2.2)))))])):=by
 unfold ix at h
 replace h:=aX h
 refine cT.of 13 Tryz.func99 rfl Tryz.ntmps99 rfl λS w0=>?_
 refine sr ?_
 refine cq ?_
 refine nt ?_
 refine sr ?_
 iterate 3 refine mq ?_
 refine ol gA ?_
 obtain⟨x1,j,h⟩:=aa h
 refine jb (eo rfl j) ?_
 obtain⟨r2,l,h⟩:=aa h
 have n:=cD k (a0.1,a0.2.1,a0.2.2) c x1 r2 l
 refine kb (ax [.tmp 6,.tmp 9] rfl rfl vJ rfl n) ?_
 obtain⟨x3,e,h⟩:=aa h
 refine jb (aD (t:=Ti) rfl gA bQ e) ?_
 refine ja (ao (t:=Ti) rfl bQ rfl) ?_
 refine aq ?_
 refine nt ?_
 refine aA ?_
 cases h
 exact aP () [_] 1 ⟨rfl,trivial⟩ rfl
def er(k:Nat)(a1:Int):Nat->((List Int)×Int×Int×(List Int)×Int)->Option ((List Int)×(List Int)×Int×Int)
 |0,_=>none
 |n+1,y3=>
  if y3.2.2.2.2 < a1 then((cg k (y3.1,y3.2.1,y3.2.2.1) y3.2.2.2.2).bind λr5=>
  (bS (bi (length y3.2.2.2.1+length [y3.2.2.2.2]))).bind λ_=>
  (aG (y3.2.2.2.1++[y3.2.2.2.2]) r5.1).bind λx8=>
  (aG (y3.2.2.2.1++[y3.2.2.2.2]) y3.2.2.2.2).bind λx9=>
  (aG (List.set (y3.2.2.2.1++[y3.2.2.2.2]) (Int.toNat y3.2.2.2.2) x8) r5.1).bind λe=>
  (ck (y3.2.2.2.2+1)).bind λc=>
  er k a1 n (r5.2.1,r5.2.2.1,r5.2.2.2,List.set (List.set (y3.2.2.2.1++[y3.2.2.2.2]) (Int.toNat y3.2.2.2.2) x8) (Int.toNat r5.1) y3.2.2.2.2,c)) else(some (y3.2.2.2.1,y3.1,y3.2.1,y3.2.2.1))
def iy(k:Nat)(a0:bP)(a1:Int):Option ((List Int)×bP):=
 ((er k a1 k (a0.1,a0.2.1,a0.2.2,([]:(List Int)),0)):Option ((List Int)×(List Int)×Int×Int)).bind λx1=>
 some (x1.1,(x1.2.1,x1.2.2.1,x1.2.2.2))
theorem so(k:Nat)(a0:bP)(c:Nat)(a1:Int)(r:(List Int)×bP)(h:iy k a0 a1=some r):
 cT Tryz.prog 117 [Pt c,I a1] [.obj c 74 (.agg (.pair (.rep Tl a0.1) (.pair (I a0.2.1) (.eq (.int .u64 a0.2.2)))))] (λ_:Unit=>(bC [.rep Tl r.1],[.obj c 74 (.agg (.pair (.rep Tl r.2.1) (.pair (I r.2.2.1) (.eq (.int .u64 r.2.2.2)))))])):=by
 unfold iy at h
 replace h:=aX h
 refine cT.of 32 Tryz.func117 rfl Tryz.ntmps117 rfl λS w0=>?_
 refine sr ?_
 refine cq ?_
 refine nt ?_
 refine sr ?_
 refine cq ?_
 refine nt ?_
 refine aE (Z:=Value) (α:=(List Int)×(List Int)×Int×Int) (λz2 x1=>[(5,.eq z2)]) (λz2 x1=>[.sl z2 3 Ti x1.1,.obj c 74 (.agg (.pair (.rep Tl x1.2.1) (.pair (I x1.2.2.1) (.eq (.int .u64 x1.2.2.2)))))]) h (λK h=>?_) (λz2 x1 h=>?_)
 .
  refine sr (cq (nt (ah ?_)));refine hP (SE.nil 3 Ti) ?_;refine aC (λz4 y3=>[(0,Pt c),(1,I a1),(5,.eq z4),(6,I y3.2.2.2.2)]) (λz4 y3=>[.obj c 74 (.agg (.pair (.rep Tl y3.1) (.pair (I y3.2.1) (.eq (.int .u64 y3.2.2.1))))),.sl z4 3 Ti y3.2.2.2.1]) (er k a1) k (.slice none 0 0) (a0.1,a0.2.1,a0.2.2,([]:(List Int)),0) (λ_=>rfl) h (SE.fin [1,0] ⟨rfl,rfl,rfl,rfl,trivial⟩ rfl) (λn z4 y3 h=>?_);unfold er at h;refine aj (sr ?_);iterate 2 refine mq ?_
  refine jb (bj rfl) ?_;refine nt (ci h (λh=>?_) (λh=>?_))
  .refine sk (aj (ah (sr ?_)));iterate 2 refine mq ?_
   obtain⟨r5,y,h⟩:=aa h;refine kb (ax [.tmp 13,.tmp 14] rfl rfl vJ rfl (cD k (y3.1,y3.2.1,y3.2.2.1) c y3.2.2.2.2 r5 y)) ?_;refine aq (nt (sr ?_));iterate 2 refine mq ?_
   refine ja (aV (t:=Ti) [(.tmp 17,_)] [y3.2.2.2.2] rfl rfl cV (.cons rfl .int .nil) rfl rfl) ?_;obtain⟨u6,x,h⟩:=aa h;refine fr 1 ?_;refine cR rfl rfl rfl (bp rfl rfl cV (ap x)) ⟨rfl,rfl,trivial⟩ λv7=>?_;refine aq (nt (ae ?_));iterate 6 refine mq ?_
   obtain⟨x8,l,h⟩:=aa h;refine kb (cI (t:=Ti) rfl gA bQ l) ?_;refine ka (gU (i:=Int.toNat r5.1) (off:=0) rfl bQ (λ_=>rfl) rfl (dJ l).2.2 rfl) ?_;refine mq ?_;obtain⟨x9,j,h⟩:=aa h;refine kb (cI (t:=Ti) rfl gA bQ j) ?_;refine aO rfl rfl (ik (i:=Int.toNat y3.2.2.2.2) rfl bQ rfl (od j) rfl .int rfl) ⟨rfl,rfl,trivial⟩ ?_;obtain⟨D,e,h⟩:=aa h;refine kb (cI (t:=Ti) rfl gA bQ e) ?_;refine aO rfl rfl (ik (i:=Int.toNat r5.1) rfl bQ rfl (od e) rfl .int rfl) ⟨rfl,rfl,trivial⟩ ?_;refine aF (aI (tn (ae (mq ?_))));obtain⟨u,s,h⟩:=aa h;refine jb (be rfl s) ?_;refine aq (nl ?_);exact jz (v7,(r5.2.1,r5.2.2.1,r5.2.2.2,List.set (List.set (y3.2.2.2.1++[y3.2.2.2.2]) (Int.toNat y3.2.2.2.2) x8) (Int.toNat r5.1) y3.2.2.2.2,u)) h [1,0]
  .refine xa ?_;exact jz (z4,(y3.2.2.2.1,y3.1,y3.2.1,y3.2.2.1)) h [1,0]
 .
  refine sr (mq ?_);refine aq (nt (aA ?_));refine bK (gy [4,5,31] ⟨rfl,rfl,rfl,trivial⟩) ?_;cases h;exact aP () [_] 1 ⟨rfl,trivial⟩ rfl
def iT(k:Nat)(a0:bP)(a1:zk):Option (aQ×bP):=
 (ck (a1.1 - 1)).bind λx3=>
 (cg k (a0.1,a0.2.1,a0.2.2) x3).bind λr4=>
 (cg k (r4.2.1,r4.2.2.1,r4.2.2.2) (a1.2.2.2.2.1.length:Int)).bind λr5=>
 (fF k (r5.2.1,r5.2.2.1,r5.2.2.2) 2).bind λr6=>
 some ((r4.1,r5.1,r6.1),(r6.2.1,r6.2.2.1,r6.2.2.2))
theorem tA(k:Nat)(a0:bP)(c:Nat)(a1:zk)(r:aQ×bP)(h:iT k a0 a1=some r):
 cT Tryz.prog 67 [Pt c,.rep Ed a1] [.obj c 74 (.agg (.pair (.rep Tl a0.1) (.pair (I a0.2.1) (.eq (.int .u64 a0.2.2)))))] (λ_:Unit=>(bC [.rep aJ r.1],[.obj c 74 (.agg (.pair (.rep Tl r.2.1) (.pair (I r.2.2.1) (.eq (.int .u64 r.2.2.2)))))])):=by
 unfold iT at h
 replace h:=aX h
 refine cT.of 18 Tryz.func67 rfl Tryz.ntmps67 rfl λS w0=>?_
 refine sr ?_
 refine bx λb1=>?_
 refine aW rfl rfl rfl (bv rfl Fv Nw) trivial λb2=>?_
 refine nt ?_
 refine aj ?_
 refine GW [1,2,3,5,6,7,8,10,0,4,9,11,12,13] (by kernel_rfl) ?_
 refine bX rfl rfl rfl (au rfl eU) ⟨rfl,trivial⟩ ?_
 refine iN 1 rfl rfl rfl rfl (an rfl bQ ju rfl) ⟨rfl,trivial⟩ ?_
 obtain⟨x3,E,h⟩:=aa h
 refine bX rfl rfl rfl (eo rfl E) ⟨rfl,rfl,trivial⟩ ?_
 refine bX rfl rfl rfl (aY rfl) ⟨rfl,trivial⟩ ?_
 refine bX rfl rfl rfl (au rfl cj) ⟨rfl,trivial⟩ ?_
 refine iN 1 rfl rfl rfl rfl (an rfl fB ju rfl) ⟨rfl,trivial⟩ ?_
 refine bX rfl rfl rfl (pi rfl rfl pJ) ⟨rfl,trivial⟩ ?_
 refine bX rfl rfl rfl (aY rfl) ⟨rfl,trivial⟩ ?_
 refine bX rfl rfl rfl (aY rfl) ⟨rfl,trivial⟩ ?_
 refine wl 9 [true,true,true,false,false,false,false,false,true] [9,14] [1] [.obj b1 25 (.rep Ed a1)] rfl (by kernel_rfl) (by kernel_rfl) (by kernel_rfl) cQ (λvs hv hB=>?_)
 obtain⟨w0,Wa,rfl,D⟩:=aH hv
 obtain⟨w1,zz,rfl,y⟩:=aH D
 obtain⟨w2,qt,rfl,x⟩:=aH y
 obtain⟨w3,mw,rfl,u⟩:=aH x
 obtain⟨w4,mc,rfl,s⟩:=aH u
 obtain⟨w5,gw,rfl,n⟩:=aH s
 obtain⟨w6,Z,rfl,l⟩:=aH n
 obtain⟨w7,Y,rfl,j⟩:=aH l
 obtain⟨w8,X,rfl,e⟩:=aH j
 obtain rfl:=sj e
 refine⟨[1,0,2],[.obj b2 27 (.agg (.pair (I 0) (.pair (I 0) (.eq (.bool false))))),.obj c 74 (.agg (.pair (.rep Tl a0.1) (.pair (I a0.2.1) (.eq (.int .u64 a0.2.2)))))],by kernel_rfl,by decide,?_⟩
 obtain⟨r4,M,h⟩:=aa h
 have U:=cD k (a0.1,a0.2.1,a0.2.2) c x3 r4 M
 refine sJ 1 rfl ?_
 refine we rfl rfl rfl rfl (ax [.tmp 5,.tmp 8] rfl rfl vJ rfl U) ⟨rfl,rfl,trivial⟩ (by kernel_rfl) ?_
 obtain⟨r5,J,h⟩:=aa h
 have Q:=cD k (r4.2.1,r4.2.2.1,r4.2.2.2) c (a1.2.2.2.2.1.length:Int) r5 J
 refine we rfl rfl rfl rfl (ax [.tmp 10,.tmp 13] rfl rfl vJ rfl Q) ⟨rfl,rfl,trivial⟩ (by kernel_rfl) ?_
 refine QB (by kernel_rfl) ?_
 obtain⟨r6,F,h⟩:=aa h
 have O:=j9 k (r5.2.1,r5.2.2.1,r5.2.2.2) c 2 r6 F
 refine fr 1 ?_
 refine kb (ax [.tmp 15,.const (.int .i64 (2))] rfl rfl P9 rfl O) ?_
 refine jc (eC [(0,.tmp 9,_),(1,.tmp 14,_),(2,.tmp 16,_)] rfl Ri Fv OD (kG ⟨rfl,rfl,rfl,trivial⟩) rfl) ?_
 refine fr 2 ?_
 refine aO rfl rfl (aN rfl mY trivial rfl rfl) ⟨rfl,rfl,trivial⟩ ?_
 refine nt ?_
 refine aA ?_
 refine bK (iF (a:=.agg (.pair (I r4.1) (.pair (I r5.1) (.eq (.bool r6.1))))) (a':=.rep aJ (r4.1,r5.1,r6.1)) (kp (.agg (.pair .int (.pair .int .bool))))) ?_
 refine bK (SE.fin (Γ':=[(4,_)]) [1,0,2] ⟨rfl,trivial⟩ rfl) ?_
 cases h
 exact aP () [.rep aJ (r4.1,r5.1,r6.1)] 1 ⟨⟨_,_,_,_,_,rfl,(.tail _ (.head _)),mY,(oL),rfl⟩,trivial⟩ rfl
def fD(k:Nat)(a0:Int)(a1:Int)(a2:Int):Option Bool:=
 ((if a1≤a0 then(some (decide (a0≤a2))) else(some false)):Option (Bool)).bind λx1=>
 some x1
theorem gR(k:Nat)(a0:Int)(a1:Int)(a2:Int)(r:Bool)(h:fD k a0 a1 a2=some r):
 cT Tryz.prog 56 [I a0,I a1,I a2] [] (λ_:Unit=>(bC [.eq (.bool r)],[])):=by
 unfold fD at h
 replace h:=aX h
 refine cT.of 15 Tryz.func56 rfl Tryz.ntmps56 rfl λS w0=>?_
 refine sr ?_
 refine cq ?_
 refine nt ?_
 refine aE (Z:=Unit) (α:=Bool) (λz2 x1=>[(6,.eq (.bool x1))]) (λz2 x1=>[]) h (λK h=>?_) (λz2 x1 h=>?_)
 .
  refine ae ?_;iterate 2 refine mq ?_
  refine jb (iI rfl) ?_;refine mq ?_;refine cf (s:=10) rfl (λhb=>?_) (λhb=>?_)
  .replace h:=ee (vM hb) h;refine gm ?_;refine gm ?_;refine gb (AH rfl) ?_;refine pt ?_;refine aq (nl ?_);exact jz ((),decide (a0≤a2)) h []
  .replace h:=cK (vO hb) h;iterate 3 refine gn ?_
   refine pf ?_;refine aq (nl ?_);exact jz ((),false) h []
 .
  refine aA ?_;cases h;exact ra
def gQ(k:Nat)(a0:ab)(a1:Int):Option Bool:=
 (fD k a1 0 (IntKind.i64.wrap (a0.1 - 1))).bind λr2=>
 some r2
theorem nz(k:Nat)(a0:ab)(a1:Int)(r:Bool)(h:gQ k a0 a1=some r):
 cT Tryz.prog 76 [.rep am a0,I a1] [] (λ_:Unit=>(bC [.eq (.bool r)],[])):=by
 unfold gQ at h
 replace h:=aX h
 refine cT.of 10 Tryz.func76 rfl Tryz.ntmps76 rfl λS w0=>?_
 refine sr ?_
 refine bx λb1=>?_
 refine cq ?_
 refine nt ?_
 refine sr ?_
 refine mq ?_
 refine fl eU ?_
 refine lo bQ ?_
 refine jb (PH rfl) ?_
 obtain⟨r2,c,h⟩:=aa h
 have e:=gR k a1 0 (IntKind.i64.wrap (a0.1 - 1)) r2 c
 refine jc (ax [.tmp 5,.const (.int .i64 (0)),.tmp 8] rfl rfl Gg rfl e) ?_
 refine aq ?_
 refine nt ?_
 refine aA ?_
 cases h
 exact ra
def ie(k:Nat)(a0:(List Int))(a1:Int):Nat->Int->Option (Except Bool Unit)
 |0,_=>none
 |n+1,y3=>
  if y3 < (a0.length:Int) then((aG a0 y3).bind λx5=>
  if x5=a1 then(some (.error true)) else((ck (y3+1)).bind λx6=>
  ie k a0 a1 n x6)) else(some (.ok ()))
def nS(k:Nat)(a0:(List Int))(a1:Int):Option Bool:=
 bE (α:=Unit) (ie k a0 a1 k 0) (some) λ_=>
 some false
theorem qL(k:Nat)(a0:(List Int))(a1:Int)(r:Bool)(h:nS k a0 a1=some r):
 cT Tryz.prog 77 [.rep Tl a0,I a1] [] (λ_:Unit=>(bC [.eq (.bool r)],[])):=by
 unfold nS at h
 replace h:=aX h
 refine cT.of 18 Tryz.func77 rfl Tryz.ntmps77 rfl λS w0=>?_
 refine sr ?_
 refine cq ?_
 refine nt ?_
 refine cS (Z:=Unit) (α:=Unit) (λz2 x1=>[]) (λz2 x1=>[]) (λe=>e=r) h (λe h=>Option.some.inj h) (λK hR h=>?_) (λz2 x1 h=>?_)
 .
  refine sr (cq (nt (ah ?_)));refine aC (λz4 y3=>[(0,.rep Tl a0),(1,I a1),(5,I y3)]) (λz4 y3=>[]) (ie k a0 a1) k () 0 (λ_=>rfl) h (SE.fin [] ⟨rfl,rfl,rfl,trivial⟩ rfl) (λn z4 y3 h=>?_);unfold ie at h;refine aj (sr ?_);iterate 2 refine mq ?_
  refine ol gA ?_;refine jb (bj rfl) ?_;refine nt (ci h (λh=>?_) (λh=>?_))
  .refine sk (aj (ah (sr ?_)));iterate 2 refine mq ?_
   obtain⟨x5,j,h⟩:=aa h;refine jb (aD (t:=Ti) rfl gA bQ j) ?_;refine ja (ao (t:=Ti) rfl bQ rfl) ?_;refine mq ?_;refine jb (jE rfl) ?_;refine nt (ci h (λh=>?_) (λh=>?_))
   .refine sr (cq (nt (aA (br (bb (bg ?_))))));obtain rfl:=hR _ h;exact ra
   .refine aZ (aI (tn (ae (mq ?_))));obtain⟨x6,c,h⟩:=aa h;refine jb (be rfl c) ?_;refine aq (nl ?_);exact jz ((),x6) h []
  .refine xa ?_;exact jz ((),()) h []
 .
  refine sr (cq (nt (aA ?_)));cases h;exact ra
def dL(k:Nat)(a0:ab)(a1:(List (List Int)))(y4:(List Int)×Int):Nat->((List Int)×Int)->Option (Except Int (List Int))
 |0,_=>none
 |n+1,y8=>
  (aG a1 y4.2).bind λu=>
  if y8.2 < (u.length:Int) then((aG a1 y4.2).bind λs=>
  (aG s y8.2).bind λr=>
  (gQ k a0 r).bind λy=>
  if¬(y=true) then(some (.error 3)) else((aG a1 y4.2).bind λl=>
  (aG l y8.2).bind λj=>
  (nS k y8.1 j).bind λx=>
  if x=true then(some (.error 4)) else((aG a1 y4.2).bind λh=>
  (aG h y8.2).bind λc=>
  (bS (bi (length y8.1+length [c]))).bind λ_=>
  (ck (y8.2+1)).bind λe=>
  dL k a0 a1 y4 n (y8.1++[c],e)))) else(some (.ok y8.1))
def dM(k:Nat)(a0:ab)(a1:(List (List Int))):Nat->((List Int)×Int)->Option (Except Int Unit)
 |0,_=>none
 |n+1,y4=>
  if y4.2 < (a1.length:Int) then(bE (α:=(List Int)) (dL k a0 a1 y4 k (y4.1,0)) (λe=>some (.error e)) λx6=>
  (ck (y4.2+1)).bind λc=>
  dM k a0 a1 n (x6,c)) else(some (.ok ()))
def jC(k:Nat)(a0:ab)(a1:(List (List Int))):Option Int:=
 if 3 < (a1.length:Int) then(some 6) else(bE (α:=Unit) (dM k a0 a1 k (([]:(List Int)),0)) (some) λ_=>
 some 0)
theorem ul(k:Nat)(a0:ab)(a1:(List (List Int)))(r:Int)(h:jC k a0 a1=some r):
 cT Tryz.prog 57 [.rep am a0,.rep (.slice Tl) a1] [] (λ_:Unit=>(bC [I r],[])):=by
 unfold jC at h
 replace h:=aX h
 refine cT.of 55 Tryz.func57 rfl Tryz.ntmps57 rfl λS w0=>?_
 refine sr ?_
 refine bx λb1=>?_
 refine cq ?_
 refine nt ?_
 refine aj ?_
 refine sr ?_
 refine mq ?_
 refine ol nK ?_
 refine jb (jm rfl) ?_
 refine nt ?_
 refine ci h (λh=>?_) (λh=>?_)
 .
  refine sr (cq (nt (rx ?_)));cases h;exact ra
 .
  refine sk (sr (cq (nt ?_)));refine cS (Z:=Unit) (α:=Unit) (λz3 x2=>[]) (λz3 x2=>[]) (λe=>e=r) h (λe h=>Option.some.inj h) (λK hR h=>?_) (λz3 x2 h=>?_)
  .refine sr (cq (nt (ah ?_)));refine hP (SE.nil 3 Ti) ?_;refine aC (λz5 y4=>[(1,.rep (.slice Tl) a1),(2,Pt b1),(5,.eq z5),(6,I y4.2)]) (λz5 y4=>[.obj b1 25 (.rep am a0),.sl z5 3 Ti y4.1]) (dM k a0 a1) k (.slice none 0 0) (([]:(List Int)),0) (λ_=>rfl) h (SE.fin [1,0] ⟨rfl,rfl,rfl,rfl,trivial⟩ rfl) (λn z5 y4 h=>?_);unfold dM at h;refine aj (sr ?_);iterate 2 refine mq ?_
   refine ol nK ?_;refine jb (bj rfl) ?_;refine nt (ci h (λh=>?_) (λh=>?_))
   .refine sk (cS (Z:=Value) (α:=(List Int)) (λz7 x6=>[(1,.rep (.slice Tl) a1),(2,Pt b1),(5,.eq z7),(6,I y4.2)]) (λz7 x6=>[.obj b1 25 (.rep am a0),.sl z7 3 Ti x6]) (λe=>e=r) h (λe h=>hR e h) (λK hR h=>?_) (λz7 x6 h=>?_))
    .refine ah (sr (cq (nt (ah ?_))));refine aC (λz9 y8=>[(1,.rep (.slice Tl) a1),(2,Pt b1),(5,.eq z9),(6,I y4.2),(7,I y8.2)]) (λz9 y8=>[.obj b1 25 (.rep am a0),.sl z9 3 Ti y8.1]) (dL k a0 a1 y4) k z5 (y4.1,0) (λ_=>rfl) h (SE.fin [0,1] ⟨rfl,rfl,rfl,rfl,rfl,trivial⟩ rfl) (λn z9 y8 h=>?_);unfold dL at h;refine aj (sr ?_);iterate 3 refine mq ?_
     obtain⟨Wb,J,h⟩:=aa h;refine jb (aD (t:=Tl) rfl nK eT J) ?_;refine ja (ao (t:=Tl) rfl eT rfl) ?_;refine ol gA ?_;refine jb (bj rfl) ?_;refine nt (ci h (λh=>?_) (λh=>?_))
     .refine sk (aj (ah (aj (aj (bz ?_)))));refine ea 0 (an rfl dF (oL) rfl) ?_;refine dm ?_;refine dm ?_;obtain⟨Wa,F,h⟩:=aa h;refine db (aD (t:=Tl) rfl nK eT F) ?_;refine da (ao (t:=Tl) rfl eT rfl) ?_;refine dm ?_;obtain⟨Y,E,h⟩:=aa h;refine db (aD (t:=Ti) rfl gA bQ E) ?_;refine da (ao (t:=Ti) rfl bQ rfl) ?_;refine df cQ ?_;obtain⟨mw,Q,h⟩:=aa h;refine jb (ax [.tmp 26,.tmp 33] rfl rfl SD rfl (nz k a0 Y mw Q)) ?_;refine ja (fh rfl) ?_;refine nt (cw h (λh=>?_) (λh=>?_))
      .refine sr (cq (nt (rx (br (bb (br (bb (bg ?_))))))));obtain rfl:=hR _ h;exact ra
      .refine sk (aj (sr ?_));iterate 3 refine mq ?_
       obtain⟨zz,D,h⟩:=aa h;refine jb (aD (t:=Tl) rfl nK eT D) ?_;refine ja (ao (t:=Tl) rfl eT rfl) ?_;refine mq ?_;obtain⟨j,y,h⟩:=aa h;refine jb (aD (t:=Ti) rfl gA bQ y) ?_;refine ja (ao (t:=Ti) rfl bQ rfl) ?_;obtain⟨mc,O,h⟩:=aa h;refine fr 1 ?_;refine kb (kl (N:=[(.tmp 36,.eq z9),(.tmp 43,I j)]) (ax [.tmp 36,.tmp 43] rfl rfl P6 rfl (qL k y8.1 j mc O)) (λ_ _ _ hv hn=>⟨(lend hn.1 hv),hn.2.1,trivial⟩) (λ_=>⟨rfl,nI⟩)) ?_;refine nt (cv h (λh=>?_) (λh=>?_))
       .refine sr (cq (nt (rx (br (bb (br (bb (bg ?_))))))));obtain rfl:=hR _ h;exact ra
       .refine sk (ae ?_);iterate 3 refine mq ?_
        obtain⟨qt,x,h⟩:=aa h;refine jb (aD (t:=Tl) rfl nK eT x) ?_;refine ja (ao (t:=Tl) rfl eT rfl) ?_;refine mq ?_;obtain⟨c,u,h⟩:=aa h;refine jb (aD (t:=Ti) rfl gA bQ u) ?_;refine ja (ao (t:=Ti) rfl bQ rfl) ?_;refine ja (aV (t:=Ti) [(.tmp 52,_)] [c] rfl rfl cV (.cons rfl .int .nil) rfl rfl) ?_;obtain⟨Wc,M,h⟩:=aa h;refine cR rfl rfl rfl (bp rfl rfl cV (ap M)) ⟨rfl,rfl,trivial⟩ λgw=>?_;refine aq (aF (aI (tn (ae ?_))));refine mq ?_;obtain⟨X,s,h⟩:=aa h;refine jb (be rfl s) ?_;refine aq (nl ?_);exact jz (gw,(y8.1++[c],X)) h [1,0]
     .refine fA (bJ (bJ (cZ (bn ?_))));exact jz (z9,y8.1) h [0,1]
    .refine ae (mq ?_);obtain⟨U,l,h⟩:=aa h;refine jb (be rfl l) ?_;refine aq (nl ?_);exact jz (z7,(x6,U)) h [0,1]
   .refine xa ?_;exact jz ((),()) h []
  .refine sr (cq (nt (aA ?_)));cases h;exact ra
def fC(k:Nat)(a0:ab)(a1:Int):Option Bool:=
 (fD k a1 0 (a0.2.2.2.2.1.length:Int)).bind λr2=>
 some r2
theorem ny(k:Nat)(a0:ab)(a1:Int)(r:Bool)(h:fC k a0 a1=some r):
 cT Tryz.prog 64 [.rep am a0,I a1] [] (λ_:Unit=>(bC [.eq (.bool r)],[])):=by
 unfold fC at h
 replace h:=aX h
 refine cT.of 10 Tryz.func64 rfl Tryz.ntmps64 rfl λS w0=>?_
 refine sr ?_
 refine bx λb1=>?_
 refine cq ?_
 refine nt ?_
 refine sr ?_
 refine mq ?_
 refine fl cj ?_
 refine lo fB ?_
 refine ol pJ ?_
 obtain⟨r2,c,h⟩:=aa h
 have e:=gR k a1 0 (a0.2.2.2.2.1.length:Int) r2 c
 refine jc (ax [.tmp 5,.const (.int .i64 (0)),.tmp 8] rfl rfl Gg rfl e) ?_
 refine aq ?_
 refine nt ?_
 refine aA ?_
 cases h
 exact ra
def gC(k:Nat)(a0:ab)(a1:aQ):Option Int:=
 (((gQ k a0 a1.1).bind λr5=>
 if¬(r5=true) then(some true) else((fC k a0 a1.2.1).bind λr6=>
 some (!r6))):Option (Bool)).bind λx3=>
 if x3=true then(some 3) else(some 0)
theorem qM(k:Nat)(a0:ab)(a1:aQ)(r:Int)(h:gC k a0 a1=some r):
 cT Tryz.prog 58 [.rep am a0,.rep aJ a1] [] (λ_:Unit=>(bC [I r],[])):=by
 unfold gC at h
 replace h:=aX h
 refine cT.of 17 Tryz.func58 rfl Tryz.ntmps58 rfl λS w0=>?_
 refine sr ?_
 refine bx λb1=>?_
 refine bx λb2=>?_
 refine cq ?_
 refine nt ?_
 refine aj ?_
 refine aE (Z:=Unit) (α:=Bool) (λz4 x3=>[(16,.eq (.bool x3))]) (λz4 x3=>[]) h (λK h=>?_) (λz4 x3 h=>?_)
 .
  refine ae (fr 1 ?_);refine lo dF ?_;refine fl ze ?_;refine fr 1 ?_;refine lo bQ ?_;obtain⟨r5,e,h⟩:=aa h;refine jb (ax [.tmp 5,.tmp 7] rfl rfl SD rfl (nz k a0 a1.1 r5 e)) ?_;refine ja (fh rfl) ?_;refine mq ?_;refine cf (s:=10) rfl (λhb=>?_) (λhb=>?_)
  .replace h:=ee (um hb) h;iterate 5 refine gn ?_
   refine pt (nl ?_);exact jz ((),true) h []
  .replace h:=cK (ox hb) h;refine fr 1 ?_;refine eP rfl rfl rfl rfl rfl rfl (an rfl dF (oL) rfl) ⟨rfl,trivial⟩ ?_;refine ga (au rfl zd) ?_;refine fr 1 ?_;refine eP rfl rfl rfl rfl rfl rfl (an rfl bQ ju rfl) ⟨rfl,trivial⟩ ?_;obtain⟨r6,c,h⟩:=aa h;refine gb (ax [.tmp 11,.tmp 13] rfl rfl SI rfl (ny k a0 a1.2.1 r6 c)) ?_;refine ga (fh rfl) ?_;refine pf (nl ?_);exact jz ((), !r6) h []
 .
  refine cv h (λh=>?_) (λh=>?_)
  .refine sr (cq (nt (rx ?_)));cases h;exact ra
  .refine sk (sr (cq (nt (aA ?_))));cases h;exact ra
def fg(k:Nat)(a0:ab):Nat->Int->Option (Except Int Unit)
 |0,_=>none
 |n+1,c=>
  if c < (a0.2.2.2.2.1.length:Int) then((aG a0.2.2.2.2.1 c).bind λj=>
  (jC k a0 j).bind λe=>
  if¬(e=0) then(some (.error e)) else((ck (c+1)).bind λh=>
  fg k a0 n h)) else(some (.ok ()))
def ff(k:Nat)(a0:ab):Nat->Int->Option (Except Int Unit)
 |0,_=>none
 |n+1,c=>
  if c < (a0.2.2.2.2.2.length:Int) then((aG a0.2.2.2.2.2 c).bind λj=>
  (gC k a0 j).bind λe=>
  if¬(e=0) then(some (.error e)) else((ck (c+1)).bind λh=>
  ff k a0 n h)) else(some (.ok ()))
def nA(k:Nat)(a0:ab):Option Int:=
 (((fD k a0.1 1 5).bind λr4=>
 if¬(r4=true) then(some true) else((fD k a0.2.1 0 3).bind λr5=>
 if¬(r5=true) then(some true) else((fD k a0.2.2.1 0 3).bind λr6=>
 if¬(r6=true) then(some true) else((fD k a0.2.2.2.1 1 3).bind λr7=>
 some (!r7))))):Option (Bool)).bind λx2=>
 if x2=true then(some 1) else(if(a0.2.2.2.2.1.length:Int)=0 then(some 7) else(if 6 < (a0.2.2.2.2.1.length:Int) then(some 6) else(bE (α:=Unit) (fg k a0 k 0) (some) λ_=>
 if 8 < (a0.2.2.2.2.2.length:Int) then(some 6) else(bE (α:=Unit) (ff k a0 k 0) (some) λ_=>
 some 0))))
theorem yB(k:Nat)(a0:ab)(r:Int)(h:nA k a0=some r):
 cT Tryz.prog 20 [.rep am a0] [] (λ_:Unit=>(bC [I r],[])):=by
 unfold nA at h
 replace h:=aX h
 refine cT.of 75 Tryz.func20 rfl Tryz.ntmps20 rfl λS w0=>?_
 refine sr ?_
 refine bx λb1=>?_
 refine cq ?_
 refine nt ?_
 refine aj ?_
 refine aE (Z:=Unit) (α:=Bool) (λz3 x2=>[(1,Pt b1),(28,.eq (.bool x2))]) (λz3 x2=>[.obj b1 25 (.rep am a0)]) h (λK h=>?_) (λz3 x2 h=>?_)
 .
  refine ae (fl eU ?_);refine lo bQ ?_;obtain⟨r4,Wa,h⟩:=aa h;refine jc (ax [.tmp 8,.const (.int .i64 (1)),.const (.int .i64 (5))] rfl rfl Gg rfl (gR k a0.1 1 5 r4 Wa)) ?_;refine ja (fh rfl) ?_;refine mq ?_;refine cf (s:=11) rfl (λhb=>?_) (λhb=>?_)
  .replace h:=ee (um hb) h;iterate 4 refine gn ?_
   refine pt ?_;refine mq ?_;iterate 4 refine gn ?_
   refine pt ?_;refine mq ?_;iterate 4 refine gn ?_
   refine pt (nl ?_);exact jz ((),true) h [0]
  .replace h:=cK (ox hb) h;refine ga (au rfl pD) ?_;refine eP rfl rfl rfl rfl rfl rfl (an rfl bQ ju rfl) ⟨rfl,trivial⟩ ?_;obtain⟨r5,zz,h⟩:=aa h;refine gc (ax [.tmp 13,.const (.int .i64 (0)),.const (.int .i64 (3))] rfl rfl Gg rfl (gR k a0.2.1 0 3 r5 zz)) ?_;refine ga (fh rfl) ?_;refine pf ?_;refine mq ?_;refine cf (s:=17) rfl (λhb=>?_) (λhb=>?_)
   .replace h:=ee (um hb) h;iterate 4 refine gn ?_
    refine pt ?_;refine mq ?_;iterate 4 refine gn ?_
    refine pt (nl ?_);exact jz ((),true) h [0]
   .replace h:=cK (ox hb) h;refine ga (au rfl pC) ?_;refine eP rfl rfl rfl rfl rfl rfl (an rfl bQ ju rfl) ⟨rfl,trivial⟩ ?_;obtain⟨r6,qt,h⟩:=aa h;refine gc (ax [.tmp 19,.const (.int .i64 (0)),.const (.int .i64 (3))] rfl rfl Gg rfl (gR k a0.2.2.1 0 3 r6 qt)) ?_;refine ga (fh rfl) ?_;refine pf ?_;refine mq ?_;refine cf (s:=23) rfl (λhb=>?_) (λhb=>?_)
    .replace h:=ee (um hb) h;iterate 4 refine gn ?_
     refine pt (nl ?_);exact jz ((),true) h [0]
    .replace h:=cK (ox hb) h;refine ga (au rfl tH) ?_;refine eP rfl rfl rfl rfl rfl rfl (an rfl bQ ju rfl) ⟨rfl,trivial⟩ ?_;obtain⟨r7,mw,h⟩:=aa h;refine gc (ax [.tmp 25,.const (.int .i64 (1)),.const (.int .i64 (3))] rfl rfl Gg rfl (gR k a0.2.2.2.1 1 3 r7 mw)) ?_;refine ga (fh rfl) ?_;refine pf (nl ?_);exact jz ((), !r7) h [0]
 .
  refine cv h (λh=>?_) (λh=>?_)
  .refine sr (cq (nt (rx ?_)));cases h;exact ra
  .refine sk (aj (sr (fl cj ?_)));refine lo fB ?_;refine ol pJ ?_;refine jb (jE rfl) ?_;refine nt (ci h (λh=>?_) (λh=>?_))
   .refine sr (cq (nt (rx ?_)));cases h;exact ra
   .refine sk (aj (sr (fl cj ?_)));refine lo fB ?_;refine ol pJ ?_;refine jb (jm rfl) ?_;refine nt (ci h (λh=>?_) (λh=>?_))
    .refine sr (cq (nt (rx ?_)));cases h;exact ra
    .refine sk (cS (Z:=Unit) (α:=Unit) (λz9 x8=>[(1,Pt b1)]) (λz9 x8=>[.obj b1 25 (.rep am a0)]) (λe=>e=r) h (λe h=>Option.some.inj h) (λK hR h=>?_) (λz9 x8 h=>?_))
     .refine sr (cq (nt (ah ?_)));refine aC (λx j=>[(1,Pt b1),(3,I j)]) (λx j=>[.obj b1 25 (.rep am a0)]) (fg k a0) k () 0 (λ_=>rfl) h (SE.fin [0] ⟨rfl,rfl,trivial⟩ rfl) (λn x j h=>?_);unfold fg at h;refine aj (sr (mq ?_));refine fl cj ?_;refine lo fB ?_;refine ol pJ ?_;refine jb (bj rfl) ?_;refine nt (ci h (λh=>?_) (λh=>?_))
      .refine sk (aj (ah (aj (bz ?_))));refine ea 0 (an rfl dF (oL) rfl) ?_;refine da (au rfl cj) ?_;refine ea 0 (an rfl fB ju rfl) ?_;refine dm ?_;obtain⟨Y,J,h⟩:=aa h;refine db (aD (t:=(.slice Tl)) rfl pJ kE J) ?_;refine da (ao (t:=(.slice Tl)) rfl kE rfl) ?_;refine df cQ ?_;obtain⟨mc,O,h⟩:=aa h;refine jb (ax [.tmp 44,.tmp 49] rfl rfl Vb rfl (ul k a0 Y mc O)) ?_;refine aq (nt (sr ?_));refine mq ?_;refine jb (d5 rfl) ?_;refine nt (cn h (λh=>?_) (λh=>?_))
       .refine sr (mq ?_);refine aq (nt (aA (br (bb (bg ?_)))));obtain rfl:=hR _ h;exact ra
       .refine aZ (aI (tn (ae (mq ?_))));obtain⟨X,F,h⟩:=aa h;refine jb (be rfl F) ?_;refine aq (nl ?_);exact jz ((),X) h [0]
      .refine xa ?_;exact jz ((),()) h [0]
     .refine aj (sr (fl fR ?_));refine lo nm ?_;refine ol Cf ?_;refine jb (jm rfl) ?_;refine nt (ci h (λh=>?_) (λh=>?_))
      .refine sr (cq (nt (rx ?_)));cases h;exact ra
      .refine sk (cS (Z:=Unit) (α:=Unit) (λu y=>[]) (λu y=>[]) (λe=>e=r) h (λe h=>Option.some.inj h) (λK hR h=>?_) (λu y h=>?_))
       .refine sr (cq (nt (ah ?_)));refine aC (λl c=>[(1,Pt b1),(5,I c)]) (λl c=>[.obj b1 25 (.rep am a0)]) (ff k a0) k () 0 (λ_=>rfl) h (SE.fin [0] ⟨rfl,rfl,trivial⟩ rfl) (λn l c h=>?_);unfold ff at h;refine aj (sr (mq ?_));refine fl fR ?_;refine lo nm ?_;refine ol Cf ?_;refine jb (bj rfl) ?_;refine nt (ci h (λh=>?_) (λh=>?_))
        .refine sk (aj (ah (aj (bz ?_))));refine ea 0 (an rfl dF (oL) rfl) ?_;refine da (au rfl fR) ?_;refine ea 0 (an rfl nm ju rfl) ?_;refine dm ?_;obtain⟨U,E,h⟩:=aa h;refine db (aD (t:=aJ) rfl Cf mY E) ?_;refine da (ao (t:=aJ) rfl mY rfl) ?_;refine df cQ ?_;obtain⟨gw,M,h⟩:=aa h;refine jb (ax [.tmp 65,.tmp 70] rfl rfl Va rfl (qM k a0 U gw M)) ?_;refine aq (nt (sr ?_));refine mq ?_;refine jb (d5 rfl) ?_;refine nt (cn h (λh=>?_) (λh=>?_))
         .refine sr (mq ?_);refine aq (nt (aA (br (bb (bg ?_)))));obtain rfl:=hR _ h;exact ra
         .refine aZ (aI (tn (ae (mq ?_))));obtain⟨Q,D,h⟩:=aa h;refine jb (be rfl D) ?_;refine aq (nl ?_);exact jz ((),Q) h [0]
        .refine xa ?_;exact jz ((),()) h []
       .refine sr (cq (nt (aA ?_)));cases h;exact ra
def dW(k:Nat)(a2:Int)(e:(List Int)):Nat->Int->Option (Except ((List Int)×Bool) Unit)
 |0,_=>none
 |n+1,c=>
  if c < (e.length:Int) then((aG e c).bind λD=>
  if¬(D=a2) then((ck (c+1)).bind λy=>
  dW k a2 e n y) else(((if 0 < c then((ck (c - 1)).bind λx=>
  (aG e x).bind λl=>
  (bS (bi (length ([]:(List Int))+length [l]))).bind λ_=>
  some (([]:(List Int))++[l])) else(some ([]:(List Int)))):Option ((List Int))).bind λh=>
  (((ck (c+1)).bind λs=>
  if s < (e.length:Int) then((ck (c+1)).bind λr=>
  (aG e r).bind λj=>
  (bS (bi (length h+length [j]))).bind λ_=>
  some (h++[j])) else(some h)):Option ((List Int))).bind λu=>
  some (.error (u,true)))) else(some (.ok ()))
def eG(k:Nat)(a0:ab)(a1:Int)(a2:Int):Nat->Int->Option (Except ((List Int)×Bool) Unit)
 |0,_=>none
 |n+1,y4=>
  (aG a0.2.2.2.2.1 a1).bind λx6=>
  if y4 < (x6.length:Int) then(bE (α:=Unit) ((aG a0.2.2.2.2.1 a1).bind λx9=>
  (aG x9 y4).bind λh=>
  dW k a2 h k 0) (λe=>some (.error e)) λ_=>
  (ck (y4+1)).bind λc=>
  eG k a0 a1 a2 n c) else(some (.ok ()))
def jV(k:Nat)(a0:ab)(a1:Int)(a2:Int):Option ((List Int)×Bool):=
 bE (α:=Unit) (eG k a0 a1 a2 k 0) (some) λ_=>
 some (([]:(List Int)),false)
theorem qy(k:Nat)(a0:ab)(a1:Int)(a2:Int)(r:(List Int)×Bool)(h:jV k a0 a1 a2=some r):
 cT Tryz.prog 81 [.rep am a0,I a1,I a2] [] (λ_:Unit=>(bC [.rep Tl r.1,.eq (.bool r.2)],[])):=by
 unfold jV at h
 replace h:=aX h
 refine cT.of 66 Tryz.func81 rfl Tryz.ntmps81 rfl λS w0=>?_
 refine sr ?_
 refine bx λb1=>?_
 refine cq ?_
 refine cq ?_
 refine nt ?_
 refine cS (Z:=Unit) (α:=Unit) (λz3 x2=>[]) (λz3 x2=>[]) (λe=>e=r) h (λe h=>Option.some.inj h) (λK hR h=>?_) (λz3 x2 h=>?_)
 .
  refine sr (cq (nt (ah ?_)));refine aC (λz5 y4=>[(1,I a1),(2,I a2),(3,Pt b1),(8,I y4)]) (λz5 y4=>[.obj b1 25 (.rep am a0)]) (eG k a0 a1 a2) k () 0 (λ_=>rfl) h (SE.fin [0] ⟨rfl,rfl,rfl,rfl,trivial⟩ rfl) (λn z5 y4 h=>?_);unfold eG at h;refine aj (sr (mq ?_));refine fl cj ?_;refine lo fB ?_;refine mq ?_;obtain⟨x6,Wg,h⟩:=aa h;refine jb (aD (t:=(.slice Tl)) rfl pJ kE Wg) ?_;refine ja (ao (t:=(.slice Tl)) rfl kE rfl) ?_;refine ol nK ?_;refine jb (bj rfl) ?_;refine nt (ci h (λh=>?_) (λh=>?_))
  .refine sk (cS (Z:=Unit) (α:=Unit) (λz8 x7=>[(1,I a1),(2,I a2),(3,Pt b1),(8,I y4)]) (λz8 x7=>[.obj b1 25 (.rep am a0)]) (λe=>e=r) h (λe h=>hR e h) (λK hR h=>?_) (λz8 x7 h=>?_))
   .refine ah (sr (fl cj ?_));refine lo fB ?_;refine mq ?_;obtain⟨x9,We,h⟩:=aa h;refine jb (aD (t:=(.slice Tl)) rfl pJ kE We) ?_;refine ja (ao (t:=(.slice Tl)) rfl kE rfl) ?_;refine mq ?_;obtain⟨y,mc,h⟩:=aa h;refine jb (aD (t:=Tl) rfl nK eT mc) ?_;refine ja (ao (t:=Tl) rfl eT rfl) ?_;refine aq (nt (sr ?_));refine cq (nt (ah ?_));refine aC (λD s=>[(1,I a1),(2,I a2),(3,Pt b1),(8,I y4),(9,.rep Tl y),(10,I s)]) (λD s=>[.obj b1 25 (.rep am a0)]) (dW k a2 y) k () 0 (λ_=>rfl) h (SE.fin [0] ⟨rfl,rfl,rfl,rfl,rfl,rfl,trivial⟩ rfl) (λn D s h=>?_);unfold dW at h;refine aj (sr ?_);iterate 2 refine mq ?_
    refine ol gA ?_;refine jb (bj rfl) ?_;refine nt (ci h (λh=>?_) (λh=>?_))
    .refine sk (aj (ah (aj (sr ?_))));iterate 2 refine mq ?_
     obtain⟨Wm,gw,h⟩:=aa h;refine jb (aD (t:=Ti) rfl gA bQ gw) ?_;refine ja (ao (t:=Ti) rfl bQ rfl) ?_;refine mq ?_;refine jb (d5 rfl) ?_;refine nt (cn h (λh=>?_) (λh=>?_))
     .refine fA (bJ (cZ (tn (ae (mq ?_)))));obtain⟨Wa,Y,h⟩:=aa h;refine jb (be rfl Y) ?_;refine aq (nl ?_);exact jz ((),Wa) h [0]
     .refine sk (sr (cq (nt ?_)));refine aE (Z:=Value) (α:=(List Int)) (λc j=>[(9,.rep Tl y),(10,I s),(11,.eq c)]) (λc j=>[.sl c 3 Ti j]) h (λK h=>?_) (λc j h=>?_)
      .refine sr (mq ?_);refine jb (jm rfl) ?_;refine nt (ci h (λh=>?_) (λh=>?_))
       .refine ae ?_;iterate 3 refine mq ?_
        obtain⟨Wj,X,h⟩:=aa h;refine jb (eo rfl X) ?_;obtain⟨F,U,h⟩:=aa h;refine jb (aD (t:=Ti) rfl gA bQ U) ?_;refine ja (ao (t:=Ti) rfl bQ rfl) ?_;refine ja (aV (t:=Ti) [(.tmp 49,_)] [F] rfl rfl cV (.cons rfl .int .nil) rfl rfl) ?_;refine eD (SE.nil 3 Ti) ?_;obtain⟨Wp,qt,h⟩:=aa h;refine cR rfl rfl rfl (bp rfl rfl cV (ap qt)) ⟨rfl,rfl,trivial⟩ λWc=>?_;refine aq (nl ?_);exact jz (Wc,([]:(List Int))++[F]) h [0]
       .refine aZ (av (bK (SE.nil 3 Ti) ?_));exact jz ((.slice none 0 0),([]:(List Int))) h [0]
      .refine aE (Z:=Value) (α:=(List Int)) (λl u=>[(11,.eq l)]) (λl u=>[.sl l 3 Ti u]) h (λK h=>?_) (λl u h=>?_)
       .refine sr (mq ?_);obtain⟨Wi,Q,h⟩:=aa h;refine jb (be rfl Q) ?_;refine mq ?_;refine ol gA ?_;refine jb (bj rfl) ?_;refine nt (ci h (λh=>?_) (λh=>?_))
        .refine ae ?_;iterate 3 refine mq ?_
         obtain⟨Wh,O,h⟩:=aa h;refine jb (be rfl O) ?_;obtain⟨E,M,h⟩:=aa h;refine jb (aD (t:=Ti) rfl gA bQ M) ?_;refine ja (ao (t:=Ti) rfl bQ rfl) ?_;refine ja (aV (t:=Ti) [(.tmp 62,_)] [E] rfl rfl cV (.cons rfl .int .nil) rfl rfl) ?_;obtain⟨Wn,mw,h⟩:=aa h;refine cR rfl rfl rfl (bp rfl rfl cV (ap mw)) ⟨rfl,rfl,trivial⟩ λWb=>?_;refine aq (nl ?_);exact jz (Wb,j++[E]) h [0]
        .refine aZ (av ?_);exact jz (c,j) h [0]
       .refine sr (mq ?_);refine aq ?_;refine cq (nt (aA (br (bb (br (bb (bg ?_)))))));refine bK (gy [6,11,65] ⟨rfl,rfl,rfl,trivial⟩) ?_;obtain rfl:=hR _ h;exact rb
    .refine fA (bJ (bJ (cZ (bn ?_))));exact jz ((),()) h [0]
   .refine ae (mq ?_);obtain⟨zz,J,h⟩:=aa h;refine jb (be rfl J) ?_;refine aq (nl ?_);exact jz ((),zz) h [0]
  .refine xa ?_;exact jz ((),()) h []
 .
  refine sr (cq ?_);refine cq (nt (aA ?_));refine bK (eB (t:=Tl) (x:=([]:(List Int))) 6 rfl .nil rfl rfl) ?_;cases h;exact rb
def fe(k:Nat)(a0:ab)(a2:Int):Nat->(Int×Int)->Option (Except Int Int)
 |0,_=>none
 |n+1,y4=>
  if 0≤y4.2 then((jV k a0 y4.2 a2).bind λr6=>
  if r6.2=true then(some (.error y4.1)) else((ck (y4.1+1)).bind λx7=>
  (ck (y4.2 - 1)).bind λx8=>
  fe k a0 a2 n (x7,x8))) else(some (.ok y4.1))
def o7(k:Nat)(a0:ab)(a1:Int)(a2:Int):Option Int:=
 bE (α:=Int) (fe k a0 a2 k (0,a1)) (some) λx2=>
 some x2
theorem Aq(k:Nat)(a0:ab)(a1:Int)(a2:Int)(r:Int)(h:o7 k a0 a1 a2=some r):
 cT Tryz.prog 116 [.rep am a0,I a1,I a2] [] (λ_:Unit=>(bC [I r],[])):=by
 unfold o7 at h
 replace h:=aX h
 refine cT.of 28 Tryz.func116 rfl Tryz.ntmps116 rfl λS w0=>?_
 refine sr ?_
 refine bx λb1=>?_
 refine cq ?_
 refine nt ?_
 refine sr ?_
 refine cq ?_
 refine nt ?_
 refine cS (Z:=Unit) (α:=Int) (λz3 x2=>[(7,I x2)]) (λz3 x2=>[]) (λe=>e=r) h (λe h=>Option.some.inj h) (λK hR h=>?_) (λz3 x2 h=>?_)
 .
  refine sr (mq ?_);refine aq (nt (ah ?_));refine aC (λz5 y4=>[(2,I a2),(3,Pt b1),(7,I y4.1),(8,I y4.2)]) (λz5 y4=>[.obj b1 25 (.rep am a0)]) (fe k a0 a2) k () (0,a1) (λ_=>rfl) h (SE.fin [0] ⟨rfl,rfl,rfl,rfl,trivial⟩ rfl) (λn z5 y4 h=>?_);unfold fe at h;refine aj (sr (mq ?_));refine jb (iI rfl) ?_;refine nt (ci h (λh=>?_) (λh=>?_))
  .refine sk (aj (ah (aj (sr (lo dF ?_)))));iterate 2 refine mq ?_
   obtain⟨r6,l,h⟩:=aa h;refine jc (ax [.tmp 17,.tmp 18,.tmp 19] rfl rfl SC rfl (qy k a0 y4.2 a2 r6 l)) ?_;refine mq ?_;refine xr ?_;refine xr ?_;refine aq ?_;refine aq (nt (sr ?_));refine mq (nt ?_);refine cv h (λh=>?_) (λh=>?_)
   .refine sr (mq ?_);refine aq (nt (rx (br (bb (bg ?_)))));obtain rfl:=hR _ h;exact ra
   .refine sk (ae (mq ?_));obtain⟨x7,j,h⟩:=aa h;refine jb (be rfl j) ?_;refine aq (aF (aI (tn (ae ?_))));refine mq ?_;obtain⟨x8,c,h⟩:=aa h;refine jb (eo rfl c) ?_;refine aq (nl ?_);exact jz ((),(x7,x8)) h [0]
  .refine xa ?_;exact jz ((),y4.1) h []
 .
  refine sr (mq ?_);refine aq (nt (aA ?_));cases h;exact ra
def fa(k:Nat)(a0:ab)(a2:(List Int))(r8:(List Int)×Bool):Nat->(Int×Int)->Option Int
 |0,_=>none
 |n+1,c=>
  if c.2 < (r8.1.length:Int) then((((aG r8.1 c.2).bind λj=>
  (aG a2 j).bind λh=>
  if a0.2.1≤h then(some 0) else(some c.1)):Option (Int)).bind λl=>
  (ck (c.2+1)).bind λe=>
  fa k a0 a2 r8 n (l,e)) else(some c.1)
def fW(k:Nat)(a0:ab)(a1:Int)(a2:(List Int)):Nat->((List Int)×Int)->Option (List Int)
 |0,_=>none
 |n+1,y4=>
  if y4.2 < a0.1 then((((jV k a0 a1 y4.2).bind λr8=>
  ((if¬(r8.2=true) then((o7 k a0 a1 y4.2).bind λs=>
  some (decide (a0.2.2.2.1≤s))) else(some false)):Option (Bool)).bind λx9=>
  if x9=true then((bS (bi (length y4.1+length [(-1:Int)]))).bind λ_=>
  some (y4.1++[(-1:Int)])) else(if¬(r8.2=true) then((aG a2 y4.2).bind λh=>
  (bS (bi (length y4.1+length [h]))).bind λ_=>
  some (y4.1++[h])) else((aG a2 y4.2).bind λr=>
  if 0≤r then((aG a2 y4.2).bind λl=>
  (ck (l+1)).bind λe=>
  (bS (bi (length y4.1+length [e]))).bind λ_=>
  some (y4.1++[e])) else(((fa k a0 a2 r8 k ((-1:Int),0)):Option (Int)).bind λc=>
  (bS (bi (length y4.1+length [c]))).bind λ_=>
  some (y4.1++[c]))))):Option ((List Int))).bind λx6=>
  (ck (y4.2+1)).bind λj=>
  fW k a0 a1 a2 n (x6,j)) else(some y4.1)
def o5(k:Nat)(a0:ab)(a1:Int)(a2:(List Int)):Option (List Int):=
 ((fW k a0 a1 a2 k (([]:(List Int)),0)):Option ((List Int))).bind λx2=>
 some x2
theorem Ap(k:Nat)(a0:ab)(a1:Int)(a2:(List Int))(r:(List Int))(h:o5 k a0 a1 a2=some r):
 cT Tryz.prog 96 [.rep am a0,I a1,.rep Tl a2] [] (λ_:Unit=>(bC [.rep Tl r],[])):=by
 unfold o5 at h
 replace h:=aX h
 refine cT.of 86 Tryz.func96 rfl Tryz.ntmps96 rfl λS w0=>?_
 refine sr ?_
 refine bx λb1=>?_
 refine cq ?_
 refine nt ?_
 refine sr ?_
 refine cq ?_
 refine nt ?_
 refine aE (Z:=Value) (α:=(List Int)) (λz3 x2=>[(7,.eq z3)]) (λz3 x2=>[.sl z3 3 Ti x2]) h (λK h=>?_) (λz3 x2 h=>?_)
 .
  refine sr (cq (nt (ah ?_)));refine hP (SE.nil 3 Ti) ?_;refine aC (λz5 y4=>[(1,I a1),(2,.rep Tl a2),(3,Pt b1),(7,.eq z5),(8,I y4.2)]) (λz5 y4=>[.obj b1 25 (.rep am a0),.sl z5 3 Ti y4.1]) (fW k a0 a1 a2) k (.slice none 0 0) (([]:(List Int)),0) (λ_=>rfl) h (SE.fin [1,0] ⟨rfl,rfl,rfl,rfl,rfl,trivial⟩ rfl) (λn z5 y4 h=>?_);unfold fW at h;refine aj (sr (mq ?_));refine fl eU ?_;refine lo bQ ?_;refine jb (bj rfl) ?_;refine nt (ci h (λh=>?_) (λh=>?_))
  .refine sk (aE (Z:=Value) (α:=(List Int)) (λz7 x6=>[(1,I a1),(2,.rep Tl a2),(3,Pt b1),(7,.eq z7),(8,I y4.2)]) (λz7 x6=>[.obj b1 25 (.rep am a0),.sl z7 3 Ti x6]) h (λK h=>?_) (λz7 x6 h=>?_))
   .refine ah (sr (lo dF ?_));iterate 2 refine mq ?_
    obtain⟨r8,Wi,h⟩:=aa h;refine jc (ax [.tmp 20,.tmp 21,.tmp 22] rfl rfl SC rfl (qy k a0 a1 y4.2 r8 Wi)) ?_;refine mq ?_;refine xr ?_;refine xr ?_;refine aq ?_;refine aq (nt (ah ?_));refine aE (Z:=Unit) (α:=Bool) (λx x9=>[(1,I a1),(2,.rep Tl a2),(3,Pt b1),(7,.eq z5),(8,I y4.2),(9,.rep Tl r8.1),(10,.eq (.bool r8.2)),(46,.eq (.bool x9))]) (λx x9=>[.obj b1 25 (.rep am a0),.sl z5 3 Ti y4.1]) h (λK h=>?_) (λx x9 h=>?_)
    .refine bz ?_;refine dm ?_;refine da (fh rfl) ?_;refine mX rfl rfl rfl (aY rfl) ⟨rfl,trivial⟩ (λhb=>?_) (λhb=>?_)
     .replace h:=ee (um hb) h;refine ia 0 rfl rfl rfl rfl rfl rfl (an rfl dF (oL) rfl) ⟨rfl,rfl,trivial⟩ ?_;refine bB rfl rfl rfl rfl rfl (aY rfl) ⟨rfl,rfl,trivial⟩ ?_;refine bB rfl rfl rfl rfl rfl (aY rfl) ⟨rfl,rfl,trivial⟩ ?_;obtain⟨E,zz,h⟩:=aa h;refine bB rfl rfl rfl rfl rfl (ax [.tmp 50,.tmp 51,.tmp 52] rfl rfl S9 rfl (Aq k a0 a1 y4.2 E zz)) ⟨rfl,rfl,rfl,rfl,trivial⟩ ?_;refine bB rfl rfl rfl rfl rfl (au rfl tH) ⟨rfl,rfl,trivial⟩ ?_;refine ia 0 rfl rfl rfl rfl rfl rfl (an rfl bQ ju rfl) ⟨rfl,rfl,trivial⟩ ?_;refine df cQ ?_;refine gb (iI rfl) ?_;refine pt ?_;refine aq (nl ?_);exact jz ((),decide (a0.2.2.2.1≤E)) h [0,1]
     .replace h:=cK (ox hb) h;iterate 6 refine dg ?_
      refine df cQ ?_;refine gn ?_;refine pf ?_;refine aq (nl ?_);exact jz ((),false) h [0,1]
    .refine cv h (λh=>?_) (λh=>?_)
     .refine ae (mq ?_);refine ja (aV (t:=Ti) [(.const (.int .i64 (-1)),_)] [(-1:Int)] rfl rfl cV (.cons rfl .int .nil) rfl rfl) ?_;obtain⟨Wu,qt,h⟩:=aa h;refine fr 1 ?_;refine cR rfl rfl rfl (bp rfl rfl cV (ap qt)) ⟨rfl,rfl,trivial⟩ λWh=>?_;refine aq (aF (aI (bn ?_)));exact jz (Wh,y4.1++[(-1:Int)]) h [1,0]
     .refine sr (mq ?_);refine ja (fh rfl) ?_;refine aq (nt ?_);refine cw h (λh=>?_) (λh=>?_)
      .refine ae ?_;iterate 3 refine mq ?_
       obtain⟨D,Y,h⟩:=aa h;refine jb (aD (t:=Ti) rfl gA bQ Y) ?_;refine ja (ao (t:=Ti) rfl bQ rfl) ?_;refine ja (aV (t:=Ti) [(.tmp 68,_)] [D] rfl rfl cV (.cons rfl .int .nil) rfl rfl) ?_;obtain⟨Wt,mw,h⟩:=aa h;refine fr 1 ?_;refine cR rfl rfl rfl (bp rfl rfl cV (ap mw)) ⟨rfl,rfl,trivial⟩ λWg=>?_;refine aq (aF (aI (bn ?_)));exact jz (Wg,y4.1++[D]) h [1,0]
      .refine sr ?_;iterate 2 refine mq ?_
       obtain⟨Wp,X,h⟩:=aa h;refine jb (aD (t:=Ti) rfl gA bQ X) ?_;refine ja (ao (t:=Ti) rfl bQ rfl) ?_;refine jb (iI rfl) ?_;refine aq (nt ?_);refine ci h (λh=>?_) (λh=>?_)
       .refine ae ?_;iterate 3 refine mq ?_
        obtain⟨Wn,U,h⟩:=aa h;refine jb (aD (t:=Ti) rfl gA bQ U) ?_;refine ja (ao (t:=Ti) rfl bQ rfl) ?_;obtain⟨y,Q,h⟩:=aa h;refine jb (be rfl Q) ?_;refine ja (aV (t:=Ti) [(.tmp 82,_)] [y] rfl rfl cV (.cons rfl .int .nil) rfl rfl) ?_;obtain⟨Ws,mc,h⟩:=aa h;refine fr 1 ?_;refine cR rfl rfl rfl (bp rfl rfl cV (ap mc)) ⟨rfl,rfl,trivial⟩ λWe=>?_;refine aq (aF (aI (bn ?_)));exact jz (We,y4.1++[y]) h [1,0]
       .refine sr (cq (nt ?_));refine aE (Z:=Unit) (α:=Int) (λu e=>[(1,I a1),(2,.rep Tl a2),(3,Pt b1),(7,.eq z5),(8,I y4.2),(11,I e)]) (λu e=>[.obj b1 25 (.rep am a0),.sl z5 3 Ti y4.1]) h (λK h=>?_) (λu e h=>?_)
        .refine sr (cq (nt (ah ?_)));refine aC (λs c=>[(1,I a1),(2,.rep Tl a2),(3,Pt b1),(7,.eq z5),(8,I y4.2),(9,.rep Tl r8.1),(11,I c.1),(12,I c.2)]) (λs c=>[.obj b1 25 (.rep am a0),.sl z5 3 Ti y4.1]) (fa k a0 a2 r8) k () ((-1:Int),0) (λ_=>rfl) h (SE.fin [0,1] ⟨rfl,rfl,rfl,rfl,rfl,rfl,rfl,rfl,trivial⟩ rfl) (λn s c h=>?_);unfold fa at h;refine aj (sr ?_);iterate 2 refine mq ?_
         refine ol gA ?_;refine jb (bj rfl) ?_;refine nt (ci h (λh=>?_) (λh=>?_))
         .refine sk (aE (Z:=Unit) (α:=Int) (λl j=>[(1,I a1),(2,.rep Tl a2),(3,Pt b1),(7,.eq z5),(8,I y4.2),(9,.rep Tl r8.1),(11,I j),(12,I c.2)]) (λl j=>[.obj b1 25 (.rep am a0),.sl z5 3 Ti y4.1]) h (λK h=>?_) (λl j h=>?_))
          .refine ah (aj (bz ?_));refine dm ?_;refine dm ?_;refine dm ?_;obtain⟨Wm,O,h⟩:=aa h;refine db (aD (t:=Ti) rfl gA bQ O) ?_;refine da (ao (t:=Ti) rfl bQ rfl) ?_;obtain⟨Wj,M,h⟩:=aa h;refine db (aD (t:=Ti) rfl gA bQ M) ?_;refine da (ao (t:=Ti) rfl bQ rfl) ?_;refine da (au rfl pD) ?_;refine ea 0 (an rfl bQ ju rfl) ?_;refine df cQ ?_;refine jb (iI rfl) ?_;refine nt (ci h (λh=>?_) (λh=>?_))
           .refine ae (cq (aF (bn ?_)));exact jz ((),0) h [0,1]
           .refine aZ (bn ?_);exact jz ((),c.1) h [0,1]
          .refine ae (mq ?_);obtain⟨Wb,J,h⟩:=aa h;refine jb (be rfl J) ?_;refine aq (nl ?_);exact jz ((),(j,Wb)) h [0,1]
         .refine xa ?_;exact jz ((),c.1) h [0,1]
        .refine ae ?_;iterate 2 refine mq ?_
         refine ja (aV (t:=Ti) [(.tmp 43,_)] [e] rfl rfl cV (.cons rfl .int .nil) rfl rfl) ?_;obtain⟨Wq,gw,h⟩:=aa h;refine fr 1 ?_;refine cR rfl rfl rfl (bp rfl rfl cV (ap gw)) ⟨rfl,rfl,trivial⟩ λWc=>?_;refine aq (aF (aI (bn ?_)));exact jz (Wc,y4.1++[e]) h [1,0]
   .refine ae (mq ?_);obtain⟨Wa,F,h⟩:=aa h;refine jb (be rfl F) ?_;refine aq (nl ?_);exact jz (z7,(x6,Wa)) h [0,1]
  .refine xa ?_;exact jz (z5,y4.1) h [1]
 .
  refine sr (mq ?_);refine aq (nt (aA ?_));refine bK (gy [6,7,85] ⟨rfl,rfl,rfl,trivial⟩) ?_;cases h;exact ra
def fZ(k:Nat)(a0:ab)(a1:(List Int)):Nat->((List Int)×Int)->Option (List Int)
 |0,_=>none
 |n+1,y4=>
  if y4.2 < a0.1 then((((nS k a1 y4.2).bind λr8=>
  if r8=true then((bS (bi (length y4.1+length [a0.2.1]))).bind λ_=>
  some (y4.1++[a0.2.1])) else((bS (bi (length y4.1+length [(-1:Int)]))).bind λ_=>
  some (y4.1++[(-1:Int)]))):Option ((List Int))).bind λx6=>
  (ck (y4.2+1)).bind λc=>
  fZ k a0 a1 n (x6,c)) else(some y4.1)
def fY(k:Nat)(a0:ab):Nat->((List (List Int))×Int)->Option (List (List Int))
 |0,_=>none
 |n+1,c=>
  if c.2 < (a0.2.2.2.2.1.length:Int) then((aG c.1 c.2).bind λj=>
  (o5 k a0 c.2 j).bind λe=>
  (bS (bi (length c.1+length [e]))).bind λ_=>
  (ck (c.2+1)).bind λh=>
  fY k a0 n (c.1++[e],h)) else(some c.1)
def lZ(k:Nat)(a0:ab)(a1:(List Int)):Option (List (List Int)):=
 ((fZ k a0 a1 k (([]:(List Int)),0)):Option ((List Int))).bind λx2=>
 ((fY k a0 k ([x2],0)):Option ((List (List Int)))).bind λc=>
 some c
theorem t3(k:Nat)(a0:ab)(a1:(List Int))(r:(List (List Int)))(h:lZ k a0 a1=some r):
 cT Tryz.prog 52 [.rep am a0,.rep Tl a1] [] (λ_:Unit=>(bC [.rep (.slice Tl) r],[])):=by
 unfold lZ at h
 replace h:=aX h
 refine cT.of 46 Tryz.func52 rfl Tryz.ntmps52 rfl λS w0=>?_
 refine sr ?_
 refine bx λb1=>?_
 refine cq ?_
 refine nt ?_
 refine sr ?_
 refine cq ?_
 refine nt ?_
 refine aE (Z:=Value) (α:=(List Int)) (λz3 x2=>[(2,Pt b1),(5,.eq z3)]) (λz3 x2=>[.obj b1 25 (.rep am a0),.sl z3 3 Ti x2]) h (λK h=>?_) (λz3 x2 h=>?_)
 .
  refine sr (cq (nt (ah ?_)));refine hP (SE.nil 3 Ti) ?_;refine aC (λz5 y4=>[(1,.rep Tl a1),(2,Pt b1),(5,.eq z5),(6,I y4.2)]) (λz5 y4=>[.obj b1 25 (.rep am a0),.sl z5 3 Ti y4.1]) (fZ k a0 a1) k (.slice none 0 0) (([]:(List Int)),0) (λ_=>rfl) h (SE.fin [1,0] ⟨rfl,rfl,rfl,rfl,trivial⟩ rfl) (λn z5 y4 h=>?_);unfold fZ at h;refine aj (sr (mq ?_));refine fl eU ?_;refine lo bQ ?_;refine jb (bj rfl) ?_;refine nt (ci h (λh=>?_) (λh=>?_))
  .refine sk (aE (Z:=Value) (α:=(List Int)) (λz7 x6=>[(1,.rep Tl a1),(2,Pt b1),(5,.eq z7),(6,I y4.2)]) (λz7 x6=>[.obj b1 25 (.rep am a0),.sl z7 3 Ti x6]) h (λK h=>?_) (λz7 x6 h=>?_))
   .refine ah (sr ?_);iterate 2 refine mq ?_
    obtain⟨r8,mc,h⟩:=aa h;refine jb (ax [.tmp 15,.tmp 16] rfl rfl P6 rfl (qL k a1 y4.2 r8 mc)) ?_;refine nt (cv h (λh=>?_) (λh=>?_))
    .refine ae (mq ?_);refine fl pD ?_;refine lo bQ ?_;refine ja (aV (t:=Ti) [(.tmp 20,_)] [a0.2.1] rfl rfl cV (.cons rfl .int .nil) rfl rfl) ?_;obtain⟨u9,gw,h⟩:=aa h;refine fr 1 ?_;refine cR rfl rfl rfl (bp rfl rfl cV (ap gw)) ⟨rfl,rfl,trivial⟩ λY=>?_;refine aq (aF (bn ?_));exact jz (Y,y4.1++[a0.2.1]) h [1,0]
    .refine ae (mq ?_);refine ja (aV (t:=Ti) [(.const (.int .i64 (-1)),_)] [(-1:Int)] rfl rfl cV (.cons rfl .int .nil) rfl rfl) ?_;obtain⟨qt,E,h⟩:=aa h;refine fr 1 ?_;refine cR rfl rfl rfl (bp rfl rfl cV (ap E)) ⟨rfl,rfl,trivial⟩ λX=>?_;refine aq (aF (bn ?_));exact jz (X,y4.1++[(-1:Int)]) h [1,0]
   .refine ae (mq ?_);obtain⟨O,y,h⟩:=aa h;refine jb (be rfl y) ?_;refine aq (nl ?_);exact jz (z7,(x6,O)) h [0,1]
  .refine xa ?_;exact jz (z5,y4.1) h [0,1]
 .
  refine sr (mq ?_);refine fr 1 ?_;refine eD (gy [5,26] ⟨rfl,rfl,trivial⟩) ?_;refine aW rfl rfl rfl (im (t:=Tl) [(.tmp 26,_)] [x2] rfl rfl lT (.cons rfl .rep .nil) rfl rfl) ⟨rfl,trivial⟩ λU=>?_;refine aq (nt ?_);refine aE (Z:=Value) (α:=(List (List Int))) (λj s=>[(7,.eq j)]) (λj s=>[.sl j 28 Tl s]) h (λK h=>?_) (λj s h=>?_)
  .refine sr (cq (nt (ah ?_)));refine aC (λe c=>[(2,Pt b1),(7,.eq e),(8,I c.2)]) (λe c=>[.obj b1 25 (.rep am a0),.sl e 28 Tl c.1]) (fY k a0) k U ([x2],0) (λ_=>rfl) h (SE.fin [1,0] ⟨rfl,rfl,rfl,trivial⟩ rfl) (λn e c h=>?_);unfold fY at h;refine aj (sr (mq ?_));refine fl cj ?_;refine lo fB ?_;refine ol pJ ?_;refine jb (bj rfl) ?_;refine nt (ci h (λh=>?_) (λh=>?_))
   .refine sk (aj (ah (bz ?_)));refine dm ?_;refine ea 0 (an rfl dF (oL) rfl) ?_;refine dm ?_;refine dm ?_;refine dm ?_;obtain⟨M,l,h⟩:=aa h;refine eb 1 (cI (t:=Tl) rfl nK eT l) ?_;refine ea 1 (gU (i:=Int.toNat c.2) (off:=0) rfl eT (λ_=>rfl) rfl (dJ l).2.2 rfl) ?_;obtain⟨u,F,h⟩:=aa h;refine dc (ax [.tmp 36,.tmp 37,.tmp 41] rfl rfl US rfl (Ap k a0 c.2 M u F)) ?_;refine da (aV (t:=Tl) [(.tmp 42,_)] [u] rfl rfl lT (.cons rfl .rep .nil) rfl rfl) ?_;refine df cQ ?_;obtain⟨mw,D,h⟩:=aa h;refine fr 1 ?_;refine cR rfl rfl rfl (bp rfl rfl lT (ap D)) ⟨rfl,rfl,trivial⟩ λQ=>?_;refine aq (aF (aI (tn (ae ?_))));refine mq ?_;obtain⟨J,x,h⟩:=aa h;refine jb (be rfl x) ?_;refine aq (nl ?_);exact jz (Q,(c.1++[u],J)) h [1,0]
   .refine xa ?_;exact jz (e,c.1) h [1]
  .refine sr (mq ?_);refine aq (nt (aA ?_));refine bK (gy [4,7,45] ⟨rfl,rfl,rfl,trivial⟩) ?_;cases h;exact ra
def dB(k:Nat)(a0:ab)(a1:ab):Nat->Int->Option (Except Bool Unit)
 |0,_=>none
 |n+1,y7=>
  if y7 < (a0.2.2.2.2.1.length:Int) then((aG a0.2.2.2.2.1 y7).bind λx9=>
  (aG a1.2.2.2.2.1 y7).bind λe=>
  (fE k x9 e).bind λh=>
  if¬(h=true) then(some (.error false)) else((ck (y7+1)).bind λc=>
  dB k a0 a1 n c)) else(some (.ok ()))
def dA(k:Nat)(a0:ab)(a1:ab):Nat->Int->Option (Except Bool Unit)
 |0,_=>none
 |n+1,c=>
  if c < (a0.2.2.2.2.2.length:Int) then((aG a0.2.2.2.2.2 c).bind λj=>
  (aG a1.2.2.2.2.2 c).bind λh=>
  if¬(j=h) then(some (.error false)) else((ck (c+1)).bind λe=>
  dA k a0 a1 n e)) else(some (.ok ()))
def iQ(k:Nat)(a0:ab)(a1:ab):Option Bool:=
 ((if¬(a0.1=a1.1) then(some true) else(if¬(a0.2.1=a1.2.1) then(some true) else(if¬(a0.2.2.1=a1.2.2.1) then(some true) else(if¬(a0.2.2.2.1=a1.2.2.2.1) then(some true) else(if¬((a0.2.2.2.2.1.length:Int)=(a1.2.2.2.2.1.length:Int)) then(some true) else(some (!decide ((a0.2.2.2.2.2.length:Int)=(a1.2.2.2.2.2.length:Int))))))))):Option (Bool)).bind λx3=>
 if x3=true then(some false) else(bE (α:=Unit) (dB k a0 a1 k 0) (some) λ_=>
 bE (α:=Unit) (dA k a0 a1 k 0) (some) λ_=>
 some true)
theorem tu(k:Nat)(a0:ab)(a1:ab)(r:Bool)(h:iQ k a0 a1=some r):
 cT Tryz.prog 22 [.rep am a0,.rep am a1] [] (λ_:Unit=>(bC [.eq (.bool r)],[])):=by
 unfold iQ at h
 replace h:=aX h
 refine cT.of 88 Tryz.func22 rfl Tryz.ntmps22 rfl λS w0=>?_
 refine sr ?_
 refine bx λb1=>?_
 refine bx λb2=>?_
 refine cq ?_
 refine nt ?_
 refine aj ?_
 refine aE (Z:=Unit) (α:=Bool) (λz4 x3=>[(2,Pt b1),(3,Pt b2),(50,.eq (.bool x3))]) (λz4 x3=>[.obj b1 25 (.rep am a0),.obj b2 25 (.rep am a1)]) h (λK h=>?_) (λz4 x3 h=>?_)
 .
  refine ae (fl eU ?_);refine fr 1 ?_;refine lo bQ ?_;refine fl eU ?_;refine fr 1 ?_;refine lo bQ ?_;refine jb (d5 rfl) ?_;refine mq ?_;refine cf (s:=12) rfl (λhb=>?_) (λhb=>?_)
  .replace h:=ee (LL hb) h;iterate 5 refine gn ?_
   refine pt ?_;refine mq ?_;iterate 5 refine gn ?_
   refine pt ?_;refine mq ?_;iterate 5 refine gn ?_
   refine pt ?_;refine mq ?_;iterate 7 refine gn ?_
   refine pt ?_;refine mq ?_;iterate 7 refine gn ?_
   refine pt (nl ?_);exact jz ((),true) h [1,0]
  .replace h:=cK (yP hb) h;refine ga (au rfl pD) ?_;refine fr 1 ?_;refine eP rfl rfl rfl rfl rfl rfl (an rfl bQ ju rfl) ⟨rfl,trivial⟩ ?_;refine ga (au rfl pD) ?_;refine fr 1 ?_;refine eP rfl rfl rfl rfl rfl rfl (an rfl bQ ju rfl) ⟨rfl,trivial⟩ ?_;refine gb (d5 rfl) ?_;refine pf ?_;refine mq ?_;refine cf (s:=19) rfl (λhb=>?_) (λhb=>?_)
   .replace h:=ee (LL hb) h;iterate 5 refine gn ?_
    refine pt ?_;refine mq ?_;iterate 5 refine gn ?_
    refine pt ?_;refine mq ?_;iterate 7 refine gn ?_
    refine pt ?_;refine mq ?_;iterate 7 refine gn ?_
    refine pt (nl ?_);exact jz ((),true) h [1,0]
   .replace h:=cK (yP hb) h;refine ga (au rfl pC) ?_;refine fr 1 ?_;refine eP rfl rfl rfl rfl rfl rfl (an rfl bQ ju rfl) ⟨rfl,trivial⟩ ?_;refine ga (au rfl pC) ?_;refine fr 1 ?_;refine eP rfl rfl rfl rfl rfl rfl (an rfl bQ ju rfl) ⟨rfl,trivial⟩ ?_;refine gb (d5 rfl) ?_;refine pf ?_;refine mq ?_;refine cf (s:=26) rfl (λhb=>?_) (λhb=>?_)
    .replace h:=ee (LL hb) h;iterate 5 refine gn ?_
     refine pt ?_;refine mq ?_;iterate 7 refine gn ?_
     refine pt ?_;refine mq ?_;iterate 7 refine gn ?_
     refine pt (nl ?_);exact jz ((),true) h [1,0]
    .replace h:=cK (yP hb) h;refine ga (au rfl tH) ?_;refine fr 1 ?_;refine eP rfl rfl rfl rfl rfl rfl (an rfl bQ ju rfl) ⟨rfl,trivial⟩ ?_;refine ga (au rfl tH) ?_;refine fr 1 ?_;refine eP rfl rfl rfl rfl rfl rfl (an rfl bQ ju rfl) ⟨rfl,trivial⟩ ?_;refine gb (d5 rfl) ?_;refine pf ?_;refine mq ?_;refine cf (s:=33) rfl (λhb=>?_) (λhb=>?_)
     .replace h:=ee (LL hb) h;iterate 7 refine gn ?_
      refine pt ?_;refine mq ?_;iterate 7 refine gn ?_
      refine pt (nl ?_);exact jz ((),true) h [1,0]
     .replace h:=cK (yP hb) h;refine ga (au rfl cj) ?_;refine fr 1 ?_;refine eP rfl rfl rfl rfl rfl rfl (an rfl fB ju rfl) ⟨rfl,trivial⟩ ?_;refine ga (pi rfl rfl pJ) ?_;refine ga (au rfl cj) ?_;refine fr 1 ?_;refine eP rfl rfl rfl rfl rfl rfl (an rfl fB ju rfl) ⟨rfl,trivial⟩ ?_;refine ga (pi rfl rfl pJ) ?_;refine gb (d5 rfl) ?_;refine pf ?_;refine mq ?_;refine cf (s:=42) rfl (λhb=>?_) (λhb=>?_)
      .replace h:=ee (LL hb) h;iterate 7 refine gn ?_
       refine pt (nl ?_);exact jz ((),true) h [1,0]
      .replace h:=cK (yP hb) h;refine ga (au rfl fR) ?_;refine fr 1 ?_;refine eP rfl rfl rfl rfl rfl rfl (an rfl nm ju rfl) ⟨rfl,trivial⟩ ?_;refine ga (pi rfl rfl Cf) ?_;refine ga (au rfl fR) ?_;refine fr 1 ?_;refine eP rfl rfl rfl rfl rfl rfl (an rfl nm ju rfl) ⟨rfl,trivial⟩ ?_;refine ga (pi rfl rfl Cf) ?_;refine gb (d5 rfl) ?_;refine pf (nl ?_);exact jz ((), !decide ((a0.2.2.2.2.2.length:Int)=(a1.2.2.2.2.2.length:Int))) h [1,0]
 .
  refine cv h (λh=>?_) (λh=>?_)
  .refine sr (cq (nt (rx ?_)));cases h;exact ra
  .refine sk (cS (Z:=Unit) (α:=Unit) (λz6 x5=>[(2,Pt b1),(3,Pt b2)]) (λz6 x5=>[.obj b1 25 (.rep am a0),.obj b2 25 (.rep am a1)]) (λe=>e=r) h (λe h=>Option.some.inj h) (λK hR h=>?_) (λz6 x5 h=>?_))
   .refine sr (cq (nt (ah ?_)));refine aC (λz8 y7=>[(2,Pt b1),(3,Pt b2),(5,I y7)]) (λz8 y7=>[.obj b1 25 (.rep am a0),.obj b2 25 (.rep am a1)]) (dB k a0 a1) k () 0 (λ_=>rfl) h (SE.fin [0,1] ⟨rfl,rfl,rfl,trivial⟩ rfl) (λn z8 y7 h=>?_);unfold dB at h;refine aj (sr (mq ?_));refine fl cj ?_;refine lo fB ?_;refine ol pJ ?_;refine jb (bj rfl) ?_;refine nt (ci h (λh=>?_) (λh=>?_))
    .refine sk (aj (ah (aj (bz ?_))));refine da (au rfl cj) ?_;refine ea 0 (an rfl fB ju rfl) ?_;refine dm ?_;obtain⟨x9,X,h⟩:=aa h;refine db (aD (t:=(.slice Tl)) rfl pJ kE X) ?_;refine da (ao (t:=(.slice Tl)) rfl kE rfl) ?_;refine da (au rfl cj) ?_;refine ea 1 (an rfl fB ju rfl) ?_;refine dm ?_;obtain⟨Q,F,h⟩:=aa h;refine db (aD (t:=(.slice Tl)) rfl pJ kE F) ?_;refine da (ao (t:=(.slice Tl)) rfl kE rfl) ?_;refine df cQ ?_;obtain⟨U,J,h⟩:=aa h;refine jb (ax [.tmp 62,.tmp 67] rfl rfl Qc rfl (j8 k x9 Q U J)) ?_;refine ja (fh rfl) ?_;refine nt (cw h (λh=>?_) (λh=>?_))
     .refine sr (cq (nt (aA (br (bb (bg ?_))))));obtain rfl:=hR _ h;exact ra
     .refine aZ (aI (tn (ae (mq ?_))));obtain⟨O,E,h⟩:=aa h;refine jb (be rfl E) ?_;refine aq (nl ?_);exact jz ((),O) h [0,1]
    .refine xa ?_;exact jz ((),()) h [0,1]
   .refine cS (Z:=Unit) (α:=Unit) (λl u=>[]) (λl u=>[]) (λe=>e=r) h (λe h=>Option.some.inj h) (λK hR h=>?_) (λl u h=>?_)
    .refine sr (cq (nt (ah ?_)));refine aC (λj c=>[(2,Pt b1),(3,Pt b2),(6,I c)]) (λj c=>[.obj b1 25 (.rep am a0),.obj b2 25 (.rep am a1)]) (dA k a0 a1) k () 0 (λ_=>rfl) h (SE.fin [0,1] ⟨rfl,rfl,rfl,trivial⟩ rfl) (λn j c h=>?_);unfold dA at h;refine aj (sr (mq ?_));refine fl fR ?_;refine lo nm ?_;refine ol Cf ?_;refine jb (bj rfl) ?_;refine nt (ci h (λh=>?_) (λh=>?_))
     .refine sk (aj (ah (aj (bz ?_))));refine da (au rfl fR) ?_;refine ea 0 (an rfl nm ju rfl) ?_;refine dm ?_;obtain⟨gw,D,h⟩:=aa h;refine db (aD (t:=aJ) rfl Cf mY D) ?_;refine da (ao (t:=aJ) rfl mY rfl) ?_;refine da (au rfl fR) ?_;refine ea 1 (an rfl nm ju rfl) ?_;refine dm ?_;obtain⟨Y,y,h⟩:=aa h;refine db (aD (t:=aJ) rfl Cf mY y) ?_;refine da (ao (t:=aJ) rfl mY rfl) ?_;refine df cQ ?_;refine jb (Ik rfl UR rfl) ?_;refine nt (cn h (λh=>?_) (λh=>?_))
      .refine sr (cq (nt (aA (br (bb (bg ?_))))));obtain rfl:=hR _ h;exact ra
      .refine aZ (aI (tn (ae (mq ?_))));obtain⟨M,x,h⟩:=aa h;refine jb (be rfl x) ?_;refine aq (nl ?_);exact jz ((),M) h [0,1]
     .refine xa ?_;exact jz ((),()) h []
    .refine sr (cq (nt (aA ?_)));cases h;exact ra
def ii(k:Nat)(a0:Int)(a1:(List Int))(self:Int->(List Int)->Option ((List (List Int)))):Nat->((List (List Int))×Int)->Option (List (List Int))
 |0,_=>none
 |n+1,y9=>
  if y9.2 < a0 then((bS (bi (length ([]:(List Int))+length a1))).bind λ_=>
  (bS (bi (length (([]:(List Int))++a1)+length [y9.2]))).bind λ_=>
  (self a0 ((([]:(List Int))++a1)++[y9.2])).bind λc=>
  (bS (bi (length y9.1+length c))).bind λ_=>
  (ck (y9.2+1)).bind λe=>
  ii k a0 a1 self n (y9.1++c,e)) else(some y9.1)
def lz(k:Nat):Nat->Int->(List Int)->Option ((List (List Int)))
 |0,_,_=>none
 |m0+1,a0,a1=>
  ((if 0 < (a1.length:Int) then((ck ((a1.length:Int) - 1)).bind λx4=>
  (aG a1 x4).bind λx5=>
  (ck (x5+1)).bind λx6=>
  some x6) else(some 0)):Option (Int)).bind λx2=>
  ((ii k a0 a1 (lz k m0) k ([a1],x2)):Option ((List (List Int)))).bind λx7=>
  some x7
theorem CU(k:Nat):
 ∀(n:Nat) (a0:Int) (a1:(List Int)) (r:(List (List Int))),lz k n a0 a1=some r->cT Tryz.prog 34 [I a0,.rep Tl a1] ([]) (λ_:Unit=>(bC [.rep (.slice Tl) r],[])):=by
 intro n
 induction n with
 |zero=>intro a0 a1 r h;cases h
 |succ m0 ih=>
  intro a0 a1 r h;rw [lz] at h;replace h:=aX h;refine cT.of 37 Tryz.func34 rfl Tryz.ntmps34 rfl λS w0=>?_;refine sr (cq (nt (sr ?_)));refine mq ?_;refine aW rfl rfl rfl (im (t:=Tl) [(.tmp 8,_)] [a1] rfl rfl lT (.cons rfl .rep .nil) rfl rfl) ⟨rfl,trivial⟩ λv1=>?_;refine aq (nt (sr ?_));refine cq (nt ?_);refine aE (Z:=Unit) (α:=Int) (λz3 x2=>[(0,I a0),(1,.rep Tl a1),(5,.eq v1),(6,I x2)]) (λz3 x2=>[.sl v1 28 Tl [a1]]) h (λK h=>?_) (λz3 x2 h=>?_)
  .refine sr (mq ?_);refine ol gA ?_;refine jb (jm rfl) ?_;refine nt (ci h (λh=>?_) (λh=>?_))
   .refine ae ?_;iterate 2 refine mq ?_
    refine ol gA ?_;obtain⟨x4,J,h⟩:=aa h;refine jb (eo rfl J) ?_;obtain⟨x5,F,h⟩:=aa h;refine jb (aD (t:=Ti) rfl gA bQ F) ?_;refine ja (ao (t:=Ti) rfl bQ rfl) ?_;obtain⟨x6,E,h⟩:=aa h;refine jb (be rfl E) ?_;refine aq (nl ?_);exact jz ((),x6) h [0]
   .refine aZ (av ?_);exact jz ((),0) h [0]
  .refine aE (Z:=Value) (α:=(List (List Int))) (λz8 x7=>[(5,.eq z8)]) (λz8 x7=>[.sl z8 28 Tl x7]) h (λK h=>?_) (λz8 x7 h=>?_)
   .refine sr (mq ?_);refine aq (nt (ah ?_));refine aC (λc y9=>[(0,I a0),(1,.rep Tl a1),(5,.eq c),(7,I y9.2)]) (λc y9=>[.sl c 28 Tl y9.1]) (ii k a0 a1 (lz k m0)) k v1 ([a1],x2) (λ_=>rfl) h (SE.fin [0] ⟨rfl,rfl,rfl,rfl,trivial⟩ rfl) (λn c y9 h=>?_);unfold ii at h;refine aj (sr ?_);iterate 2 refine mq ?_
    refine jb (bj rfl) ?_;refine nt (ci h (λh=>?_) (λh=>?_))
    .refine sk (aj (ah (ae ?_)));iterate 2 refine mq ?_
     refine aW rfl rfl rfl (im (t:=Ti) [] ([]:(List Int)) rfl rfl cV .nil rfl rfl) trivial λQ=>?_;refine mq ?_;obtain⟨Y,u,h⟩:=aa h;refine cR rfl rfl rfl (bp rfl rfl cV (ap u)) ⟨rfl,rfl,trivial⟩ λO=>?_;refine mq ?_;refine ja (aV (t:=Ti) [(.tmp 31,_)] [y9.2] rfl rfl cV (.cons rfl .int .nil) rfl rfl) ?_;obtain⟨X,s,h⟩:=aa h;refine cR rfl rfl rfl (bp rfl rfl cV (ap s)) ⟨rfl,rfl,trivial⟩ λM=>?_;refine eD (gy [33] ⟨rfl,trivial⟩) ?_;obtain⟨e,x,h⟩:=aa h;refine jb (ax [.tmp 27,.tmp 33] rfl rfl SO rfl (ih a0 ((([]:(List Int))++a1)++[y9.2]) e x)) ?_;obtain⟨U,l,h⟩:=aa h;refine cR rfl rfl rfl (bp rfl rfl lT (ap l)) ⟨rfl,rfl,trivial⟩ λD=>?_;refine aq (aF (aI (tn (ae ?_))));refine mq ?_;obtain⟨y,j,h⟩:=aa h;refine jb (be rfl j) ?_;refine aq (nl ?_);exact jz (D,(y9.1++e,y)) h [0]
    .refine xa ?_;exact jz (c,y9.1) h [0]
   .refine sr (mq ?_);refine aq (nt (aA ?_));refine bK (gy [4,5,36] ⟨rfl,rfl,rfl,trivial⟩) ?_;cases h;exact ra
def nv(k:Nat)(a0:ab)(a1:(List (List Int)))(a2:aQ):Option Bool:=
 (aG a1 a2.2.1).bind λx3=>
 (aG x3 a2.1).bind λx4=>
 some (decide (a2.2.2=(decide (a0.2.2.1≤x4))))
theorem yA(k:Nat)(a0:ab)(a1:(List (List Int)))(a2:aQ)(r:Bool)(h:nv k a0 a1 a2=some r):
 cT Tryz.prog 102 [.rep am a0,.rep (.slice Tl) a1,.rep aJ a2] [] (λ_:Unit=>(bC [.eq (.bool r)],[])):=by
 unfold nv at h
 replace h:=aX h
 refine cT.of 22 Tryz.func102 rfl Tryz.ntmps102 rfl λS w0=>?_
 refine sr ?_
 refine bx λb1=>?_
 refine bx λb2=>?_
 refine cq ?_
 refine nt ?_
 refine aj ?_
 refine bz ?_
 refine da (au rfl Jd) ?_
 refine ea 0 (an rfl VK ju rfl) ?_
 refine dm ?_
 refine da (au rfl zd) ?_
 refine ea 0 (an rfl bQ ju rfl) ?_
 obtain⟨x3,e,h⟩:=aa h
 refine db (aD (t:=Tl) rfl nK eT e) ?_
 refine da (ao (t:=Tl) rfl eT rfl) ?_
 refine da (au rfl ze) ?_
 refine ea 0 (an rfl bQ ju rfl) ?_
 obtain⟨x4,c,h⟩:=aa h
 refine db (aD (t:=Ti) rfl gA bQ c) ?_
 refine da (ao (t:=Ti) rfl bQ rfl) ?_
 refine da (au rfl pC) ?_
 refine ea 1 (an rfl bQ ju rfl) ?_
 refine db (iI rfl) ?_
 refine df cQ ?_
 refine jb (PM rfl U4) ?_
 refine aq ?_
 refine nt ?_
 refine aA ?_
 cases h
 exact ra
def c8(k:Nat)(a0:ab)(a1:(List Int))(e:(List (List Int))):Nat->(Bool×Int)->Option Bool
 |0,_=>none
 |n+1,c=>
  if c.2 < (a0.2.2.2.2.2.length:Int) then(((if c.1=true then((nS k a1 c.2).bind λs=>
  if s=true then(some true) else((aG a0.2.2.2.2.2 c.2).bind λj=>
  (nv k a0 e j).bind λr=>
  some r)) else(some false)):Option (Bool)).bind λl=>
  (ck (c.2+1)).bind λh=>
  c8 k a0 a1 e n (l,h)) else(some c.1)
def dr(k:Nat)(a0:ab)(a1:(List Int))(r2:(List (List Int))):Nat->((List (List Int))×Int)->Option (List (List Int))
 |0,_=>none
 |n+1,y5=>
  if y5.2 < (r2.length:Int) then((((aG r2 y5.2).bind λx9=>
  (lZ k a0 x9).bind λj=>
  ((c8 k a0 a1 j k (true,0)):Option (Bool)).bind λh=>
  if h=true then((aG r2 y5.2).bind λc=>
  (bS (bi (length y5.1+length [c]))).bind λ_=>
  some (y5.1++[c])) else(some y5.1)):Option ((List (List Int)))).bind λx7=>
  (ck (y5.2+1)).bind λe=>
  dr k a0 a1 r2 n (x7,e)) else(some y5.1)
def iO(k:Nat)(a0:ab)(a1:(List Int)):Option (List (List Int)):=
 (lz k k a0.1 ([]:(List Int))).bind λr2=>
 ((dr k a0 a1 r2 k (([]:(List (List Int))),0)):Option ((List (List Int)))).bind λx3=>
 some x3
theorem sW(k:Nat)(a0:ab)(a1:(List Int))(r:(List (List Int)))(h:iO k a0 a1=some r):
 cT Tryz.prog 70 [.rep am a0,.rep Tl a1] [] (λ_:Unit=>(bC [.rep (.slice Tl) r],[])):=by
 unfold iO at h
 replace h:=aX h
 refine cT.of 58 Tryz.func70 rfl Tryz.ntmps70 rfl λS w0=>?_
 refine sr ?_
 refine bx λb1=>?_
 refine cq ?_
 refine nt ?_
 refine sr ?_
 refine cq ?_
 refine nt ?_
 refine sr ?_
 refine fl eU ?_
 refine lo bQ ?_
 obtain⟨r2,Wb,h⟩:=aa h
 have Wc:=CU k k a0.1 ([]:(List Int)) r2 Wb
 refine jb (bR (N:=[(.tmp 12,I a0.1),(.const (.slice none 0 0),.eq (.slice none 0 0))]) (ax [.tmp 12,.const (.slice none 0 0)] rfl rfl SO rfl Wc) λ_ _ _ hn=>⟨hn.1,(aM (t:=Tl) (x:=([]:(List Int))) .nil rfl rfl hn.2.1),trivial⟩) ?_
 refine aq ?_
 refine nt ?_
 refine aE (Z:=Value) (α:=(List (List Int))) (λz4 x3=>[(5,.eq z4)]) (λz4 x3=>[.sl z4 28 Tl x3]) h (λK h=>?_) (λz4 x3 h=>?_)
 .
  refine sr (cq (nt (ah ?_)));refine hP (SE.nil 28 Tl) ?_;refine aC (λz6 y5=>[(1,.rep Tl a1),(2,Pt b1),(5,.eq z6),(6,.rep (.slice Tl) r2),(7,I y5.2)]) (λz6 y5=>[.obj b1 25 (.rep am a0),.sl z6 28 Tl y5.1]) (dr k a0 a1 r2) k (.slice none 0 0) (([]:(List (List Int))),0) (λ_=>rfl) h (SE.fin [1,0] ⟨rfl,rfl,rfl,rfl,rfl,trivial⟩ rfl) (λn z6 y5 h=>?_);unfold dr at h;refine aj (sr ?_);iterate 2 refine mq ?_
  refine ol nK ?_;refine jb (bj rfl) ?_;refine nt (ci h (λh=>?_) (λh=>?_))
  .refine sk (aE (Z:=Value) (α:=(List (List Int))) (λz8 x7=>[(1,.rep Tl a1),(2,Pt b1),(5,.eq z8),(6,.rep (.slice Tl) r2),(7,I y5.2)]) (λz8 x7=>[.obj b1 25 (.rep am a0),.sl z8 28 Tl x7]) h (λK h=>?_) (λz8 x7 h=>?_))
   .refine ah (aj (bz ?_));refine ea 0 (an rfl dF (oL) rfl) ?_;refine dm ?_;refine dm ?_;obtain⟨x9,Wa,h⟩:=aa h;refine db (aD (t:=Tl) rfl nK eT Wa) ?_;refine da (ao (t:=Tl) rfl eT rfl) ?_;refine df cQ ?_;obtain⟨e,Y,h⟩:=aa h;refine jb (ax [.tmp 20,.tmp 24] rfl rfl SL rfl (t3 k a0 x9 e Y)) ?_;refine aq ?_;refine cq (nt ?_);refine aE (Z:=Unit) (α:=Bool) (λy l=>[(1,.rep Tl a1),(2,Pt b1),(5,.eq z6),(6,.rep (.slice Tl) r2),(7,I y5.2),(9,.eq (.bool l))]) (λy l=>[.obj b1 25 (.rep am a0),.sl z6 28 Tl y5.1]) h (λK h=>?_) (λy l h=>?_)
    .refine sr (cq (nt (ah ?_)));refine aC (λu c=>[(1,.rep Tl a1),(2,Pt b1),(5,.eq z6),(6,.rep (.slice Tl) r2),(7,I y5.2),(8,.rep (.slice Tl) e),(9,.eq (.bool c.1)),(10,I c.2)]) (λu c=>[.obj b1 25 (.rep am a0),.sl z6 28 Tl y5.1]) (c8 k a0 a1 e) k () (true,0) (λ_=>rfl) h (SE.fin [0,1] ⟨rfl,rfl,rfl,rfl,rfl,rfl,rfl,rfl,trivial⟩ rfl) (λn u c h=>?_);unfold c8 at h;refine aj (sr (mq ?_));refine fl fR ?_;refine lo nm ?_;refine ol Cf ?_;refine jb (bj rfl) ?_;refine nt (ci h (λh=>?_) (λh=>?_))
     .refine sk (aE (Z:=Unit) (α:=Bool) (λs j=>[(1,.rep Tl a1),(2,Pt b1),(5,.eq z6),(6,.rep (.slice Tl) r2),(7,I y5.2),(8,.rep (.slice Tl) e),(9,.eq (.bool j)),(10,I c.2)]) (λs j=>[.obj b1 25 (.rep am a0),.sl z6 28 Tl y5.1]) h (λK h=>?_) (λs j h=>?_))
      .refine ah (bz ?_);refine dm ?_;refine mX rfl rfl rfl (aY rfl) ⟨rfl,trivial⟩ (λhb=>?_) (λhb=>?_)
       .replace h:=ee (KP hb) h;refine bB rfl rfl rfl rfl rfl (aY rfl) ⟨rfl,rfl,trivial⟩ ?_;refine bB rfl rfl rfl rfl rfl (aY rfl) ⟨rfl,rfl,trivial⟩ ?_;obtain⟨zz,X,h⟩:=aa h;refine bB rfl rfl rfl rfl rfl (ax [.tmp 35,.tmp 36] rfl rfl P6 rfl (qL k a1 c.2 zz X)) ⟨rfl,rfl,rfl,trivial⟩ ?_;refine Kq rfl rfl rfl rfl rfl (aY rfl) ⟨rfl,rfl,trivial⟩ (λhb=>?_) (λhb=>?_)
        .replace h:=ee (KP hb) h;iterate 7 refine dg ?_
         refine df cQ ?_;refine gn ?_;refine gb (pg rfl) ?_;refine pt ?_;refine aq (aF (bn ?_));exact jz ((),true) h [0,1]
        .replace h:=cK (KQ hb) h;refine ia 0 rfl rfl rfl rfl rfl rfl (an rfl dF (oL) rfl) ⟨rfl,rfl,trivial⟩ ?_;refine bB rfl rfl rfl rfl rfl (aY rfl) ⟨rfl,rfl,trivial⟩ ?_;refine bB rfl rfl rfl rfl rfl (au rfl fR) ⟨rfl,rfl,trivial⟩ ?_;refine ia 0 rfl rfl rfl rfl rfl rfl (an rfl nm ju rfl) ⟨rfl,rfl,trivial⟩ ?_;refine bB rfl rfl rfl rfl rfl (aY rfl) ⟨rfl,rfl,trivial⟩ ?_;obtain⟨mw,O,h⟩:=aa h;refine bB rfl rfl rfl rfl rfl (aD (t:=aJ) rfl Cf mY O) ⟨rfl,rfl,rfl,trivial⟩ ?_;refine bB rfl rfl rfl rfl rfl (ao (t:=aJ) rfl mY rfl) ⟨rfl,rfl,trivial⟩ ?_;refine df cQ ?_;obtain⟨E,U,h⟩:=aa h;refine gc (ax [.tmp 39,.tmp 40,.tmp 45] rfl rfl Tm rfl (yA k a0 e mw E U)) ?_;refine gb (rU rfl) ?_;refine pt ?_;refine aq (aF (bn ?_));exact jz ((),E) h [0,1]
       .replace h:=cK (KQ hb) h;iterate 4 refine dg ?_
        refine du ?_;refine du ?_;refine du ?_;refine du ?_;refine du ?_;refine du ?_;refine du ?_;refine df cQ ?_;refine gu ?_;refine gn ?_;refine pf ?_;refine aq (aF (bn ?_));exact jz ((),false) h [0,1]
      .refine ae (mq ?_);obtain⟨mc,M,h⟩:=aa h;refine jb (be rfl M) ?_;refine aq (nl ?_);exact jz ((),(j,mc)) h [0,1]
     .refine xa ?_;exact jz ((),c.1) h [0,1]
    .refine sr (mq (nt ?_));refine cv h (λh=>?_) (λh=>?_)
     .refine ae ?_;iterate 3 refine mq ?_
      obtain⟨D,J,h⟩:=aa h;refine jb (aD (t:=Tl) rfl nK eT J) ?_;refine ja (ao (t:=Tl) rfl eT rfl) ?_;refine ja (aV (t:=Tl) [(.tmp 54,_)] [D] rfl rfl lT (.cons rfl .rep .nil) rfl rfl) ?_;obtain⟨We,Q,h⟩:=aa h;refine fr 1 ?_;refine cR rfl rfl rfl (bp rfl rfl lT (ap Q)) ⟨rfl,rfl,trivial⟩ λqt=>?_;refine aq (aF (bn ?_));exact jz (qt,y5.1++[D]) h [1,0]
     .refine aZ (bn ?_);exact jz (z6,y5.1) h [0,1]
   .refine ae (mq ?_);obtain⟨gw,F,h⟩:=aa h;refine jb (be rfl F) ?_;refine aq (nl ?_);exact jz (z8,(x7,gw)) h [0,1]
  .refine xa ?_;exact jz (z6,y5.1) h [1]
 .
  refine sr (mq ?_);refine aq (nt (aA ?_));refine bK (gy [4,5,57] ⟨rfl,rfl,rfl,trivial⟩) ?_;cases h;exact ra
def lY(k:Nat)(a0:ab)(a1:Bool):Option ((List (List Int))×Int):=
 (nA k a0).bind λr2=>
 if¬(r2=0) then(some (([]:(List (List Int))),r2)) else(if¬(a1=true) then(some (([]:(List (List Int))),3)) else((iO k a0 ([]:(List Int))).bind λr3=>
 if(r3.length:Int)=0 then(some (([]:(List (List Int))),9)) else(some (r3,0))))
theorem wH(k:Nat)(a0:ab)(a1:Bool)(r:(List (List Int))×Int)(h:lY k a0 a1=some r):
 cT Tryz.prog 63 [.rep am a0,.eq (.bool a1)] [] (λ_:Unit=>(bC [.rep (.slice Tl) r.1,I r.2],[])):=by
 unfold lY at h
 replace h:=aX h
 refine cT.of 21 Tryz.func63 rfl Tryz.ntmps63 rfl λS w0=>?_
 refine sr ?_
 refine bx λb1=>?_
 refine cq ?_
 refine cq ?_
 refine nt ?_
 refine aj ?_
 refine sr ?_
 refine lo dF ?_
 obtain⟨r2,e,h⟩:=aa h
 have j:=yB k a0 r2 e
 refine ja (ax [.tmp 8] rfl rfl Vo rfl j) ?_
 refine aq ?_
 refine nt ?_
 refine sr ?_
 refine mq ?_
 refine jb (d5 rfl) ?_
 refine nt ?_
 refine cn h (λh=>?_) (λh=>?_)
 .
  refine sr (mq ?_);refine cq ?_;refine aq (nt (rx ?_));refine bK (eB (t:=(.slice Tl)) (x:=([]:(List (List Int)))) 4 rfl .nil rfl rfl) ?_;cases h;exact rb
 .
  refine sk (aj (sr (mq ?_)));refine ja (fh rfl) ?_;refine nt (cw h (λh=>?_) (λh=>?_))
  .refine sr (cq ?_);refine cq (nt (rx ?_));refine bK (eB (t:=(.slice Tl)) (x:=([]:(List (List Int)))) 4 rfl .nil rfl rfl) ?_;cases h;exact rb
  .refine sk (sr (lo dF ?_));obtain⟨r3,c,h⟩:=aa h;refine jb (bR (N:=[(.tmp 15,.rep am a0),(.const (.slice none 0 0),.eq (.slice none 0 0))]) (ax [.tmp 15,.const (.slice none 0 0)] rfl rfl U1 rfl (sW k a0 ([]:(List Int)) r3 c)) λ_ _ _ hn=>⟨hn.1,(aM (t:=Tl) (x:=([]:(List Int))) .nil rfl rfl hn.2.1),trivial⟩) ?_;refine aq (nt (aj (sr ?_)));refine mq ?_;refine ol nK ?_;refine jb (jE rfl) ?_;refine nt (ci h (λh=>?_) (λh=>?_))
   .refine sr (cq ?_);refine cq (nt (rx ?_));refine bK (eB (t:=(.slice Tl)) (x:=([]:(List (List Int)))) 4 rfl .nil rfl rfl) ?_;cases h;exact rb
   .refine sk (sr (mq ?_));refine aq ?_;refine cq (nt (aA ?_));cases h;exact rb
def ig(k:Nat)(a0:ab)(a1:Int)(r3:(List (List Int))×Int)(y6:Int×Int×Int):Nat->(Int×Int)->Option Int
 |0,_=>none
 |n+1,c=>
  if c.2 < (r3.1.length:Int) then((((aG r3.1 c.2).bind λr=>
  (lZ k a0 r).bind λu=>
  (aG u a1).bind λl=>
  (aG l y6.2.2).bind λj=>
  if a0.2.2.1≤j then((ck (c.1+1)).bind λh=>
  some h) else(some c.1)):Option (Int)).bind λs=>
  (ck (c.2+1)).bind λe=>
  ig k a0 a1 r3 y6 n (s,e)) else(some c.1)
def fX(k:Nat)(a0:ab)(a1:Int)(r3:(List (List Int))×Int):Nat->(Int×Int×Int)->Option (Int×Int)
 |0,_=>none
 |n+1,y6=>
  if y6.2.2 < a0.1 then(((((ig k a0 a1 r3 y6 k (0,0)):Option (Int)).bind λc=>
  (ck ((r3.1.length:Int) - c)).bind λe=>
  if(pA c e) < y6.2.1 then(some (y6.2.2,pA c e)) else(some (y6.1,y6.2.1))):Option (Int×Int)).bind λx8=>
  (ck (y6.2.2+1)).bind λh=>
  fX k a0 a1 r3 n (x8.1,x8.2,h)) else(some (y6.1,y6.2.1))
def o8(k:Nat)(a0:ab)(a1:Int):Option (Int×Int×Int):=
 (fC k a0 a1).bind λr2=>
 (lY k a0 r2).bind λr3=>
 if¬(r3.2=0) then(some (0,0,r3.2)) else(((fX k a0 a1 r3 k ((-1:Int),(r3.1.length:Int),0)):Option (Int×Int)).bind λx4=>
 if x4.1 < 0 then(some (0,0,11)) else(some (x4.1,x4.2,0)))
theorem As(k:Nat)(a0:ab)(a1:Int)(r:Int×Int×Int)(h:o8 k a0 a1=some r):
 cT Tryz.prog 26 [.rep am a0,I a1] [] (λ_:Unit=>(bC [I r.1,I r.2.1,I r.2.2],[])):=by
 unfold o8 at h
 replace h:=aX h
 refine cT.of 72 Tryz.func26 rfl Tryz.ntmps26 rfl λS w0=>?_
 refine sr ?_
 refine bx λb1=>?_
 refine cq ?_
 refine cq ?_
 refine cq ?_
 refine nt ?_
 refine aj ?_
 refine bz ?_
 refine ea 0 (an rfl dF (oL) rfl) ?_
 refine ea 0 (an rfl dF (oL) rfl) ?_
 refine dm ?_
 obtain⟨r2,qt,h⟩:=aa h
 have Wa:=ny k a0 a1 r2 qt
 refine db (ax [.tmp 17,.tmp 18] rfl rfl SI rfl Wa) ?_
 obtain⟨r3,mw,h⟩:=aa h
 have zz:=wH k a0 r2 r3 mw
 refine db (ax [.tmp 16,.tmp 19] rfl rfl U7 rfl zz) ?_
 refine dm ?_
 refine da (eJ rfl rfl) ?_
 refine da (eJ rfl rfl) ?_
 refine da (jG rfl) ?_
 refine df cQ ?_
 refine aq ?_
 refine nt ?_
 refine aj ?_
 refine sr ?_
 refine mq ?_
 refine jb (d5 rfl) ?_
 refine nt ?_
 refine cn h (λh=>?_) (λh=>?_)
 .
  refine sr (mq ?_);refine cq ?_;refine cq ?_;refine aq (nt (rx ?_));cases h;exact aP () [_,_,_] 0 ⟨rfl,rfl,rfl,trivial⟩ rfl
 .
  refine sk (sr (mq ?_));refine ol nK ?_;refine cq ?_;refine aq (nt ?_);refine aE (Z:=Unit) (α:=Int×Int) (λz5 x4=>[(9,I x4.1),(10,I x4.2)]) (λz5 x4=>[]) h (λK h=>?_) (λz5 x4 h=>?_)
  .refine sr (cq (nt (ah ?_)));refine aC (λz7 y6=>[(1,I a1),(2,Pt b1),(7,.rep (.slice Tl) r3.1),(9,I y6.1),(10,I y6.2.1),(11,I y6.2.2)]) (λz7 y6=>[.obj b1 25 (.rep am a0)]) (fX k a0 a1 r3) k () ((-1:Int),(r3.1.length:Int),0) (λ_=>rfl) h (SE.fin [0] ⟨rfl,rfl,rfl,rfl,rfl,rfl,trivial⟩ rfl) (λn z7 y6 h=>?_);unfold fX at h;refine aj (sr (mq ?_));refine fl eU ?_;refine lo bQ ?_;refine jb (bj rfl) ?_;refine nt (ci h (λh=>?_) (λh=>?_))
   .refine sk (aE (Z:=Unit) (α:=Int×Int) (λz9 x8=>[(1,I a1),(2,Pt b1),(7,.rep (.slice Tl) r3.1),(9,I x8.1),(10,I x8.2),(11,I y6.2.2)]) (λz9 x8=>[.obj b1 25 (.rep am a0)]) h (λK h=>?_) (λz9 x8 h=>?_))
    .refine ah (sr (cq (nt ?_)));refine aE (Z:=Unit) (α:=Int) (λu j=>[(1,I a1),(2,Pt b1),(7,.rep (.slice Tl) r3.1),(9,I y6.1),(10,I y6.2.1),(11,I y6.2.2),(12,I j)]) (λu j=>[.obj b1 25 (.rep am a0)]) h (λK h=>?_) (λu j h=>?_)
     .refine sr (cq (nt (ah ?_)));refine aC (λs c=>[(1,I a1),(2,Pt b1),(7,.rep (.slice Tl) r3.1),(9,I y6.1),(10,I y6.2.1),(11,I y6.2.2),(12,I c.1),(13,I c.2)]) (λs c=>[.obj b1 25 (.rep am a0)]) (ig k a0 a1 r3 y6) k () (0,0) (λ_=>rfl) h (SE.fin [0] ⟨rfl,rfl,rfl,rfl,rfl,rfl,rfl,rfl,trivial⟩ rfl) (λn s c h=>?_);unfold ig at h;refine aj (sr ?_);iterate 2 refine mq ?_
      refine ol nK ?_;refine jb (bj rfl) ?_;refine nt (ci h (λh=>?_) (λh=>?_))
      .refine sk (aE (Z:=Unit) (α:=Int) (λl e=>[(1,I a1),(2,Pt b1),(7,.rep (.slice Tl) r3.1),(9,I y6.1),(10,I y6.2.1),(11,I y6.2.2),(12,I e),(13,I c.2)]) (λl e=>[.obj b1 25 (.rep am a0)]) h (λK h=>?_) (λl e h=>?_))
       .refine ah (aj (bz ?_));refine ea 0 (an rfl dF (oL) rfl) ?_;refine dm ?_;refine dm ?_;obtain⟨gw,M,h⟩:=aa h;refine db (aD (t:=Tl) rfl nK eT M) ?_;refine da (ao (t:=Tl) rfl eT rfl) ?_;obtain⟨mc,O,h⟩:=aa h;refine db (ax [.tmp 40,.tmp 44] rfl rfl SL rfl (t3 k a0 gw mc O)) ?_;refine dm ?_;obtain⟨Wc,J,h⟩:=aa h;refine db (aD (t:=Tl) rfl nK eT J) ?_;refine da (ao (t:=Tl) rfl eT rfl) ?_;refine dm ?_;obtain⟨Wb,F,h⟩:=aa h;refine db (aD (t:=Ti) rfl gA bQ F) ?_;refine da (ao (t:=Ti) rfl bQ rfl) ?_;refine da (au rfl pC) ?_;refine ea 0 (an rfl bQ ju rfl) ?_;refine df cQ ?_;refine jb (iI rfl) ?_;refine nt (ci h (λh=>?_) (λh=>?_))
        .refine ae (mq ?_);obtain⟨Y,E,h⟩:=aa h;refine jb (be rfl E) ?_;refine aq (aF (bn ?_));exact jz ((),Y) h [0]
        .refine aZ (bn ?_);exact jz ((),c.1) h [0]
       .refine ae (mq ?_);obtain⟨X,D,h⟩:=aa h;refine jb (be rfl D) ?_;refine aq (nl ?_);exact jz ((),(e,X)) h [0]
      .refine xa ?_;exact jz ((),c.1) h [0]
     .refine sr ?_;iterate 2 refine mq ?_
      refine ol nK ?_;refine mq ?_;obtain⟨U,y,h⟩:=aa h;refine jb (eo rfl y) ?_;refine jb (Ej rfl rfl) ?_;refine aq (nt (sr ?_));iterate 2 refine mq ?_
      refine jb (bj rfl) ?_;refine nt (ci h (λh=>?_) (λh=>?_))
      .refine ae ?_;iterate 2 refine mq ?_
       refine aq ?_;refine aq (aF (bn ?_));exact jz ((),(y6.2.2,pA j U)) h [0]
      .refine aZ (bn ?_);exact jz ((),(y6.1,y6.2.1)) h [0]
    .refine ae (mq ?_);obtain⟨Q,x,h⟩:=aa h;refine jb (be rfl x) ?_;refine aq (nl ?_);exact jz ((),(x8.1,x8.2,Q)) h [0]
   .refine xa ?_;exact jz ((),(y6.1,y6.2.1)) h []
  .refine aj (sr (mq ?_));refine jb (bj rfl) ?_;refine nt (ci h (λh=>?_) (λh=>?_))
   .refine sr (cq ?_);refine cq ?_;refine cq (nt (rx ?_));cases h;exact aP () [_,_,_] 0 ⟨rfl,rfl,rfl,trivial⟩ rfl
   .refine sk (sr ?_);iterate 2 refine mq ?_
    refine aq ?_;refine aq ?_;refine cq (nt (aA ?_));cases h;exact aP () [_,_,_] 0 ⟨rfl,rfl,rfl,trivial⟩ rfl
