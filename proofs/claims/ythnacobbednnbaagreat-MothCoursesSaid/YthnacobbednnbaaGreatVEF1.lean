import Derived.Test.YthnacobbednnbaaGreatVEFacts
open Nat
open List hiding mem_of_getElem?
open Array hiding mem_of_getElem? mk
set_option linter.unusedSimpArgs false
set_option linter.unusedVariables false
set_option maxRecDepth 4000
set_option maxHeartbeats 1000000
namespace Go.Proofs.YthnacobbednnbaaGreat
open K Go Go.Proofs
def hJ(k:Nat)(a0:ae)(y4:Int):Nat->Int->Option (Except Bool Unit)
 |0,_=>none
 |n+1,c=>
  (aH a0.2.2.2.2.1 y4).bind λl=>
  if c < (l.length:Int) then((aH a0.2.2.2.2.1 y4).bind λj=>
  (aH j c).bind λh=>
  if 20 < (h.length:Int) then(some (.error true)) else((ck (c+1)).bind λe=>
  hJ k a0 y4 n e)) else(some (.ok ()))
def hP(k:Nat)(a0:ae):Nat->Int->Option (Except Bool Unit)
 |0,_=>none
 |n+1,y4=>
  ((if y4 < (a0.2.2.2.2.1.length:Int) then(some (decide (y4 < 20))) else(some false)):Option (Bool)).bind λx6=>
  if x6=true then(bE (α:=Unit) ((aH a0.2.2.2.2.1 y4).bind λh=>
  if 20 < (h.length:Int) then(some (.error true)) else(hJ k a0 y4 k 0)) (λe=>some (.error e)) λ_=>
  (ck (y4+1)).bind λc=>
  hP k a0 n c) else(some (.ok ()))
def o8(k:Nat)(a0:ae):Option Bool:=
 bE (α:=Unit) (hP k a0 k 0) (some) λ_=>
 ((if 20 < (a0.2.2.2.2.1.length:Int) then(some true) else(some (decide (20 < (a0.2.2.2.2.2.length:Int))))):Option (Bool)).bind λc=>
 some c
theorem Ah(k:Nat)(a0:ae)(r:Bool)(h:o8 k a0=some r):
 cV Tryz.prog 10 [.rep am a0] [] (λ_:Unit=>(bF [.eq (.bool r)],[])):=by
 unfold o8 at h
 replace h:=ba h
 refine cV.of 53 Tryz.func10 rfl Tryz.ntmps10 rfl λS w0=>?_
 refine sr ?_
 refine bx λb1=>?_
 refine cq ?_
 refine nt ?_
 refine cO (Z:=Unit) (α:=Unit) (λz3 x2=>[(1,Pt b1)]) (λz3 x2=>[.obj b1 25 (.rep am a0)]) (λe=>e=r) h (λe h=>Option.some.inj h) (λK hR h=>?_) (λz3 x2 h=>?_)
 .
  refine sr (cq (nt (ai ?_)));refine aD (λz5 y4=>[(1,Pt b1),(3,I y4)]) (λz5 y4=>[.obj b1 25 (.rep am a0)]) (hP k a0) k () 0 (λ_=>rfl) h (SE.fin [0] ⟨rfl,rfl,trivial⟩ rfl) (λn z5 y4 h=>?_);unfold hP at h;refine aj (aF (Z:=Unit) (α:=Bool) (λz7 x6=>[(1,Pt b1),(3,I y4),(13,.eq (.bool x6))]) (λz7 x6=>[.obj b1 25 (.rep am a0)]) h (λK h=>?_) (λz7 x6 h=>?_))
  .refine ab (mq ?_);refine fl bS ?_;refine lo eH ?_;refine ol oy ?_;refine jb (bq rfl) ?_;refine mq ?_;refine bX (s:=10) rfl (λhb=>?_) (λhb=>?_)
   .replace h:=dU (uA hb) h;refine gm ?_;refine gb (bq rfl) ?_;refine pt (nl ?_);exact jz ((),decide (y4 < 20)) h [0]
   .replace h:=cG (uB hb) h;iterate 2 refine gn ?_
    refine pf (nl ?_);exact jz ((),false) h [0]
  .refine cv h (λh=>?_) (λh=>?_)
   .refine sk (cO (Z:=Unit) (α:=Unit) (λz9 x8=>[(1,Pt b1),(3,I y4)]) (λz9 x8=>[.obj b1 25 (.rep am a0)]) (λe=>e=r) h (λe h=>hR e h) (λK hR h=>?_) (λz9 x8 h=>?_))
    .refine ai (aj (sr (fl bS ?_)));refine lo eH ?_;refine mq ?_;obtain⟨Y,J,h⟩:=aa h;refine jb (aE (t:=(.slice Tl)) rfl oy jJ J) ?_;refine ja (an (t:=(.slice Tl)) rfl jJ rfl) ?_;refine ol pY ?_;refine jb (iD rfl) ?_;refine nt (ci h (λh=>?_) (λh=>?_))
     .refine sr (cq (nt (rx (br (aX (aY ?_))))));obtain rfl:=hR _ h;exact ra
     .refine sk (sr (cq (nt (ai ?_))));refine aD (λu c=>[(1,Pt b1),(3,I y4),(4,I c)]) (λu c=>[.obj b1 25 (.rep am a0)]) (hJ k a0 y4) k () 0 (λ_=>rfl) h (SE.fin [0] ⟨rfl,rfl,rfl,trivial⟩ rfl) (λn u c h=>?_);unfold hJ at h;refine aj (sr (mq ?_));refine fl bS ?_;refine lo eH ?_;refine mq ?_;obtain⟨X,F,h⟩:=aa h;refine jb (aE (t:=(.slice Tl)) rfl oy jJ F) ?_;refine ja (an (t:=(.slice Tl)) rfl jJ rfl) ?_;refine ol pY ?_;refine jb (bq rfl) ?_;refine nt (ci h (λh=>?_) (λh=>?_))
      .refine sk (aj (ai (sr (fl bS ?_))));refine lo eH ?_;refine mq ?_;obtain⟨U,E,h⟩:=aa h;refine jb (aE (t:=(.slice Tl)) rfl oy jJ E) ?_;refine ja (an (t:=(.slice Tl)) rfl jJ rfl) ?_;refine mq ?_;obtain⟨Q,D,h⟩:=aa h;refine jb (aE (t:=Tl) rfl pY fC D) ?_;refine ja (an (t:=Tl) rfl fC rfl) ?_;refine ol gG ?_;refine jb (iD rfl) ?_;refine nt (ci h (λh=>?_) (λh=>?_))
       .refine sr (cq (nt (aC (br (aX (br (aX (aY ?_))))))));obtain rfl:=hR _ h;exact ra
       .refine bi (aI (tn (ab (mq ?_))));obtain⟨O,y,h⟩:=aa h;refine jb (bj rfl y) ?_;refine aq (nl ?_);exact jz ((),O) h [0]
      .refine fq (bL (bL (c6 (bn ?_))));exact jz ((),()) h [0]
    .refine ab (mq ?_);obtain⟨M,x,h⟩:=aa h;refine jb (bj rfl x) ?_;refine aq (nl ?_);exact jz ((),M) h [0]
   .refine xa ?_;exact jz ((),()) h [0]
 .
  refine aF (Z:=Unit) (α:=Bool) (λl j=>[(2,.eq (.bool j))]) (λl j=>[]) h (λK h=>?_) (λl j h=>?_)
  .refine ab (fl bS ?_);refine lo eH ?_;refine ol oy ?_;refine jb (iD rfl) ?_;refine mq ?_;refine bX (s:=47) rfl (λhb=>?_) (λhb=>?_)
   .replace h:=dU (uA hb) h;iterate 4 refine gn ?_
    refine pt ?_;refine aq (nl ?_);exact jz ((),true) h []
   .replace h:=cG (uB hb) h;refine ga (au rfl fK) ?_;refine eL rfl rfl rfl rfl rfl rfl (ap rfl nh jN rfl) ⟨rfl,trivial⟩ ?_;refine ga (od rfl rfl Ei) ?_;refine gb (iD rfl) ?_;refine pf ?_;refine aq (nl ?_);exact jz ((),decide (20 < (a0.2.2.2.2.2.length:Int))) h []
  .refine aC ?_;cases h;exact ra
def dO(k:Nat)(a0:Int)(a1:Int)(a2:Int):Option Bool:=
 ((if a1≤a0 then(some (decide (a0≤a2))) else(some false)):Option (Bool)).bind λx1=>
 some x1
theorem dS(k:Nat)(a0:Int)(a1:Int)(a2:Int)(r:Bool)(h:dO k a0 a1 a2=some r):
 cV Tryz.prog 53 [I a0,I a1,I a2] [] (λ_:Unit=>(bF [.eq (.bool r)],[])):=by
 unfold dO at h
 replace h:=ba h
 refine cV.of 15 Tryz.func53 rfl Tryz.ntmps53 rfl λS w0=>?_
 refine sr ?_
 refine cq ?_
 refine nt ?_
 refine aF (Z:=Unit) (α:=Bool) (λz2 x1=>[(6,.eq (.bool x1))]) (λz2 x1=>[]) h (λK h=>?_) (λz2 x1 h=>?_)
 .
  refine ab ?_;iterate 2 refine mq ?_
  refine jb (xg rfl) ?_;refine mq ?_;refine bX (s:=10) rfl (λhb=>?_) (λhb=>?_)
  .replace h:=dU (uA hb) h;refine gm ?_;refine gm ?_;refine gb (xg rfl) ?_;refine pt ?_;refine aq (nl ?_);exact jz ((),decide (a0≤a2)) h []
  .replace h:=cG (uB hb) h;iterate 3 refine gn ?_
   refine pf ?_;refine aq (nl ?_);exact jz ((),false) h []
 .
  refine aC ?_;cases h;exact ra
def f9(k:Nat)(a0:Int)(a1:Int):Option Int:=
 (cf (0≤a1)).bind λ_=>
 some (DF .u8 a0 (pg .u8 1 a1))
theorem kT(k:Nat)(a0:Int)(a1:Int)(r:Int)(h:f9 k a0 a1=some r):
 cV Tryz.prog 75 [.eq (.int .u8 a0),I a1] [] (λ_:Unit=>(bF [.eq (.int .u8 r)],[])):=by
 unfold f9 at h
 replace h:=ba h
 refine cV.of 9 Tryz.func75 rfl Tryz.ntmps75 rfl λS w0=>?_
 refine sr ?_
 refine cq ?_
 refine nt ?_
 refine sr ?_
 iterate 2 refine mq ?_
 obtain⟨u1,c,h⟩:=aa h
 refine jb (Nh rfl (ao c)) ?_
 refine jb (SY rfl) ?_
 refine aq ?_
 refine nt ?_
 refine aC ?_
 cases h
 exact ra
def fa(k:Nat)(a0:Int)(a1:Int):Option Bool:=
 (cf (0≤a1)).bind λ_=>
 some (decide ((qU .u8 (gR .u8 a0 a1) 1)=1))
theorem g9(k:Nat)(a0:Int)(a1:Int)(r:Bool)(h:fa k a0 a1=some r):
 cV Tryz.prog 97 [.eq (.int .u8 a0),I a1] [] (λ_:Unit=>(bF [.eq (.bool r)],[])):=by
 unfold fa at h
 replace h:=ba h
 refine cV.of 10 Tryz.func97 rfl Tryz.ntmps97 rfl λS w0=>?_
 refine sr ?_
 refine cq ?_
 refine nt ?_
 refine sr ?_
 iterate 2 refine mq ?_
 obtain⟨u1,c,h⟩:=aa h
 refine jb (va rfl (ao c)) ?_
 refine jb (Qv rfl) ?_
 refine jb (jL rfl) ?_
 refine aq ?_
 refine nt ?_
 refine aC ?_
 cases h
 exact ra
def dn(k:Nat)(a0:ae)(x8:(List Int)):Nat->(Int×Int)->Option (Except Int Int)
 |0,_=>none
 |n+1,y9=>
  if y9.2 < (x8.length:Int) then((aH x8 y9.2).bind λc=>
  (ck (a0.1 - 1)).bind λh=>
  (dO k c 0 h).bind λr=>
  if¬(r=true) then(some (.error 3)) else((fa k y9.1 c).bind λl=>
  if l=true then(some (.error 4)) else((f9 k y9.1 c).bind λj=>
  (ck (y9.2+1)).bind λe=>
  dn k a0 x8 n (j,e)))) else(some (.ok y9.1))
def dp(k:Nat)(a0:ae)(a1:(List (List Int))):Nat->(Int×Int)->Option (Except Int Unit)
 |0,_=>none
 |n+1,y4=>
  if y4.2 < (a1.length:Int) then(bE (α:=Int) ((aH a1 y4.2).bind λx8=>
  dn k a0 x8 k (y4.1,0)) (λe=>some (.error e)) λx6=>
  (ck (y4.2+1)).bind λc=>
  dp k a0 a1 n (x6,c)) else(some (.ok ()))
def jB(k:Nat)(a0:ae)(a1:(List (List Int))):Option Int:=
 if 3 < (a1.length:Int) then(some 6) else(bE (α:=Unit) (dp k a0 a1 k (0,0)) (some) λ_=>
 some 0)
theorem ug(k:Nat)(a0:ae)(a1:(List (List Int)))(r:Int)(h:jB k a0 a1=some r):
 cV Tryz.prog 54 [.rep am a0,.rep (.slice Tl) a1] [] (λ_:Unit=>(bF [I r],[])):=by
 unfold jB at h
 replace h:=ba h
 refine cV.of 39 Tryz.func54 rfl Tryz.ntmps54 rfl λS w0=>?_
 refine sr ?_
 refine bx λb1=>?_
 refine cq ?_
 refine nt ?_
 refine aj ?_
 refine sr ?_
 refine mq ?_
 refine ol pY ?_
 refine jb (iD rfl) ?_
 refine nt ?_
 refine ci h (λh=>?_) (λh=>?_)
 .
  refine sr (cq (nt (rx ?_)));cases h;exact ra
 .
  refine sk (sr (cq (nt ?_)));refine cO (Z:=Unit) (α:=Unit) (λz3 x2=>[]) (λz3 x2=>[]) (λe=>e=r) h (λe h=>Option.some.inj h) (λK hR h=>?_) (λz3 x2 h=>?_)
  .refine sr (mq ?_);refine ol pY ?_;refine fB rfl ?_;refine nt (ai (aD (λz5 y4=>[(2,Pt b1),(5,.eq (.int .u8 y4.1)),(13,.rep (.slice Tl) a1),(14,I (a1.length:Int)),(15,I y4.2)]) (λz5 y4=>[.obj b1 25 (.rep am a0)]) (dp k a0 a1) k () (0,0) (λ_=>rfl) h (SE.fin [0] ⟨rfl,rfl,rfl,rfl,rfl,trivial⟩ rfl) (λn z5 y4 h=>?_)));unfold dp at h;refine sr (jb (bq rfl) ?_);refine nt (aj (ci h (λh=>?_) (λh=>?_)))
   .refine sk (cO (Z:=Unit) (α:=Int) (λz7 x6=>[(2,Pt b1),(5,.eq (.int .u8 x6)),(13,.rep (.slice Tl) a1),(14,I (a1.length:Int)),(15,I y4.2)]) (λz7 x6=>[.obj b1 25 (.rep am a0)]) (λe=>e=r) h (λe h=>hR e h) (λK hR h=>?_) (λz7 x6 h=>?_))
    .refine ai (sr ?_);obtain⟨x8,X,h⟩:=aa h;refine jb (aE (t:=Tl) rfl pY fC X) ?_;refine ja (an (t:=Tl) rfl fC rfl) ?_;refine aq (nt (sr ?_));refine mq ?_;refine ol gG ?_;refine fB rfl ?_;refine nt (ai (aD (λj y9=>[(2,Pt b1),(5,.eq (.int .u8 y9.1)),(13,.rep (.slice Tl) a1),(14,I (a1.length:Int)),(15,I y4.2),(19,.rep Tl x8),(20,I (x8.length:Int)),(21,I y9.2)]) (λj y9=>[.obj b1 25 (.rep am a0)]) (dn k a0 x8) k () (y4.1,0) (λ_=>rfl) h (SE.fin [0] ⟨rfl,rfl,rfl,rfl,rfl,rfl,rfl,rfl,trivial⟩ rfl) (λn j y9 h=>?_)));unfold dn at h;refine sr (jb (bq rfl) ?_);refine nt (aj (ci h (λh=>?_) (λh=>?_)))
     .refine sk (aj (ai (sr ?_)));obtain⟨c,y,h⟩:=aa h;refine jb (aE (t:=Ti) rfl gG bW y) ?_;refine ja (an (t:=Ti) rfl bW rfl) ?_;refine aq (nt (aj (sr ?_)));refine mq ?_;refine fl fy ?_;refine lo bW ?_;obtain⟨O,x,h⟩:=aa h;refine jb (ek rfl x) ?_;obtain⟨U,F,h⟩:=aa h;refine jc (av [.tmp 25,.const (.int .i64 (0)),.tmp 28] rfl rfl yH rfl (dS k c 0 O U F)) ?_;refine ja (eI rfl) ?_;refine nt (cw h (λh=>?_) (λh=>?_))
      .refine sr (cq (nt (rx (br (aX (br (aX (aY ?_))))))));obtain rfl:=hR _ h;exact ra
      .refine sk (aj (sr ?_));iterate 2 refine mq ?_
       obtain⟨Q,E,h⟩:=aa h;refine jb (av [.tmp 31,.tmp 32] rfl rfl Iw rfl (g9 k y9.1 c Q E)) ?_;refine nt (cv h (λh=>?_) (λh=>?_))
       .refine sr (cq (nt (rx (br (aX (br (aX (aY ?_))))))));obtain rfl:=hR _ h;exact ra
       .refine sk (ab ?_);iterate 2 refine mq ?_
        obtain⟨l,D,h⟩:=aa h;refine jb (av [.tmp 34,.tmp 35] rfl rfl OX rfl (kT k y9.1 c l D)) ?_;refine aq (aG (aI (tn (ab ?_))));obtain⟨M,u,h⟩:=aa h;refine jb (bj rfl u) ?_;refine mq (nl ?_);exact jz ((),(l,M)) h [0]
     .refine fq (bL (bL (c6 (bn ?_))));exact jz ((),y9.1) h [0]
    .refine ab ?_;obtain⟨J,s,h⟩:=aa h;refine jb (bj rfl s) ?_;refine mq (nl ?_);exact jz ((),(x6,J)) h [0]
   .refine xa ?_;exact jz ((),()) h []
  .refine sr (cq (nt (aC ?_)));cases h;exact ra
def gp(k:Nat)(a0:ae)(a1:aQ):Option Int:=
 (((ck (a0.1 - 1)).bind λx5=>
 (dO k a1.1 0 x5).bind λr6=>
 if¬(r6=true) then(some true) else((dO k a1.2.1 0 (a0.2.2.2.2.1.length:Int)).bind λr7=>
 some (!r7))):Option (Bool)).bind λx3=>
 if x3=true then(some 3) else(some 0)
theorem qM(k:Nat)(a0:ae)(a1:aQ)(r:Int)(h:gp k a0 a1=some r):
 cV Tryz.prog 55 [.rep am a0,.rep aJ a1] [] (λ_:Unit=>(bF [I r],[])):=by
 unfold gp at h
 replace h:=ba h
 refine cV.of 21 Tryz.func55 rfl Tryz.ntmps55 rfl λS w0=>?_
 refine sr ?_
 refine bx λb1=>?_
 refine bx λb2=>?_
 refine cq ?_
 refine nt ?_
 refine aj ?_
 refine aF (Z:=Unit) (α:=Bool) (λz4 x3=>[(20,.eq (.bool x3))]) (λz4 x3=>[]) h (λK h=>?_) (λz4 x3 h=>?_)
 .
  refine ab (fl Cm ?_);refine lo bW ?_;refine fl fy ?_;refine fr 1 ?_;refine lo bW ?_;obtain⟨x5,c,h⟩:=aa h;refine jb (ek rfl c) ?_;obtain⟨r6,j,h⟩:=aa h;refine jc (av [.tmp 6,.const (.int .i64 (0)),.tmp 9] rfl rfl yH rfl (dS k a1.1 0 x5 r6 j)) ?_;refine ja (eI rfl) ?_;refine mq ?_;refine bX (s:=12) rfl (λhb=>?_) (λhb=>?_)
  .replace h:=dU (rQ hb) h;iterate 7 refine gn ?_
   refine pt (nl ?_);exact jz ((),true) h []
  .replace h:=cG (mF hb) h;refine ga (au rfl Cj) ?_;refine fr 1 ?_;refine eL rfl rfl rfl rfl rfl rfl (ap rfl bW jN rfl) ⟨rfl,trivial⟩ ?_;refine ga (au rfl bS) ?_;refine fr 1 ?_;refine eL rfl rfl rfl rfl rfl rfl (ap rfl eH jN rfl) ⟨rfl,trivial⟩ ?_;refine ga (od rfl rfl oy) ?_;obtain⟨r7,e,h⟩:=aa h;refine gc (av [.tmp 14,.const (.int .i64 (0)),.tmp 17] rfl rfl yH rfl (dS k a1.2.1 0 (a0.2.2.2.2.1.length:Int) r7 e)) ?_;refine ga (eI rfl) ?_;refine pf (nl ?_);exact jz ((), !r7) h []
 .
  refine cv h (λh=>?_) (λh=>?_)
  .refine sr (cq (nt (rx ?_)));cases h;exact ra
  .refine sk (sr (cq (nt (aC ?_))));cases h;exact ra
def fj(k:Nat)(a0:ae):Nat->Int->Option (Except Int Unit)
 |0,_=>none
 |n+1,c=>
  if c < (a0.2.2.2.2.1.length:Int) then((aH a0.2.2.2.2.1 c).bind λj=>
  (jB k a0 j).bind λe=>
  if¬(e=0) then(some (.error e)) else((ck (c+1)).bind λh=>
  fj k a0 n h)) else(some (.ok ()))
def fi(k:Nat)(a0:ae):Nat->Int->Option (Except Int Unit)
 |0,_=>none
 |n+1,c=>
  if c < (a0.2.2.2.2.2.length:Int) then((aH a0.2.2.2.2.2 c).bind λj=>
  (gp k a0 j).bind λe=>
  if¬(e=0) then(some (.error e)) else((ck (c+1)).bind λh=>
  fi k a0 n h)) else(some (.ok ()))
def lD(k:Nat)(a0:ae):Option Int:=
 (((dO k a0.1 1 5).bind λr4=>
 if¬(r4=true) then(some true) else((dO k a0.2.1 0 3).bind λr5=>
 if¬(r5=true) then(some true) else((dO k a0.2.2.1 0 3).bind λr6=>
 if¬(r6=true) then(some true) else((dO k a0.2.2.2.1 1 3).bind λr7=>
 some (!r7))))):Option (Bool)).bind λx2=>
 if x2=true then(some 1) else(if(a0.2.2.2.2.1.length:Int) < 1 then(some 7) else(if 6 < (a0.2.2.2.2.1.length:Int) then(some 6) else(bE (α:=Unit) (fj k a0 k 0) (some) λ_=>
 if 8 < (a0.2.2.2.2.2.length:Int) then(some 6) else(bE (α:=Unit) (fi k a0 k 0) (some) λ_=>
 some 0))))
theorem rY(k:Nat)(a0:ae)(r:Int)(h:lD k a0=some r):
 cV Tryz.prog 19 [.rep am a0] [] (λ_:Unit=>(bF [I r],[])):=by
 unfold lD at h
 replace h:=ba h
 refine cV.of 73 Tryz.func19 rfl Tryz.ntmps19 rfl λS w0=>?_
 refine sr ?_
 refine bx λb1=>?_
 refine cq ?_
 refine nt ?_
 refine aj ?_
 refine aF (Z:=Unit) (α:=Bool) (λz3 x2=>[(1,Pt b1),(31,.eq (.bool x2))]) (λz3 x2=>[.obj b1 25 (.rep am a0)]) h (λK h=>?_) (λz3 x2 h=>?_)
 .
  refine ab (fl fy ?_);refine lo bW ?_;obtain⟨r4,U8,h⟩:=aa h;refine jc (av [.tmp 11,.const (.int .i64 (1)),.const (.int .i64 (5))] rfl rfl yH rfl (dS k a0.1 1 5 r4 U8)) ?_;refine ja (eI rfl) ?_;refine mq ?_;refine bX (s:=14) rfl (λhb=>?_) (λhb=>?_)
  .replace h:=dU (rQ hb) h;iterate 4 refine gn ?_
   refine pt ?_;refine mq ?_;iterate 4 refine gn ?_
   refine pt ?_;refine mq ?_;iterate 4 refine gn ?_
   refine pt (nl ?_);exact jz ((),true) h [0]
  .replace h:=cG (mF hb) h;refine ga (au rfl pj) ?_;refine eL rfl rfl rfl rfl rfl rfl (ap rfl bW jN rfl) ⟨rfl,trivial⟩ ?_;obtain⟨r5,zz,h⟩:=aa h;refine gc (av [.tmp 16,.const (.int .i64 (0)),.const (.int .i64 (3))] rfl rfl yH rfl (dS k a0.2.1 0 3 r5 zz)) ?_;refine ga (eI rfl) ?_;refine pf ?_;refine mq ?_;refine bX (s:=20) rfl (λhb=>?_) (λhb=>?_)
   .replace h:=dU (rQ hb) h;iterate 4 refine gn ?_
    refine pt ?_;refine mq ?_;iterate 4 refine gn ?_
    refine pt (nl ?_);exact jz ((),true) h [0]
   .replace h:=cG (mF hb) h;refine ga (au rfl tA) ?_;refine eL rfl rfl rfl rfl rfl rfl (ap rfl bW jN rfl) ⟨rfl,trivial⟩ ?_;obtain⟨r6,qt,h⟩:=aa h;refine gc (av [.tmp 22,.const (.int .i64 (0)),.const (.int .i64 (3))] rfl rfl yH rfl (dS k a0.2.2.1 0 3 r6 qt)) ?_;refine ga (eI rfl) ?_;refine pf ?_;refine mq ?_;refine bX (s:=26) rfl (λhb=>?_) (λhb=>?_)
    .replace h:=dU (rQ hb) h;iterate 4 refine gn ?_
     refine pt (nl ?_);exact jz ((),true) h [0]
    .replace h:=cG (mF hb) h;refine ga (au rfl tz) ?_;refine eL rfl rfl rfl rfl rfl rfl (ap rfl bW jN rfl) ⟨rfl,trivial⟩ ?_;obtain⟨r7,mw,h⟩:=aa h;refine gc (av [.tmp 28,.const (.int .i64 (1)),.const (.int .i64 (3))] rfl rfl yH rfl (dS k a0.2.2.2.1 1 3 r7 mw)) ?_;refine ga (eI rfl) ?_;refine pf (nl ?_);exact jz ((), !r7) h [0]
 .
  refine cv h (λh=>?_) (λh=>?_)
  .refine sr (cq (nt (rx ?_)));cases h;exact ra
  .refine sk (aj (sr (fl bS ?_)));refine lo eH ?_;refine ol oy ?_;refine aq (nt (ai (sr ?_)));refine mq ?_;refine jb (bq rfl) ?_;refine aq (nt ?_);refine ci h (λh=>?_) (λh=>?_)
   .refine sr (cq (nt (aC (aX (aY ?_)))));cases h;exact ra
   .refine sr (mq ?_);refine jb (iD rfl) ?_;refine aq (nt ?_);refine ci h (λh=>?_) (λh=>?_)
    .refine sr (cq (nt (aC (aX (aY ?_)))));cases h;exact ra
    .refine bi (aI (tn (cO (Z:=Unit) (α:=Unit) (λz9 x8=>[(1,Pt b1)]) (λz9 x8=>[.obj b1 25 (.rep am a0)]) (λe=>e=r) h (λe h=>Option.some.inj h) (λK hR h=>?_) (λz9 x8 h=>?_))))
     .refine sr (fl bS ?_);refine lo eH ?_;refine ol oy ?_;refine fB rfl ?_;refine nt (ai (aD (λx j=>[(1,Pt b1),(42,.rep (.slice (.slice Tl)) a0.2.2.2.2.1),(43,I (a0.2.2.2.2.1.length:Int)),(44,I j)]) (λx j=>[.obj b1 25 (.rep am a0)]) (fj k a0) k () 0 (λ_=>rfl) h (SE.fin [0] ⟨rfl,rfl,rfl,rfl,trivial⟩ rfl) (λn x j h=>?_)));unfold fj at h;refine sr (jb (bq rfl) ?_);refine nt (aj (ci h (λh=>?_) (λh=>?_)))
      .refine sk (aj (ai (sr ?_)));obtain⟨Y,J,h⟩:=aa h;refine jb (aE (t:=(.slice Tl)) rfl oy jJ J) ?_;refine ja (an (t:=(.slice Tl)) rfl jJ rfl) ?_;refine aq (nt (sr ?_));refine lo dk ?_;refine mq ?_;obtain⟨mc,O,h⟩:=aa h;refine jb (av [.tmp 48,.tmp 49] rfl rfl Uc rfl (ug k a0 Y mc O)) ?_;refine aq (nt (sr ?_));refine mq ?_;refine jb (d4 rfl) ?_;refine nt (cn h (λh=>?_) (λh=>?_))
       .refine sr (mq ?_);refine aq (nt (aC (br (aX (aY ?_)))));obtain rfl:=hR _ h;exact ra
       .refine bi (aI (tn (ab ?_)));obtain⟨X,F,h⟩:=aa h;refine jb (bj rfl F) ?_;refine mq (nl ?_);exact jz ((),X) h [0]
      .refine xa ?_;exact jz ((),()) h [0]
     .refine aj (sr (fl fK ?_));refine lo nh ?_;refine ol Ei ?_;refine jb (iD rfl) ?_;refine nt (ci h (λh=>?_) (λh=>?_))
      .refine sr (cq (nt (rx ?_)));cases h;exact ra
      .refine sk (cO (Z:=Unit) (α:=Unit) (λu y=>[]) (λu y=>[]) (λe=>e=r) h (λe h=>Option.some.inj h) (λK hR h=>?_) (λu y h=>?_))
       .refine sr (fl fK ?_);refine lo nh ?_;refine ol Ei ?_;refine fB rfl ?_;refine nt (ai (aD (λl c=>[(1,Pt b1),(60,Rs aJ a0.2.2.2.2.2),(61,I (a0.2.2.2.2.2.length:Int)),(62,I c)]) (λl c=>[.obj b1 25 (.rep am a0)]) (fi k a0) k () 0 (λ_=>rfl) h (SE.fin [0] ⟨rfl,rfl,rfl,rfl,trivial⟩ rfl) (λn l c h=>?_)));unfold fi at h;refine sr (jb (bq rfl) ?_);refine nt (aj (ci h (λh=>?_) (λh=>?_)))
        .refine sk (aj (ai (sr ?_)));obtain⟨U,E,h⟩:=aa h;refine jb (aE (t:=aJ) rfl Ei nI E) ?_;refine ja (an (t:=aJ) rfl nI rfl) ?_;refine aZ rfl rfl rfl (bp rfl EF LZ) trivial λVa=>?_;refine aM rfl rfl (aK rfl nI rfl rfl rfl) ⟨rfl,rfl,trivial⟩ ?_;refine nt (sr (fr 1 ?_));refine lo dk ?_;refine fr 1 ?_;refine lo nI ?_;obtain⟨gw,M,h⟩:=aa h;refine jb (av [.tmp 66,.tmp 67] rfl rfl Ub rfl (qM k a0 U gw M)) ?_;refine aq (nt (sr ?_));refine mq ?_;refine jb (d4 rfl) ?_;refine nt (cn h (λh=>?_) (λh=>?_))
         .refine sr (mq ?_);refine aq (nt (aC (br (aX (aY ?_)))));obtain rfl:=hR _ h;exact ra
         .refine bi (aI (tn (ab ?_)));obtain⟨Q,D,h⟩:=aa h;refine jb (bj rfl D) ?_;refine mq (nl ?_);exact jz ((),Q) h [1]
        .refine xa ?_;exact jz ((),()) h []
       .refine sr (cq (nt (aC ?_)));cases h;exact ra
def cL(k:Nat)(a0:ae)(a1:Int):Nat->((List Int)×Int)->Option (List Int)
 |0,_=>none
 |n+1,y5=>
  if y5.2 < 5 then((((cf (0≤y5.2/\y5.2 < 5)).bind λ_=>
  (fa k a1 y5.2).bind λe=>
  if e=true then((cf (0≤y5.2/\y5.2 < 5)).bind λ_=>
  some (List.set (List.set y5.1 (Int.toNat y5.2) (-1:Int)) (Int.toNat y5.2) a0.2.1)) else(some (List.set y5.1 (Int.toNat y5.2) (-1:Int)))):Option ((List Int))).bind λx7=>
  (ck (y5.2+1)).bind λc=>
  cL k a0 a1 n (x7,c)) else(some y5.1)
def eS(k:Nat)(a0:ae)(a1:Int):Option (List Int):=
 ((cL k a0 a1 k ([0,0,0,0,0],0)):Option ((List Int))).bind λx3=>
 some x3
theorem qJ{M:Md Tryz.prog}{bm:Nat}{c0 c1 c2 c3 c4 c5:Value}(hK:Kn M bm 0 [c0,c1,c2,c3,c4,c5])(k:Nat)(a0:ae)(a1:Int)(r:(List Int))(h:eS k a0 a1=some r):
 cC M 94 [.rep (.mo (Pv bm) [c0,c1,c2,c3,c4,c5] am) a0,.eq (.int .u8 a1)] [] (λ_:Unit=>(bF [.rep Tr r],[])):=by
 unfold eS at h
 replace h:=ba h
 refine cC.of 24 Tryz.func94 rfl Tryz.ntmps94 rfl λS w0=>?_
 refine sr ?_
 refine aZ rfl rfl rfl (bp rfl Js LY) trivial λb1=>?_
 refine nt ?_
 refine sr ?_
 refine aZ rfl rfl rfl (bp rfl Js LY) trivial λb2=>?_
 refine nt ?_
 refine aF (Z:=Unit) (α:=(List Int)) (λz4 x3=>[(4,Pt b1),(5,Pt b2)]) (λz4 x3=>[.obj b1 82 (.rep Tr [0,0,0,0,0]),.obj b2 82 (.rep Tr x3)]) h (λK h=>?_) (λz4 x3 h=>?_)
 .
  refine sr (fB rfl ?_);refine nt (ai (aD (λz6 y5=>[(0,.rep (.mo (Pv bm) [c0,c1,c2,c3,c4,c5] am) a0),(1,.eq (.int .u8 a1)),(4,Pt b1),(5,Pt b2),(7,I y5.2)]) (λz6 y5=>[.obj b1 82 (.rep Tr [0,0,0,0,0]),.obj b2 82 (.rep Tr y5.1)]) (cL k a0 a1) k () ([0,0,0,0,0],0) (λ_=>rfl) h (SE.fin [1,0] ⟨rfl,rfl,rfl,rfl,rfl,trivial⟩ rfl) (λn z6 y5 h=>?_)));unfold cL at h;refine sr (jb (bq rfl) ?_);refine nt (aj (ci h (λh=>?_) (λh=>?_)))
  .refine sk (aF (Z:=Unit) (α:=(List Int)) (λz8 x7=>[(0,.rep (.mo (Pv bm) [c0,c1,c2,c3,c4,c5] am) a0),(1,.eq (.int .u8 a1)),(4,Pt b1),(5,Pt b2),(7,I y5.2)]) (λz8 x7=>[.obj b1 82 (.rep Tr [0,0,0,0,0]),.obj b2 82 (.rep Tr x7)]) h (λK h=>?_) (λz8 x7 h=>?_))
   .refine ai (sr (mq ?_));refine aq (nt (sr ?_));refine mq ?_;obtain⟨u9,e,h⟩:=aa h;refine jb (dX rfl CV bW (ao e).1 (ao e).2) ?_;refine fr 1 ?_;refine aM rfl rfl (gZ (t:=Ti) (off:=0) (i:=y5.2) (N:=5) rfl bW .int rfl rfl rfl rfl (ao e).1 (ao e).2 rfl) ⟨rfl,rfl,trivial⟩ ?_;refine nt (sr ?_);iterate 2 refine mq ?_
    obtain⟨u,l,h⟩:=aa h;refine jb (av [.tmp 12,.tmp 13] rfl rfl Iw rfl (g9 k a1 y5.2 u l)) ?_;refine nt (cv h (λh=>?_) (λh=>?_))
    .refine ab ?_;iterate 2 refine mq ?_
     refine ja (lT rfl) ?_;refine ja (g7 rfl iq) ?_;refine ja (i8 1 false rfl pj rfl rfl) ?_;refine ja (jR (t:=Ti) rfl bW (hK.sub 1 1 rfl (le_of_ble_eq_true rfl)) rfl rfl) ?_;obtain⟨x,c,h⟩:=aa h;refine jb (dX rfl CV bW (ao c).1 (ao c).2) ?_;refine aM rfl rfl (gZ (t:=Ti) (off:=0) (i:=y5.2) (N:=5) rfl bW .int rfl rfl rfl rfl (ao c).1 (ao c).2 rfl) ⟨rfl,rfl,trivial⟩ ?_;refine aG (bn ?_);exact jz ((),List.set (List.set y5.1 (Int.toNat y5.2) (-1:Int)) (Int.toNat y5.2) a0.2.1) h [1,0]
    .refine bi (bn ?_);exact jz ((),List.set y5.1 (Int.toNat y5.2) (-1:Int)) h [1,0]
   .refine ab ?_;obtain⟨s,j,h⟩:=aa h;refine jb (bj rfl j) ?_;refine mq (nl ?_);exact jz ((),(x7,s)) h [0,1]
  .refine xa ?_;exact jz ((),y5.1) h [0,1]
 .
  refine sr (fr 1 ?_);refine lo jI ?_;refine fr 1 ?_;refine aM rfl rfl (aK rfl jI rfl rfl rfl) ⟨rfl,rfl,trivial⟩ ?_;refine nt (aC ?_);obtain rfl:=Option.some.inj h;exact aP () [.rep Tr x3] 0 ⟨⟨_,_,_,_,_,rfl,(.head _),jI,(qe),rfl⟩,trivial⟩ rfl
def du(k:Nat)(a0:(List Int))(a1:Int):Nat->Int->Option (Except Int Unit)
 |0,_=>none
 |n+1,y3=>
  if y3 < (a0.length:Int) then((aH a0 y3).bind λx5=>
  if a1=x5 then(some (.error y3)) else((ck (y3+1)).bind λx6=>
  du k a0 a1 n x6)) else(some (.ok ()))
def gx(k:Nat)(a0:(List Int))(a1:Int):Option Int:=
 bE (α:=Unit) (du k a0 a1 k 0) (some) λ_=>
 some (-1:Int)
theorem nj(k:Nat)(a0:(List Int))(a1:Int)(r:Int)(h:gx k a0 a1=some r):
 cV Tryz.prog 62 [.rep Tl a0,I a1] [] (λ_:Unit=>(bF [I r],[])):=by
 unfold gx at h
 replace h:=ba h
 refine cV.of 19 Tryz.func62 rfl Tryz.ntmps62 rfl λS w0=>?_
 refine sr ?_
 refine cq ?_
 refine nt ?_
 refine cO (Z:=Unit) (α:=Unit) (λz2 x1=>[]) (λz2 x1=>[]) (λe=>e=r) h (λe h=>Option.some.inj h) (λK hR h=>?_) (λz2 x1 h=>?_)
 .
  refine sr (mq ?_);refine ol gG ?_;refine fB rfl ?_;refine nt (ai (aD (λz4 y3=>[(0,.rep Tl a0),(1,I a1),(7,I (a0.length:Int)),(8,I y3)]) (λz4 y3=>[]) (du k a0 a1) k () 0 (λ_=>rfl) h (SE.fin [] ⟨rfl,rfl,rfl,rfl,trivial⟩ rfl) (λn z4 y3 h=>?_)));unfold du at h;refine sr (jb (bq rfl) ?_);refine nt (aj (ci h (λh=>?_) (λh=>?_)))
  .refine sk (aj (ai (sr (mq ?_))));refine aq (nt (sr ?_));iterate 3 refine mq ?_
   obtain⟨x5,j,h⟩:=aa h;refine jb (aE (t:=Ti) rfl gG bW j) ?_;refine ja (an (t:=Ti) rfl bW rfl) ?_;refine jb (jL rfl) ?_;refine nt (ci h (λh=>?_) (λh=>?_))
   .refine sr (mq ?_);refine aq (nt (aC (br (aX (aY ?_)))));obtain rfl:=hR _ h;exact ra
   .refine bi (aI (tn (ab ?_)));obtain⟨x6,c,h⟩:=aa h;refine jb (bj rfl c) ?_;refine mq (nl ?_);exact jz ((),x6) h []
  .refine xa ?_;exact jz ((),()) h []
 .
  refine sr (cq (nt (aC ?_)));cases h;exact ra
def lE(k:Nat)(a0:Int):Option Bool:=
 some (!decide (a0=a0))
theorem so(k:Nat)(a0:Int)(r:Bool)(h:lE k a0=some r):
 cV Tryz.prog 173 [I a0] [] (λ_:Unit=>(bF [.eq (.bool r)],[])):=by
 unfold lE at h
 replace h:=ba h
 refine cV.of 6 Tryz.func173 rfl Tryz.ntmps173 rfl λS w0=>?_
 refine sr ?_
 refine cq ?_
 refine nt ?_
 refine sr ?_
 iterate 2 refine mq ?_
 refine jb (d4 rfl) ?_
 refine aq ?_
 refine nt ?_
 refine aC ?_
 cases h
 exact ra
def pn(k:Nat)(a0:Int)(a1:Int):Option Bool:=
 (((lE k a0).bind λr3=>
 if r3=true then((lE k a1).bind λr4=>
 if¬(r4=true) then(some true) else(some (decide (a0 < a1)))) else(some (decide (a0 < a1)))):Option (Bool)).bind λx1=>
 some x1
theorem AD(k:Nat)(a0:Int)(a1:Int)(r:Bool)(h:pn k a0 a1=some r):
 cV Tryz.prog 163 [I a0,I a1] [] (λ_:Unit=>(bF [.eq (.bool r)],[])):=by
 unfold pn at h
 replace h:=ba h
 refine cV.of 17 Tryz.func163 rfl Tryz.ntmps163 rfl λS w0=>?_
 refine sr ?_
 refine cq ?_
 refine nt ?_
 refine aF (Z:=Unit) (α:=Bool) (λz2 x1=>[(4,.eq (.bool x1))]) (λz2 x1=>[]) h (λK h=>?_) (λz2 x1 h=>?_)
 .
  refine ab (mq ?_);obtain⟨r3,e,h⟩:=aa h;refine ja (av [.tmp 5] rfl rfl Nn rfl (so k a0 r3 e)) ?_;refine mq ?_;refine bX (s:=7) rfl (λhb=>?_) (λhb=>?_)
  .replace h:=dU (M4 hb) h;refine gm ?_;obtain⟨r4,c,h⟩:=aa h;refine ga (av [.tmp 8] rfl rfl Nn rfl (so k a1 r4 c)) ?_;refine ga (eI rfl) ?_;refine pt ?_;refine mq ?_;refine bX (s:=12) rfl (λhb=>?_) (λhb=>?_)
   .replace h:=dU (rQ hb) h;iterate 3 refine gn ?_
    refine pt ?_;refine aq (nl ?_);exact jz ((),true) h []
   .replace h:=cG (mF hb) h;refine gm ?_;refine gm ?_;refine gb (bq rfl) ?_;refine pf ?_;refine aq (nl ?_);exact jz ((),decide (a0 < a1)) h []
  .replace h:=cG (M6 hb) h;iterate 3 refine gn ?_
   refine pf ?_;refine mq ?_;refine gm ?_;refine gm ?_;refine gb (bq rfl) ?_;refine pf ?_;refine aq (nl ?_);exact jz ((),decide (a0 < a1)) h []
 .
  refine aC ?_;cases h;exact ra
def bv(k:Nat)(a1:Int):Nat->((List Int)×Int)->Option (List Int)
 |0,_=>none
 |n+1,y6=>
  ((if a1 < y6.2 then((aH y6.1 y6.2).bind λu=>
  (ck (y6.2 - 1)).bind λs=>
  (aH y6.1 s).bind λr=>
  (pn k u r).bind λx=>
  some x) else(some false)):Option (Bool)).bind λx8=>
  if x8=true then((ck (y6.2 - 1)).bind λe=>
  (ck (y6.2 - 1)).bind λl=>
  (aH y6.1 l).bind λc=>
  (aH y6.1 y6.2).bind λj=>
  (aH y6.1 y6.2).bind λD=>
  (aH (List.set y6.1 (Int.toNat y6.2) c) e).bind λy=>
  (ck (y6.2 - 1)).bind λh=>
  bv k a1 n (List.set (List.set y6.1 (Int.toNat y6.2) c) (Int.toNat e) j,h)) else(some y6.1)
def bz(k:Nat)(a1:Int)(a2:Int):Nat->((List Int)×Int)->Option (List Int)
 |0,_=>none
 |n+1,y2=>
  if y2.2 < a2 then(((bv k a1 k (y2.1,y2.2)):Option ((List Int))).bind λx4=>
  (ck (y2.2+1)).bind λc=>
  bz k a1 a2 n (x4,c)) else(some y2.1)
def bZ(k:Nat)(a0:(List Int))(a1:Int)(a2:Int):Option (List Int):=
 (ck (a1+1)).bind λx1=>
 bz k a1 a2 k (a0,x1)
theorem jK(k:Nat)(a0:(List Int))(c:Value)(a1:Int)(a2:Int)(r:(List Int))(h:bZ k a0 a1 a2=some r):
 cV Tryz.prog 157 [.eq c,I a1,I a2] [.sl c 3 Ti a0] (λ_:Unit=>(bF [],[.sl c 3 Ti r])):=by
 unfold bZ at h
 replace h:=ba h
 refine cV.of 49 Tryz.func157 rfl Tryz.ntmps157 rfl λS w0=>?_
 refine sr ?_
 refine mq ?_
 obtain⟨x1,Vq,h⟩:=aa h
 refine jb (bj rfl Vq) ?_
 refine aq ?_
 refine nt ?_
 refine ai ?_
 refine aD (λz3 y2=>[(0,.eq c),(1,I a1),(2,I a2),(6,I y2.2)]) (λz3 y2=>[.sl c 3 Ti y2.1]) (bz k a1 a2) k () (a0,x1) (λ_=>rfl) h (SE.fin [0] ⟨rfl,rfl,rfl,rfl,trivial⟩ rfl) (λn z3 y2 h=>?_)
 unfold bz at h
 refine aj ?_
 refine sr ?_
 iterate 2 refine mq ?_
 refine jb (bq rfl) ?_
 refine nt ?_
 refine ci h (λh=>?_) (λh=>?_)
 .
  refine sk (aF (Z:=Unit) (α:=(List Int)) (λz5 x4=>[(0,.eq c),(1,I a1),(2,I a2),(6,I y2.2)]) (λz5 x4=>[.sl c 3 Ti x4]) h (λK h=>?_) (λz5 x4 h=>?_))
  .refine ai (sr (mq ?_));refine aq (nt (ai ?_));refine aD (λz7 y6=>[(0,.eq c),(1,I a1),(2,I a2),(6,I y2.2),(7,I y6.2)]) (λz7 y6=>[.sl c 3 Ti y6.1]) (bv k a1) k () (y2.1,y2.2) (λ_=>rfl) h (SE.fin [0] ⟨rfl,rfl,rfl,rfl,rfl,trivial⟩ rfl) (λn z7 y6 h=>?_);unfold bv at h;refine aj (aF (Z:=Unit) (α:=Bool) (λz9 x8=>[(0,.eq c),(1,I a1),(2,I a2),(6,I y2.2),(7,I y6.2),(30,.eq (.bool x8))]) (λz9 x8=>[.sl c 3 Ti y6.1]) h (λK h=>?_) (λz9 x8 h=>?_))
   .refine bN ?_;refine dm ?_;refine dm ?_;refine db (iD rfl) ?_;refine lx rfl rfl rfl (aO rfl) ⟨rfl,trivial⟩ (λhb=>?_) (λhb=>?_)
    .replace h:=dU (uA hb) h;refine bg rfl rfl rfl rfl rfl (aO rfl) ⟨rfl,rfl,trivial⟩ ?_;refine bg rfl rfl rfl rfl rfl (aO rfl) ⟨rfl,rfl,trivial⟩ ?_;obtain⟨Vg,x,h⟩:=aa h;refine iZ 0 rfl rfl rfl rfl rfl rfl (cH (t:=Ti) rfl gG bW x) ⟨rfl,rfl,rfl,trivial⟩ ?_;refine iZ 0 rfl rfl rfl rfl rfl rfl (gA (i:=Int.toNat y6.2) (off:=0) rfl bW (λ_=>rfl) rfl (dF x).2.2 rfl) ⟨rfl,rfl,trivial⟩ ?_;refine bg rfl rfl rfl rfl rfl (aO rfl) ⟨rfl,rfl,trivial⟩ ?_;refine bg rfl rfl rfl rfl rfl (aO rfl) ⟨rfl,rfl,trivial⟩ ?_;obtain⟨Vf,qt,h⟩:=aa h;refine bg rfl rfl rfl rfl rfl (ek rfl qt) ⟨rfl,rfl,rfl,trivial⟩ ?_;obtain⟨Ve,u,h⟩:=aa h;refine iZ 0 rfl rfl rfl rfl rfl rfl (cH (t:=Ti) rfl gG bW u) ⟨rfl,rfl,rfl,trivial⟩ ?_;refine iZ 0 rfl rfl rfl rfl rfl rfl (gA (i:=Int.toNat Vf) (off:=0) rfl bW (λ_=>rfl) rfl (dF u).2.2 rfl) ⟨rfl,rfl,trivial⟩ ?_;refine df cS ?_;obtain⟨F,zz,h⟩:=aa h;refine gb (av [.tmp 23,.tmp 28] rfl rfl Rf rfl (AD k Vg Ve F zz)) ?_;refine pt (nl ?_);exact jz ((),F) h [0]
    .replace h:=cG (uB hb) h;iterate 9 refine dg ?_
     refine df cS ?_;refine gn ?_;refine pf (nl ?_);exact jz ((),false) h [0]
   .refine cv h (λh=>?_) (λh=>?_)
    .refine sk (aj (ai (px ?_)));refine bD rfl rfl rfl (aO rfl) ⟨rfl,trivial⟩ ?_;refine bD rfl rfl rfl (aO rfl) ⟨rfl,trivial⟩ ?_;refine bD rfl rfl rfl (aO rfl) ⟨rfl,trivial⟩ ?_;refine bD rfl rfl rfl (aO rfl) ⟨rfl,trivial⟩ ?_;obtain⟨y,mw,h⟩:=aa h;refine bD rfl rfl rfl (ek rfl mw) ⟨rfl,rfl,trivial⟩ ?_;refine bD rfl rfl rfl (aO rfl) ⟨rfl,trivial⟩ ?_;refine bD rfl rfl rfl (aO rfl) ⟨rfl,trivial⟩ ?_;obtain⟨Vb,mc,h⟩:=aa h;refine bD rfl rfl rfl (ek rfl mc) ⟨rfl,rfl,trivial⟩ ?_;obtain⟨E,s,h⟩:=aa h;refine iy 0 rfl rfl rfl rfl (cH (t:=Ti) rfl gG bW s) ⟨rfl,rfl,trivial⟩ ?_;refine iy 0 rfl rfl rfl rfl (gA (i:=Int.toNat Vb) (off:=0) rfl bW (λ_=>rfl) rfl (dF s).2.2 rfl) ⟨rfl,trivial⟩ ?_;refine bD rfl rfl rfl (aO rfl) ⟨rfl,trivial⟩ ?_;refine bD rfl rfl rfl (aO rfl) ⟨rfl,trivial⟩ ?_;obtain⟨D,l,h⟩:=aa h;refine iy 0 rfl rfl rfl rfl (cH (t:=Ti) rfl gG bW l) ⟨rfl,rfl,trivial⟩ ?_;refine iy 0 rfl rfl rfl rfl (gA (i:=Int.toNat y6.2) (off:=0) rfl bW (λ_=>rfl) rfl (dF l).2.2 rfl) ⟨rfl,trivial⟩ ?_;obtain⟨Vy,j,h⟩:=aa h;refine iy 0 rfl rfl rfl rfl (cH (t:=Ti) rfl gG bW j) ⟨rfl,rfl,trivial⟩ ?_;refine tO 15 [true,true,false,false,false,true,true,true,true,true,true,true,true,true,true] [48] [] [] rfl (by kernel_rfl) (by kernel_rfl) (by kernel_rfl) cS (λvs hv hB=>?_);obtain⟨w0,VM,rfl,Vp⟩:=aA hv;obtain⟨w1,VL,rfl,Vo⟩:=aA Vp;obtain⟨w2,VK,rfl,Vn⟩:=aA Vo;obtain⟨w3,VJ,rfl,Vm⟩:=aA Vn;obtain⟨w4,VI,rfl,Vl⟩:=aA Vm;obtain⟨w5,VH,rfl,Vk⟩:=aA Vl;obtain⟨w6,VG,rfl,Vj⟩:=aA Vk;obtain⟨w7,VF,rfl,Vi⟩:=aA Vj;obtain⟨w8,VE,rfl,Vh⟩:=aA Vi;obtain⟨w9,Vw,rfl,X⟩:=aA Vh;obtain⟨VD,Vv,rfl,U⟩:=aA X;obtain⟨VC,Vu,rfl,Q⟩:=aA U;obtain⟨VB,Vt,rfl,O⟩:=aA Q;obtain⟨VA,Vs,rfl,M⟩:=aA O;obtain⟨Vz,Vr,rfl,J⟩:=aA M;obtain rfl:=pL J;refine⟨[0],[.sl c 3 Ti y6.1],by kernel_rfl,by decide,?_⟩;refine rj rfl rfl (gY (i:=Int.toNat y6.2) rfl bW rfl (nT j) rfl .int rfl) ⟨rfl,rfl,trivial⟩ (by kernel_rfl) ?_;obtain⟨Vx,e,h⟩:=aa h;refine vP rfl rfl rfl rfl (cH (t:=Ti) rfl gG bW e) ⟨rfl,rfl,trivial⟩ (by kernel_rfl) ?_;refine rj rfl rfl (gY (i:=Int.toNat y) rfl bW rfl (nT e) rfl .int rfl) ⟨rfl,rfl,trivial⟩ (by kernel_rfl) ?_;refine vQ ?_;refine bM (SE.fin (Γ':=[(0,.eq c),(1,I a1),(2,I a2),(6,I y2.2),(7,I y6.2)]) (Δ':=[.sl c 3 Ti (List.set (List.set y6.1 (Int.toNat y6.2) E) (Int.toNat y) D)]) [0] ⟨rfl,rfl,rfl,rfl,rfl,trivial⟩ rfl) ?_;refine aI (tn (ab (mq ?_)));obtain⟨Va,gw,h⟩:=aa h;refine jb (ek rfl gw) ?_;refine aq (nl ?_);exact jz ((),(List.set (List.set y6.1 (Int.toNat y6.2) E) (Int.toNat y) D,Va)) h [0]
    .refine fq (bL (bL (c6 (bn ?_))));exact jz ((),y6.1) h [0]
  .refine ab (mq ?_);obtain⟨U8,Y,h⟩:=aa h;refine jb (bj rfl Y) ?_;refine aq (nl ?_);exact jz ((),(x4,U8)) h [0]
 .
  refine fq (bL (bL (c6 (kM ?_))));cases h;exact aP () [] 1 trivial rfl
def kV(k:Nat)(a0:Int):Option Int:=
 ((if 4294967296≤a0 then(some (gR .u64 a0 32,32)) else(some (a0,0))):Option (Int×Int)).bind λx1=>
 ((if 65536≤x1.1 then((ck (x1.2+16)).bind λx5=>
 some (gR .u64 x1.1 16,x5)) else(some (x1.1,x1.2))):Option (Int×Int)).bind λx3=>
 ((if 256≤x3.1 then((ck (x3.2+8)).bind λx8=>
 some (gR .u64 x3.1 8,x8)) else(some (x3.1,x3.2))):Option (Int×Int)).bind λx6=>
 (Cd K6 (IntKind.u8.wrap x6.1)).bind λx9=>
 (ck (x9.toNat:Int)).bind λe=>
 (ck (x6.2+e)).bind λc=>
 some c
theorem qR(k:Nat)(a0:Int)(r:Int)(h:kV k a0=some r):
 cV Tryz.prog 167 [.eq (.int .u64 a0)] [] (λ_:Unit=>(bF [I r],[])):=by
 unfold kV at h
 replace h:=ba h
 refine cV.of 25 Tryz.func167 rfl Tryz.ntmps167 rfl λS w0=>?_
 refine sr ?_
 refine cq ?_
 refine nt ?_
 refine aF (Z:=Unit) (α:=Int×Int) (λz2 x1=>[(0,.eq (.int .u64 x1.1)),(2,I x1.2)]) (λz2 x1=>[]) h (λK h=>?_) (λz2 x1 h=>?_)
 .
  refine sr (mq ?_);refine jb (jg rfl) ?_;refine nt (ci h (λh=>?_) (λh=>?_))
  .refine sr (mq ?_);refine co rfl (va rfl (by decide)) ⟨rfl,rfl,trivial⟩ ?_;refine aq (nt (ab ?_));refine cq (nl ?_);exact jz ((),(gR .u64 a0 32,32)) h []
  .refine bi (ax ?_);exact jz ((),(a0,0)) h []
 .
  refine aF (Z:=Unit) (α:=Int×Int) (λz4 x3=>[(0,.eq (.int .u64 x3.1)),(2,I x3.2)]) (λz4 x3=>[]) h (λK h=>?_) (λz4 x3 h=>?_)
  .refine sr (mq ?_);refine jb (jg rfl) ?_;refine nt (ci h (λh=>?_) (λh=>?_))
   .refine sr (mq ?_);refine co rfl (va rfl (by decide)) ⟨rfl,rfl,trivial⟩ ?_;refine aq (nt (ab ?_));refine mq ?_;obtain⟨x5,n,h⟩:=aa h;refine jb (bj rfl n) ?_;refine aq (nl ?_);exact jz ((),(gR .u64 x1.1 16,x5)) h []
   .refine bi (ax ?_);exact jz ((),(x1.1,x1.2)) h []
  .refine aF (Z:=Unit) (α:=Int×Int) (λz7 x6=>[(0,.eq (.int .u64 x6.1)),(2,I x6.2)]) (λz7 x6=>[]) h (λK h=>?_) (λz7 x6 h=>?_)
   .refine sr (mq ?_);refine jb (jg rfl) ?_;refine nt (ci h (λh=>?_) (λh=>?_))
    .refine sr (mq ?_);refine co rfl (va rfl (by decide)) ⟨rfl,rfl,trivial⟩ ?_;refine aq (nt (ab ?_));refine mq ?_;obtain⟨x8,l,h⟩:=aa h;refine jb (bj rfl l) ?_;refine aq (nl ?_);exact jz ((),(gR .u64 x3.1 8,x8)) h []
    .refine bi (ax ?_);exact jz ((),(x3.1,x3.2)) h []
   .refine sr ?_;iterate 2 refine mq ?_
    refine ja (sX rfl SC U5) ?_;obtain⟨x9,j,h⟩:=aa h;refine ja (zM rfl U9 j) ?_;obtain⟨u,e,h⟩:=aa h;refine ja (zN rfl U5 U3 e) ?_;obtain⟨s,c,h⟩:=aa h;refine jb (bj rfl c) ?_;refine aq (nt (aC ?_));cases h;exact ra
def pW(k:Nat)(a0:Int):Option Int:=
 (kV k a0).bind λr1=>
 some r1
theorem CM(k:Nat)(a0:Int)(r:Int)(h:pW k a0=some r):
 cV Tryz.prog 156 [.eq (.int .u64 a0)] [] (λ_:Unit=>(bF [I r],[])):=by
 unfold pW at h
 replace h:=ba h
 refine cV.of 8 Tryz.func156 rfl Tryz.ntmps156 rfl λS w0=>?_
 refine sr ?_
 refine cq ?_
 refine nt ?_
 refine aj ?_
 refine Jd (λhb=>(by cases hb)) (λhb=>?_)
 refine sk ?_
 refine sr ?_
 refine mq ?_
 obtain⟨r1,c,h⟩:=aa h
 have e:=qR k a0 r1 c
 refine ja (av [.tmp 6] rfl rfl Re rfl e) ?_
 refine aq ?_
 refine nt ?_
 refine aC ?_
 cases h
 exact ra
def cI(k:Nat)(a0:(List Int))(a1:Int)(a2:Int)(a3:Int):Nat->Unit->Option (List Int)
 |0,_=>none
 |n+1,y1=>
  (ck (a2 - a1)).bind λx3=>
  if x3≤12 then((bZ k a0 a1 a2).bind λr4=>
  some r4) else(if a3=0 then(none) else(none))
def c8(k:Nat)(a0:(List Int))(a1:Int)(a2:Int)(a3:Int):Option (List Int):=
 cI k a0 a1 a2 a3 k ()
theorem mm(k:Nat)(a0:(List Int))(c:Value)(a1:Int)(a2:Int)(a3:Int)(r:(List Int))(h:c8 k a0 a1 a2 a3=some r):
 cV Tryz.prog 155 [.eq c,I a1,I a2,I a3] [.sl c 3 Ti a0] (λ_:Unit=>(bF [],[.sl c 3 Ti r])):=by
 unfold c8 at h
 replace h:=ba h
 refine cV.of 134 Tryz.func155 rfl Tryz.ntmps155 rfl λS w0=>?_
 refine sr ?_
 refine cq ?_
 refine nt ?_
 refine sr ?_
 refine cq ?_
 refine nt ?_
 refine ai ?_
 refine aD (λz2 y1=>[(0,.eq c),(1,I a1),(2,I a2),(3,I a3),(8,.eq (.bool true)),(9,.eq (.bool true))]) (λz2 y1=>[.sl c 3 Ti a0]) (cI k a0 a1 a2 a3) k () () (λ_=>rfl) h (SE.fin [0] ⟨rfl,rfl,rfl,rfl,rfl,rfl,trivial⟩ rfl) (λn z2 y1 h=>?_)
 unfold cI at h
 refine ai ?_
 refine sr ?_
 iterate 2 refine mq ?_
 obtain⟨x3,e,h⟩:=aa h
 refine jb (ek rfl e) ?_
 refine aq ?_
 refine nt ?_
 refine aj ?_
 refine sr ?_
 refine mq ?_
 refine jb (xg rfl) ?_
 refine nt ?_
 refine ci h (λh=>?_) (λh=>?_)
 .
  refine sr ?_;iterate 3 refine mq ?_
  obtain⟨r4,j,h⟩:=aa h;refine kc (av [.tmp 24,.tmp 25,.tmp 26] rfl rfl Ri rfl (jK k a0 c a1 a2 r4 j)) ?_;refine nt (rx (aX (aY (aX ?_))));cases h;exact aP () [] 1 trivial rfl
 .
  refine sk (aj (sr (mq ?_)));refine jb (jL rfl) ?_;refine nt (ci h (λh=>?_) (λh=>?_))
  .cases h
  .cases h
def fZ(k:Nat)(a0:(List Int)):Option (List Int):=
 (pW k (IntKind.u64.wrap (a0.length:Int))).bind λr1=>
 (c8 k a0 0 (a0.length:Int) r1).bind λr2=>
 some r2
theorem ua(k:Nat)(a0:(List Int))(c:Value)(r:(List Int))(h:fZ k a0=some r):
 cV Tryz.prog 142 [.eq c] [.sl c 3 Ti a0] (λ_:Unit=>(bF [],[.sl c 3 Ti r])):=by
 unfold fZ at h
 replace h:=ba h
 refine cV.of 11 Tryz.func142 rfl Tryz.ntmps142 rfl λS w0=>?_
 refine sr ?_
 refine mq ?_
 refine ka (np rfl rfl gG) ?_
 refine aq ?_
 refine nt ?_
 refine ab ?_
 iterate 3 refine mq ?_
 refine ja (sX rfl U3 Uz) ?_
 obtain⟨r1,j,h⟩:=aa h
 have n:=CM k (IntKind.u64.wrap (a0.length:Int)) r1 j
 refine ja (av [.tmp 8] rfl rfl Rj rfl n) ?_
 obtain⟨r2,e,h⟩:=aa h
 have l:=mm k a0 c 0 (a0.length:Int) r1 r2 e
 refine mZ rfl rfl rfl (av [.tmp 5,.const (.int .i64 (0)),.tmp 6,.tmp 9] rfl rfl Rm rfl l) ⟨rfl,rfl,rfl,rfl,trivial⟩ ?_
 refine aG ?_
 refine kM ?_
 cases h
 exact aP () [] 1 trivial rfl
def cM(k:Nat)(a1:Int)(x3:(List (List Int))):Nat->Int->Option (Except (Int ⊕ (List Int)) Unit)
 |0,_=>none
 |n+1,y4=>
  if y4 < (x3.length:Int) then((aH x3 y4).bind λx6=>
  (gx k x6 a1).bind λr7=>
  if 0≤r7 then(((if 0 < r7 then((ck (r7 - 1)).bind λs=>
  (aH x6 s).bind λe=>
  (cf (bA (length ([]:(List Int))+length [e]))).bind λ_=>
  some (([]:(List Int))++[e])) else(some ([]:(List Int)))):Option ((List Int))).bind λx8=>
  (((ck (r7+1)).bind λl=>
  if l < (x6.length:Int) then((ck (r7+1)).bind λj=>
  (aH x6 j).bind λc=>
  (cf (bA (length x8+length [c]))).bind λ_=>
  some (x8++[c])) else(some x8)):Option ((List Int))).bind λr=>
  (fZ k r).bind λu=>
  some (.error (Sum.inr u:(Int ⊕ (List Int))))) else((ck (y4+1)).bind λh=>
  cM k a1 x3 n h)) else(some (.ok ()))
def eg(k:Nat):Nat->ae->Int->Int->Option ((Int ⊕ (List Int)))
 |0,_,_,_=>none
 |m0+1,a0,a1,a2=>
  bE (α:=Unit) ((aH a0.2.2.2.2.1 a2).bind λx3=>
  cM k a1 x3 k 0) (some) λ_=>
  ((if 0 < a2 then((ck (a2 - 1)).bind λh=>
  ((eg k m0) a0 a1 h).bind λc=>
  if J9 c=true then((ck (1+(Qj c))).bind λe=>
  some e) else(some 1)) else(some 1)):Option (Int)).bind λj=>
  some (Sum.inl j:(Int ⊕ (List Int)))
theorem lX{M:Md Tryz.prog}{bm:Nat}{c0 c1 c2 c3 c4 c5:Value}(hK:Kn M bm 0 [c0,c1,c2,c3,c4,c5])(k:Nat):
 ∀(n:Nat) (a0:ae) (a1:Int) (a2:Int) (r:(Int ⊕ (List Int))),eg k n a0 a1 a2=some r->cC M 115 [.rep (.mo (Pv bm) [c0,c1,c2,c3,c4,c5] am) a0,I a1,I a2] ([]) (λ_:Unit=>(bF [.rep (.pl 163 165 Tl) r],[])):=by
 intro n
 induction n with
 |zero=>intro a0 a1 a2 r h;cases h
 |succ m0 ih=>
  intro a0 a1 a2 r h;rw [eg] at h;replace h:=ba h;refine cC.of 80 Tryz.func115 rfl Tryz.ntmps115 rfl λS w0=>?_;refine sr (cq (nt ?_));refine cO (Z:=Unit) (α:=Unit) (λz2 x1=>[(0,.rep (.mo (Pv bm) [c0,c1,c2,c3,c4,c5] am) a0),(1,I a1),(2,I a2)]) (λz2 x1=>[]) (λe=>e=r) h (λe h=>Option.some.inj h) (λK hR h=>?_) (λz2 x1 h=>?_)
  .refine sr (mq ?_);refine ja (lT rfl) ?_;refine ja (g7 rfl iq) ?_;refine ja (i8 1 false rfl bS rfl rfl) ?_;refine ja (jR (t:=(.slice (.slice Tl))) rfl eH (hK.sub 4 1 rfl (le_of_ble_eq_true rfl)) rfl rfl) ?_;refine mq ?_;obtain⟨x3,Vg,h⟩:=aa h;refine jb (aE (t:=(.slice Tl)) rfl oy jJ Vg) ?_;refine ja (an (t:=(.slice Tl)) rfl jJ rfl) ?_;refine ol pY ?_;refine fB rfl ?_;refine nt (ai (aD (λz5 y4=>[(0,.rep (.mo (Pv bm) [c0,c1,c2,c3,c4,c5] am) a0),(1,I a1),(2,I a2),(21,.rep (.slice Tl) x3),(22,I (x3.length:Int)),(23,I y4)]) (λz5 y4=>[]) (cM k a1 x3) k () 0 (λ_=>rfl) h (SE.fin [] ⟨rfl,rfl,rfl,rfl,rfl,rfl,trivial⟩ rfl) (λn z5 y4 h=>?_)));unfold cM at h;refine sr (jb (bq rfl) ?_);refine nt (aj (ci h (λh=>?_) (λh=>?_)))
   .refine sk (aj (ai (sr ?_)));obtain⟨x6,Vf,h⟩:=aa h;refine jb (aE (t:=Tl) rfl pY fC Vf) ?_;refine ja (an (t:=Tl) rfl fC rfl) ?_;refine aq (nt (sr ?_));iterate 2 refine mq ?_
    obtain⟨r7,Vh,h⟩:=aa h;refine jb (av [.tmp 27,.tmp 28] rfl rfl Q6 rfl (nj k x6 a1 r7 Vh)) ?_;refine aq (nt (sr ?_));refine mq ?_;refine jb (jg rfl) ?_;refine nt (ci h (λh=>?_) (λh=>?_))
    .refine sr (cq (nt ?_));refine aF (Z:=Value) (α:=(List Int)) (λz9 x8=>[(8,.rep Tl x6),(9,I r7),(10,.eq z9)]) (λz9 x8=>[.sl z9 3 Ti x8]) h (λK h=>?_) (λz9 x8 h=>?_)
     .refine sr (mq ?_);refine jb (iD rfl) ?_;refine nt (ci h (λh=>?_) (λh=>?_))
      .refine ab ?_;iterate 3 refine mq ?_
       obtain⟨Vk,U,h⟩:=aa h;refine jb (ek rfl U) ?_;obtain⟨x,Q,h⟩:=aa h;refine jb (aE (t:=Ti) rfl gG bW Q) ?_;refine ja (an (t:=Ti) rfl bW rfl) ?_;refine ja (aW (t:=Ti) [(.tmp 39,_)] [x] rfl rfl c9 (.cons rfl .int .nil) rfl rfl) ?_;refine ee (SE.nil 3 Ti) ?_;obtain⟨Vm,Y,h⟩:=aa h;refine cR rfl rfl rfl (bu rfl rfl c9 (ao Y)) ⟨rfl,rfl,trivial⟩ λVa=>?_;refine aq (nl ?_);exact jz (Va,([]:(List Int))++[x]) h [0]
      .refine bi (ax (bM (SE.nil 3 Ti) ?_));exact jz ((.slice none 0 0),([]:(List Int))) h [0]
     .refine aF (Z:=Value) (α:=(List Int)) (λc j=>[(10,.eq c)]) (λc j=>[.sl c 3 Ti j]) h (λK h=>?_) (λc j h=>?_)
      .refine sr (mq ?_);obtain⟨Vj,O,h⟩:=aa h;refine jb (bj rfl O) ?_;refine mq ?_;refine ol gG ?_;refine jb (bq rfl) ?_;refine nt (ci h (λh=>?_) (λh=>?_))
       .refine ab ?_;iterate 3 refine mq ?_
        obtain⟨Vi,J,h⟩:=aa h;refine jb (bj rfl J) ?_;obtain⟨u,F,h⟩:=aa h;refine jb (aE (t:=Ti) rfl gG bW F) ?_;refine ja (an (t:=Ti) rfl bW rfl) ?_;refine ja (aW (t:=Ti) [(.tmp 52,_)] [u] rfl rfl c9 (.cons rfl .int .nil) rfl rfl) ?_;obtain⟨Vl,X,h⟩:=aa h;refine cR rfl rfl rfl (bu rfl rfl c9 (ao X)) ⟨rfl,rfl,trivial⟩ λU8=>?_;refine aq (nl ?_);exact jz (U8,x8++[u]) h [0]
       .refine bi (ax ?_);exact jz (z9,x8) h [0]
      .refine sr (mq ?_);obtain⟨Ve,mc,h⟩:=aa h;refine ka (av [.tmp 55] rfl rfl Ro rfl (ua k j c Ve mc)) ?_;refine nt (sr (mq ?_));refine ee (ie [10,55,57] ⟨rfl,rfl,rfl,trivial⟩) ?_;refine ja (eo [(0,.tmp 57,_)] rfl Qm MS Pe (ku ⟨rfl,trivial⟩) rfl) ?_;refine ja (Ku (t0:=163) (t:=Ti) rfl Ux) ?_;refine aq (nt (aC (br (aX (aY ?_)))));obtain rfl:=hR _ h;exact ra
    .refine bi (aI (tn (ab ?_)));obtain⟨zz,E,h⟩:=aa h;refine jb (bj rfl E) ?_;refine mq (nl ?_);exact jz ((),zz) h []
   .refine xa ?_;exact jz ((),()) h []
  .refine sr (cq (nt ?_));refine aF (Z:=Unit) (α:=Int) (λs l=>[(11,I l)]) (λs l=>[]) h (λK h=>?_) (λs l h=>?_)
   .refine sr (mq ?_);refine jb (iD rfl) ?_;refine nt (ci h (λh=>?_) (λh=>?_))
    .refine sr ?_;iterate 3 refine mq ?_
     obtain⟨qt,D,h⟩:=aa h;refine jb (ek rfl D) ?_;obtain⟨Vb,gw,h⟩:=aa h;refine jc (bo [.tmp 64,.tmp 65,.tmp 67] rfl rfl Ix rfl (ih a0 a1 qt Vb gw)) ?_;refine co rfl (Dm rfl GI (by decide)) ⟨rfl,trivial⟩ ?_;refine mq ?_;refine xr ?_;refine xr ?_;refine aZ rfl rfl rfl (bp rfl F4 ND) trivial λVn=>?_;refine aM rfl rfl (aK rfl M9 trivial rfl rfl) ⟨rfl,rfl,trivial⟩ ?_;refine aq (nt (sr ?_));refine mq (nt ?_);refine cv h (λh=>?_) (λh=>?_)
     .refine ab (mq ?_);refine fl DX ?_;refine lo bW ?_;obtain⟨mw,y,h⟩:=aa h;refine jb (bj rfl y) ?_;refine aq (nl ?_);exact jz ((),mw) h []
     .refine bi (ax ?_);exact jz ((),1) h []
    .refine bi (ax ?_);exact jz ((),1) h []
   .refine sr (mq ?_);refine ja (eo [(0,.tmp 77,_)] rfl Qn F4 Pg (ku ⟨rfl,trivial⟩) rfl) ?_;refine ja (Kv (t1:=165) (t:=Ti) rfl Uy) ?_;refine aq (nt (aC ?_));cases h;exact ra
def iU(k:Nat)(a0:Nw):Option (List Int):=
 some ([]:(List Int))
theorem qL(k:Nat)(a0:Nw)(r:(List Int))(h:iU k a0=some r):
 cV Tryz.prog 191 [.rep Qd a0] [] (λ_:Unit=>(bF [.rep Tl r],[])):=by
 unfold iU at h
 replace h:=ba h
 refine cV.of 3 Tryz.func191 rfl Tryz.ntmps191 rfl λS w0=>?_
 refine sr ?_
 refine bx λb1=>?_
 refine cq ?_
 refine nt ?_
 refine sr ?_
 refine cq ?_
 refine nt ?_
 refine aC ?_
 refine bM (ew (t:=Tl) (x:=([]:(List Int))) 2 rfl .nil rfl rfl) ?_
 cases h
 exact ra
def iS(k:Nat)(a0:Nv):Option (List Int):=
 some a0
theorem qH(k:Nat)(a0:Nv)(r:(List Int))(h:iS k a0=some r):
 cV Tryz.prog 192 [.rep Qc a0] [] (λ_:Unit=>(bF [.rep Tl r],[])):=by
 unfold iS at h
 replace h:=ba h
 refine cV.of 5 Tryz.func192 rfl Tryz.ntmps192 rfl λS w0=>?_
 refine sr ?_
 refine bx λb1=>?_
 refine cq ?_
 refine nt ?_
 refine sr ?_
 refine fl Ll ?_
 refine lo fC ?_
 refine aq ?_
 refine nt ?_
 refine aC ?_
 cases h
 exact ra
def ce(k:Nat)(a0:ae)(a1:(List Int))(r5:(List Int)):Nat->Int->Option (Except Int Unit)
 |0,_=>none
 |n+1,y6=>
  if y6 < (r5.length:Int) then((aH r5 y6).bind λx8=>
  (cf (0≤x8/\x8 < 5)).bind λ_=>
  (aH a1 x8).bind λe=>
  if(tq 0 a0.2.1)≤e then(some (.error x8)) else((ck (y6+1)).bind λc=>
  ce k a0 a1 r5 n c)) else(some (.ok ()))
def dD(k:Nat)(a0:ae)(a1:(List Int))(a2:Int)(a3:Int):Option Int:=
 bE (α:=Unit) ((eg k k a0 a2 a3).bind λr4=>
 (IH r4 (λn=>iU k n) (λl=>iS k l)).bind λr5=>
 ce k a0 a1 r5 k 0) (some) λ_=>
 some (-1:Int)
theorem ky{M:Md Tryz.prog}{bm:Nat}{c0 c1 c2 c3 c4 c5:Value}(hK:Kn M bm 0 [c0,c1,c2,c3,c4,c5])(k:Nat)(a0:ae)(a1:(List Int))(a2:Int)(a3:Int)(r:Int)(h:dD k a0 a1 a2 a3=some r):
    cC M 105 [.rep (.mo (Pv bm) [c0,c1,c2,c3,c4,c5] am) a0,.rep Tr a1,.eq (.int .i64 a2),.eq (.int .i64 a3)] [] (λ_:Unit=>(bF [.eq (.int .i64 r)],[])):=by
  unfold dD at h
  replace h:=ba h
  refine cC.of 33 Tryz.func105 rfl Tryz.ntmps105 rfl λS w0=>?_
  refine aj ?_
  refine ab ?_
  refine aZ rfl rfl rfl (xh rfl rfl) ⟨rfl,trivial⟩ λb1=>?_
  refine Eo rfl ?_
  refine aG ?_
  refine ax ?_
  show JC _ _ _ _ _
  refine cO (Z:=Unit) (α:=Unit) (λz3 x2=>[]) (λz3 x2=>[]) (λe=>e=r) h (λe h=>Option.some.inj h) (λK hR h=>?_) (λz3 x2 h=>?_)
  .
    refine aj ?_
    refine ab ?_
    refine iu rfl rfl ?_
    refine iu rfl rfl ?_
    refine iu rfl rfl ?_
    obtain⟨r4,D,h⟩:=aa h
    have E:=lX hK k k a0 a2 a3 r4 D
    refine co rfl (bo [.tmp 11,.tmp 12,.tmp 13] rfl rfl Ix rfl E) ⟨rfl,rfl,rfl,trivial⟩ ?_
    obtain⟨r5,c,h⟩:=aa h
    refine co rfl (Kw (r:=.rep Tl r5) rfl rfl wx ww (λn hd=>.agI (qL k n r5 (by rw [hd] at c;exact c))) (λl hd=>.agS (qH k l r5 (by rw [hd] at c;exact c)))) ⟨rfl,trivial⟩ ?_
    refine co rfl (od rfl rfl gG) ⟨rfl,trivial⟩ ?_
    refine fB rfl ?_
    refine aG ?_
    refine ax ?_
    show JC _ _ _ _ _
    refine ai ?_
    refine aD (λz7 y6=>[(0,.rep (.mo (Pv bm) [c0,c1,c2,c3,c4,c5] am) a0),(5,.eq (Pv b1)),(15,.rep Tl r5),(16,.eq (.int .i64 (r5.length:Int))),(17,.eq (.int .i64 y6))]) (λz7 y6=>[.obj b1 82 (.rep Tr a1)]) (ce k a0 a1 r5) k () 0 (λ_=>rfl) h (SE.fin [0] ⟨rfl,rfl,rfl,rfl,rfl,trivial⟩ rfl) (λn z7 y6 h=>?_)
    unfold ce at h
    refine aj ?_
    refine ab ?_
    refine co rfl (bq rfl) ⟨rfl,rfl,trivial⟩ ?_
    refine aG ?_
    refine ax ?_
    show JC _ _ _ _ _
    refine aj ?_
    refine jG rfl (λhb=>?_) (λhb=>?_)
    . replace h:=dU (uA hb) h
      refine bi ?_
      refine ax ?_
      show JC _ _ _ _ _
      refine aj ?_
      refine ai ?_
      refine aj ?_
      refine ab ?_
      obtain⟨x8,y,h⟩:=aa h
      refine co rfl (aE (t:=Ti) rfl gG bW y) ⟨rfl,rfl,trivial⟩ ?_
      refine co rfl (an (t:=Ti) rfl bW rfl) ⟨rfl,trivial⟩ ?_
      refine vR rfl rfl ?_
      refine aG ?_
      refine ax ?_
      show JC _ _ _ _ _
      refine aj ?_
      refine bN ?_
      refine fN rfl rfl rfl (aO rfl) ⟨rfl,trivial⟩ ?_
      obtain⟨u9,u,h⟩:=aa h
      refine fN rfl rfl rfl (dX rfl CV bW (ao u).1 (ao u).2) ⟨rfl,rfl,trivial⟩ ?_
      obtain⟨F,s,h⟩:=aa h
      refine yW 0 rfl rfl rfl rfl (nK (t:=Ti) (off:=0) (i:=x8) (N:=5) rfl bW (λ_=>rfl) rfl rfl rfl rfl s) ⟨rfl,trivial⟩ ?_
      refine fN rfl rfl rfl (aO rfl) ⟨rfl,trivial⟩ ?_
      refine fN rfl rfl rfl (lT rfl) ⟨rfl,trivial⟩ ?_
      refine fN rfl rfl rfl (g7 rfl iq) ⟨rfl,trivial⟩ ?_
      refine fN rfl rfl rfl (i8 1 false rfl pj rfl rfl) ⟨rfl,trivial⟩ ?_
      refine fN rfl rfl rfl (jR (t:=Ti) rfl bW (hK.sub 1 1 rfl (le_of_ble_eq_true rfl)) rfl rfl) ⟨rfl,trivial⟩ ?_
      refine fN rfl rfl rfl (Ht rfl rfl) ⟨rfl,rfl,trivial⟩ ?_
      refine C3 (by kernel_rfl) cS ?_
      refine co rfl (jg rfl) ⟨rfl,rfl,trivial⟩ ?_
      refine aG ?_
      refine ax ?_
      show JC _ _ _ _ _
      refine jG rfl (λhb=>?_) (λhb=>?_)
      . replace h:=dU (uA hb) h
        refine aj ?_
        refine ab ?_
        refine iu rfl rfl ?_
        refine vR rfl rfl ?_
        refine aG ?_
        refine ax ?_
        show JC _ _ _ _ _
        refine aC ?_
        refine aX ?_
        refine aY ?_
        refine aY ?_
        refine aX ?_
        refine aY ?_
        obtain rfl:=hR _ h
        exact aP () [_] 0 ⟨rfl,trivial⟩ rfl
      . replace h:=cG (uB hb) h
        refine bi ?_
        refine aI ?_
        refine ax ?_
        show JC _ _ _ _ _
        refine ab ?_
        obtain⟨x,j,h⟩:=aa h
        refine co rfl (bj rfl j) ⟨rfl,rfl,trivial⟩ ?_
        refine iu rfl rfl ?_
        refine aG ?_
        refine ax ?_
        exact vS ((),x) h (SE.fin [0] ⟨rfl,rfl,rfl,rfl,rfl,trivial⟩ rfl)
    . replace h:=cG (uB hb) h
      refine fq ?_
      refine bL ?_
      refine bL ?_
      refine c6 ?_
      refine ax ?_
      exact vS ((),()) h (SE.fin [] trivial rfl)
  .
    refine aj ?_
    refine ab ?_
    refine Eo rfl ?_
    refine aG ?_
    refine ax ?_
    show JC _ _ _ _ _
    refine aC ?_
    obtain rfl:=Option.some.inj h
    exact aP () [_] 0 ⟨rfl,trivial⟩ rfl
def cE(k:Nat)(a0:ae)(a1:(List Int))(a2:Int):Nat->((List Int)×Int)->Option (List Int)
 |0,_=>none
 |n+1,y6=>
  if y6.2 < a0.1 then((((eg k k a0 y6.2 a2).bind λc=>
  if J9 c=true then(if a0.2.2.2.1≤(Qj c) then((cf (0≤y6.2/\y6.2 < 5)).bind λ_=>
  some (List.set y6.1 (Int.toNat y6.2) (-1:Int))) else(some y6.1)) else(if¬(J9 c=true) then((cf (0≤y6.2/\y6.2 < 5)).bind λ_=>
  (aH a1 y6.2).bind λl=>
  if 0≤l then((cf (0≤y6.2/\y6.2 < 5)).bind λ_=>
  (aH a1 y6.2).bind λj=>
  (ck (j+1)).bind λh=>
  (cf (0≤y6.2/\y6.2 < 5)).bind λ_=>
  some (List.set y6.1 (Int.toNat y6.2) h)) else((dD k a0 a1 y6.2 a2).bind λr=>
  if 0≤r then((cf (0≤y6.2/\y6.2 < 5)).bind λ_=>
  some (List.set y6.1 (Int.toNat y6.2) 0)) else(some y6.1))) else(some y6.1))):Option ((List Int))).bind λx8=>
  (ck (y6.2+1)).bind λe=>
  cE k a0 a1 a2 n (x8,e)) else(some y6.1)
def hH(k:Nat)(a0:ae)(a1:(List Int))(a2:Int):Option (List Int):=
 ((cE k a0 a1 a2 k (a1,0)):Option ((List Int))).bind λx4=>
 some x4
theorem rV{M:Md Tryz.prog}{bm:Nat}{c0 c1 c2 c3 c4 c5:Value}(hK:Kn M bm 0 [c0,c1,c2,c3,c4,c5])(k:Nat)(a0:ae)(a1:(List Int))(a2:Int)(r:(List Int))(h:hH k a0 a1 a2=some r):
 cC M 95 [.rep (.mo (Pv bm) [c0,c1,c2,c3,c4,c5] am) a0,.rep Tr a1,I a2] [] (λ_:Unit=>(bF [.rep Tr r],[])):=by
 unfold hH at h
 replace h:=ba h
 refine cC.of 60 Tryz.func95 rfl Tryz.ntmps95 rfl λS w0=>?_
 refine sr ?_
 refine bx λb1=>?_
 refine aZ rfl rfl rfl (bp rfl Js LY) trivial λb2=>?_
 refine nt ?_
 refine sr ?_
 refine fr 1 ?_
 refine lo jI ?_
 refine aZ rfl rfl rfl (bp rfl Js LY) trivial λb3=>?_
 refine aM rfl rfl (aK rfl jI rfl rfl rfl) ⟨rfl,rfl,trivial⟩ ?_
 refine nt ?_
 refine aF (Z:=Unit) (α:=(List Int)) (λz5 x4=>[(6,Pt b2),(7,Pt b3)]) (λz5 x4=>[.obj b2 82 (.rep Tr [0,0,0,0,0]),.obj b3 82 (.rep Tr x4)]) h (λK h=>?_) (λz5 x4 h=>?_)
 .
  refine sr (mq ?_);refine ja (lT rfl) ?_;refine ja (g7 rfl iq) ?_;refine ja (i8 1 false rfl fy rfl rfl) ?_;refine ja (jR (t:=Ti) rfl bW (hK.sub 0 1 rfl (le_of_ble_eq_true rfl)) rfl rfl) ?_;refine fB rfl ?_;refine nt (ai (aD (λz7 y6=>[(0,.rep (.mo (Pv bm) [c0,c1,c2,c3,c4,c5] am) a0),(2,I a2),(4,Pt b1),(6,Pt b2),(7,Pt b3),(16,I a0.1),(17,I y6.2)]) (λz7 y6=>[.obj b1 82 (.rep Tr a1),.obj b2 82 (.rep Tr [0,0,0,0,0]),.obj b3 82 (.rep Tr y6.1)]) (cE k a0 a1 a2) k () (a1,0) (λ_=>rfl) h (SE.fin [1,2,0] ⟨rfl,rfl,rfl,rfl,rfl,rfl,rfl,trivial⟩ rfl) (λn z7 y6 h=>?_)));unfold cE at h;refine sr (jb (bq rfl) ?_);refine nt (aj (ci h (λh=>?_) (λh=>?_)))
  .refine sk (aF (Z:=Unit) (α:=(List Int)) (λz9 x8=>[(0,.rep (.mo (Pv bm) [c0,c1,c2,c3,c4,c5] am) a0),(2,I a2),(4,Pt b1),(6,Pt b2),(7,Pt b3),(16,I a0.1),(17,I y6.2)]) (λz9 x8=>[.obj b1 82 (.rep Tr a1),.obj b2 82 (.rep Tr [0,0,0,0,0]),.obj b3 82 (.rep Tr x8)]) h (λK h=>?_) (λz9 x8 h=>?_))
   .refine ai (sr (mq ?_));refine aq (nt (sr ?_));iterate 3 refine mq ?_
    obtain⟨U,F,h⟩:=aa h;refine jc (bo [.tmp 20,.tmp 21,.tmp 22] rfl rfl Ix rfl (lX hK k k a0 y6.2 a2 U F)) ?_;refine nt (ai (sr (co rfl (Dm rfl GI (by decide)) ⟨rfl,trivial⟩ ?_)));refine xr ?_;refine xr ?_;refine nt (cv h (λh=>?_) (λh=>?_))
    .refine sr (aZ rfl rfl rfl (bp rfl F4 ND) trivial λU8=>?_);refine aM rfl rfl (aK rfl M9 trivial rfl rfl) ⟨rfl,rfl,trivial⟩ ?_;refine nt (aj (bN ?_));refine da (au rfl DX) ?_;refine ea 0 (ap rfl bW jN rfl) ?_;refine dm ?_;refine da (lT rfl) ?_;refine da (g7 rfl iq) ?_;refine da (i8 1 false rfl tz rfl rfl) ?_;refine da (jR (t:=Ti) rfl bW (hK.sub 3 1 rfl (le_of_ble_eq_true rfl)) rfl rfl) ?_;refine df cS ?_;refine jb (jg rfl) ?_;refine nt (ci h (λh=>?_) (λh=>?_))
     .refine ab (mq ?_);obtain⟨qt,j,h⟩:=aa h;refine jb (dX rfl CV bW (ao j).1 (ao j).2) ?_;refine fr 3 ?_;refine aM rfl rfl (gZ (t:=Ti) (off:=0) (i:=y6.2) (N:=5) rfl bW .int rfl rfl rfl rfl (ao j).1 (ao j).2 rfl) ⟨rfl,rfl,trivial⟩ ?_;refine aG (aI (bn ?_));exact jz ((),List.set y6.1 (Int.toNat y6.2) (-1:Int)) h [2,3,0]
     .refine bi (aI (bn ?_));exact jz ((),y6.1) h [1,2,3]
    .refine sr (co rfl (KB rfl NZ (by decide)) ⟨rfl,trivial⟩ ?_);refine xr ?_;refine xr ?_;refine nt (cw h (λh=>?_) (λh=>?_))
     .refine sr (aZ rfl rfl rfl (bp rfl MS RJ) trivial λzz=>?_);refine aM rfl rfl (aK rfl Qe trivial rfl rfl) ⟨rfl,rfl,trivial⟩ ?_;refine nt (sr (mq ?_));obtain⟨mw,s,h⟩:=aa h;refine jb (dX rfl CV bW (ao s).1 (ao s).2) ?_;obtain⟨Y,D,h⟩:=aa h;refine fr 1 ?_;refine ka (nK (t:=Ti) (off:=0) (i:=y6.2) (N:=5) rfl bW (λ_=>rfl) rfl rfl rfl rfl D) ?_;refine jb (jg rfl) ?_;refine nt (ci h (λh=>?_) (λh=>?_))
      .refine ab ?_;iterate 2 refine mq ?_
       obtain⟨u16,l,h⟩:=aa h;refine jb (dX rfl CV bW (ao l).1 (ao l).2) ?_;obtain⟨X,y,h⟩:=aa h;refine ka (nK (t:=Ti) (off:=0) (i:=y6.2) (N:=5) rfl bW (λ_=>rfl) rfl rfl rfl rfl y) ?_;obtain⟨O,x,h⟩:=aa h;refine jb (bj rfl x) ?_;obtain⟨mc,e,h⟩:=aa h;refine jb (dX rfl CV bW (ao e).1 (ao e).2) ?_;refine fr 3 ?_;refine aM rfl rfl (gZ (t:=Ti) (off:=0) (i:=y6.2) (N:=5) rfl bW .int rfl rfl rfl rfl (ao e).1 (ao e).2 rfl) ⟨rfl,rfl,trivial⟩ ?_;refine aG (aI (bn ?_));exact jz ((),List.set y6.1 (Int.toNat y6.2) O) h [1,3,0]
      .refine sr (mq ?_);refine lo jI ?_;iterate 2 refine mq ?_
       obtain⟨Q,E,h⟩:=aa h;refine co rfl (bo [.tmp 50,.tmp 51,.tmp 52,.tmp 53] rfl rfl Nu rfl (ky hK k a0 a1 y6.2 a2 Q E)) ⟨rfl,rfl,rfl,rfl,trivial⟩ ?_;refine jb (jg rfl) ?_;refine nt (ci h (λh=>?_) (λh=>?_))
       .refine ab (mq ?_);obtain⟨gw,c,h⟩:=aa h;refine jb (dX rfl CV bW (ao c).1 (ao c).2) ?_;refine fr 3 ?_;refine aM rfl rfl (gZ (t:=Ti) (off:=0) (i:=y6.2) (N:=5) rfl bW .int rfl rfl rfl rfl (ao c).1 (ao c).2 rfl) ⟨rfl,rfl,trivial⟩ ?_;refine aG (aI (bn ?_));exact jz ((),List.set y6.1 (Int.toNat y6.2) 0) h [1,3,0]
       .refine bi (aI (bn ?_));exact jz ((),y6.1) h [0,2,3]
     .refine bi (aI (bn ?_));exact jz ((),y6.1) h [0,1,2]
   .refine ab ?_;obtain⟨J,u,h⟩:=aa h;refine jb (bj rfl u) ?_;refine mq (nl ?_);exact jz ((),(x8,J)) h [0,1,2]
  .refine xa ?_;exact jz ((),y6.1) h [1,2]
 .
  refine sr (fr 1 ?_);refine lo jI ?_;refine fr 1 ?_;refine aM rfl rfl (aK rfl jI rfl rfl rfl) ⟨rfl,rfl,trivial⟩ ?_;refine nt (aC ?_);obtain rfl:=Option.some.inj h;exact aP () [.rep Tr x4] 0 ⟨⟨_,_,_,_,_,rfl,(.head _),jI,(qe),rfl⟩,trivial⟩ rfl
def iz(k:Nat)(a0:List Int):Option (List Int):=
 (cf (bA (length a0))).bind λ_=>some a0
theorem sM(k:Nat)(a0:List Int)(r:List Int)(h:iz k a0=some r):
 cV Tryz.prog 50 [.rep Tl a0] [] (λz:Value=>(bF [.eq z],[.sl z 3 Ti r])):=by
 unfold iz at h
 replace h:=ba h
 refine cV.of 8 Tryz.func50 rfl Tryz.ntmps50 rfl λS w0=>?_
 obtain⟨u1,c,h⟩:=aa h
 cases h
 refine sr ?_
 refine cq ?_
 refine nt ?_
 refine aj ?_
 refine sr ?_
 refine mq ?_
 refine aS (Δ:=[]) (F:=_) (λ_ _ _=>ah rfl _) rfl rfl (Ky rfl gG) ⟨rfl,rfl,trivial⟩ λb=>?_
 refine nt ?_
 refine jG rfl (λhb=>?_) (λhb=>?_)
 .
  refine sr (cq (nt (rx ?_)));obtain rfl:=b.2 hb;refine bM (SE.nil 3 Ti) ?_;exact aP (.slice none 0 0) [.eq (.slice none 0 0)] 1 ⟨rfl,trivial⟩ rfl
 .
  refine sk (sr (aZ rfl rfl rfl (i7 (t:=Ti) [] [] rfl rfl c9 .nil rfl rfl) trivial λv1=>?_));refine mq ?_;refine cR rfl rfl rfl (bu rfl rfl c9 (by simpa using ao c)) ⟨rfl,rfl,trivial⟩ λv2=>?_;refine aq (nt (aC ?_));exact aP v2 [.eq v2] 1 ⟨rfl,trivial⟩ rfl
def dK(k:Nat)(a0:(List Int))(a1:(List Int)):Nat->Int->Option (Except Bool Unit)
 |0,_=>none
 |n+1,y3=>
  if y3 < (a0.length:Int) then((aH a0 y3).bind λx5=>
  (aH a1 y3).bind λx6=>
  if¬(x5=x6) then(some (.error false)) else((ck (y3+1)).bind λx7=>
  dK k a0 a1 n x7)) else(some (.ok ()))
def fo(k:Nat)(a0:(List Int))(a1:(List Int)):Option Bool:=
 if¬((a0.length:Int)=(a1.length:Int)) then(some false) else(bE (α:=Unit) (dK k a0 a1 k 0) (some) λ_=>
 some true)
theorem iW(k:Nat)(a0:(List Int))(a1:(List Int))(r:Bool)(h:fo k a0 a1=some r):
 cV Tryz.prog 23 [.rep Tl a0,.rep Tl a1] [] (λ_:Unit=>(bF [.eq (.bool r)],[])):=by
 unfold fo at h
 replace h:=ba h
 refine cV.of 26 Tryz.func23 rfl Tryz.ntmps23 rfl λS w0=>?_
 refine sr ?_
 refine cq ?_
 refine nt ?_
 refine aj ?_
 refine sr ?_
 refine mq ?_
 refine ol gG ?_
 refine mq ?_
 refine ol gG ?_
 refine jb (d4 rfl) ?_
 refine nt ?_
 refine cn h (λh=>?_) (λh=>?_)
 .
  refine sr (cq (nt (rx ?_)));cases h;exact ra
 .
  refine sk (cO (Z:=Unit) (α:=Unit) (λz2 x1=>[]) (λz2 x1=>[]) (λe=>e=r) h (λe h=>Option.some.inj h) (λK hR h=>?_) (λz2 x1 h=>?_))
  .refine sr (cq (nt (ai ?_)));refine aD (λz4 y3=>[(0,.rep Tl a0),(1,.rep Tl a1),(5,I y3)]) (λz4 y3=>[]) (dK k a0 a1) k () 0 (λ_=>rfl) h (SE.fin [] ⟨rfl,rfl,rfl,trivial⟩ rfl) (λn z4 y3 h=>?_);unfold dK at h;refine aj (sr ?_);iterate 2 refine mq ?_
   refine ol gG ?_;refine jb (bq rfl) ?_;refine nt (ci h (λh=>?_) (λh=>?_))
   .refine sk (aj (ai (aj (bN ?_))));refine dm ?_;refine dm ?_;obtain⟨x5,l,h⟩:=aa h;refine db (aE (t:=Ti) rfl gG bW l) ?_;refine da (an (t:=Ti) rfl bW rfl) ?_;refine dm ?_;refine dm ?_;obtain⟨x6,j,h⟩:=aa h;refine db (aE (t:=Ti) rfl gG bW j) ?_;refine da (an (t:=Ti) rfl bW rfl) ?_;refine df cS ?_;refine jb (d4 rfl) ?_;refine nt (cn h (λh=>?_) (λh=>?_))
    .refine sr (cq (nt (aC (br (aX (aY ?_))))));obtain rfl:=hR _ h;exact ra
    .refine bi (aI (tn (ab (mq ?_))));obtain⟨x7,c,h⟩:=aa h;refine jb (bj rfl c) ?_;refine aq (nl ?_);exact jz ((),x7) h []
   .refine xa ?_;exact jz ((),()) h []
  .refine sr (cq (nt (aC ?_)));cases h;exact ra
def dB(k:Nat)(a0:(List (List Int)))(a1:(List (List Int))):Nat->Int->Option (Except Bool Unit)
 |0,_=>none
 |n+1,y3=>
  if y3 < (a0.length:Int) then((aH a0 y3).bind λx5=>
  (aH a1 y3).bind λx6=>
  (fo k x5 x6).bind λr7=>
  if¬(r7=true) then(some (.error false)) else((ck (y3+1)).bind λx8=>
  dB k a0 a1 n x8)) else(some (.ok ()))
def dT(k:Nat)(a0:(List (List Int)))(a1:(List (List Int))):Option Bool:=
 if¬((a0.length:Int)=(a1.length:Int)) then(some false) else(bE (α:=Unit) (dB k a0 a1 k 0) (some) λ_=>
 some true)
theorem im(k:Nat)(a0:(List (List Int)))(a1:(List (List Int)))(r:Bool)(h:dT k a0 a1=some r):
 cV Tryz.prog 21 [.rep (.slice Tl) a0,.rep (.slice Tl) a1] [] (λ_:Unit=>(bF [.eq (.bool r)],[])):=by
 unfold dT at h
 replace h:=ba h
 refine cV.of 27 Tryz.func21 rfl Tryz.ntmps21 rfl λS w0=>?_
 refine sr ?_
 refine cq ?_
 refine nt ?_
 refine aj ?_
 refine sr ?_
 refine mq ?_
 refine ol pY ?_
 refine mq ?_
 refine ol pY ?_
 refine jb (d4 rfl) ?_
 refine nt ?_
 refine cn h (λh=>?_) (λh=>?_)
 .
  refine sr (cq (nt (rx ?_)));cases h;exact ra
 .
  refine sk (cO (Z:=Unit) (α:=Unit) (λz2 x1=>[]) (λz2 x1=>[]) (λe=>e=r) h (λe h=>Option.some.inj h) (λK hR h=>?_) (λz2 x1 h=>?_))
  .refine sr (cq (nt (ai ?_)));refine aD (λz4 y3=>[(0,.rep (.slice Tl) a0),(1,.rep (.slice Tl) a1),(5,I y3)]) (λz4 y3=>[]) (dB k a0 a1) k () 0 (λ_=>rfl) h (SE.fin [] ⟨rfl,rfl,rfl,trivial⟩ rfl) (λn z4 y3 h=>?_);unfold dB at h;refine aj (sr ?_);iterate 2 refine mq ?_
   refine ol pY ?_;refine jb (bq rfl) ?_;refine nt (ci h (λh=>?_) (λh=>?_))
   .refine sk (aj (ai (aj (bN ?_))));refine dm ?_;refine dm ?_;obtain⟨x5,l,h⟩:=aa h;refine db (aE (t:=Tl) rfl pY fC l) ?_;refine da (an (t:=Tl) rfl fC rfl) ?_;refine dm ?_;refine dm ?_;obtain⟨x6,j,h⟩:=aa h;refine db (aE (t:=Tl) rfl pY fC j) ?_;refine da (an (t:=Tl) rfl fC rfl) ?_;refine df cS ?_;obtain⟨r7,s,h⟩:=aa h;refine jb (av [.tmp 20,.tmp 24] rfl rfl Ls rfl (iW k x5 x6 r7 s)) ?_;refine ja (eI rfl) ?_;refine nt (cw h (λh=>?_) (λh=>?_))
    .refine sr (cq (nt (aC (br (aX (aY ?_))))));obtain rfl:=hR _ h;exact ra
    .refine bi (aI (tn (ab (mq ?_))));obtain⟨x8,c,h⟩:=aa h;refine jb (bj rfl c) ?_;refine aq (nl ?_);exact jz ((),x8) h []
   .refine xa ?_;exact jz ((),()) h []
  .refine sr (cq (nt (aC ?_)));cases h;exact ra
def ik{σ:Type}(k:Nat)(a0:Int)(a3:Int)(self:Int->Int->σ->Option (Bool×σ)):Nat->(Int×σ)->Option (Except (Bool×σ) (σ))
 |0,_=>none
 |n+1,y5=>
  if y5.1 < a3 then((f9 k a0 y5.1).bind λr7=>
  (ck (y5.1+1)).bind λx8=>
  (self r7 x8 y5.2).bind λr9=>
  if¬(r9.1=true) then(some (.error (false,r9.2))) else((ck (y5.1+1)).bind λc=>
  ik k a0 a3 self n (c,r9.2))) else(some (.ok y5.2))
def iF{σ:Type}(k:Nat)(Y:σ->Int->Option (σ×Bool))(a3:Int):Nat->Int->Int->σ->Option (Bool×σ)
 |0,_,_,_=>none
 |m0+1,a0,a1,s0=>
  (Y s0 a0).bind λr1=>
  if¬(r1.2=true) then(some (false,r1.1)) else(bE (α:=σ) (ik k a0 a3 (iF k Y a3 m0) k (a1,r1.1)) (some) λx3=>
  some (true,x3))
theorem s9{M:Md Tryz.prog}{σ Z:Type}(E:Z->σ->List D)(l:Nat)(Y:σ->Int->Option (σ×Bool))(k:Nat)(u:Nat)(a3:Int)(j:Nat)(c:Nat)(hY:∀z s p r,Y s p=some r->YT M l [.eq (.int .u8 p)] (E z s) (λz':Z=>(.eq (.bool r.2),E z' r.1))):
 ∀(n:Nat) (a0:Int) (a1:Int) (z0:Z) (s0:σ) (r:Bool×σ),iF k Y a3 n a0 a1 s0=some r->cC M 107 [.eq (.int .u8 a0),I a1,Pt u,Pt j,Pt c] ([.obj u 122 (.eq (.func (.yield l) #[] #[])),.obj j 3 (I a3),.obj c 121 (.eq (.func (.func 107) #[] #[(Pv u),(Pv j),(Pv c)]))]++E z0 s0) (λz:Z=>(bF [.eq (.bool r.1)],[.obj u 122 (.eq (.func (.yield l) #[] #[])),.obj j 3 (I a3),.obj c 121 (.eq (.func (.func 107) #[] #[(Pv u),(Pv j),(Pv c)]))]++E z r.2)):=by
 intro n
 induction n with
 |zero=>intro a0 a1 z0 s0 r h;cases h
 |succ m0 ih=>
  intro a0 a1 z0 s0 r h;rw [iF] at h;replace h:=ba h;refine cC.of 27 Tryz.func107 rfl Tryz.ntmps107 rfl λS w0=>?_;refine sr (cq (nt (aj (sr ?_))));refine lo Qf ?_;refine mq ?_;obtain⟨r1,U,h⟩:=aa h;refine fr 2 ?_;refine fr 2 ?_;refine fr 2 ?_;refine I4 [.obj u 122 (.eq (.func (.yield l) #[] #[])),.obj j 3 (I a3),.obj c 121 (.eq (.func (.func 107) #[] #[(Pv u),(Pv j),(Pv c)]))] rfl rfl rfl (Kr [.tmp 10] rfl rfl rfl (hY z0 s0 a0 r1 U)) ⟨rfl,rfl,trivial⟩ λz2=>?_;refine ja (eI rfl) ?_;refine nt (cw h (λh=>?_) (λh=>?_))
  .refine sr (cq (nt (rx ?_)));cases h;exact uE z2 [_] ⟨rfl,trivial⟩ rfl
  .refine sk (cO (Z:=Z) (α:=σ) (λz4 x3=>[]) (λz4 x3=>[.obj u 122 (.eq (.func (.yield l) #[] #[])),.obj j 3 (I a3),.obj c 121 (.eq (.func (.func 107) #[] #[(Pv u),(Pv j),(Pv c)]))]++E z4 x3) (λe=>e=r) h (λe h=>Option.some.inj h) (λK hR h=>?_) (λz4 x3 h=>?_))
   .refine sr (mq ?_);refine aq (nt (ai ?_));refine aD (Z:=Z) (α:=Int×σ) (λz6 y5=>[(0,.eq (.int .u8 a0)),(3,Pt j),(4,Pt c),(8,I y5.1)]) (λz6 y5=>[.obj j 3 (I a3),.obj c 121 (.eq (.func (.func 107) #[] #[(Pv u),(Pv j),(Pv c)])),.obj u 122 (.eq (.func (.yield l) #[] #[]))]++E z6 y5.2) (ik k a0 a3 (iF k Y a3 m0)) k z2 (a1,r1.1) (λ_=>rfl) h (lw [.obj u 122 (.eq (.func (.yield l) #[] #[])),.obj j 3 (I a3),.obj c 121 (.eq (.func (.func 107) #[] #[(Pv u),(Pv j),(Pv c)]))] (E z2 r1.1) [1,2,0] ⟨rfl,rfl,rfl,rfl,trivial⟩ rfl) (λn z6 y5 h=>?_);unfold ik at h;refine aj (sr (mq ?_));refine lo bW ?_;refine jb (bq rfl) ?_;refine nt (ci h (λh=>?_) (λh=>?_))
    .refine sk (aj (ai (aj (bN ?_))));refine ea 1 (ap rfl GN jN rfl) ?_;refine dm ?_;refine dm ?_;obtain⟨r7,Q,h⟩:=aa h;refine db (av [.tmp 20,.tmp 21] rfl rfl OX rfl (kT k a0 y5.1 r7 Q)) ?_;refine dm ?_;obtain⟨x8,J,h⟩:=aa h;refine db (bj rfl J) ?_;refine df cS ?_;obtain⟨r9,O,h⟩:=aa h;refine fr 1 ?_;refine fr 1 ?_;refine fr 2 ?_;refine AW rfl rfl rfl (rP (fs:=[]) (cs:=[(Pv u),(Pv j),(Pv c)]) (ags:=[.eq (.int .u8 r7),I x8]) [.tmp 22,.tmp 24] rfl rfl Nq rfl (ih r7 x8 z6 y5.2 r9 O)) ⟨rfl,rfl,rfl,trivial⟩ λx=>?_;refine ja (eI rfl) ?_;refine nt (cw h (λh=>?_) (λh=>?_))
     .refine sr (cq (nt (aC (br (aX (aY ?_))))));obtain rfl:=hR _ h;exact uE x [_] ⟨rfl,trivial⟩ rfl
     .refine bi (aI (tn (ab (mq ?_))));obtain⟨F,y,h⟩:=aa h;refine jb (bj rfl y) ?_;refine aq (nl ?_);exact vS (x,(F,r9.2)) h (lw [.obj u 122 (.eq (.func (.yield l) #[] #[])),.obj j 3 (I a3),.obj c 121 (.eq (.func (.func 107) #[] #[(Pv u),(Pv j),(Pv c)]))] (E x r9.2) [1,2,0] ⟨rfl,rfl,rfl,rfl,trivial⟩ rfl)
    .refine xa ?_;exact vS (z6,y5.2) h (lw [.obj j 3 (I a3),.obj c 121 (.eq (.func (.func 107) #[] #[(Pv u),(Pv j),(Pv c)])),.obj u 122 (.eq (.func (.yield l) #[] #[]))] (E z6 y5.2) [2,0,1] trivial rfl)
   .refine sr (cq (nt (aC ?_)));cases h;exact uE z4 [_] ⟨rfl,trivial⟩ rfl
def mL{σ:Type}(k:Nat)(Y:σ->Int->Option (σ×Bool))(a1:Int)(s0:σ):Option (σ):=
 (iF k Y a1 k 0 0 s0).bind λr3=>
 some r3.2
theorem o7{M:Md Tryz.prog}{σ Z:Type}(E:Z->σ->List D)(l:Nat)(Y:σ->Int->Option (σ×Bool))(k:Nat)(a1:Int)(c:Nat)(hY:∀z s p r,Y s p=some r->YT M l [.eq (.int .u8 p)] (E z s) (λz':Z=>(.eq (.bool r.2),E z' r.1))):
 ∀(z0:Z) (s0:σ) (r:σ),mL k Y a1 s0=some r->cC M 106 [.eq (.func (.yield l) #[] #[]),Pt c] ([.obj c 3 (I a1)]++E z0 s0) (λz:Z=>(bF [],[.obj c 3 (I a1)]++E z r)):=by
 intro z0 s0 r h
 unfold mL at h
 replace h:=ba h
 refine cC.of 7 Tryz.func106 rfl Tryz.ntmps106 rfl λS w0=>?_
 refine sr ?_
 refine bx λb1=>?_
 refine nt ?_
 refine sr ?_
 refine aZ rfl rfl rfl (bp rfl P4 RL) trivial λb2=>?_
 refine nt ?_
 refine sr ?_
 refine jc (sV [] [.tmp 2,.tmp 1,.tmp 3] [] [(Pv b1),(Pv c),(Pv b2)] rfl rfl rfl) ?_
 refine aM rfl rfl (aK rfl GN rfl rfl rfl) ⟨rfl,rfl,trivial⟩ ?_
 refine nt ?_
 refine ab ?_
 refine lo GN ?_
 obtain⟨r3,e,h⟩:=aa h
 have j:=s9 E l Y k b1 a1 c b2 hY k 0 0 z0 s0 r3 e
 refine fr 2 ?_
 refine fr 2 ?_
 refine AW rfl rfl rfl (rP (fs:=[]) (cs:=[(Pv b1),(Pv c),(Pv b2)]) (ags:=[.eq (.int .u8 0),I 0]) [.const (.int .u8 (0)),.const (.int .i64 (0))] rfl rfl Nq rfl j) ⟨rfl,rfl,rfl,trivial⟩ λz4=>?_
 refine aG ?_
 refine kM ?_
 refine bM (lw (Γ':=[]) [.obj b1 122 (.eq (.func (.yield l) #[] #[])),.obj c 3 (I a1),.obj b2 121 (.eq (.func (.func 107) #[] #[(Pv b1),(Pv c),(Pv b2)]))] (E z4 r3.2) [1] trivial rfl) ?_
 cases h
 exact uE z4 [] trivial rfl
theorem rX(a0:Int):cV Tryz.prog 84 [I a0] [] (λz:Nat=>(bF [.eq (.func (.func 106) #[] #[(Pv z)])],[.obj z 3 (I a0)])):=by
 refine cV.of 4 Tryz.func84 rfl Tryz.ntmps84 rfl λS w0=>?_;refine sr (bx λz=>?_);refine cq (nt (sr ?_));refine ja (sV [] [.tmp 1] [] [(Pv z)] rfl rfl rfl) ?_;refine aq (nt (aC ?_));exact aP z [_] 1 ⟨rfl,trivial⟩ rfl
def jo(k:Nat)(a0:(List Int)):Nat->(Int×Int)->Option Int
 |0,_=>none
 |n+1,y4=>
  if y4.2 < (a0.length:Int) then((aH a0 y4.2).bind λx6=>
  (ck (y4.2+1)).bind λx7=>
  jo k a0 n (If y4.1 x6,x7)) else(some y4.1)
def mA(k:Nat)(a0:(List Int)):Option Int:=
 if(a0.length:Int) < 1 then(none) else((aH a0 0).bind λx1=>
 ((jo k a0 k (x1,1)):Option (Int)).bind λx2=>
 some x2)
theorem oK(k:Nat)(a0:(List Int))(r:Int)(h:mA k a0=some r):
 cV Tryz.prog 61 [.rep Tl a0] [] (λ_:Unit=>(bF [I r],[])):=by
 unfold mA at h
 replace h:=ba h
 refine cV.of 25 Tryz.func61 rfl Tryz.ntmps61 rfl λS w0=>?_
 refine sr ?_
 refine cq ?_
 refine nt ?_
 refine aj ?_
 refine sr ?_
 refine mq ?_
 refine ol gG ?_
 refine jb (bq rfl) ?_
 refine nt ?_
 refine ci h (λh=>?_) (λh=>?_)
 .
  cases h
 .
  refine sk (sr (mq ?_));obtain⟨x1,j,h⟩:=aa h;refine jb (aE (t:=Ti) rfl gG bW j) ?_;refine ja (an (t:=Ti) rfl bW rfl) ?_;refine aq (nt ?_);refine aF (Z:=Unit) (α:=Int) (λz3 x2=>[(3,I x2)]) (λz3 x2=>[]) h (λK h=>?_) (λz3 x2 h=>?_)
  .refine sr (cq (nt (ai ?_)));refine aD (λz5 y4=>[(0,.rep Tl a0),(3,I y4.1),(4,I y4.2)]) (λz5 y4=>[]) (jo k a0) k () (x1,1) (λ_=>rfl) h (SE.fin [] ⟨rfl,rfl,rfl,trivial⟩ rfl) (λn z5 y4 h=>?_);unfold jo at h;refine aj (sr ?_);iterate 2 refine mq ?_
   refine ol gG ?_;refine jb (bq rfl) ?_;refine nt (ci h (λh=>?_) (λh=>?_))
   .refine sk (aj (ai (ab ?_)));iterate 3 refine mq ?_
    obtain⟨x6,e,h⟩:=aa h;refine jb (aE (t:=Ti) rfl gG bW e) ?_;refine ja (an (t:=Ti) rfl bW rfl) ?_;refine jb (Qs rfl rfl) ?_;refine aq (aG (aI (tn (ab ?_))));refine mq ?_;obtain⟨x7,c,h⟩:=aa h;refine jb (bj rfl c) ?_;refine aq (nl ?_);exact jz ((),(If y4.1 x6,x7)) h []
   .refine xa ?_;exact jz ((),y4.1) h []
  .refine sr (mq ?_);refine aq (nt (aC ?_));cases h;exact ra
def iR(k:Nat)(a0:Int):Nat->((List Int)×Int)->Option (List Int)
 |0,_=>none
 |n+1,y3=>
  if y3.2 < 5 then((((fa k a0 y3.2).bind λr7=>
  if r7=true then((cf (bA (length y3.1+length [y3.2]))).bind λ_=>
  some (y3.1++[y3.2])) else(some y3.1)):Option ((List Int))).bind λx5=>
  (ck (y3.2+1)).bind λc=>
  iR k a0 n (x5,c)) else(some y3.1)
def jw(k:Nat)(a0:Int):Option (List Int):=
 ((iR k a0 k (([]:(List Int)),0)):Option ((List Int))).bind λx1=>
 some x1
theorem kU(k:Nat)(a0:Int)(r:(List Int))(h:jw k a0=some r):
 cV Tryz.prog 69 [.eq (.int .u8 a0)] [] (λ_:Unit=>(bF [.rep Tl r],[])):=by
 unfold jw at h
 replace h:=ba h
 refine cV.of 17 Tryz.func69 rfl Tryz.ntmps69 rfl λS w0=>?_
 refine sr ?_
 refine cq ?_
 refine nt ?_
 refine sr ?_
 refine cq ?_
 refine nt ?_
 refine aF (Z:=Value) (α:=(List Int)) (λz2 x1=>[(3,.eq z2)]) (λz2 x1=>[.sl z2 3 Ti x1]) h (λK h=>?_) (λz2 x1 h=>?_)
 .
  refine sr (fB rfl ?_);refine nt (ai (gu (SE.nil 3 Ti) ?_));refine aD (λz4 y3=>[(0,.eq (.int .u8 a0)),(3,.eq z4),(5,I y3.2)]) (λz4 y3=>[.sl z4 3 Ti y3.1]) (iR k a0) k (.slice none 0 0) (([]:(List Int)),0) (λ_=>rfl) h (SE.fin [0] ⟨rfl,rfl,rfl,trivial⟩ rfl) (λn z4 y3 h=>?_);unfold iR at h;refine sr (jb (bq rfl) ?_);refine nt (aj (ci h (λh=>?_) (λh=>?_)))
  .refine sk (aF (Z:=Value) (α:=(List Int)) (λz6 x5=>[(0,.eq (.int .u8 a0)),(3,.eq z6),(5,I y3.2)]) (λz6 x5=>[.sl z6 3 Ti x5]) h (λK h=>?_) (λz6 x5 h=>?_))
   .refine ai (sr (mq ?_));refine aq (nt (sr ?_));iterate 2 refine mq ?_
    obtain⟨r7,l,h⟩:=aa h;refine jb (av [.tmp 8,.tmp 9] rfl rfl Iw rfl (g9 k a0 y3.2 r7 l)) ?_;refine nt (cv h (λh=>?_) (λh=>?_))
    .refine ab ?_;iterate 2 refine mq ?_
     refine ja (aW (t:=Ti) [(.tmp 12,_)] [y3.2] rfl rfl c9 (.cons rfl .int .nil) rfl rfl) ?_;obtain⟨u8,j,h⟩:=aa h;refine cR rfl rfl rfl (bu rfl rfl c9 (ao j)) ⟨rfl,rfl,trivial⟩ λv9=>?_;refine aq (aG (bn ?_));exact jz (v9,y3.1++[y3.2]) h [0]
    .refine bi (bn ?_);exact jz (z4,y3.1) h [0]
   .refine ab ?_;obtain⟨e,c,h⟩:=aa h;refine jb (bj rfl c) ?_;refine mq (nl ?_);exact jz (z6,(x5,e)) h [0]
  .refine xa ?_;exact jz (z4,y3.1) h [0]
 .
  refine sr (mq ?_);refine aq (nt (aC ?_));refine bM (ie [2,3,16] ⟨rfl,rfl,rfl,trivial⟩) ?_;cases h;exact ra
def f5(k:Nat):Nat->((List Int)×Int×Int)->Option (List Int)
 |0,_=>none
 |n+1,y2=>
  if y2.2.1 < y2.2.2 then((aH y2.1 y2.2.2).bind λx4=>
  (aH y2.1 y2.2.1).bind λx5=>
  (aH y2.1 y2.2.1).bind λx6=>
  (aH (List.set y2.1 (Int.toNat y2.2.1) x4) y2.2.2).bind λx7=>
  (ck (y2.2.1+1)).bind λx8=>
  (ck (y2.2.2 - 1)).bind λx9=>
  f5 k n (List.set (List.set y2.1 (Int.toNat y2.2.1) x4) (Int.toNat y2.2.2) x5,x8,x9)) else(some y2.1)
def kO(k:Nat)(a0:(List Int)):Option (List Int):=
 (ck ((a0.length:Int) - 1)).bind λx1=>
 f5 k k (a0,0,x1)
theorem qz(k:Nat)(a0:(List Int))(c:Value)(r:(List Int))(h:kO k a0=some r):
 cV Tryz.prog 80 [.eq c] [.sl c 3 Ti a0] (λ_:Unit=>(bF [],[.sl c 3 Ti r])):=by
 unfold kO at h
 replace h:=ba h
 refine cV.of 28 Tryz.func80 rfl Tryz.ntmps80 rfl λS w0=>?_
 refine sr ?_
 refine mq ?_
 refine ka (np rfl rfl gG) ?_
 obtain⟨x1,mc,h⟩:=aa h
 refine jb (ek rfl mc) ?_
 refine cq ?_
 refine aq ?_
 refine nt ?_
 refine ai ?_
 refine aD (λz3 y2=>[(0,.eq c),(2,I y2.2.1),(3,I y2.2.2)]) (λz3 y2=>[.sl c 3 Ti y2.1]) (f5 k) k () (a0,0,x1) (λ_=>rfl) h (SE.fin [0] ⟨rfl,rfl,rfl,trivial⟩ rfl) (λn z3 y2 h=>?_)
 unfold f5 at h
 refine aj ?_
 refine sr ?_
 iterate 2 refine mq ?_
 refine jb (bq rfl) ?_
 refine nt ?_
 refine ci h (λh=>?_) (λh=>?_)
 .
  refine sk (aj (ai (px ?_)));refine bD rfl rfl rfl (aO rfl) ⟨rfl,trivial⟩ ?_;refine bD rfl rfl rfl (aO rfl) ⟨rfl,trivial⟩ ?_;refine bD rfl rfl rfl (aO rfl) ⟨rfl,trivial⟩ ?_;refine bD rfl rfl rfl (aO rfl) ⟨rfl,trivial⟩ ?_;refine bD rfl rfl rfl (aO rfl) ⟨rfl,trivial⟩ ?_;refine bD rfl rfl rfl (aO rfl) ⟨rfl,trivial⟩ ?_;obtain⟨x4,D,h⟩:=aa h;refine iy 0 rfl rfl rfl rfl (cH (t:=Ti) rfl gG bW D) ⟨rfl,rfl,trivial⟩ ?_;refine iy 0 rfl rfl rfl rfl (gA (i:=Int.toNat y2.2.2) (off:=0) rfl bW (λ_=>rfl) rfl (dF D).2.2 rfl) ⟨rfl,trivial⟩ ?_;refine bD rfl rfl rfl (aO rfl) ⟨rfl,trivial⟩ ?_;refine bD rfl rfl rfl (aO rfl) ⟨rfl,trivial⟩ ?_;obtain⟨x5,y,h⟩:=aa h;refine iy 0 rfl rfl rfl rfl (cH (t:=Ti) rfl gG bW y) ⟨rfl,rfl,trivial⟩ ?_;refine iy 0 rfl rfl rfl rfl (gA (i:=Int.toNat y2.2.1) (off:=0) rfl bW (λ_=>rfl) rfl (dF y).2.2 rfl) ⟨rfl,trivial⟩ ?_;obtain⟨x6,x,h⟩:=aa h;refine iy 0 rfl rfl rfl rfl (cH (t:=Ti) rfl gG bW x) ⟨rfl,rfl,trivial⟩ ?_;refine tO 13 [true,true,false,false,true,true,true,true,true,true,true,true,true] [27] [] [] rfl (by kernel_rfl) (by kernel_rfl) (by kernel_rfl) cS (λvs hv hB=>?_);obtain⟨w0,Vn,rfl,Y⟩:=aA hv;obtain⟨w1,Vm,rfl,X⟩:=aA Y;obtain⟨w2,Vl,rfl,U⟩:=aA X;obtain⟨w3,Vk,rfl,Q⟩:=aA U;obtain⟨w4,Vj,rfl,O⟩:=aA Q;obtain⟨w5,Vi,rfl,M⟩:=aA O;obtain⟨w6,Vh,rfl,J⟩:=aA M;obtain⟨w7,Vg,rfl,F⟩:=aA J;obtain⟨w8,Vf,rfl,E⟩:=aA F;obtain⟨w9,U8,rfl,s⟩:=aA E;obtain⟨Ve,zz,rfl,l⟩:=aA s;obtain⟨Vb,qt,rfl,j⟩:=aA l;obtain⟨Va,mw,rfl,e⟩:=aA j;obtain rfl:=pL e;refine⟨[0],[.sl c 3 Ti y2.1],by kernel_rfl,by decide,?_⟩;refine rj rfl rfl (gY (i:=Int.toNat y2.2.1) rfl bW rfl (nT x) rfl .int rfl) ⟨rfl,rfl,trivial⟩ (by kernel_rfl) ?_;obtain⟨x7,u,h⟩:=aa h;refine vP rfl rfl rfl rfl (cH (t:=Ti) rfl gG bW u) ⟨rfl,rfl,trivial⟩ (by kernel_rfl) ?_;refine rj rfl rfl (gY (i:=Int.toNat y2.2.2) rfl bW rfl (nT u) rfl .int rfl) ⟨rfl,rfl,trivial⟩ (by kernel_rfl) ?_;refine vQ ?_;refine bM (SE.fin (Γ':=[(0,.eq c),(2,I y2.2.1),(3,I y2.2.2)]) (Δ':=[.sl c 3 Ti (List.set (List.set y2.1 (Int.toNat y2.2.1) x4) (Int.toNat y2.2.2) x5)]) [0] ⟨rfl,rfl,rfl,trivial⟩ rfl) ?_;refine aI (tn (ab (mq ?_)));obtain⟨x8,gw,h⟩:=aa h;refine jb (bj rfl gw) ?_;refine mq ?_;obtain⟨x9,Z,h⟩:=aa h;refine jb (ek rfl Z) ?_;refine aq ?_;refine aq (nl ?_);exact jz ((),(List.set (List.set y2.1 (Int.toNat y2.2.1) x4) (Int.toNat y2.2.2) x5,x8,x9)) h [0]
 .
  refine fq (bL (bL (c6 (kM ?_))));cases h;exact aP () [] 1 trivial rfl
def jp(k:Nat)(a0:(List Int)):Nat->(Int×Int)->Option Int
 |0,_=>none
 |n+1,y4=>
  if y4.2 < (a0.length:Int) then((aH a0 y4.2).bind λx6=>
  (ck (y4.2+1)).bind λx7=>
  jp k a0 n (tq y4.1 x6,x7)) else(some y4.1)
def oL(k:Nat)(a0:(List Int)):Option Int:=
 if(a0.length:Int) < 1 then(none) else((aH a0 0).bind λx1=>
 ((jp k a0 k (x1,1)):Option (Int)).bind λx2=>
 some x2)
theorem uN(k:Nat)(a0:(List Int))(r:Int)(h:oL k a0=some r):
 cV Tryz.prog 83 [.rep Tl a0] [] (λ_:Unit=>(bF [I r],[])):=by
 unfold oL at h
 replace h:=ba h
 refine cV.of 25 Tryz.func83 rfl Tryz.ntmps83 rfl λS w0=>?_
 refine sr ?_
 refine cq ?_
 refine nt ?_
 refine aj ?_
 refine sr ?_
 refine mq ?_
 refine ol gG ?_
 refine jb (bq rfl) ?_
 refine nt ?_
 refine ci h (λh=>?_) (λh=>?_)
 .
  cases h
 .
  refine sk (sr (mq ?_));obtain⟨x1,j,h⟩:=aa h;refine jb (aE (t:=Ti) rfl gG bW j) ?_;refine ja (an (t:=Ti) rfl bW rfl) ?_;refine aq (nt ?_);refine aF (Z:=Unit) (α:=Int) (λz3 x2=>[(3,I x2)]) (λz3 x2=>[]) h (λK h=>?_) (λz3 x2 h=>?_)
  .refine sr (cq (nt (ai ?_)));refine aD (λz5 y4=>[(0,.rep Tl a0),(3,I y4.1),(4,I y4.2)]) (λz5 y4=>[]) (jp k a0) k () (x1,1) (λ_=>rfl) h (SE.fin [] ⟨rfl,rfl,rfl,trivial⟩ rfl) (λn z5 y4 h=>?_);unfold jp at h;refine aj (sr ?_);iterate 2 refine mq ?_
   refine ol gG ?_;refine jb (bq rfl) ?_;refine nt (ci h (λh=>?_) (λh=>?_))
   .refine sk (aj (ai (ab ?_)));iterate 3 refine mq ?_
    obtain⟨x6,e,h⟩:=aa h;refine jb (aE (t:=Ti) rfl gG bW e) ?_;refine ja (an (t:=Ti) rfl bW rfl) ?_;refine jb (Ht rfl rfl) ?_;refine aq (aG (aI (tn (ab ?_))));refine mq ?_;obtain⟨x7,c,h⟩:=aa h;refine jb (bj rfl c) ?_;refine aq (nl ?_);exact jz ((),(tq y4.1 x6,x7)) h []
   .refine xa ?_;exact jz ((),y4.1) h []
  .refine sr (mq ?_);refine aq (nt (aC ?_));cases h;exact ra
def lZ(k:Nat)(a0:Int)(a1:Int)(a2:Bool):Option aQ:=
 some (a0,a1,a2)
theorem mX(k:Nat)(a0:Int)(a1:Int)(a2:Bool)(r:aQ)(h:lZ k a0 a1 a2=some r):
 cV Tryz.prog 29 [I a0,I a1,.eq (.bool a2)] [] (λ_:Unit=>(bF [.rep aJ r],[])):=by
 unfold lZ at h
 replace h:=ba h
 refine cV.of 11 Tryz.func29 rfl Tryz.ntmps29 rfl λS w0=>?_
 refine sr ?_
 refine aZ rfl rfl rfl (bp rfl EF LZ) trivial λb1=>?_
 refine nt ?_
 refine sr ?_
 iterate 3 refine mq ?_
 refine jc (eo [(0,.tmp 7,_),(1,.tmp 8,_),(2,.tmp 9,_)] rfl Qk EF Nz (ku ⟨rfl,rfl,rfl,trivial⟩) rfl) ?_
 refine aM rfl rfl (aK rfl nI trivial rfl rfl) ⟨rfl,rfl,trivial⟩ ?_
 refine nt ?_
 refine aC ?_
 refine bM (gf (a:=.agg (.pair (I a0) (.pair (I a1) (.eq (.bool a2))))) (a':=.rep aJ (a0,a1,a2)) (jH (.agg (.pair .int (.pair .int .bool))))) ?_
 cases h
 exact aP () [.rep aJ (a0,a1,a2)] 0 ⟨⟨_,_,_,_,_,rfl,(.head _),nI,(qe),rfl⟩,trivial⟩ rfl
def jj(k:Nat)(a0:(List aQ)):Option ae:=
 (lZ k 1 2 true).bind λr2=>
 (lZ k 2 1 false).bind λr3=>
 (lZ k 3 3 false).bind λr4=>
 (cf (bA (length [r2,r3,r4]+length a0))).bind λ_=>
 some (4,1,1,2,[[[0,1,2],[3]],[[0,1],[2,3]],[[1,2,3]],[[1,3],[2]]],[r2,r3,r4]++a0)
theorem il(k:Nat)(a0:(List aQ))(r:ae)(h:jj k a0=some r):
 cV Tryz.prog 44 [Rs aJ a0] [] (λ_:Unit=>(bF [.rep am r],[])):=by
 unfold jj at h
 replace h:=ba h
 refine cV.of 24 Tryz.func44 rfl Tryz.ntmps44 rfl λS w0=>?_
 refine sr ?_
 refine aZ rfl rfl rfl (bp rfl t8 wH) trivial λb1=>?_
 refine nt ?_
 refine sr ?_
 obtain⟨r2,l,h⟩:=aa h
 have u:=mX k 1 2 true r2 l
 refine jc (av [.const (.int .i64 (1)),.const (.int .i64 (2)),.const (.bool true)] rfl rfl O0 rfl u) ?_
 obtain⟨r3,j,h⟩:=aa h
 have s:=mX k 2 1 false r3 j
 refine jc (av [.const (.int .i64 (2)),.const (.int .i64 (1)),.const (.bool false)] rfl rfl O0 rfl s) ?_
 obtain⟨r4,e,h⟩:=aa h
 have n:=mX k 3 3 false r4 e
 refine jc (av [.const (.int .i64 (3)),.const (.int .i64 (3)),.const (.bool false)] rfl rfl O0 rfl n) ?_
 refine aZ rfl rfl rfl (i7 (t:=aJ) [(.tmp 4,_),(.tmp 5,_),(.tmp 6,_)] [r2,r3,r4] rfl rfl wj (.cons rfl .rep (.cons rfl .rep (.cons rfl .rep .nil))) rfl rfl) ⟨rfl,rfl,rfl,trivial⟩ λv5=>?_
 refine aq ?_
 refine nt ?_
 refine sr ?_
 refine jc (aW (t:=Ti) [(.const (.int .i64 (0)),_),(.const (.int .i64 (1)),_),(.const (.int .i64 (2)),_)] [0,1,2] rfl rfl c9 (.cons rfl .int (.cons rfl .int (.cons rfl .int .nil))) rfl rfl) ?_
 refine ja (aW (t:=Ti) [(.const (.int .i64 (3)),_)] [3] rfl rfl c9 (.cons rfl .int .nil) rfl rfl) ?_
 refine jb (aW (t:=Tl) [(.tmp 8,_),(.tmp 9,_)] [[0,1,2],[3]] rfl rfl nm (.cons rfl .rep (.cons rfl .rep .nil)) rfl rfl) ?_
 refine jb (aW (t:=Ti) [(.const (.int .i64 (0)),_),(.const (.int .i64 (1)),_)] [0,1] rfl rfl c9 (.cons rfl .int (.cons rfl .int .nil)) rfl rfl) ?_
 refine jb (aW (t:=Ti) [(.const (.int .i64 (2)),_),(.const (.int .i64 (3)),_)] [2,3] rfl rfl c9 (.cons rfl .int (.cons rfl .int .nil)) rfl rfl) ?_
 refine jb (aW (t:=Tl) [(.tmp 11,_),(.tmp 12,_)] [[0,1],[2,3]] rfl rfl nm (.cons rfl .rep (.cons rfl .rep .nil)) rfl rfl) ?_
 refine jc (aW (t:=Ti) [(.const (.int .i64 (1)),_),(.const (.int .i64 (2)),_),(.const (.int .i64 (3)),_)] [1,2,3] rfl rfl c9 (.cons rfl .int (.cons rfl .int (.cons rfl .int .nil))) rfl rfl) ?_
 refine ja (aW (t:=Tl) [(.tmp 14,_)] [[1,2,3]] rfl rfl nm (.cons rfl .rep .nil) rfl rfl) ?_
 refine jb (aW (t:=Ti) [(.const (.int .i64 (1)),_),(.const (.int .i64 (3)),_)] [1,3] rfl rfl c9 (.cons rfl .int (.cons rfl .int .nil)) rfl rfl) ?_
 refine ja (aW (t:=Ti) [(.const (.int .i64 (2)),_)] [2] rfl rfl c9 (.cons rfl .int .nil) rfl rfl) ?_
 refine jb (aW (t:=Tl) [(.tmp 16,_),(.tmp 17,_)] [[1,3],[2]] rfl rfl nm (.cons rfl .rep (.cons rfl .rep .nil)) rfl rfl) ?_
 refine co rfl (aW (t:=(.slice Tl)) [(.tmp 10,_),(.tmp 13,_),(.tmp 15,_),(.tmp 18,_)] [[[0,1,2],[3]],[[0,1],[2,3]],[[1,2,3]],[[1,3],[2]]] rfl rfl uO (.cons rfl .rep (.cons rfl .rep (.cons rfl .rep (.cons rfl .rep .nil)))) rfl rfl) ⟨rfl,rfl,rfl,rfl,trivial⟩ ?_
 iterate 2 refine mq ?_
 obtain⟨u6,c,h⟩:=aa h
 refine cR rfl rfl rfl (bu rfl rfl wj (ao c)) ⟨rfl,rfl,trivial⟩ λv7=>?_
 refine ee (ie [22] ⟨rfl,trivial⟩) ?_
 refine co rfl (eo [(0,.const (.int .i64 (4)),_),(1,.const (.int .i64 (1)),_),(2,.const (.int .i64 (1)),_),(3,.const (.int .i64 (2)),_),(4,.tmp 19,_),(5,.tmp 22,_)] rfl Ql t8 NA (ku ⟨rfl,rfl,rfl,rfl,rfl,rfl,trivial⟩) rfl) ⟨rfl,rfl,rfl,rfl,rfl,rfl,trivial⟩ ?_
 refine aM rfl rfl (aK rfl dk trivial rfl rfl) ⟨rfl,rfl,trivial⟩ ?_
 refine nt ?_
 refine aC ?_
 refine bM (gf (a:=.agg (.pair (I 4) (.pair (I 1) (.pair (I 1) (.pair (I 2) (.pair (.rep (.slice (.slice Tl)) [[[0,1,2],[3]],[[0,1],[2,3]],[[1,2,3]],[[1,3],[2]]]) (Rs aJ ([r2,r3,r4]++a0)))))))) (a':=.rep am (4,1,1,2,[[[0,1,2],[3]],[[0,1],[2,3]],[[1,2,3]],[[1,3],[2]]],[r2,r3,r4]++a0)) (jH (.agg (.pair .int (.pair .int (.pair .int (.pair .int (.pair .rep .rep)))))))) ?_
 cases h
 exact aP () [.rep am (4,1,1,2,[[[0,1,2],[3]],[[0,1],[2,3]],[[1,2,3]],[[1,3],[2]]],[r2,r3,r4]++a0)] 0 ⟨⟨_,_,_,_,_,rfl,(.head _),dk,(qe),rfl⟩,trivial⟩ rfl
def lj(k:Nat)(a0:Int):Option Int:=
 (jw k a0).bind λr1=>
 some (r1.length:Int)
theorem oh(k:Nat)(a0:Int)(r:Int)(h:lj k a0=some r):
 cV Tryz.prog 89 [.eq (.int .u8 a0)] [] (λ_:Unit=>(bF [I r],[])):=by
 unfold lj at h
 replace h:=ba h
 refine cV.of 6 Tryz.func89 rfl Tryz.ntmps89 rfl λS w0=>?_
 refine sr ?_
 refine cq ?_
 refine nt ?_
 refine sr ?_
 refine mq ?_
 obtain⟨r1,c,h⟩:=aa h
 have e:=kU k a0 r1 c
 refine ja (av [.tmp 3] rfl rfl OY rfl e) ?_
 refine ol gG ?_
 refine aq ?_
 refine nt ?_
 refine aC ?_
 cases h
 exact ra
def nQ(k:Nat)(a0:Int)(a1:Int):Option Int:=
 (lj k a0).bind λr1=>
 (lj k a1).bind λr2=>
 (ck (r1 - r2)).bind λx3=>
 some x3
theorem uf(k:Nat)(a0:Int)(a1:Int)(c:Nat)(r:Int)(h:nQ k a0 a1=some r):
 cV Tryz.prog 104 [.eq (.int .u8 a0),.eq (.int .u8 a1),Pt c] [.obj c 104 (.eq (.func (.func 89) #[] #[]))] (λ_:Unit=>(bF [I r],[.obj c 104 (.eq (.func (.func 89) #[] #[]))])):=by
 unfold nQ at h
 replace h:=ba h
 refine cV.of 13 Tryz.func104 rfl Tryz.ntmps104 rfl λS w0=>?_
 refine sr ?_
 refine cq ?_
 refine nt ?_
 refine aj ?_
 refine bN ?_
 refine ea 0 (ap rfl Na jN rfl) ?_
 refine dm ?_
 obtain⟨r1,l,h⟩:=aa h
 have s:=oh k a0 r1 l
 refine db (uu (fs:=[]) (cs:=[]) (ags:=[.eq (.int .u8 a0)]) [.tmp 7] rfl rfl QZ rfl s) ?_
 refine ea 0 (ap rfl Na jN rfl) ?_
 refine dm ?_
 refine df cS ?_
 obtain⟨r2,j,h⟩:=aa h
 have n:=oh k a1 r2 j
 refine jb (uu (fs:=[]) (cs:=[]) (ags:=[.eq (.int .u8 a1)]) [.tmp 10] rfl rfl QZ rfl n) ?_
 obtain⟨x3,e,h⟩:=aa h
 refine jb (ek rfl e) ?_
 refine aq ?_
 refine nt ?_
 refine aC ?_
 cases h
 exact aP () [_] 1 ⟨rfl,trivial⟩ rfl
def f6(k:Nat)(a0:(List Int)):Nat->(Int×Int)->Option Int
 |0,_=>none
 |n+1,y4=>
  if y4.2 < (a0.length:Int) then((((aH a0 y4.2).bind λx8=>
  (nQ k x8 y4.1).bind λr9=>
  if r9 < 0 then((aH a0 y4.2).bind λe=>
  some e) else(some y4.1)):Option (Int)).bind λx6=>
  (ck (y4.2+1)).bind λc=>
  f6 k a0 n (x6,c)) else(some y4.1)
def kP(k:Nat)(a0:(List Int)):Option Int:=
 if(a0.length:Int) < 1 then(none) else((aH a0 0).bind λx1=>
 ((f6 k a0 k (x1,1)):Option (Int)).bind λx2=>
 some x2)
theorem qA(k:Nat)(a0:(List Int))(c_a1_0:Nat)(r:Int)(h:kP k a0=some r):
 cV Tryz.prog 103 [.rep (.slice (.int .u8)) a0,.eq (.func (.func 104) #[] #[(Pv c_a1_0)])] [.obj c_a1_0 104 (.eq (.func (.func 89) #[] #[]))] (λ_:Unit=>(bF [.eq (.int .u8 r)],[.obj c_a1_0 104 (.eq (.func (.func 89) #[] #[]))])):=by
 unfold kP at h
 replace h:=ba h
 refine cV.of 33 Tryz.func103 rfl Tryz.ntmps103 rfl λS w0=>?_
 refine sr ?_
 refine cq ?_
 refine nt ?_
 refine aj ?_
 refine sr ?_
 refine mq ?_
 refine ol Ba ?_
 refine jb (bq rfl) ?_
 refine nt ?_
 refine ci h (λh=>?_) (λh=>?_)
 .
  cases h
 .
  refine sk (sr (mq ?_));obtain⟨x1,u,h⟩:=aa h;refine jb (aE (t:=(.int .u8)) rfl Ba qw u) ?_;refine ja (an (t:=(.int .u8)) rfl qw rfl) ?_;refine aq (nt ?_);refine aF (Z:=Unit) (α:=Int) (λz3 x2=>[(5,.eq (.int .u8 x2))]) (λz3 x2=>[.obj c_a1_0 104 (.eq (.func (.func 89) #[] #[]))]) h (λK h=>?_) (λz3 x2 h=>?_)
  .refine sr (cq (nt (ai ?_)));refine aD (λz5 y4=>[(0,.rep (.slice (.int .u8)) a0),(1,.eq (.func (.func 104) #[] #[(Pv c_a1_0)])),(5,.eq (.int .u8 y4.1)),(6,I y4.2)]) (λz5 y4=>[.obj c_a1_0 104 (.eq (.func (.func 89) #[] #[]))]) (f6 k a0) k () (x1,1) (λ_=>rfl) h (SE.fin [0] ⟨rfl,rfl,rfl,rfl,trivial⟩ rfl) (λn z5 y4 h=>?_);unfold f6 at h;refine aj (sr ?_);iterate 2 refine mq ?_
   refine ol Ba ?_;refine jb (bq rfl) ?_;refine nt (ci h (λh=>?_) (λh=>?_))
   .refine sk (aF (Z:=Unit) (α:=Int) (λz7 x6=>[(0,.rep (.slice (.int .u8)) a0),(1,.eq (.func (.func 104) #[] #[(Pv c_a1_0)])),(5,.eq (.int .u8 x6)),(6,I y4.2)]) (λz7 x6=>[.obj c_a1_0 104 (.eq (.func (.func 89) #[] #[]))]) h (λK h=>?_) (λz7 x6 h=>?_))
    .refine ai (sr ?_);iterate 3 refine mq ?_
     obtain⟨x8,s,h⟩:=aa h;refine jb (aE (t:=(.int .u8)) rfl Ba qw s) ?_;refine ja (an (t:=(.int .u8)) rfl qw rfl) ?_;refine mq ?_;obtain⟨r9,x,h⟩:=aa h;refine kc (uu (fs:=[]) (cs:=[(Pv c_a1_0)]) (ags:=[.eq (.int .u8 x8),.eq (.int .u8 y4.1)]) [.tmp 24,.tmp 25] rfl rfl Rx rfl (uf k x8 y4.1 c_a1_0 r9 x)) ?_;refine jb (bq rfl) ?_;refine nt (ci h (λh=>?_) (λh=>?_))
     .refine ab ?_;iterate 2 refine mq ?_
      obtain⟨l,e,h⟩:=aa h;refine jb (aE (t:=(.int .u8)) rfl Ba qw e) ?_;refine ja (an (t:=(.int .u8)) rfl qw rfl) ?_;refine aq (aG (bn ?_));exact jz ((),l) h [0]
     .refine bi (bn ?_);exact jz ((),y4.1) h [0]
    .refine ab (mq ?_);obtain⟨j,c,h⟩:=aa h;refine jb (bj rfl c) ?_;refine aq (nl ?_);exact jz ((),(x6,j)) h [0]
   .refine xa ?_;exact jz ((),y4.1) h [0]
  .refine sr (mq ?_);refine aq (nt (aC ?_));cases h;exact aP () [_] 1 ⟨rfl,trivial⟩ rfl
def qK(k:Nat)(a0:(List Int)):Option Int:=
 (kP k a0).bind λr2=>
 some r2
theorem wz(k:Nat)(a0:(List Int))(r:Int)(h:qK k a0=some r):
 cV Tryz.prog 71 [.rep (.slice (.int .u8)) a0,.eq (.func (.func 89) #[] #[])] [] (λ_:Unit=>(bF [.eq (.int .u8 r)],[])):=by
 unfold qK at h
 replace h:=ba h
 refine cV.of 8 Tryz.func71 rfl Tryz.ntmps71 rfl λS w0=>?_
 refine sr ?_
 refine bx λb1=>?_
 refine cq ?_
 refine nt ?_
 refine sr ?_
 refine mq ?_
 refine ja (sV [] [.tmp 3] [] [(Pv b1)] rfl rfl rfl) ?_
 obtain⟨r2,c,h⟩:=aa h
 have e:=qA k a0 b1 r2 c
 refine kb (av [.tmp 5,.tmp 6] rfl rfl Ry rfl e) ?_
 refine aq ?_
 refine nt ?_
 refine aC ?_
 cases h
 exact ra
def mO(k:Nat)(a0:(List Int)):Option bK:=
 some (a0,0,1)
theorem vn(k:Nat)(a0:(List Int))(r:bK)(h:mO k a0=some r):
 cV Tryz.prog 12 [.rep Tl a0] [] (λz:Nat=>(bF [Pt z],[.obj z 74 (.agg (.pair (.rep Tl r.1) (.pair (I r.2.1) (.eq (.int .u64 r.2.2)))))])):=by
 unfold mO at h
 replace h:=ba h
 refine cV.of 6 Tryz.func12 rfl Tryz.ntmps12 rfl λS w0=>?_
 refine sr ?_
 refine cq ?_
 refine nt ?_
 refine sr ?_
 refine mq ?_
 refine jb (eo [(0,.tmp 3,_),(2,.const (.int .u64 (1)),_)] rfl SV SN RH (ku ⟨rfl,rfl,trivial⟩) rfl) ?_
 refine aZ rfl rfl rfl (xh rfl trivial) ⟨rfl,trivial⟩ λb1=>?_
 refine aq ?_
 refine nt ?_
 refine aC ?_
 cases h
 exact aP b1 [Pt b1] 1 ⟨rfl,trivial⟩ rfl
def ip(k:Nat)(a0:(List Int)):Option (List Int):=
 (cf (bA (length ([]:(List Int))+length a0))).bind λ_=>
 some (([]:(List Int))++a0)
theorem om(k:Nat)(a0:(List Int))(r:(List Int))(h:ip k a0=some r):
 cV Tryz.prog 16 [.rep Tl a0] [] (λz:Value=>(bF [.eq z],[.sl z 3 Ti r])):=by
 unfold ip at h
 replace h:=ba h
 refine cV.of 6 Tryz.func16 rfl Tryz.ntmps16 rfl λS w0=>?_
 refine sr ?_
 refine cq ?_
 refine nt ?_
 refine sr ?_
 refine aZ rfl rfl rfl (i7 (t:=Ti) [] ([]:(List Int)) rfl rfl c9 .nil rfl rfl) trivial λv1=>?_
 refine mq ?_
 obtain⟨u2,c,h⟩:=aa h
 refine cR rfl rfl rfl (bu rfl rfl c9 (ao c)) ⟨rfl,rfl,trivial⟩ λv3=>?_
 refine aq ?_
 refine nt ?_
 refine aC ?_
 cases h
 exact aP v3 [.eq v3] 1 ⟨rfl,trivial⟩ rfl
def dC(k:Nat)(a0:(List (List Int))):Nat->((List (List Int))×Int)->Option (List (List Int))
 |0,_=>none
 |n+1,y3=>
  if y3.2 < (a0.length:Int) then((aH a0 y3.2).bind λx5=>
  (ip k x5).bind λr6=>
  (cf (bA (length y3.1+length [r6]))).bind λ_=>
  (ck (y3.2+1)).bind λc=>
  dC k a0 n (y3.1++[r6],c)) else(some y3.1)
def gB(k:Nat)(a0:(List (List Int))):Option (List (List Int)):=
 ((dC k a0 k (([]:(List (List Int))),0)):Option ((List (List Int)))).bind λx1=>
 some x1
theorem jX(k:Nat)(a0:(List (List Int)))(r:(List (List Int)))(h:gB k a0=some r):
 cV Tryz.prog 47 [.rep (.slice Tl) a0] [] (λz:Value=>(bF [.eq z],[.sl z 28 Tl r])):=by
 unfold gB at h
 replace h:=ba h
 refine cV.of 20 Tryz.func47 rfl Tryz.ntmps47 rfl λS w0=>?_
 refine sr ?_
 refine cq ?_
 refine nt ?_
 refine sr ?_
 refine cq ?_
 refine nt ?_
 refine aF (Z:=Value) (α:=(List (List Int))) (λz2 x1=>[(3,.eq z2)]) (λz2 x1=>[.sl z2 28 Tl x1]) h (λK h=>?_) (λz2 x1 h=>?_)
 .
  refine sr (cq (nt (ai ?_)));refine gu (SE.nil 28 Tl) ?_;refine aD (λz4 y3=>[(0,.rep (.slice Tl) a0),(3,.eq z4),(4,I y3.2)]) (λz4 y3=>[.sl z4 28 Tl y3.1]) (dC k a0) k (.slice none 0 0) (([]:(List (List Int))),0) (λ_=>rfl) h (SE.fin [0] ⟨rfl,rfl,rfl,trivial⟩ rfl) (λn z4 y3 h=>?_);unfold dC at h;refine aj (sr ?_);iterate 2 refine mq ?_
  refine ol pY ?_;refine jb (bq rfl) ?_;refine nt (ci h (λh=>?_) (λh=>?_))
  .refine sk (aj (ai (ab ?_)));iterate 3 refine mq ?_
   obtain⟨x5,j,h⟩:=aa h;refine jb (aE (t:=Tl) rfl pY fC j) ?_;refine ja (an (t:=Tl) rfl fC rfl) ?_;obtain⟨r6,s,h⟩:=aa h;refine aZ rfl rfl rfl (av [.tmp 15] rfl rfl Rh rfl (om k x5 r6 s)) ⟨rfl,trivial⟩ λv7=>?_;refine ee (ie [16] ⟨rfl,trivial⟩) ?_;refine ja (aW (t:=Tl) [(.tmp 16,_)] [r6] rfl rfl nm (.cons rfl .rep .nil) rfl rfl) ?_;obtain⟨u8,l,h⟩:=aa h;refine cR rfl rfl rfl (bu rfl rfl nm (ao l)) ⟨rfl,rfl,trivial⟩ λv9=>?_;refine aq (aG (aI (tn (ab ?_))));refine mq ?_;obtain⟨e,c,h⟩:=aa h;refine jb (bj rfl c) ?_;refine aq (nl ?_);exact jz (v9,(y3.1++[r6],e)) h [0]
  .refine xa ?_;exact jz (z4,y3.1) h [0]
 .
  refine sr (mq ?_);refine aq (nt (aC ?_));cases h;exact aP z2 [.eq z2] 1 ⟨rfl,trivial⟩ rfl
def cQ(k:Nat)(a0:ae):Nat->((List (List (List Int)))×Int)->Option (List (List (List Int)))
 |0,_=>none
 |n+1,y9=>
  if y9.2 < (a0.2.2.2.2.1.length:Int) then((aH a0.2.2.2.2.1 y9.2).bind λh=>
  (gB k h).bind λc=>
  (cf (bA (length y9.1+length [c]))).bind λ_=>
  (ck (y9.2+1)).bind λe=>
  cQ k a0 n (y9.1++[c],e)) else(some y9.1)
def eD(k:Nat)(a0:ae):Option ae:=
 (cf (bA (length ([]:(List aQ))+length a0.2.2.2.2.2))).bind λ_=>
 ((cQ k a0 k (([]:(List (List (List Int)))),0)):Option ((List (List (List Int))))).bind λx7=>
 some (a0.1,a0.2.1,a0.2.2.1,a0.2.2.2.1,x7,([]:(List aQ))++a0.2.2.2.2.2)
theorem tl(k:Nat)(a0:ae)(r:ae)(h:eD k a0=some r):
 cV Tryz.prog 15 [.rep am a0] [] (λz:Value=>(bF [.agg (.pair (I r.1) (.pair (I r.2.1) (.pair (I r.2.2.1) (.pair (I r.2.2.2.1) (.pair (.rep (.slice (.slice Tl)) r.2.2.2.2.1) (.eq z))))))],[.sl z 27 aJ r.2.2.2.2.2])):=by
 unfold eD at h
 replace h:=ba h
 refine cV.of 30 Tryz.func15 rfl Tryz.ntmps15 rfl λS w0=>?_
 refine sr ?_
 refine bx λb1=>?_
 refine aZ rfl rfl rfl (bp rfl t8 wH) trivial λb2=>?_
 refine nt ?_
 refine sr ?_
 refine fl bS ?_
 refine fr 1 ?_
 refine lo eH ?_
 refine aq ?_
 refine nt ?_
 refine sr ?_
 refine aZ rfl rfl rfl (i7 (t:=aJ) [] ([]:(List aQ)) rfl rfl wj .nil rfl rfl) trivial λv3=>?_
 refine fl fK ?_
 refine fr 1 ?_
 refine lo nh ?_
 obtain⟨u4,E,h⟩:=aa h
 refine fr 1 ?_
 refine cR rfl rfl rfl (bu rfl rfl wj (ao E)) ⟨rfl,rfl,trivial⟩ λv5=>?_
 refine fl bS ?_
 refine fr 1 ?_
 refine aM rfl rfl (aK rfl eH rfl rfl rfl) ⟨rfl,rfl,trivial⟩ ?_
 refine fl fK ?_
 refine fr 1 ?_
 refine mg λo6=>?_
 refine fr 1 ?_
 refine aM rfl rfl (aK rfl nh o6 rfl rfl) ⟨rfl,rfl,trivial⟩ ?_
 refine nt ?_
 refine aF (Z:=Value) (α:=(List (List (List Int)))) (λz8 x7=>[(1,Pt b1),(2,Pt b2)]) (λz8 x7=>[.obj b1 25 (.agg (.pair (I a0.1) (.pair (I a0.2.1) (.pair (I a0.2.2.1) (.pair (I a0.2.2.2.1) (.pair (.eq z8) (.eq v5))))))),.sl z8 36 (.slice Tl) x7,.sl v5 27 aJ (([]:(List aQ))++a0.2.2.2.2.2),.obj b2 25 (.agg (.pair (I 0) (.pair (I 0) (.pair (I 0) (.pair (I 0) (.pair (.eq (.slice none 0 0)) (.eq (.slice none 0 0))))))))]) h (λK h=>?_) (λz8 x7 h=>?_)
 .
  refine sr (cq (nt (ai ?_)));refine gu (SE.nil 36 (.slice Tl)) ?_;refine dE 1 rfl ?_;refine gu (gf (a:=.agg (.pair (.rep Ti a0.1) (.pair (.rep Ti a0.2.1) (.pair (.rep Ti a0.2.2.1) (.pair (.rep Ti a0.2.2.2.1) (.pair (.eq (.slice none 0 0)) (.eq v5))))))) (a':=.agg (.pair (I a0.1) (.pair (I a0.2.1) (.pair (I a0.2.2.1) (.pair (I a0.2.2.2.1) (.pair (.eq (.slice none 0 0)) (.eq v5))))))) (AE.agg (AE.pair AE.int (AE.pair AE.int (AE.pair AE.int (AE.pair AE.int AE.rfl)))))) ?_;refine aD (λc y9=>[(1,Pt b1),(2,Pt b2),(3,.rep (.slice (.slice Tl)) a0.2.2.2.2.1),(4,I y9.2)]) (λc y9=>[.obj b1 25 (.agg (.pair (I a0.1) (.pair (I a0.2.1) (.pair (I a0.2.2.1) (.pair (I a0.2.2.2.1) (.pair (.eq c) (.eq v5))))))),.sl c 36 (.slice Tl) y9.1,.sl v5 27 aJ (([]:(List aQ))++a0.2.2.2.2.2),.obj b2 25 (.agg (.pair (I 0) (.pair (I 0) (.pair (I 0) (.pair (I 0) (.pair (.eq (.slice none 0 0)) (.eq (.slice none 0 0))))))))]) (cQ k a0) k (.slice none 0 0) (([]:(List (List (List Int)))),0) (λ_=>rfl) h (SE.fin [0,1,2,3] ⟨rfl,rfl,rfl,rfl,trivial⟩ rfl) (λn c y9 h=>?_);unfold cQ at h;refine aj (sr ?_);iterate 2 refine mq ?_
  refine ol oy ?_;refine jb (bq rfl) ?_;refine nt (ci h (λh=>?_) (λh=>?_))
  .refine sk (aj (ai (bN ?_)));refine da (au rfl bS) ?_;refine ea 0 (ap rfl eH jN rfl) ?_;refine dm ?_;refine dm ?_;obtain⟨y,l,h⟩:=aa h;refine db (aE (t:=(.slice Tl)) rfl oy jJ l) ?_;refine da (an (t:=(.slice Tl)) rfl jJ rfl) ?_;obtain⟨e,u,h⟩:=aa h;refine da (sC (av [.tmp 24] rfl rfl OZ rfl (jX k y e u))) ?_;refine da (aW (t:=(.slice Tl)) [(.tmp 25,_)] [e] rfl rfl uO (.cons rfl .rep .nil) rfl rfl) ?_;refine df cS ?_;obtain⟨F,s,h⟩:=aa h;refine fr 1 ?_;refine cR rfl rfl rfl (bu rfl rfl uO (ao s)) ⟨rfl,rfl,trivial⟩ λD=>?_;refine fl bS ?_;refine mg λo15=>?_;refine fr 1 ?_;refine aM rfl rfl (aK rfl eH o15 rfl rfl) ⟨rfl,rfl,trivial⟩ ?_;refine aG (aI (tn (ab (mq ?_))));obtain⟨x,j,h⟩:=aa h;refine jb (bj rfl j) ?_;refine aq (nl ?_);exact jz (D,(y9.1++[e],x)) h [0,1,2,3]
  .refine xa ?_;exact jz (c,y9.1) h [0,1,2,3]
 .
  refine sr (lo dk ?_);refine fr 3 ?_;refine aM rfl rfl (aK rfl dk trivial rfl rfl) ⟨rfl,rfl,trivial⟩ ?_;refine nt (aC (bH 2 rfl ?_));refine bM (ic (off:=4) [] trivial rfl rfl) ?_;refine bM (SE.fin (Γ':=[(2,_)]) [2,0,1] ⟨rfl,trivial⟩ rfl) ?_;cases h;exact aP v5 [.agg (.pair (I a0.1) (.pair (I a0.2.1) (.pair (I a0.2.2.1) (.pair (I a0.2.2.2.1) (.pair (.rep (.slice (.slice Tl)) x7) (.eq v5))))))] 1 ⟨⟨_,_,_,_,_,rfl,(.tail _ (.head _)),dk,(qe),rfl⟩,trivial⟩ rfl
theorem sb(k:Nat)(a0:ae)(r:ae)(h:eD k a0=some r):
 cV Tryz.prog 15 [.rep am a0] [] (λ_:Unit=>(bF [.rep am r],[])):=by
 unfold eD at h
 replace h:=ba h
 refine cV.of 30 Tryz.func15 rfl Tryz.ntmps15 rfl λS w0=>?_
 refine sr ?_
 refine bx λb1=>?_
 refine aZ rfl rfl rfl (bp rfl t8 wH) trivial λb2=>?_
 refine nt ?_
 refine sr ?_
 refine fl bS ?_
 refine fr 1 ?_
 refine lo eH ?_
 refine aq ?_
 refine nt ?_
 refine sr ?_
 refine aZ rfl rfl rfl (i7 (t:=aJ) [] ([]:(List aQ)) rfl rfl wj .nil rfl rfl) trivial λv3=>?_
 refine fl fK ?_
 refine fr 1 ?_
 refine lo nh ?_
 obtain⟨u4,E,h⟩:=aa h
 refine fr 1 ?_
 refine cR rfl rfl rfl (bu rfl rfl wj (ao E)) ⟨rfl,rfl,trivial⟩ λv5=>?_
 refine fl bS ?_
 refine fr 1 ?_
 refine aM rfl rfl (aK rfl eH rfl rfl rfl) ⟨rfl,rfl,trivial⟩ ?_
 refine fl fK ?_
 refine fr 1 ?_
 refine mg λo6=>?_
 refine fr 1 ?_
 refine aM rfl rfl (aK rfl nh o6 rfl rfl) ⟨rfl,rfl,trivial⟩ ?_
 refine nt ?_
 refine aF (Z:=Value) (α:=(List (List (List Int)))) (λz8 x7=>[(1,Pt b1),(2,Pt b2)]) (λz8 x7=>[.obj b1 25 (.agg (.pair (I a0.1) (.pair (I a0.2.1) (.pair (I a0.2.2.1) (.pair (I a0.2.2.2.1) (.pair (.eq z8) (.eq v5))))))),.sl z8 36 (.slice Tl) x7,.sl v5 27 aJ (([]:(List aQ))++a0.2.2.2.2.2),.obj b2 25 (.agg (.pair (I 0) (.pair (I 0) (.pair (I 0) (.pair (I 0) (.pair (.eq (.slice none 0 0)) (.eq (.slice none 0 0))))))))]) h (λK h=>?_) (λz8 x7 h=>?_)
 .
  refine sr (cq (nt (ai ?_)));refine gu (SE.nil 36 (.slice Tl)) ?_;refine dE 1 rfl ?_;refine gu (gf (a:=.agg (.pair (.rep Ti a0.1) (.pair (.rep Ti a0.2.1) (.pair (.rep Ti a0.2.2.1) (.pair (.rep Ti a0.2.2.2.1) (.pair (.eq (.slice none 0 0)) (.eq v5))))))) (a':=.agg (.pair (I a0.1) (.pair (I a0.2.1) (.pair (I a0.2.2.1) (.pair (I a0.2.2.2.1) (.pair (.eq (.slice none 0 0)) (.eq v5))))))) (AE.agg (AE.pair AE.int (AE.pair AE.int (AE.pair AE.int (AE.pair AE.int AE.rfl)))))) ?_;refine aD (λc y9=>[(1,Pt b1),(2,Pt b2),(3,.rep (.slice (.slice Tl)) a0.2.2.2.2.1),(4,I y9.2)]) (λc y9=>[.obj b1 25 (.agg (.pair (I a0.1) (.pair (I a0.2.1) (.pair (I a0.2.2.1) (.pair (I a0.2.2.2.1) (.pair (.eq c) (.eq v5))))))),.sl c 36 (.slice Tl) y9.1,.sl v5 27 aJ (([]:(List aQ))++a0.2.2.2.2.2),.obj b2 25 (.agg (.pair (I 0) (.pair (I 0) (.pair (I 0) (.pair (I 0) (.pair (.eq (.slice none 0 0)) (.eq (.slice none 0 0))))))))]) (cQ k a0) k (.slice none 0 0) (([]:(List (List (List Int)))),0) (λ_=>rfl) h (SE.fin [0,1,2,3] ⟨rfl,rfl,rfl,rfl,trivial⟩ rfl) (λn c y9 h=>?_);unfold cQ at h;refine aj (sr ?_);iterate 2 refine mq ?_
  refine ol oy ?_;refine jb (bq rfl) ?_;refine nt (ci h (λh=>?_) (λh=>?_))
  .refine sk (aj (ai (bN ?_)));refine da (au rfl bS) ?_;refine ea 0 (ap rfl eH jN rfl) ?_;refine dm ?_;refine dm ?_;obtain⟨y,l,h⟩:=aa h;refine db (aE (t:=(.slice Tl)) rfl oy jJ l) ?_;refine da (an (t:=(.slice Tl)) rfl jJ rfl) ?_;obtain⟨e,u,h⟩:=aa h;refine da (sC (av [.tmp 24] rfl rfl OZ rfl (jX k y e u))) ?_;refine da (aW (t:=(.slice Tl)) [(.tmp 25,_)] [e] rfl rfl uO (.cons rfl .rep .nil) rfl rfl) ?_;refine df cS ?_;obtain⟨F,s,h⟩:=aa h;refine fr 1 ?_;refine cR rfl rfl rfl (bu rfl rfl uO (ao s)) ⟨rfl,rfl,trivial⟩ λD=>?_;refine fl bS ?_;refine mg λo15=>?_;refine fr 1 ?_;refine aM rfl rfl (aK rfl eH o15 rfl rfl) ⟨rfl,rfl,trivial⟩ ?_;refine aG (aI (tn (ab (mq ?_))));obtain⟨x,j,h⟩:=aa h;refine jb (bj rfl j) ?_;refine aq (nl ?_);exact jz (D,(y9.1++[e],x)) h [0,1,2,3]
  .refine xa ?_;exact jz (c,y9.1) h [0,1,2,3]
 .
  refine sr (fr 1 ?_);refine ee (ic (off:=4) [] trivial rfl rfl) ?_;refine fr 1 ?_;refine ee (ic (off:=5) [] trivial rfl rfl) ?_;refine lo dk ?_;refine fr 1 ?_;refine aM rfl rfl (aK rfl dk trivial rfl rfl) ⟨rfl,rfl,trivial⟩ ?_;refine nt (aC (bM (gf (a:=.agg (.pair (I a0.1) (.pair (I a0.2.1) (.pair (I a0.2.2.1) (.pair (I a0.2.2.2.1) (.pair (.rep (.slice (.slice Tl)) x7) (Rs aJ (([]:(List aQ))++a0.2.2.2.2.2)))))))) (a':=.rep am (a0.1,a0.2.1,a0.2.2.1,a0.2.2.2.1,x7,([]:(List aQ))++a0.2.2.2.2.2)) (jH (.agg (.pair .int (.pair .int (.pair .int (.pair .int (.pair .rep .rep)))))))) ?_));cases h;exact aP () [.rep am (a0.1,a0.2.1,a0.2.2.1,a0.2.2.2.1,x7,([]:(List aQ))++a0.2.2.2.2.2)] 0 ⟨⟨_,_,_,_,_,rfl,(.head _),dk,(qe),rfl⟩,trivial⟩ rfl
def iH(k:Nat)(a0:bK):Option (Int×bK):=
 ((if a0.2.1 < (a0.1.length:Int) then((aH a0.1 a0.2.1).bind λx3=>
 some (IntKind.u64.wrap ((IntKind.u64.wrap ((IntKind.u64.wrap (a0.2.2 * 6364136223846793005))+1442695040888963407))+(IntKind.u64.wrap ((IntKind.u64.wrap x3) * 2862933555777941757))))) else(some (IntKind.u64.wrap ((IntKind.u64.wrap (a0.2.2 * 6364136223846793005))+1442695040888963407)))):Option (Int)).bind λx1=>
 (ck (a0.2.1+1)).bind λx4=>
 some (gR .u64 (qT .u64 (IntKind.u64.wrap ((qT .u64 x1 (gR .u64 x1 29)) * 2685821657736338717)) (gR .u64 (IntKind.u64.wrap ((qT .u64 x1 (gR .u64 x1 29)) * 2685821657736338717)) 32)) 8,(a0.1,x4,x1))
theorem tg(k:Nat)(a0:bK)(c:Nat)(r:Int×bK)(h:iH k a0=some r):
 cV Tryz.prog 59 [Pt c] [.obj c 74 (.agg (.pair (.rep Tl a0.1) (.pair (I a0.2.1) (.eq (.int .u64 a0.2.2)))))] (λ_:Unit=>(bF [.eq (.int .u64 r.1)],[.obj c 74 (.agg (.pair (.rep Tl r.2.1) (.pair (I r.2.2.1) (.eq (.int .u64 r.2.2.2)))))])):=by
 unfold iH at h
 replace h:=ba h
 refine cV.of 67 Tryz.func59 rfl Tryz.ntmps59 rfl λS w0=>?_
 refine sr ?_
 refine cq ?_
 refine nt ?_
 refine sr ?_
 iterate 2 refine mq ?_
 refine ja (cT rfl) ?_
 refine fl tw ?_
 refine lo EM ?_
 refine jb (BK rfl) ?_
 refine jb (Hz rfl) ?_
 refine ja (cT rfl) ?_
 refine fl tw ?_
 refine aM rfl rfl (aK rfl EM rfl rfl rfl) ⟨rfl,rfl,trivial⟩ ?_
 refine nt ?_
 refine aF (Z:=Unit) (α:=Int) (λz2 x1=>[(0,Pt c)]) (λz2 x1=>[.obj c 74 (.agg (.pair (.rep Tl a0.1) (.pair (I a0.2.1) (.eq (.int .u64 x1)))))]) h (λK h=>?_) (λz2 x1 h=>?_)
 .
  refine aj (bN ?_);refine dm ?_;refine da (cT rfl) ?_;refine da (au rfl yD) ?_;refine ea 0 (ap rfl bW jN rfl) ?_;refine dm ?_;refine da (cT rfl) ?_;refine da (au rfl Ir) ?_;refine ea 0 (ap rfl fC jN rfl) ?_;refine da (od rfl rfl gG) ?_;refine df cS ?_;refine jb (bq rfl) ?_;refine nt (ci h (λh=>?_) (λh=>?_))
  .refine bN ?_;refine dm ?_;refine dm ?_;refine da (cT rfl) ?_;refine da (au rfl tw) ?_;refine ea 0 (ap rfl EM jN rfl) ?_;refine dm ?_;refine da (cT rfl) ?_;refine da (au rfl Ir) ?_;refine ea 0 (ap rfl fC jN rfl) ?_;refine dm ?_;refine da (cT rfl) ?_;refine da (au rfl yD) ?_;refine ea 0 (ap rfl bW jN rfl) ?_;obtain⟨x3,j,h⟩:=aa h;refine db (aE (t:=Ti) rfl gG bW j) ?_;refine da (an (t:=Ti) rfl bW rfl) ?_;refine da (sX rfl U3 SC) ?_;refine db (BK rfl) ?_;refine db (Hz rfl) ?_;refine df cS ?_;refine ja (cT rfl) ?_;refine fl tw ?_;refine aM rfl rfl (aK rfl EM rfl rfl rfl) ⟨rfl,rfl,trivial⟩ ?_;refine nl ?_;exact jz ((),IntKind.u64.wrap ((IntKind.u64.wrap ((IntKind.u64.wrap (a0.2.2 * 6364136223846793005))+1442695040888963407))+(IntKind.u64.wrap ((IntKind.u64.wrap x3) * 2862933555777941757)))) h [0]
  .refine bi (ax ?_);exact jz ((),IntKind.u64.wrap ((IntKind.u64.wrap (a0.2.2 * 6364136223846793005))+1442695040888963407)) h [0]
 .
  refine sr (mq ?_);refine ja (cT rfl) ?_;refine fl yD ?_;refine lo bW ?_;obtain⟨x4,e,h⟩:=aa h;refine jb (bj rfl e) ?_;refine ja (cT rfl) ?_;refine fl yD ?_;refine aM rfl rfl (aK rfl bW rfl rfl rfl) ⟨rfl,rfl,trivial⟩ ?_;refine nt (aj (bN ?_));refine dm ?_;refine da (cT rfl) ?_;refine da (au rfl tw) ?_;refine ea 0 (ap rfl EM jN rfl) ?_;refine dm ?_;refine da (cT rfl) ?_;refine da (au rfl tw) ?_;refine ea 0 (ap rfl EM jN rfl) ?_;refine fN rfl rfl rfl (va rfl (by decide)) ⟨rfl,rfl,trivial⟩ ?_;refine df cS ?_;refine jb (Nc rfl) ?_;refine aq (nt (sr ?_));refine mq ?_;refine jb (BK rfl) ?_;refine aq (nt (sr ?_));iterate 2 refine mq ?_
  refine co rfl (va rfl (by decide)) ⟨rfl,rfl,trivial⟩ ?_;refine jb (Nc rfl) ?_;refine co rfl (va rfl (by decide)) ⟨rfl,rfl,trivial⟩ ?_;refine aq (nt (aC ?_));cases h;exact aP () [_] 1 ⟨rfl,trivial⟩ rfl
def cF(k:Nat)(a0:bK)(a1:Int):Option (Int×bK):=
 if a1 < 1 then(some (0,(a0.1,a0.2.1,a0.2.2))) else((iH k (a0.1,a0.2.1,a0.2.2)).bind λr1=>
 (ck (a1+1)).bind λx2=>
 (cf ((IntKind.u64.wrap x2)≠0)).bind λ_=>
 (ck (Int.tmod r1.1 (IntKind.u64.wrap x2))).bind λx4=>
 some (x4,(r1.2.1,r1.2.2.1,r1.2.2.2)))
theorem cP(k:Nat)(a0:bK)(c:Nat)(a1:Int)(r:Int×bK)(h:cF k a0 a1=some r):
 cV Tryz.prog 24 [Pt c,I a1] [.obj c 74 (.agg (.pair (.rep Tl a0.1) (.pair (I a0.2.1) (.eq (.int .u64 a0.2.2)))))] (λ_:Unit=>(bF [I r.1],[.obj c 74 (.agg (.pair (.rep Tl r.2.1) (.pair (I r.2.2.1) (.eq (.int .u64 r.2.2.2)))))])):=by
 unfold cF at h
 replace h:=ba h
 refine cV.of 14 Tryz.func24 rfl Tryz.ntmps24 rfl λS w0=>?_
 refine sr ?_
 refine cq ?_
 refine nt ?_
 refine aj ?_
 refine sr ?_
 refine mq ?_
 refine jb (bq rfl) ?_
 refine nt ?_
 refine ci h (λh=>?_) (λh=>?_)
 .
  refine sr (cq (nt (rx ?_)));cases h;exact aP () [_] 1 ⟨rfl,trivial⟩ rfl
 .
  refine sk (sr (mq ?_));obtain⟨r1,n,h⟩:=aa h;refine ka (av [.tmp 7] rfl rfl T8 rfl (tg k (a0.1,a0.2.1,a0.2.2) c r1 n)) ?_;refine mq ?_;obtain⟨x2,j,h⟩:=aa h;refine jb (bj rfl j) ?_;refine ja (sX rfl U3 SC) ?_;obtain⟨u3,l,h⟩:=aa h;refine jb (Qq rfl (ao l)) ?_;obtain⟨x4,e,h⟩:=aa h;refine ja (zN rfl SC U3 e) ?_;refine aq (nt (aC ?_));cases h;exact aP () [_] 1 ⟨rfl,trivial⟩ rfl
def eC(k:Nat)(a0:bK)(a1:Int):Option (Bool×bK):=
 (ck (a1 - 1)).bind λx1=>
 (cF k (a0.1,a0.2.1,a0.2.2) x1).bind λr2=>
 some (decide (r2.1=0),(r2.2.1,r2.2.2.1,r2.2.2.2))
theorem io(k:Nat)(a0:bK)(c:Nat)(a1:Int)(r:Bool×bK)(h:eC k a0 a1=some r):
 cV Tryz.prog 46 [Pt c,I a1] [.obj c 74 (.agg (.pair (.rep Tl a0.1) (.pair (I a0.2.1) (.eq (.int .u64 a0.2.2)))))] (λ_:Unit=>(bF [.eq (.bool r.1)],[.obj c 74 (.agg (.pair (.rep Tl r.2.1) (.pair (I r.2.2.1) (.eq (.int .u64 r.2.2.2)))))])):=by
 unfold eC at h
 replace h:=ba h
 refine cV.of 10 Tryz.func46 rfl Tryz.ntmps46 rfl λS w0=>?_
 refine sr ?_
 refine cq ?_
 refine nt ?_
 refine sr ?_
 iterate 2 refine mq ?_
 obtain⟨x1,e,h⟩:=aa h
 refine jb (ek rfl e) ?_
 obtain⟨r2,j,h⟩:=aa h
 have l:=cP k (a0.1,a0.2.1,a0.2.2) c x1 r2 j
 refine kb (av [.tmp 5,.tmp 7] rfl rfl wE rfl l) ?_
 refine jb (jL rfl) ?_
 refine aq ?_
 refine nt ?_
 refine aC ?_
 cases h
 exact aP () [_] 1 ⟨rfl,trivial⟩ rfl
def fV(k:Nat)(a0:bK)(a1:Int)(a2:Int):Option (Int×bK):=
 (ck (a2 - a1)).bind λx1=>
 (cF k (a0.1,a0.2.1,a0.2.2) x1).bind λr2=>
 (ck (a1+r2.1)).bind λx3=>
 some (x3,(r2.2.1,r2.2.2.1,r2.2.2.2))
theorem jD(k:Nat)(a0:bK)(c:Nat)(a1:Int)(a2:Int)(r:Int×bK)(h:fV k a0 a1 a2=some r):
 cV Tryz.prog 98 [Pt c,I a1,I a2] [.obj c 74 (.agg (.pair (.rep Tl a0.1) (.pair (I a0.2.1) (.eq (.int .u64 a0.2.2)))))] (λ_:Unit=>(bF [I r.1],[.obj c 74 (.agg (.pair (.rep Tl r.2.1) (.pair (I r.2.2.1) (.eq (.int .u64 r.2.2.2)))))])):=by
 unfold fV at h
 replace h:=ba h
 refine cV.of 14 Tryz.func98 rfl Tryz.ntmps98 rfl λS w0=>?_
 refine sr ?_
 refine cq ?_
 refine nt ?_
 refine sr ?_
 iterate 4 refine mq ?_
 obtain⟨x1,j,h⟩:=aa h
 refine jb (ek rfl j) ?_
 obtain⟨r2,l,h⟩:=aa h
 have n:=cP k (a0.1,a0.2.1,a0.2.2) c x1 r2 l
 refine kb (av [.tmp 8,.tmp 11] rfl rfl wE rfl n) ?_
 obtain⟨x3,e,h⟩:=aa h
 refine jb (bj rfl e) ?_
 refine aq ?_
 refine nt ?_
 refine aC ?_
 cases h
 exact aP () [_] 1 ⟨rfl,trivial⟩ rfl
def ia(k:Nat)(a0:bK)(a1:(List Int)):Option (Int×bK):=
 (ck ((a1.length:Int) - 1)).bind λx1=>
 (cF k (a0.1,a0.2.1,a0.2.2) x1).bind λr2=>
 (aH a1 r2.1).bind λx3=>
 some (x3,(r2.2.1,r2.2.2.1,r2.2.2.2))
theorem l6(k:Nat)(a0:bK)(c:Nat)(a1:(List Int))(r:Int×bK)(h:ia k a0 a1=some r):
 cV Tryz.prog 99 [Pt c,.rep Tl a1] [.obj c 74 (.agg (.pair (.rep Tl a0.1) (.pair (I a0.2.1) (.eq (.int .u64 a0.2.2)))))] (λ_:Unit=>(bF [I r.1],[.obj c 74 (.agg (.pair (.rep Tl r.2.1) (.pair (I r.2.2.1) (.eq (.int .u64 r.2.2.2)))))])):=by
 unfold ia at h
 replace h:=ba h
 refine cV.of 13 Tryz.func99 rfl Tryz.ntmps99 rfl λS w0=>?_
 refine sr ?_
 refine cq ?_
 refine nt ?_
 refine sr ?_
 iterate 3 refine mq ?_
 refine ol gG ?_
 obtain⟨x1,j,h⟩:=aa h
 refine jb (ek rfl j) ?_
 obtain⟨r2,l,h⟩:=aa h
 have n:=cP k (a0.1,a0.2.1,a0.2.2) c x1 r2 l
 refine kb (av [.tmp 6,.tmp 9] rfl rfl wE rfl n) ?_
 obtain⟨x3,e,h⟩:=aa h
 refine jb (aE (t:=Ti) rfl gG bW e) ?_
 refine ja (an (t:=Ti) rfl bW rfl) ?_
 refine aq ?_
 refine nt ?_
 refine aC ?_
 cases h
 exact aP () [_] 1 ⟨rfl,trivial⟩ rfl
def d5(k:Nat)(a1:Int):Nat->((List Int)×Int×Int×(List Int)×Int)->Option ((List Int)×(List Int)×Int×Int)
 |0,_=>none
 |n+1,y3=>
  if y3.2.2.2.2 < a1 then((cF k (y3.1,y3.2.1,y3.2.2.1) y3.2.2.2.2).bind λr5=>
  (cf (bA (length y3.2.2.2.1+length [y3.2.2.2.2]))).bind λ_=>
  (aH (y3.2.2.2.1++[y3.2.2.2.2]) r5.1).bind λx8=>
  (aH (y3.2.2.2.1++[y3.2.2.2.2]) y3.2.2.2.2).bind λx9=>
  (aH (List.set (y3.2.2.2.1++[y3.2.2.2.2]) (Int.toNat y3.2.2.2.2) x8) r5.1).bind λe=>
  (ck (y3.2.2.2.2+1)).bind λc=>
  d5 k a1 n (r5.2.1,r5.2.2.1,r5.2.2.2,List.set (List.set (y3.2.2.2.1++[y3.2.2.2.2]) (Int.toNat y3.2.2.2.2) x8) (Int.toNat r5.1) y3.2.2.2.2,c)) else(some (y3.2.2.2.1,y3.1,y3.2.1,y3.2.2.1))
def ib(k:Nat)(a0:bK)(a1:Int):Option ((List Int)×bK):=
 ((d5 k a1 k (a0.1,a0.2.1,a0.2.2,([]:(List Int)),0)):Option ((List Int)×(List Int)×Int×Int)).bind λx1=>
 some (x1.1,(x1.2.1,x1.2.2.1,x1.2.2.2))
theorem sa(k:Nat)(a0:bK)(c:Nat)(a1:Int)(r:(List Int)×bK)(h:ib k a0 a1=some r):
 cV Tryz.prog 117 [Pt c,I a1] [.obj c 74 (.agg (.pair (.rep Tl a0.1) (.pair (I a0.2.1) (.eq (.int .u64 a0.2.2)))))] (λ_:Unit=>(bF [.rep Tl r.1],[.obj c 74 (.agg (.pair (.rep Tl r.2.1) (.pair (I r.2.2.1) (.eq (.int .u64 r.2.2.2)))))])):=by
 unfold ib at h
 replace h:=ba h
 refine cV.of 32 Tryz.func117 rfl Tryz.ntmps117 rfl λS w0=>?_
 refine sr ?_
 refine cq ?_
 refine nt ?_
 refine sr ?_
 refine cq ?_
 refine nt ?_
 refine aF (Z:=Value) (α:=(List Int)×(List Int)×Int×Int) (λz2 x1=>[(5,.eq z2)]) (λz2 x1=>[.sl z2 3 Ti x1.1,.obj c 74 (.agg (.pair (.rep Tl x1.2.1) (.pair (I x1.2.2.1) (.eq (.int .u64 x1.2.2.2)))))]) h (λK h=>?_) (λz2 x1 h=>?_)
 .
  refine sr (cq (nt (ai ?_)));refine gu (SE.nil 3 Ti) ?_;refine aD (λz4 y3=>[(0,Pt c),(1,I a1),(5,.eq z4),(6,I y3.2.2.2.2)]) (λz4 y3=>[.obj c 74 (.agg (.pair (.rep Tl y3.1) (.pair (I y3.2.1) (.eq (.int .u64 y3.2.2.1))))),.sl z4 3 Ti y3.2.2.2.1]) (d5 k a1) k (.slice none 0 0) (a0.1,a0.2.1,a0.2.2,([]:(List Int)),0) (λ_=>rfl) h (SE.fin [1,0] ⟨rfl,rfl,rfl,rfl,trivial⟩ rfl) (λn z4 y3 h=>?_);unfold d5 at h;refine aj (sr ?_);iterate 2 refine mq ?_
  refine jb (bq rfl) ?_;refine nt (ci h (λh=>?_) (λh=>?_))
  .refine sk (aj (ai (sr ?_)));iterate 2 refine mq ?_
   obtain⟨r5,y,h⟩:=aa h;refine kb (av [.tmp 13,.tmp 14] rfl rfl wE rfl (cP k (y3.1,y3.2.1,y3.2.2.1) c y3.2.2.2.2 r5 y)) ?_;refine aq (nt (sr ?_));iterate 2 refine mq ?_
   refine ja (aW (t:=Ti) [(.tmp 17,_)] [y3.2.2.2.2] rfl rfl c9 (.cons rfl .int .nil) rfl rfl) ?_;obtain⟨u6,x,h⟩:=aa h;refine fr 1 ?_;refine cR rfl rfl rfl (bu rfl rfl c9 (ao x)) ⟨rfl,rfl,trivial⟩ λv7=>?_;refine aq (nt (ab ?_));iterate 6 refine mq ?_
   obtain⟨x8,l,h⟩:=aa h;refine kb (cH (t:=Ti) rfl gG bW l) ?_;refine ka (gA (i:=Int.toNat r5.1) (off:=0) rfl bW (λ_=>rfl) rfl (dF l).2.2 rfl) ?_;refine mq ?_;obtain⟨x9,j,h⟩:=aa h;refine kb (cH (t:=Ti) rfl gG bW j) ?_;refine aM rfl rfl (gY (i:=Int.toNat y3.2.2.2.2) rfl bW rfl (nT j) rfl .int rfl) ⟨rfl,rfl,trivial⟩ ?_;obtain⟨D,e,h⟩:=aa h;refine kb (cH (t:=Ti) rfl gG bW e) ?_;refine aM rfl rfl (gY (i:=Int.toNat r5.1) rfl bW rfl (nT e) rfl .int rfl) ⟨rfl,rfl,trivial⟩ ?_;refine aG (aI (tn (ab (mq ?_))));obtain⟨u,s,h⟩:=aa h;refine jb (bj rfl s) ?_;refine aq (nl ?_);exact jz (v7,(r5.2.1,r5.2.2.1,r5.2.2.2,List.set (List.set (y3.2.2.2.1++[y3.2.2.2.2]) (Int.toNat y3.2.2.2.2) x8) (Int.toNat r5.1) y3.2.2.2.2,u)) h [1,0]
  .refine xa ?_;exact jz (z4,(y3.2.2.2.1,y3.1,y3.2.1,y3.2.2.1)) h [1,0]
 .
  refine sr (mq ?_);refine aq (nt (aC ?_));refine bM (ie [4,5,31] ⟨rfl,rfl,rfl,trivial⟩) ?_;cases h;exact aP () [_] 1 ⟨rfl,trivial⟩ rfl
def iJ(k:Nat)(a0:bK)(a1:yI):Option (aQ×bK):=
 (ck (a1.1 - 1)).bind λx3=>
 (cF k (a0.1,a0.2.1,a0.2.2) x3).bind λr4=>
 (cF k (r4.2.1,r4.2.2.1,r4.2.2.2) (a1.2.2.2.2.1.length:Int)).bind λr5=>
 (eC k (r5.2.1,r5.2.2.1,r5.2.2.2) 2).bind λr6=>
 some ((r4.1,r5.1,r6.1),(r6.2.1,r6.2.2.1,r6.2.2.2))
theorem tj(k:Nat)(a0:bK)(c:Nat)(a1:yI)(r:aQ×bK)(h:iJ k a0 a1=some r):
 cV Tryz.prog 67 [Pt c,.rep Db a1] [.obj c 74 (.agg (.pair (.rep Tl a0.1) (.pair (I a0.2.1) (.eq (.int .u64 a0.2.2)))))] (λ_:Unit=>(bF [.rep aJ r.1],[.obj c 74 (.agg (.pair (.rep Tl r.2.1) (.pair (I r.2.2.1) (.eq (.int .u64 r.2.2.2)))))])):=by
 unfold iJ at h
 replace h:=ba h
 refine cV.of 18 Tryz.func67 rfl Tryz.ntmps67 rfl λS w0=>?_
 refine sr ?_
 refine bx λb1=>?_
 refine aZ rfl rfl rfl (bp rfl EF LZ) trivial λb2=>?_
 refine nt ?_
 refine aj ?_
 refine FT [1,2,3,5,6,7,8,10,0,4,9,11,12,13] (by kernel_rfl) ?_
 refine bD rfl rfl rfl (au rfl fy) ⟨rfl,trivial⟩ ?_
 refine iy 1 rfl rfl rfl rfl (ap rfl bW jN rfl) ⟨rfl,trivial⟩ ?_
 obtain⟨x3,E,h⟩:=aa h
 refine bD rfl rfl rfl (ek rfl E) ⟨rfl,rfl,trivial⟩ ?_
 refine bD rfl rfl rfl (aO rfl) ⟨rfl,trivial⟩ ?_
 refine bD rfl rfl rfl (au rfl bS) ⟨rfl,trivial⟩ ?_
 refine iy 1 rfl rfl rfl rfl (ap rfl eH jN rfl) ⟨rfl,trivial⟩ ?_
 refine bD rfl rfl rfl (od rfl rfl oy) ⟨rfl,trivial⟩ ?_
 refine bD rfl rfl rfl (aO rfl) ⟨rfl,trivial⟩ ?_
 refine bD rfl rfl rfl (aO rfl) ⟨rfl,trivial⟩ ?_
 refine tO 9 [true,true,true,false,false,false,false,false,true] [9,14] [1] [.obj b1 25 (.rep Db a1)] rfl (by kernel_rfl) (by kernel_rfl) (by kernel_rfl) cS (λvs hv hB=>?_)
 obtain⟨w0,U8,rfl,D⟩:=aA hv
 obtain⟨w1,zz,rfl,y⟩:=aA D
 obtain⟨w2,qt,rfl,x⟩:=aA y
 obtain⟨w3,mw,rfl,u⟩:=aA x
 obtain⟨w4,mc,rfl,s⟩:=aA u
 obtain⟨w5,gw,rfl,n⟩:=aA s
 obtain⟨w6,Z,rfl,l⟩:=aA n
 obtain⟨w7,Y,rfl,j⟩:=aA l
 obtain⟨w8,X,rfl,e⟩:=aA j
 obtain rfl:=pL e
 refine⟨[1,0,2],[.obj b2 27 (.agg (.pair (I 0) (.pair (I 0) (.eq (.bool false))))),.obj c 74 (.agg (.pair (.rep Tl a0.1) (.pair (I a0.2.1) (.eq (.int .u64 a0.2.2)))))],by kernel_rfl,by decide,?_⟩
 obtain⟨r4,M,h⟩:=aa h
 have U:=cP k (a0.1,a0.2.1,a0.2.2) c x3 r4 M
 refine sE 1 rfl ?_
 refine vP rfl rfl rfl rfl (av [.tmp 5,.tmp 8] rfl rfl wE rfl U) ⟨rfl,rfl,trivial⟩ (by kernel_rfl) ?_
 obtain⟨r5,J,h⟩:=aa h
 have Q:=cP k (r4.2.1,r4.2.2.1,r4.2.2.2) c (a1.2.2.2.2.1.length:Int) r5 J
 refine vP rfl rfl rfl rfl (av [.tmp 10,.tmp 13] rfl rfl wE rfl Q) ⟨rfl,rfl,trivial⟩ (by kernel_rfl) ?_
 refine PH (by kernel_rfl) ?_
 obtain⟨r6,F,h⟩:=aa h
 have O:=io k (r5.2.1,r5.2.2.1,r5.2.2.2) c 2 r6 F
 refine fr 1 ?_
 refine kb (av [.tmp 15,.const (.int .i64 (2))] rfl rfl Lr rfl O) ?_
 refine jc (eo [(0,.tmp 9,_),(1,.tmp 14,_),(2,.tmp 16,_)] rfl Qk EF Nz (ku ⟨rfl,rfl,rfl,trivial⟩) rfl) ?_
 refine fr 2 ?_
 refine aM rfl rfl (aK rfl nI trivial rfl rfl) ⟨rfl,rfl,trivial⟩ ?_
 refine nt ?_
 refine aC ?_
 refine bM (gf (a:=.agg (.pair (I r4.1) (.pair (I r5.1) (.eq (.bool r6.1))))) (a':=.rep aJ (r4.1,r5.1,r6.1)) (jH (.agg (.pair .int (.pair .int .bool))))) ?_
 refine bM (SE.fin (Γ':=[(4,_)]) [1,0,2] ⟨rfl,trivial⟩ rfl) ?_
 cases h
 exact aP () [.rep aJ (r4.1,r5.1,r6.1)] 1 ⟨⟨_,_,_,_,_,rfl,(.tail _ (.head _)),nI,(qe),rfl⟩,trivial⟩ rfl
def fH(k:Nat)(a1:Int):Nat->((List Int)×Int×Int×(List Int)×Int)->Option ((List Int)×(List Int)×Int×Int)
 |0,_=>none
 |n+1,y3=>
  if y3.2.2.2.2 < a1 then((((eC k (y3.1,y3.2.1,y3.2.2.1) 3).bind λr7=>
  if r7.1=true then((cf (bA (length y3.2.2.2.1+length [y3.2.2.2.2]))).bind λ_=>
  some (r7.2.1,r7.2.2.1,r7.2.2.2,y3.2.2.2.1++[y3.2.2.2.2])) else(some (r7.2.1,r7.2.2.1,r7.2.2.2,y3.2.2.2.1))):Option ((List Int)×Int×Int×(List Int))).bind λx5=>
  (ck (y3.2.2.2.2+1)).bind λc=>
  fH k a1 n (x5.1,x5.2.1,x5.2.2.1,x5.2.2.2,c)) else(some (y3.2.2.2.1,y3.1,y3.2.1,y3.2.2.1))
def kB(k:Nat)(a0:bK)(a1:Int):Option ((List Int)×bK):=
 ((fH k a1 k (a0.1,a0.2.1,a0.2.2,([]:(List Int)),0)):Option ((List Int)×(List Int)×Int×Int)).bind λx1=>
 some (x1.1,(x1.2.1,x1.2.2.1,x1.2.2.2))
theorem vp(k:Nat)(a0:bK)(c:Nat)(a1:Int)(r:(List Int)×bK)(h:kB k a0 a1=some r):
 cV Tryz.prog 14 [Pt c,I a1] [.obj c 74 (.agg (.pair (.rep Tl a0.1) (.pair (I a0.2.1) (.eq (.int .u64 a0.2.2)))))] (λ_:Unit=>(bF [.rep Tl r.1],[.obj c 74 (.agg (.pair (.rep Tl r.2.1) (.pair (I r.2.2.1) (.eq (.int .u64 r.2.2.2)))))])):=by
 unfold kB at h
 replace h:=ba h
 refine cV.of 19 Tryz.func14 rfl Tryz.ntmps14 rfl λS w0=>?_
 refine sr ?_
 refine cq ?_
 refine nt ?_
 refine sr ?_
 refine cq ?_
 refine nt ?_
 refine aF (Z:=Value) (α:=(List Int)×(List Int)×Int×Int) (λz2 x1=>[(5,.eq z2)]) (λz2 x1=>[.sl z2 3 Ti x1.1,.obj c 74 (.agg (.pair (.rep Tl x1.2.1) (.pair (I x1.2.2.1) (.eq (.int .u64 x1.2.2.2)))))]) h (λK h=>?_) (λz2 x1 h=>?_)
 .
  refine sr (cq (nt (ai ?_)));refine gu (SE.nil 3 Ti) ?_;refine aD (λz4 y3=>[(0,Pt c),(1,I a1),(5,.eq z4),(6,I y3.2.2.2.2)]) (λz4 y3=>[.obj c 74 (.agg (.pair (.rep Tl y3.1) (.pair (I y3.2.1) (.eq (.int .u64 y3.2.2.1))))),.sl z4 3 Ti y3.2.2.2.1]) (fH k a1) k (.slice none 0 0) (a0.1,a0.2.1,a0.2.2,([]:(List Int)),0) (λ_=>rfl) h (SE.fin [1,0] ⟨rfl,rfl,rfl,rfl,trivial⟩ rfl) (λn z4 y3 h=>?_);unfold fH at h;refine aj (sr ?_);iterate 2 refine mq ?_
  refine jb (bq rfl) ?_;refine nt (ci h (λh=>?_) (λh=>?_))
  .refine sk (aF (Z:=Value) (α:=(List Int)×Int×Int×(List Int)) (λz6 x5=>[(0,Pt c),(1,I a1),(5,.eq z6),(6,I y3.2.2.2.2)]) (λz6 x5=>[.obj c 74 (.agg (.pair (.rep Tl x5.1) (.pair (I x5.2.1) (.eq (.int .u64 x5.2.2.1))))),.sl z6 3 Ti x5.2.2.2]) h (λK h=>?_) (λz6 x5 h=>?_))
   .refine ai (sr (mq ?_));obtain⟨r7,s,h⟩:=aa h;refine kb (av [.tmp 12,.const (.int .i64 (3))] rfl rfl Lr rfl (io k (y3.1,y3.2.1,y3.2.2.1) c 3 r7 s)) ?_;refine nt (cv h (λh=>?_) (λh=>?_))
    .refine ab ?_;iterate 2 refine mq ?_
     refine ja (aW (t:=Ti) [(.tmp 15,_)] [y3.2.2.2.2] rfl rfl c9 (.cons rfl .int .nil) rfl rfl) ?_;obtain⟨u8,l,h⟩:=aa h;refine fr 1 ?_;refine cR rfl rfl rfl (bu rfl rfl c9 (ao l)) ⟨rfl,rfl,trivial⟩ λv9=>?_;refine aq (aG (bn ?_));exact jz (v9,(r7.2.1,r7.2.2.1,r7.2.2.2,y3.2.2.2.1++[y3.2.2.2.2])) h [1,0]
    .refine bi (bn ?_);exact jz (z4,(r7.2.1,r7.2.2.1,r7.2.2.2,y3.2.2.2.1)) h [0,1]
   .refine ab (mq ?_);obtain⟨j,e,h⟩:=aa h;refine jb (bj rfl e) ?_;refine aq (nl ?_);exact jz (z6,(x5.1,x5.2.1,x5.2.2.1,x5.2.2.2,j)) h [0,1]
  .refine xa ?_;exact jz (z4,(y3.2.2.2.1,y3.1,y3.2.1,y3.2.2.1)) h [1,0]
 .
  refine sr (mq ?_);refine aq (nt (aC ?_));refine bM (ie [4,5,18] ⟨rfl,rfl,rfl,trivial⟩) ?_;cases h;exact aP () [_] 1 ⟨rfl,trivial⟩ rfl
def fx(k:Nat)(a0:Int)(a1:Int)(a2:Int):Option Bool:=
 ((if a1≤a0 then(some (decide (a0≤a2))) else(some false)):Option (Bool)).bind λx1=>
 some x1
theorem gy(k:Nat)(a0:Int)(a1:Int)(a2:Int)(r:Bool)(h:fx k a0 a1 a2=some r):
 cV Tryz.prog 56 [I a0,I a1,I a2] [] (λ_:Unit=>(bF [.eq (.bool r)],[])):=by
 unfold fx at h
 replace h:=ba h
 refine cV.of 15 Tryz.func56 rfl Tryz.ntmps56 rfl λS w0=>?_
 refine sr ?_
 refine cq ?_
 refine nt ?_
 refine aF (Z:=Unit) (α:=Bool) (λz2 x1=>[(6,.eq (.bool x1))]) (λz2 x1=>[]) h (λK h=>?_) (λz2 x1 h=>?_)
 .
  refine ab ?_;iterate 2 refine mq ?_
  refine jb (jg rfl) ?_;refine mq ?_;refine bX (s:=10) rfl (λhb=>?_) (λhb=>?_)
  .replace h:=dU (uA hb) h;refine gm ?_;refine gm ?_;refine gb (xg rfl) ?_;refine pt ?_;refine aq (nl ?_);exact jz ((),decide (a0≤a2)) h []
  .replace h:=cG (uB hb) h;iterate 3 refine gn ?_
   refine pf ?_;refine aq (nl ?_);exact jz ((),false) h []
 .
  refine aC ?_;cases h;exact ra
def fu(k:Nat)(a0:ae)(a1:Int):Option Bool:=
 (fx k a1 0 (IntKind.i64.wrap (a0.1 - 1))).bind λr2=>
 some r2
theorem jO(k:Nat)(a0:ae)(a1:Int)(r:Bool)(h:fu k a0 a1=some r):
 cV Tryz.prog 76 [.rep am a0,I a1] [] (λ_:Unit=>(bF [.eq (.bool r)],[])):=by
 unfold fu at h
 replace h:=ba h
 refine cV.of 10 Tryz.func76 rfl Tryz.ntmps76 rfl λS w0=>?_
 refine sr ?_
 refine bx λb1=>?_
 refine cq ?_
 refine nt ?_
 refine sr ?_
 refine mq ?_
 refine fl fy ?_
 refine lo bW ?_
 refine jb (Ou rfl) ?_
 obtain⟨r2,c,h⟩:=aa h
 have e:=gy k a1 0 (IntKind.i64.wrap (a0.1 - 1)) r2 c
 refine jc (av [.tmp 5,.const (.int .i64 (0)),.tmp 8] rfl rfl E7 rfl e) ?_
 refine aq ?_
 refine nt ?_
 refine aC ?_
 cases h
 exact ra
def gV(k:Nat)(a0:(List Int))(a1:Int):Nat->Int->Option (Except Bool Unit)
 |0,_=>none
 |n+1,y3=>
  if y3 < (a0.length:Int) then((aH a0 y3).bind λx5=>
  if x5=a1 then(some (.error true)) else((ck (y3+1)).bind λx6=>
  gV k a0 a1 n x6)) else(some (.ok ()))
def pH(k:Nat)(a0:(List Int))(a1:Int):Option Bool:=
 bE (α:=Unit) (gV k a0 a1 k 0) (some) λ_=>
 some false
theorem uV(k:Nat)(a0:(List Int))(a1:Int)(r:Bool)(h:pH k a0 a1=some r):
 cV Tryz.prog 77 [.rep Tl a0,I a1] [] (λ_:Unit=>(bF [.eq (.bool r)],[])):=by
 unfold pH at h
 replace h:=ba h
 refine cV.of 18 Tryz.func77 rfl Tryz.ntmps77 rfl λS w0=>?_
 refine sr ?_
 refine cq ?_
 refine nt ?_
 refine cO (Z:=Unit) (α:=Unit) (λz2 x1=>[]) (λz2 x1=>[]) (λe=>e=r) h (λe h=>Option.some.inj h) (λK hR h=>?_) (λz2 x1 h=>?_)
 .
  refine sr (cq (nt (ai ?_)));refine aD (λz4 y3=>[(0,.rep Tl a0),(1,I a1),(5,I y3)]) (λz4 y3=>[]) (gV k a0 a1) k () 0 (λ_=>rfl) h (SE.fin [] ⟨rfl,rfl,rfl,trivial⟩ rfl) (λn z4 y3 h=>?_);unfold gV at h;refine aj (sr ?_);iterate 2 refine mq ?_
  refine ol gG ?_;refine jb (bq rfl) ?_;refine nt (ci h (λh=>?_) (λh=>?_))
  .refine sk (aj (ai (sr ?_)));iterate 2 refine mq ?_
   obtain⟨x5,j,h⟩:=aa h;refine jb (aE (t:=Ti) rfl gG bW j) ?_;refine ja (an (t:=Ti) rfl bW rfl) ?_;refine mq ?_;refine jb (jL rfl) ?_;refine nt (ci h (λh=>?_) (λh=>?_))
   .refine sr (cq (nt (aC (br (aX (aY ?_))))));obtain rfl:=hR _ h;exact ra
   .refine bi (aI (tn (ab (mq ?_))));obtain⟨x6,c,h⟩:=aa h;refine jb (bj rfl c) ?_;refine aq (nl ?_);exact jz ((),x6) h []
  .refine xa ?_;exact jz ((),()) h []
 .
  refine sr (cq (nt (aC ?_)));cases h;exact ra
def dH(k:Nat)(a0:ae)(a1:(List (List Int)))(y4:(List Int)×Int):Nat->((List Int)×Int)->Option (Except Int (List Int))
 |0,_=>none
 |n+1,y8=>
  (aH a1 y4.2).bind λu=>
  if y8.2 < (u.length:Int) then((aH a1 y4.2).bind λs=>
  (aH s y8.2).bind λr=>
  (fu k a0 r).bind λy=>
  if¬(y=true) then(some (.error 3)) else((aH a1 y4.2).bind λl=>
  (aH l y8.2).bind λj=>
  (pH k y8.1 j).bind λx=>
  if x=true then(some (.error 4)) else((aH a1 y4.2).bind λh=>
  (aH h y8.2).bind λc=>
  (cf (bA (length y8.1+length [c]))).bind λ_=>
  (ck (y8.2+1)).bind λe=>
  dH k a0 a1 y4 n (y8.1++[c],e)))) else(some (.ok y8.1))
def dI(k:Nat)(a0:ae)(a1:(List (List Int))):Nat->((List Int)×Int)->Option (Except Int Unit)
 |0,_=>none
 |n+1,y4=>
  if y4.2 < (a1.length:Int) then(bE (α:=(List Int)) (dH k a0 a1 y4 k (y4.1,0)) (λe=>some (.error e)) λx6=>
  (ck (y4.2+1)).bind λc=>
  dI k a0 a1 n (x6,c)) else(some (.ok ()))
def jt(k:Nat)(a0:ae)(a1:(List (List Int))):Option Int:=
 if 3 < (a1.length:Int) then(some 6) else(bE (α:=Unit) (dI k a0 a1 k (([]:(List Int)),0)) (some) λ_=>
 some 0)
theorem ud(k:Nat)(a0:ae)(a1:(List (List Int)))(r:Int)(h:jt k a0 a1=some r):
 cV Tryz.prog 57 [.rep am a0,.rep (.slice Tl) a1] [] (λ_:Unit=>(bF [I r],[])):=by
 unfold jt at h
 replace h:=ba h
 refine cV.of 55 Tryz.func57 rfl Tryz.ntmps57 rfl λS w0=>?_
 refine sr ?_
 refine bx λb1=>?_
 refine cq ?_
 refine nt ?_
 refine aj ?_
 refine sr ?_
 refine mq ?_
 refine ol pY ?_
 refine jb (iD rfl) ?_
 refine nt ?_
 refine ci h (λh=>?_) (λh=>?_)
 .
  refine sr (cq (nt (rx ?_)));cases h;exact ra
 .
  refine sk (sr (cq (nt ?_)));refine cO (Z:=Unit) (α:=Unit) (λz3 x2=>[]) (λz3 x2=>[]) (λe=>e=r) h (λe h=>Option.some.inj h) (λK hR h=>?_) (λz3 x2 h=>?_)
  .refine sr (cq (nt (ai ?_)));refine gu (SE.nil 3 Ti) ?_;refine aD (λz5 y4=>[(1,.rep (.slice Tl) a1),(2,Pt b1),(5,.eq z5),(6,I y4.2)]) (λz5 y4=>[.obj b1 25 (.rep am a0),.sl z5 3 Ti y4.1]) (dI k a0 a1) k (.slice none 0 0) (([]:(List Int)),0) (λ_=>rfl) h (SE.fin [1,0] ⟨rfl,rfl,rfl,rfl,trivial⟩ rfl) (λn z5 y4 h=>?_);unfold dI at h;refine aj (sr ?_);iterate 2 refine mq ?_
   refine ol pY ?_;refine jb (bq rfl) ?_;refine nt (ci h (λh=>?_) (λh=>?_))
   .refine sk (cO (Z:=Value) (α:=(List Int)) (λz7 x6=>[(1,.rep (.slice Tl) a1),(2,Pt b1),(5,.eq z7),(6,I y4.2)]) (λz7 x6=>[.obj b1 25 (.rep am a0),.sl z7 3 Ti x6]) (λe=>e=r) h (λe h=>hR e h) (λK hR h=>?_) (λz7 x6 h=>?_))
    .refine ai (sr (cq (nt (ai ?_))));refine aD (λz9 y8=>[(1,.rep (.slice Tl) a1),(2,Pt b1),(5,.eq z9),(6,I y4.2),(7,I y8.2)]) (λz9 y8=>[.obj b1 25 (.rep am a0),.sl z9 3 Ti y8.1]) (dH k a0 a1 y4) k z5 (y4.1,0) (λ_=>rfl) h (SE.fin [0,1] ⟨rfl,rfl,rfl,rfl,rfl,trivial⟩ rfl) (λn z9 y8 h=>?_);unfold dH at h;refine aj (sr ?_);iterate 3 refine mq ?_
     obtain⟨Va,J,h⟩:=aa h;refine jb (aE (t:=Tl) rfl pY fC J) ?_;refine ja (an (t:=Tl) rfl fC rfl) ?_;refine ol gG ?_;refine jb (bq rfl) ?_;refine nt (ci h (λh=>?_) (λh=>?_))
     .refine sk (aj (ai (aj (aj (bN ?_)))));refine ea 0 (ap rfl dk (qe) rfl) ?_;refine dm ?_;refine dm ?_;obtain⟨U8,F,h⟩:=aa h;refine db (aE (t:=Tl) rfl pY fC F) ?_;refine da (an (t:=Tl) rfl fC rfl) ?_;refine dm ?_;obtain⟨Y,E,h⟩:=aa h;refine db (aE (t:=Ti) rfl gG bW E) ?_;refine da (an (t:=Ti) rfl bW rfl) ?_;refine df cS ?_;obtain⟨mw,Q,h⟩:=aa h;refine jb (av [.tmp 26,.tmp 33] rfl rfl OW rfl (jO k a0 Y mw Q)) ?_;refine ja (eI rfl) ?_;refine nt (cw h (λh=>?_) (λh=>?_))
      .refine sr (cq (nt (rx (br (aX (br (aX (aY ?_))))))));obtain rfl:=hR _ h;exact ra
      .refine sk (aj (sr ?_));iterate 3 refine mq ?_
       obtain⟨zz,D,h⟩:=aa h;refine jb (aE (t:=Tl) rfl pY fC D) ?_;refine ja (an (t:=Tl) rfl fC rfl) ?_;refine mq ?_;obtain⟨j,y,h⟩:=aa h;refine jb (aE (t:=Ti) rfl gG bW y) ?_;refine ja (an (t:=Ti) rfl bW rfl) ?_;obtain⟨mc,O,h⟩:=aa h;refine fr 1 ?_;refine kb (j6 (N:=[(.tmp 36,.eq z9),(.tmp 43,I j)]) (av [.tmp 36,.tmp 43] rfl rfl Q3 rfl (uV k y8.1 j mc O)) (λ_ _ _ hv hn=>⟨(lend hn.1 hv),hn.2.1,trivial⟩) (λ_=>⟨rfl,nz⟩)) ?_;refine nt (cv h (λh=>?_) (λh=>?_))
       .refine sr (cq (nt (rx (br (aX (br (aX (aY ?_))))))));obtain rfl:=hR _ h;exact ra
       .refine sk (ab ?_);iterate 3 refine mq ?_
        obtain⟨qt,x,h⟩:=aa h;refine jb (aE (t:=Tl) rfl pY fC x) ?_;refine ja (an (t:=Tl) rfl fC rfl) ?_;refine mq ?_;obtain⟨c,u,h⟩:=aa h;refine jb (aE (t:=Ti) rfl gG bW u) ?_;refine ja (an (t:=Ti) rfl bW rfl) ?_;refine ja (aW (t:=Ti) [(.tmp 52,_)] [c] rfl rfl c9 (.cons rfl .int .nil) rfl rfl) ?_;obtain⟨Vb,M,h⟩:=aa h;refine cR rfl rfl rfl (bu rfl rfl c9 (ao M)) ⟨rfl,rfl,trivial⟩ λgw=>?_;refine aq (aG (aI (tn (ab ?_))));refine mq ?_;obtain⟨X,s,h⟩:=aa h;refine jb (bj rfl s) ?_;refine aq (nl ?_);exact jz (gw,(y8.1++[c],X)) h [1,0]
     .refine fq (bL (bL (c6 (bn ?_))));exact jz (z9,y8.1) h [0,1]
    .refine ab (mq ?_);obtain⟨U,l,h⟩:=aa h;refine jb (bj rfl l) ?_;refine aq (nl ?_);exact jz (z7,(x6,U)) h [0,1]
   .refine xa ?_;exact jz ((),()) h []
  .refine sr (cq (nt (aC ?_)));cases h;exact ra
def iC(k:Nat)(a0:ae)(a1:Int):Option Bool:=
 (fx k a1 0 (a0.2.2.2.2.1.length:Int)).bind λr2=>
 some r2
theorem sP(k:Nat)(a0:ae)(a1:Int)(r:Bool)(h:iC k a0 a1=some r):
 cV Tryz.prog 64 [.rep am a0,I a1] [] (λ_:Unit=>(bF [.eq (.bool r)],[])):=by
 unfold iC at h
 replace h:=ba h
 refine cV.of 10 Tryz.func64 rfl Tryz.ntmps64 rfl λS w0=>?_
 refine sr ?_
 refine bx λb1=>?_
 refine cq ?_
 refine nt ?_
 refine sr ?_
 refine mq ?_
 refine fl bS ?_
 refine lo eH ?_
 refine ol oy ?_
 obtain⟨r2,c,h⟩:=aa h
 have e:=gy k a1 0 (a0.2.2.2.2.1.length:Int) r2 c
 refine jc (av [.tmp 5,.const (.int .i64 (0)),.tmp 8] rfl rfl E7 rfl e) ?_
 refine aq ?_
 refine nt ?_
 refine aC ?_
 cases h
 exact ra
def gi(k:Nat)(a0:ae)(a1:aQ):Option Int:=
 (((fu k a0 a1.1).bind λr5=>
 if¬(r5=true) then(some true) else((iC k a0 a1.2.1).bind λr6=>
 some (!r6))):Option (Bool)).bind λx3=>
 if x3=true then(some 3) else(some 0)
theorem qB(k:Nat)(a0:ae)(a1:aQ)(r:Int)(h:gi k a0 a1=some r):
 cV Tryz.prog 58 [.rep am a0,.rep aJ a1] [] (λ_:Unit=>(bF [I r],[])):=by
 unfold gi at h
 replace h:=ba h
 refine cV.of 17 Tryz.func58 rfl Tryz.ntmps58 rfl λS w0=>?_
 refine sr ?_
 refine bx λb1=>?_
 refine bx λb2=>?_
 refine cq ?_
 refine nt ?_
 refine aj ?_
 refine aF (Z:=Unit) (α:=Bool) (λz4 x3=>[(16,.eq (.bool x3))]) (λz4 x3=>[]) h (λK h=>?_) (λz4 x3 h=>?_)
 .
  refine ab (fr 1 ?_);refine lo dk ?_;refine fl Cm ?_;refine fr 1 ?_;refine lo bW ?_;obtain⟨r5,e,h⟩:=aa h;refine jb (av [.tmp 5,.tmp 7] rfl rfl OW rfl (jO k a0 a1.1 r5 e)) ?_;refine ja (eI rfl) ?_;refine mq ?_;refine bX (s:=10) rfl (λhb=>?_) (λhb=>?_)
  .replace h:=dU (rQ hb) h;iterate 5 refine gn ?_
   refine pt (nl ?_);exact jz ((),true) h []
  .replace h:=cG (mF hb) h;refine fr 1 ?_;refine eL rfl rfl rfl rfl rfl rfl (ap rfl dk (qe) rfl) ⟨rfl,trivial⟩ ?_;refine ga (au rfl Cj) ?_;refine fr 1 ?_;refine eL rfl rfl rfl rfl rfl rfl (ap rfl bW jN rfl) ⟨rfl,trivial⟩ ?_;obtain⟨r6,c,h⟩:=aa h;refine gb (av [.tmp 11,.tmp 13] rfl rfl TZ rfl (sP k a0 a1.2.1 r6 c)) ?_;refine ga (eI rfl) ?_;refine pf (nl ?_);exact jz ((), !r6) h []
 .
  refine cv h (λh=>?_) (λh=>?_)
  .refine sr (cq (nt (rx ?_)));cases h;exact ra
  .refine sk (sr (cq (nt (aC ?_))));cases h;exact ra
def eY(k:Nat)(a0:ae):Nat->Int->Option (Except Int Unit)
 |0,_=>none
 |n+1,c=>
  if c < (a0.2.2.2.2.1.length:Int) then((aH a0.2.2.2.2.1 c).bind λj=>
  (jt k a0 j).bind λe=>
  if¬(e=0) then(some (.error e)) else((ck (c+1)).bind λh=>
  eY k a0 n h)) else(some (.ok ()))
def eX(k:Nat)(a0:ae):Nat->Int->Option (Except Int Unit)
 |0,_=>none
 |n+1,c=>
  if c < (a0.2.2.2.2.2.length:Int) then((aH a0.2.2.2.2.2 c).bind λj=>
  (gi k a0 j).bind λe=>
  if¬(e=0) then(some (.error e)) else((ck (c+1)).bind λh=>
  eX k a0 n h)) else(some (.ok ()))
def lA(k:Nat)(a0:ae):Option Int:=
 (((fx k a0.1 1 5).bind λr4=>
 if¬(r4=true) then(some true) else((fx k a0.2.1 0 3).bind λr5=>
 if¬(r5=true) then(some true) else((fx k a0.2.2.1 0 3).bind λr6=>
 if¬(r6=true) then(some true) else((fx k a0.2.2.2.1 1 3).bind λr7=>
 some (!r7))))):Option (Bool)).bind λx2=>
 if x2=true then(some 1) else(if(a0.2.2.2.2.1.length:Int)=0 then(some 7) else(if 6 < (a0.2.2.2.2.1.length:Int) then(some 6) else(bE (α:=Unit) (eY k a0 k 0) (some) λ_=>
 if 8 < (a0.2.2.2.2.2.length:Int) then(some 6) else(bE (α:=Unit) (eX k a0 k 0) (some) λ_=>
 some 0))))
theorem rI(k:Nat)(a0:ae)(r:Int)(h:lA k a0=some r):
 cV Tryz.prog 20 [.rep am a0] [] (λ_:Unit=>(bF [I r],[])):=by
 unfold lA at h
 replace h:=ba h
 refine cV.of 75 Tryz.func20 rfl Tryz.ntmps20 rfl λS w0=>?_
 refine sr ?_
 refine bx λb1=>?_
 refine cq ?_
 refine nt ?_
 refine aj ?_
 refine aF (Z:=Unit) (α:=Bool) (λz3 x2=>[(1,Pt b1),(28,.eq (.bool x2))]) (λz3 x2=>[.obj b1 25 (.rep am a0)]) h (λK h=>?_) (λz3 x2 h=>?_)
 .
  refine ab (fl fy ?_);refine lo bW ?_;obtain⟨r4,U8,h⟩:=aa h;refine jc (av [.tmp 8,.const (.int .i64 (1)),.const (.int .i64 (5))] rfl rfl E7 rfl (gy k a0.1 1 5 r4 U8)) ?_;refine ja (eI rfl) ?_;refine mq ?_;refine bX (s:=11) rfl (λhb=>?_) (λhb=>?_)
  .replace h:=dU (rQ hb) h;iterate 4 refine gn ?_
   refine pt ?_;refine mq ?_;iterate 4 refine gn ?_
   refine pt ?_;refine mq ?_;iterate 4 refine gn ?_
   refine pt (nl ?_);exact jz ((),true) h [0]
  .replace h:=cG (mF hb) h;refine ga (au rfl pj) ?_;refine eL rfl rfl rfl rfl rfl rfl (ap rfl bW jN rfl) ⟨rfl,trivial⟩ ?_;obtain⟨r5,zz,h⟩:=aa h;refine gc (av [.tmp 13,.const (.int .i64 (0)),.const (.int .i64 (3))] rfl rfl E7 rfl (gy k a0.2.1 0 3 r5 zz)) ?_;refine ga (eI rfl) ?_;refine pf ?_;refine mq ?_;refine bX (s:=17) rfl (λhb=>?_) (λhb=>?_)
   .replace h:=dU (rQ hb) h;iterate 4 refine gn ?_
    refine pt ?_;refine mq ?_;iterate 4 refine gn ?_
    refine pt (nl ?_);exact jz ((),true) h [0]
   .replace h:=cG (mF hb) h;refine ga (au rfl tA) ?_;refine eL rfl rfl rfl rfl rfl rfl (ap rfl bW jN rfl) ⟨rfl,trivial⟩ ?_;obtain⟨r6,qt,h⟩:=aa h;refine gc (av [.tmp 19,.const (.int .i64 (0)),.const (.int .i64 (3))] rfl rfl E7 rfl (gy k a0.2.2.1 0 3 r6 qt)) ?_;refine ga (eI rfl) ?_;refine pf ?_;refine mq ?_;refine bX (s:=23) rfl (λhb=>?_) (λhb=>?_)
    .replace h:=dU (rQ hb) h;iterate 4 refine gn ?_
     refine pt (nl ?_);exact jz ((),true) h [0]
    .replace h:=cG (mF hb) h;refine ga (au rfl tz) ?_;refine eL rfl rfl rfl rfl rfl rfl (ap rfl bW jN rfl) ⟨rfl,trivial⟩ ?_;obtain⟨r7,mw,h⟩:=aa h;refine gc (av [.tmp 25,.const (.int .i64 (1)),.const (.int .i64 (3))] rfl rfl E7 rfl (gy k a0.2.2.2.1 1 3 r7 mw)) ?_;refine ga (eI rfl) ?_;refine pf (nl ?_);exact jz ((), !r7) h [0]
 .
  refine cv h (λh=>?_) (λh=>?_)
  .refine sr (cq (nt (rx ?_)));cases h;exact ra
  .refine sk (aj (sr (fl bS ?_)));refine lo eH ?_;refine ol oy ?_;refine jb (jL rfl) ?_;refine nt (ci h (λh=>?_) (λh=>?_))
   .refine sr (cq (nt (rx ?_)));cases h;exact ra
   .refine sk (aj (sr (fl bS ?_)));refine lo eH ?_;refine ol oy ?_;refine jb (iD rfl) ?_;refine nt (ci h (λh=>?_) (λh=>?_))
    .refine sr (cq (nt (rx ?_)));cases h;exact ra
    .refine sk (cO (Z:=Unit) (α:=Unit) (λz9 x8=>[(1,Pt b1)]) (λz9 x8=>[.obj b1 25 (.rep am a0)]) (λe=>e=r) h (λe h=>Option.some.inj h) (λK hR h=>?_) (λz9 x8 h=>?_))
     .refine sr (cq (nt (ai ?_)));refine aD (λx j=>[(1,Pt b1),(3,I j)]) (λx j=>[.obj b1 25 (.rep am a0)]) (eY k a0) k () 0 (λ_=>rfl) h (SE.fin [0] ⟨rfl,rfl,trivial⟩ rfl) (λn x j h=>?_);unfold eY at h;refine aj (sr (mq ?_));refine fl bS ?_;refine lo eH ?_;refine ol oy ?_;refine jb (bq rfl) ?_;refine nt (ci h (λh=>?_) (λh=>?_))
      .refine sk (aj (ai (aj (bN ?_))));refine ea 0 (ap rfl dk (qe) rfl) ?_;refine da (au rfl bS) ?_;refine ea 0 (ap rfl eH jN rfl) ?_;refine dm ?_;obtain⟨Y,J,h⟩:=aa h;refine db (aE (t:=(.slice Tl)) rfl oy jJ J) ?_;refine da (an (t:=(.slice Tl)) rfl jJ rfl) ?_;refine df cS ?_;obtain⟨mc,O,h⟩:=aa h;refine jb (av [.tmp 44,.tmp 49] rfl rfl Ua rfl (ud k a0 Y mc O)) ?_;refine aq (nt (sr ?_));refine mq ?_;refine jb (d4 rfl) ?_;refine nt (cn h (λh=>?_) (λh=>?_))
       .refine sr (mq ?_);refine aq (nt (aC (br (aX (aY ?_)))));obtain rfl:=hR _ h;exact ra
       .refine bi (aI (tn (ab (mq ?_))));obtain⟨X,F,h⟩:=aa h;refine jb (bj rfl F) ?_;refine aq (nl ?_);exact jz ((),X) h [0]
      .refine xa ?_;exact jz ((),()) h [0]
     .refine aj (sr (fl fK ?_));refine lo nh ?_;refine ol Ei ?_;refine jb (iD rfl) ?_;refine nt (ci h (λh=>?_) (λh=>?_))
      .refine sr (cq (nt (rx ?_)));cases h;exact ra
      .refine sk (cO (Z:=Unit) (α:=Unit) (λu y=>[]) (λu y=>[]) (λe=>e=r) h (λe h=>Option.some.inj h) (λK hR h=>?_) (λu y h=>?_))
       .refine sr (cq (nt (ai ?_)));refine aD (λl c=>[(1,Pt b1),(5,I c)]) (λl c=>[.obj b1 25 (.rep am a0)]) (eX k a0) k () 0 (λ_=>rfl) h (SE.fin [0] ⟨rfl,rfl,trivial⟩ rfl) (λn l c h=>?_);unfold eX at h;refine aj (sr (mq ?_));refine fl fK ?_;refine lo nh ?_;refine ol Ei ?_;refine jb (bq rfl) ?_;refine nt (ci h (λh=>?_) (λh=>?_))
        .refine sk (aj (ai (aj (bN ?_))));refine ea 0 (ap rfl dk (qe) rfl) ?_;refine da (au rfl fK) ?_;refine ea 0 (ap rfl nh jN rfl) ?_;refine dm ?_;obtain⟨U,E,h⟩:=aa h;refine db (aE (t:=aJ) rfl Ei nI E) ?_;refine da (an (t:=aJ) rfl nI rfl) ?_;refine df cS ?_;obtain⟨gw,M,h⟩:=aa h;refine jb (av [.tmp 65,.tmp 70] rfl rfl T9 rfl (qB k a0 U gw M)) ?_;refine aq (nt (sr ?_));refine mq ?_;refine jb (d4 rfl) ?_;refine nt (cn h (λh=>?_) (λh=>?_))
         .refine sr (mq ?_);refine aq (nt (aC (br (aX (aY ?_)))));obtain rfl:=hR _ h;exact ra
         .refine bi (aI (tn (ab (mq ?_))));obtain⟨Q,D,h⟩:=aa h;refine jb (bj rfl D) ?_;refine aq (nl ?_);exact jz ((),Q) h [0]
        .refine xa ?_;exact jz ((),()) h []
       .refine sr (cq (nt (aC ?_)));cases h;exact ra
def dj(k:Nat)(a0:ae)(a1:(List Int)):Nat->Int->Option (Except Int Unit)
 |0,_=>none
 |n+1,y4=>
  if y4 < (a1.length:Int) then((aH a1 y4).bind λx6=>
  (fu k a0 x6).bind λr7=>
  if¬(r7=true) then(some (.error 3)) else(((if 0 < y4 then((aH a1 y4).bind λj=>
  (ck (y4 - 1)).bind λh=>
  (aH a1 h).bind λe=>
  some (decide (j≤e))) else(some false)):Option (Bool)).bind λx8=>
  if x8=true then(some (.error 5)) else((ck (y4+1)).bind λc=>
  dj k a0 a1 n c))) else(some (.ok ()))
def gW(k:Nat)(a0:ae)(a1:(List Int)):Option Int:=
 bE (α:=Unit) (dj k a0 a1 k 0) (some) λ_=>
 some 0
theorem rH(k:Nat)(a0:ae)(a1:(List Int))(r:Int)(h:gW k a0 a1=some r):
 cV Tryz.prog 51 [.rep am a0,.rep Tl a1] [] (λ_:Unit=>(bF [I r],[])):=by
 unfold gW at h
 replace h:=ba h
 refine cV.of 33 Tryz.func51 rfl Tryz.ntmps51 rfl λS w0=>?_
 refine sr ?_
 refine bx λb1=>?_
 refine cq ?_
 refine nt ?_
 refine cO (Z:=Unit) (α:=Unit) (λz3 x2=>[]) (λz3 x2=>[]) (λe=>e=r) h (λe h=>Option.some.inj h) (λK hR h=>?_) (λz3 x2 h=>?_)
 .
  refine sr (cq (nt (ai ?_)));refine aD (λz5 y4=>[(1,.rep Tl a1),(2,Pt b1),(5,I y4)]) (λz5 y4=>[.obj b1 25 (.rep am a0)]) (dj k a0 a1) k () 0 (λ_=>rfl) h (SE.fin [0] ⟨rfl,rfl,rfl,trivial⟩ rfl) (λn z5 y4 h=>?_);unfold dj at h;refine aj (sr ?_);iterate 2 refine mq ?_
  refine ol gG ?_;refine jb (bq rfl) ?_;refine nt (ci h (λh=>?_) (λh=>?_))
  .refine sk (aj (ai (aj (aj (bN ?_)))));refine ea 0 (ap rfl dk (qe) rfl) ?_;refine dm ?_;refine dm ?_;obtain⟨x6,D,h⟩:=aa h;refine db (aE (t:=Ti) rfl gG bW D) ?_;refine da (an (t:=Ti) rfl bW rfl) ?_;refine df cS ?_;obtain⟨r7,E,h⟩:=aa h;refine jb (av [.tmp 12,.tmp 16] rfl rfl OW rfl (jO k a0 x6 r7 E)) ?_;refine ja (eI rfl) ?_;refine nt (cw h (λh=>?_) (λh=>?_))
   .refine sr (cq (nt (rx (br (aX (aY ?_))))));obtain rfl:=hR _ h;exact ra
   .refine sk (aF (Z:=Unit) (α:=Bool) (λz9 x8=>[(1,.rep Tl a1),(2,Pt b1),(5,I y4),(32,.eq (.bool x8))]) (λz9 x8=>[.obj b1 25 (.rep am a0)]) h (λK h=>?_) (λz9 x8 h=>?_))
    .refine bN ?_;refine dm ?_;refine db (iD rfl) ?_;refine lx rfl rfl rfl (aO rfl) ⟨rfl,trivial⟩ (λhb=>?_) (λhb=>?_)
     .replace h:=dU (uA hb) h;refine bg rfl rfl rfl rfl rfl (aO rfl) ⟨rfl,rfl,trivial⟩ ?_;refine bg rfl rfl rfl rfl rfl (aO rfl) ⟨rfl,rfl,trivial⟩ ?_;obtain⟨y,s,h⟩:=aa h;refine bg rfl rfl rfl rfl rfl (aE (t:=Ti) rfl gG bW s) ⟨rfl,rfl,rfl,trivial⟩ ?_;refine bg rfl rfl rfl rfl rfl (an (t:=Ti) rfl bW rfl) ⟨rfl,rfl,trivial⟩ ?_;refine bg rfl rfl rfl rfl rfl (aO rfl) ⟨rfl,rfl,trivial⟩ ?_;refine bg rfl rfl rfl rfl rfl (aO rfl) ⟨rfl,rfl,trivial⟩ ?_;obtain⟨F,l,h⟩:=aa h;refine bg rfl rfl rfl rfl rfl (ek rfl l) ⟨rfl,rfl,rfl,trivial⟩ ?_;obtain⟨x,j,h⟩:=aa h;refine bg rfl rfl rfl rfl rfl (aE (t:=Ti) rfl gG bW j) ⟨rfl,rfl,rfl,trivial⟩ ?_;refine bg rfl rfl rfl rfl rfl (an (t:=Ti) rfl bW rfl) ⟨rfl,rfl,trivial⟩ ?_;refine df cS ?_;refine gb (xg rfl) ?_;refine pt (nl ?_);exact jz ((),decide (y≤x)) h [0]
     .replace h:=cG (uB hb) h;iterate 9 refine dg ?_
      refine df cS ?_;refine gn ?_;refine pf (nl ?_);exact jz ((),false) h [0]
    .refine cv h (λh=>?_) (λh=>?_)
     .refine sr (cq (nt (aC (br (aX (aY ?_))))));obtain rfl:=hR _ h;exact ra
     .refine bi (aI (tn (ab (mq ?_))));obtain⟨u,c,h⟩:=aa h;refine jb (bj rfl c) ?_;refine aq (nl ?_);exact jz ((),u) h [0]
  .refine xa ?_;exact jz ((),()) h []
 .
  refine sr (cq (nt (aC ?_)));cases h;exact ra
def dR(k:Nat)(a2:Int)(e:(List Int)):Nat->Int->Option (Except ((List Int)×Bool) Unit)
 |0,_=>none
 |n+1,c=>
  if c < (e.length:Int) then((aH e c).bind λD=>
  if¬(D=a2) then((ck (c+1)).bind λy=>
  dR k a2 e n y) else(((if 0 < c then((ck (c - 1)).bind λx=>
  (aH e x).bind λl=>
  (cf (bA (length ([]:(List Int))+length [l]))).bind λ_=>
  some (([]:(List Int))++[l])) else(some ([]:(List Int)))):Option ((List Int))).bind λh=>
  (((ck (c+1)).bind λs=>
  if s < (e.length:Int) then((ck (c+1)).bind λr=>
  (aH e r).bind λj=>
  (cf (bA (length h+length [j]))).bind λ_=>
  some (h++[j])) else(some h)):Option ((List Int))).bind λu=>
  some (.error (u,true)))) else(some (.ok ()))
def eA(k:Nat)(a0:ae)(a1:Int)(a2:Int):Nat->Int->Option (Except ((List Int)×Bool) Unit)
 |0,_=>none
 |n+1,y4=>
  (aH a0.2.2.2.2.1 a1).bind λx6=>
  if y4 < (x6.length:Int) then(bE (α:=Unit) ((aH a0.2.2.2.2.1 a1).bind λx9=>
  (aH x9 y4).bind λh=>
  dR k a2 h k 0) (λe=>some (.error e)) λ_=>
  (ck (y4+1)).bind λc=>
  eA k a0 a1 a2 n c) else(some (.ok ()))
def jP(k:Nat)(a0:ae)(a1:Int)(a2:Int):Option ((List Int)×Bool):=
 bE (α:=Unit) (eA k a0 a1 a2 k 0) (some) λ_=>
 some (([]:(List Int)),false)
theorem qi(k:Nat)(a0:ae)(a1:Int)(a2:Int)(r:(List Int)×Bool)(h:jP k a0 a1 a2=some r):
 cV Tryz.prog 81 [.rep am a0,I a1,I a2] [] (λ_:Unit=>(bF [.rep Tl r.1,.eq (.bool r.2)],[])):=by
 unfold jP at h
 replace h:=ba h
 refine cV.of 66 Tryz.func81 rfl Tryz.ntmps81 rfl λS w0=>?_
 refine sr ?_
 refine bx λb1=>?_
 refine cq ?_
 refine cq ?_
 refine nt ?_
 refine cO (Z:=Unit) (α:=Unit) (λz3 x2=>[]) (λz3 x2=>[]) (λe=>e=r) h (λe h=>Option.some.inj h) (λK hR h=>?_) (λz3 x2 h=>?_)
 .
  refine sr (cq (nt (ai ?_)));refine aD (λz5 y4=>[(1,I a1),(2,I a2),(3,Pt b1),(8,I y4)]) (λz5 y4=>[.obj b1 25 (.rep am a0)]) (eA k a0 a1 a2) k () 0 (λ_=>rfl) h (SE.fin [0] ⟨rfl,rfl,rfl,rfl,trivial⟩ rfl) (λn z5 y4 h=>?_);unfold eA at h;refine aj (sr (mq ?_));refine fl bS ?_;refine lo eH ?_;refine mq ?_;obtain⟨x6,Vf,h⟩:=aa h;refine jb (aE (t:=(.slice Tl)) rfl oy jJ Vf) ?_;refine ja (an (t:=(.slice Tl)) rfl jJ rfl) ?_;refine ol pY ?_;refine jb (bq rfl) ?_;refine nt (ci h (λh=>?_) (λh=>?_))
  .refine sk (cO (Z:=Unit) (α:=Unit) (λz8 x7=>[(1,I a1),(2,I a2),(3,Pt b1),(8,I y4)]) (λz8 x7=>[.obj b1 25 (.rep am a0)]) (λe=>e=r) h (λe h=>hR e h) (λK hR h=>?_) (λz8 x7 h=>?_))
   .refine ai (sr (fl bS ?_));refine lo eH ?_;refine mq ?_;obtain⟨x9,Ve,h⟩:=aa h;refine jb (aE (t:=(.slice Tl)) rfl oy jJ Ve) ?_;refine ja (an (t:=(.slice Tl)) rfl jJ rfl) ?_;refine mq ?_;obtain⟨y,mc,h⟩:=aa h;refine jb (aE (t:=Tl) rfl pY fC mc) ?_;refine ja (an (t:=Tl) rfl fC rfl) ?_;refine aq (nt (sr ?_));refine cq (nt (ai ?_));refine aD (λD s=>[(1,I a1),(2,I a2),(3,Pt b1),(8,I y4),(9,.rep Tl y),(10,I s)]) (λD s=>[.obj b1 25 (.rep am a0)]) (dR k a2 y) k () 0 (λ_=>rfl) h (SE.fin [0] ⟨rfl,rfl,rfl,rfl,rfl,rfl,trivial⟩ rfl) (λn D s h=>?_);unfold dR at h;refine aj (sr ?_);iterate 2 refine mq ?_
    refine ol gG ?_;refine jb (bq rfl) ?_;refine nt (ci h (λh=>?_) (λh=>?_))
    .refine sk (aj (ai (aj (sr ?_))));iterate 2 refine mq ?_
     obtain⟨Vj,gw,h⟩:=aa h;refine jb (aE (t:=Ti) rfl gG bW gw) ?_;refine ja (an (t:=Ti) rfl bW rfl) ?_;refine mq ?_;refine jb (d4 rfl) ?_;refine nt (cn h (λh=>?_) (λh=>?_))
     .refine fq (bL (c6 (tn (ab (mq ?_)))));obtain⟨U8,Y,h⟩:=aa h;refine jb (bj rfl Y) ?_;refine aq (nl ?_);exact jz ((),U8) h [0]
     .refine sk (sr (cq (nt ?_)));refine aF (Z:=Value) (α:=(List Int)) (λc j=>[(9,.rep Tl y),(10,I s),(11,.eq c)]) (λc j=>[.sl c 3 Ti j]) h (λK h=>?_) (λc j h=>?_)
      .refine sr (mq ?_);refine jb (iD rfl) ?_;refine nt (ci h (λh=>?_) (λh=>?_))
       .refine ab ?_;iterate 3 refine mq ?_
        obtain⟨Vi,X,h⟩:=aa h;refine jb (ek rfl X) ?_;obtain⟨F,U,h⟩:=aa h;refine jb (aE (t:=Ti) rfl gG bW U) ?_;refine ja (an (t:=Ti) rfl bW rfl) ?_;refine ja (aW (t:=Ti) [(.tmp 49,_)] [F] rfl rfl c9 (.cons rfl .int .nil) rfl rfl) ?_;refine ee (SE.nil 3 Ti) ?_;obtain⟨Vl,qt,h⟩:=aa h;refine cR rfl rfl rfl (bu rfl rfl c9 (ao qt)) ⟨rfl,rfl,trivial⟩ λVb=>?_;refine aq (nl ?_);exact jz (Vb,([]:(List Int))++[F]) h [0]
       .refine bi (ax (bM (SE.nil 3 Ti) ?_));exact jz ((.slice none 0 0),([]:(List Int))) h [0]
      .refine aF (Z:=Value) (α:=(List Int)) (λl u=>[(11,.eq l)]) (λl u=>[.sl l 3 Ti u]) h (λK h=>?_) (λl u h=>?_)
       .refine sr (mq ?_);obtain⟨Vh,Q,h⟩:=aa h;refine jb (bj rfl Q) ?_;refine mq ?_;refine ol gG ?_;refine jb (bq rfl) ?_;refine nt (ci h (λh=>?_) (λh=>?_))
        .refine ab ?_;iterate 3 refine mq ?_
         obtain⟨Vg,O,h⟩:=aa h;refine jb (bj rfl O) ?_;obtain⟨E,M,h⟩:=aa h;refine jb (aE (t:=Ti) rfl gG bW M) ?_;refine ja (an (t:=Ti) rfl bW rfl) ?_;refine ja (aW (t:=Ti) [(.tmp 62,_)] [E] rfl rfl c9 (.cons rfl .int .nil) rfl rfl) ?_;obtain⟨Vk,mw,h⟩:=aa h;refine cR rfl rfl rfl (bu rfl rfl c9 (ao mw)) ⟨rfl,rfl,trivial⟩ λVa=>?_;refine aq (nl ?_);exact jz (Va,j++[E]) h [0]
        .refine bi (ax ?_);exact jz (c,j) h [0]
       .refine sr (mq ?_);refine aq ?_;refine cq (nt (aC (br (aX (br (aX (aY ?_)))))));refine bM (ie [6,11,65] ⟨rfl,rfl,rfl,trivial⟩) ?_;obtain rfl:=hR _ h;exact rb
    .refine fq (bL (bL (c6 (bn ?_))));exact jz ((),()) h [0]
   .refine ab (mq ?_);obtain⟨zz,J,h⟩:=aa h;refine jb (bj rfl J) ?_;refine aq (nl ?_);exact jz ((),zz) h [0]
  .refine xa ?_;exact jz ((),()) h []
 .
  refine sr (cq ?_);refine cq (nt (aC ?_));refine bM (ew (t:=Tl) (x:=([]:(List Int))) 6 rfl .nil rfl rfl) ?_;cases h;exact rb
def eW(k:Nat)(a0:ae)(a2:Int):Nat->(Int×Int)->Option (Except Int Int)
 |0,_=>none
 |n+1,y4=>
  if 0≤y4.2 then((jP k a0 y4.2 a2).bind λr6=>
  if r6.2=true then(some (.error y4.1)) else((ck (y4.1+1)).bind λx7=>
  (ck (y4.2 - 1)).bind λx8=>
  eW k a0 a2 n (x7,x8))) else(some (.ok y4.1))
def oQ(k:Nat)(a0:ae)(a1:Int)(a2:Int):Option Int:=
 bE (α:=Int) (eW k a0 a2 k (0,a1)) (some) λx2=>
 some x2
theorem zD(k:Nat)(a0:ae)(a1:Int)(a2:Int)(r:Int)(h:oQ k a0 a1 a2=some r):
 cV Tryz.prog 116 [.rep am a0,I a1,I a2] [] (λ_:Unit=>(bF [I r],[])):=by
 unfold oQ at h
 replace h:=ba h
 refine cV.of 28 Tryz.func116 rfl Tryz.ntmps116 rfl λS w0=>?_
 refine sr ?_
 refine bx λb1=>?_
 refine cq ?_
 refine nt ?_
 refine sr ?_
 refine cq ?_
 refine nt ?_
 refine cO (Z:=Unit) (α:=Int) (λz3 x2=>[(7,I x2)]) (λz3 x2=>[]) (λe=>e=r) h (λe h=>Option.some.inj h) (λK hR h=>?_) (λz3 x2 h=>?_)
 .
  refine sr (mq ?_);refine aq (nt (ai ?_));refine aD (λz5 y4=>[(2,I a2),(3,Pt b1),(7,I y4.1),(8,I y4.2)]) (λz5 y4=>[.obj b1 25 (.rep am a0)]) (eW k a0 a2) k () (0,a1) (λ_=>rfl) h (SE.fin [0] ⟨rfl,rfl,rfl,rfl,trivial⟩ rfl) (λn z5 y4 h=>?_);unfold eW at h;refine aj (sr (mq ?_));refine jb (jg rfl) ?_;refine nt (ci h (λh=>?_) (λh=>?_))
  .refine sk (aj (ai (aj (sr (lo dk ?_)))));iterate 2 refine mq ?_
   obtain⟨r6,l,h⟩:=aa h;refine jc (av [.tmp 17,.tmp 18,.tmp 19] rfl rfl Q2 rfl (qi k a0 y4.2 a2 r6 l)) ?_;refine mq ?_;refine xr ?_;refine xr ?_;refine aq ?_;refine aq (nt (sr ?_));refine mq (nt ?_);refine cv h (λh=>?_) (λh=>?_)
   .refine sr (mq ?_);refine aq (nt (rx (br (aX (aY ?_)))));obtain rfl:=hR _ h;exact ra
   .refine sk (ab (mq ?_));obtain⟨x7,j,h⟩:=aa h;refine jb (bj rfl j) ?_;refine aq (aG (aI (tn (ab ?_))));refine mq ?_;obtain⟨x8,c,h⟩:=aa h;refine jb (ek rfl c) ?_;refine aq (nl ?_);exact jz ((),(x7,x8)) h [0]
  .refine xa ?_;exact jz ((),y4.1) h []
 .
  refine sr (mq ?_);refine aq (nt (aC ?_));cases h;exact ra
def eV(k:Nat)(a0:ae)(a2:(List Int))(r8:(List Int)×Bool):Nat->(Int×Int)->Option Int
 |0,_=>none
 |n+1,c=>
  if c.2 < (r8.1.length:Int) then((((aH r8.1 c.2).bind λj=>
  (aH a2 j).bind λh=>
  if a0.2.1≤h then(some 0) else(some c.1)):Option (Int)).bind λl=>
  (ck (c.2+1)).bind λe=>
  eV k a0 a2 r8 n (l,e)) else(some c.1)
def fP(k:Nat)(a0:ae)(a1:Int)(a2:(List Int)):Nat->((List Int)×Int)->Option (List Int)
 |0,_=>none
 |n+1,y4=>
  if y4.2 < a0.1 then((((jP k a0 a1 y4.2).bind λr8=>
  ((if¬(r8.2=true) then((oQ k a0 a1 y4.2).bind λs=>
  some (decide (a0.2.2.2.1≤s))) else(some false)):Option (Bool)).bind λx9=>
  if x9=true then((cf (bA (length y4.1+length [(-1:Int)]))).bind λ_=>
  some (y4.1++[(-1:Int)])) else(if¬(r8.2=true) then((aH a2 y4.2).bind λh=>
  (cf (bA (length y4.1+length [h]))).bind λ_=>
  some (y4.1++[h])) else((aH a2 y4.2).bind λr=>
  if 0≤r then((aH a2 y4.2).bind λl=>
  (ck (l+1)).bind λe=>
  (cf (bA (length y4.1+length [e]))).bind λ_=>
  some (y4.1++[e])) else(((eV k a0 a2 r8 k ((-1:Int),0)):Option (Int)).bind λc=>
  (cf (bA (length y4.1+length [c]))).bind λ_=>
  some (y4.1++[c]))))):Option ((List Int))).bind λx6=>
  (ck (y4.2+1)).bind λj=>
  fP k a0 a1 a2 n (x6,j)) else(some y4.1)
def oP(k:Nat)(a0:ae)(a1:Int)(a2:(List Int)):Option (List Int):=
 ((fP k a0 a1 a2 k (([]:(List Int)),0)):Option ((List Int))).bind λx2=>
 some x2
theorem zC(k:Nat)(a0:ae)(a1:Int)(a2:(List Int))(r:(List Int))(h:oP k a0 a1 a2=some r):
 cV Tryz.prog 96 [.rep am a0,I a1,.rep Tl a2] [] (λ_:Unit=>(bF [.rep Tl r],[])):=by
 unfold oP at h
 replace h:=ba h
 refine cV.of 86 Tryz.func96 rfl Tryz.ntmps96 rfl λS w0=>?_
 refine sr ?_
 refine bx λb1=>?_
 refine cq ?_
 refine nt ?_
 refine sr ?_
 refine cq ?_
 refine nt ?_
 refine aF (Z:=Value) (α:=(List Int)) (λz3 x2=>[(7,.eq z3)]) (λz3 x2=>[.sl z3 3 Ti x2]) h (λK h=>?_) (λz3 x2 h=>?_)
 .
  refine sr (cq (nt (ai ?_)));refine gu (SE.nil 3 Ti) ?_;refine aD (λz5 y4=>[(1,I a1),(2,.rep Tl a2),(3,Pt b1),(7,.eq z5),(8,I y4.2)]) (λz5 y4=>[.obj b1 25 (.rep am a0),.sl z5 3 Ti y4.1]) (fP k a0 a1 a2) k (.slice none 0 0) (([]:(List Int)),0) (λ_=>rfl) h (SE.fin [1,0] ⟨rfl,rfl,rfl,rfl,rfl,trivial⟩ rfl) (λn z5 y4 h=>?_);unfold fP at h;refine aj (sr (mq ?_));refine fl fy ?_;refine lo bW ?_;refine jb (bq rfl) ?_;refine nt (ci h (λh=>?_) (λh=>?_))
  .refine sk (aF (Z:=Value) (α:=(List Int)) (λz7 x6=>[(1,I a1),(2,.rep Tl a2),(3,Pt b1),(7,.eq z7),(8,I y4.2)]) (λz7 x6=>[.obj b1 25 (.rep am a0),.sl z7 3 Ti x6]) h (λK h=>?_) (λz7 x6 h=>?_))
   .refine ai (sr (lo dk ?_));iterate 2 refine mq ?_
    obtain⟨r8,Vh,h⟩:=aa h;refine jc (av [.tmp 20,.tmp 21,.tmp 22] rfl rfl Q2 rfl (qi k a0 a1 y4.2 r8 Vh)) ?_;refine mq ?_;refine xr ?_;refine xr ?_;refine aq ?_;refine aq (nt (ai ?_));refine aF (Z:=Unit) (α:=Bool) (λx x9=>[(1,I a1),(2,.rep Tl a2),(3,Pt b1),(7,.eq z5),(8,I y4.2),(9,.rep Tl r8.1),(10,.eq (.bool r8.2)),(46,.eq (.bool x9))]) (λx x9=>[.obj b1 25 (.rep am a0),.sl z5 3 Ti y4.1]) h (λK h=>?_) (λx x9 h=>?_)
    .refine bN ?_;refine dm ?_;refine da (eI rfl) ?_;refine lx rfl rfl rfl (aO rfl) ⟨rfl,trivial⟩ (λhb=>?_) (λhb=>?_)
     .replace h:=dU (rQ hb) h;refine iZ 0 rfl rfl rfl rfl rfl rfl (ap rfl dk (qe) rfl) ⟨rfl,rfl,trivial⟩ ?_;refine bg rfl rfl rfl rfl rfl (aO rfl) ⟨rfl,rfl,trivial⟩ ?_;refine bg rfl rfl rfl rfl rfl (aO rfl) ⟨rfl,rfl,trivial⟩ ?_;obtain⟨E,zz,h⟩:=aa h;refine bg rfl rfl rfl rfl rfl (av [.tmp 50,.tmp 51,.tmp 52] rfl rfl Rt rfl (zD k a0 a1 y4.2 E zz)) ⟨rfl,rfl,rfl,rfl,trivial⟩ ?_;refine bg rfl rfl rfl rfl rfl (au rfl tz) ⟨rfl,rfl,trivial⟩ ?_;refine iZ 0 rfl rfl rfl rfl rfl rfl (ap rfl bW jN rfl) ⟨rfl,rfl,trivial⟩ ?_;refine df cS ?_;refine gb (jg rfl) ?_;refine pt ?_;refine aq (nl ?_);exact jz ((),decide (a0.2.2.2.1≤E)) h [0,1]
     .replace h:=cG (mF hb) h;iterate 6 refine dg ?_
      refine df cS ?_;refine gn ?_;refine pf ?_;refine aq (nl ?_);exact jz ((),false) h [0,1]
    .refine cv h (λh=>?_) (λh=>?_)
     .refine ab (mq ?_);refine ja (aW (t:=Ti) [(.const (.int .i64 (-1)),_)] [(-1:Int)] rfl rfl c9 (.cons rfl .int .nil) rfl rfl) ?_;obtain⟨Vp,qt,h⟩:=aa h;refine fr 1 ?_;refine cR rfl rfl rfl (bu rfl rfl c9 (ao qt)) ⟨rfl,rfl,trivial⟩ λVg=>?_;refine aq (aG (aI (bn ?_)));exact jz (Vg,y4.1++[(-1:Int)]) h [1,0]
     .refine sr (mq ?_);refine ja (eI rfl) ?_;refine aq (nt ?_);refine cw h (λh=>?_) (λh=>?_)
      .refine ab ?_;iterate 3 refine mq ?_
       obtain⟨D,Y,h⟩:=aa h;refine jb (aE (t:=Ti) rfl gG bW Y) ?_;refine ja (an (t:=Ti) rfl bW rfl) ?_;refine ja (aW (t:=Ti) [(.tmp 68,_)] [D] rfl rfl c9 (.cons rfl .int .nil) rfl rfl) ?_;obtain⟨Vo,mw,h⟩:=aa h;refine fr 1 ?_;refine cR rfl rfl rfl (bu rfl rfl c9 (ao mw)) ⟨rfl,rfl,trivial⟩ λVf=>?_;refine aq (aG (aI (bn ?_)));exact jz (Vf,y4.1++[D]) h [1,0]
      .refine sr ?_;iterate 2 refine mq ?_
       obtain⟨Vl,X,h⟩:=aa h;refine jb (aE (t:=Ti) rfl gG bW X) ?_;refine ja (an (t:=Ti) rfl bW rfl) ?_;refine jb (jg rfl) ?_;refine aq (nt ?_);refine ci h (λh=>?_) (λh=>?_)
       .refine ab ?_;iterate 3 refine mq ?_
        obtain⟨Vk,U,h⟩:=aa h;refine jb (aE (t:=Ti) rfl gG bW U) ?_;refine ja (an (t:=Ti) rfl bW rfl) ?_;obtain⟨y,Q,h⟩:=aa h;refine jb (bj rfl Q) ?_;refine ja (aW (t:=Ti) [(.tmp 82,_)] [y] rfl rfl c9 (.cons rfl .int .nil) rfl rfl) ?_;obtain⟨Vn,mc,h⟩:=aa h;refine fr 1 ?_;refine cR rfl rfl rfl (bu rfl rfl c9 (ao mc)) ⟨rfl,rfl,trivial⟩ λVe=>?_;refine aq (aG (aI (bn ?_)));exact jz (Ve,y4.1++[y]) h [1,0]
       .refine sr (cq (nt ?_));refine aF (Z:=Unit) (α:=Int) (λu e=>[(1,I a1),(2,.rep Tl a2),(3,Pt b1),(7,.eq z5),(8,I y4.2),(11,I e)]) (λu e=>[.obj b1 25 (.rep am a0),.sl z5 3 Ti y4.1]) h (λK h=>?_) (λu e h=>?_)
        .refine sr (cq (nt (ai ?_)));refine aD (λs c=>[(1,I a1),(2,.rep Tl a2),(3,Pt b1),(7,.eq z5),(8,I y4.2),(9,.rep Tl r8.1),(11,I c.1),(12,I c.2)]) (λs c=>[.obj b1 25 (.rep am a0),.sl z5 3 Ti y4.1]) (eV k a0 a2 r8) k () ((-1:Int),0) (λ_=>rfl) h (SE.fin [0,1] ⟨rfl,rfl,rfl,rfl,rfl,rfl,rfl,rfl,trivial⟩ rfl) (λn s c h=>?_);unfold eV at h;refine aj (sr ?_);iterate 2 refine mq ?_
         refine ol gG ?_;refine jb (bq rfl) ?_;refine nt (ci h (λh=>?_) (λh=>?_))
         .refine sk (aF (Z:=Unit) (α:=Int) (λl j=>[(1,I a1),(2,.rep Tl a2),(3,Pt b1),(7,.eq z5),(8,I y4.2),(9,.rep Tl r8.1),(11,I j),(12,I c.2)]) (λl j=>[.obj b1 25 (.rep am a0),.sl z5 3 Ti y4.1]) h (λK h=>?_) (λl j h=>?_))
          .refine ai (aj (bN ?_));refine dm ?_;refine dm ?_;refine dm ?_;obtain⟨Vj,O,h⟩:=aa h;refine db (aE (t:=Ti) rfl gG bW O) ?_;refine da (an (t:=Ti) rfl bW rfl) ?_;obtain⟨Vi,M,h⟩:=aa h;refine db (aE (t:=Ti) rfl gG bW M) ?_;refine da (an (t:=Ti) rfl bW rfl) ?_;refine da (au rfl pj) ?_;refine ea 0 (ap rfl bW jN rfl) ?_;refine df cS ?_;refine jb (jg rfl) ?_;refine nt (ci h (λh=>?_) (λh=>?_))
           .refine ab (cq (aG (bn ?_)));exact jz ((),0) h [0,1]
           .refine bi (bn ?_);exact jz ((),c.1) h [0,1]
          .refine ab (mq ?_);obtain⟨Va,J,h⟩:=aa h;refine jb (bj rfl J) ?_;refine aq (nl ?_);exact jz ((),(j,Va)) h [0,1]
         .refine xa ?_;exact jz ((),c.1) h [0,1]
        .refine ab ?_;iterate 2 refine mq ?_
         refine ja (aW (t:=Ti) [(.tmp 43,_)] [e] rfl rfl c9 (.cons rfl .int .nil) rfl rfl) ?_;obtain⟨Vm,gw,h⟩:=aa h;refine fr 1 ?_;refine cR rfl rfl rfl (bu rfl rfl c9 (ao gw)) ⟨rfl,rfl,trivial⟩ λVb=>?_;refine aq (aG (aI (bn ?_)));exact jz (Vb,y4.1++[e]) h [1,0]
   .refine ab (mq ?_);obtain⟨U8,F,h⟩:=aa h;refine jb (bj rfl F) ?_;refine aq (nl ?_);exact jz (z7,(x6,U8)) h [0,1]
  .refine xa ?_;exact jz (z5,y4.1) h [1]
 .
  refine sr (mq ?_);refine aq (nt (aC ?_));refine bM (ie [6,7,85] ⟨rfl,rfl,rfl,trivial⟩) ?_;cases h;exact ra
def fR(k:Nat)(a0:ae)(a1:(List Int)):Nat->((List Int)×Int)->Option (List Int)
 |0,_=>none
 |n+1,y4=>
  if y4.2 < a0.1 then((((pH k a1 y4.2).bind λr8=>
  if r8=true then((cf (bA (length y4.1+length [a0.2.1]))).bind λ_=>
  some (y4.1++[a0.2.1])) else((cf (bA (length y4.1+length [(-1:Int)]))).bind λ_=>
  some (y4.1++[(-1:Int)]))):Option ((List Int))).bind λx6=>
  (ck (y4.2+1)).bind λc=>
  fR k a0 a1 n (x6,c)) else(some y4.1)
def fQ(k:Nat)(a0:ae):Nat->((List (List Int))×Int)->Option (List (List Int))
 |0,_=>none
 |n+1,c=>
  if c.2 < (a0.2.2.2.2.1.length:Int) then((aH c.1 c.2).bind λj=>
  (oP k a0 c.2 j).bind λe=>
  (cf (bA (length c.1+length [e]))).bind λ_=>
  (ck (c.2+1)).bind λh=>
  fQ k a0 n (c.1++[e],h)) else(some c.1)
def oR(k:Nat)(a0:ae)(a1:(List Int)):Option (List (List Int)):=
 ((fR k a0 a1 k (([]:(List Int)),0)):Option ((List Int))).bind λx2=>
 ((fQ k a0 k ([x2],0)):Option ((List (List Int)))).bind λc=>
 some c
theorem zE(k:Nat)(a0:ae)(a1:(List Int))(r:(List (List Int)))(h:oR k a0 a1=some r):
 cV Tryz.prog 52 [.rep am a0,.rep Tl a1] [] (λ_:Unit=>(bF [.rep (.slice Tl) r],[])):=by
 unfold oR at h
 replace h:=ba h
 refine cV.of 46 Tryz.func52 rfl Tryz.ntmps52 rfl λS w0=>?_
 refine sr ?_
 refine bx λb1=>?_
 refine cq ?_
 refine nt ?_
 refine sr ?_
 refine cq ?_
 refine nt ?_
 refine aF (Z:=Value) (α:=(List Int)) (λz3 x2=>[(2,Pt b1),(5,.eq z3)]) (λz3 x2=>[.obj b1 25 (.rep am a0),.sl z3 3 Ti x2]) h (λK h=>?_) (λz3 x2 h=>?_)
 .
  refine sr (cq (nt (ai ?_)));refine gu (SE.nil 3 Ti) ?_;refine aD (λz5 y4=>[(1,.rep Tl a1),(2,Pt b1),(5,.eq z5),(6,I y4.2)]) (λz5 y4=>[.obj b1 25 (.rep am a0),.sl z5 3 Ti y4.1]) (fR k a0 a1) k (.slice none 0 0) (([]:(List Int)),0) (λ_=>rfl) h (SE.fin [1,0] ⟨rfl,rfl,rfl,rfl,trivial⟩ rfl) (λn z5 y4 h=>?_);unfold fR at h;refine aj (sr (mq ?_));refine fl fy ?_;refine lo bW ?_;refine jb (bq rfl) ?_;refine nt (ci h (λh=>?_) (λh=>?_))
  .refine sk (aF (Z:=Value) (α:=(List Int)) (λz7 x6=>[(1,.rep Tl a1),(2,Pt b1),(5,.eq z7),(6,I y4.2)]) (λz7 x6=>[.obj b1 25 (.rep am a0),.sl z7 3 Ti x6]) h (λK h=>?_) (λz7 x6 h=>?_))
   .refine ai (sr ?_);iterate 2 refine mq ?_
    obtain⟨r8,mc,h⟩:=aa h;refine jb (av [.tmp 15,.tmp 16] rfl rfl Q3 rfl (uV k a1 y4.2 r8 mc)) ?_;refine nt (cv h (λh=>?_) (λh=>?_))
    .refine ab (mq ?_);refine fl pj ?_;refine lo bW ?_;refine ja (aW (t:=Ti) [(.tmp 20,_)] [a0.2.1] rfl rfl c9 (.cons rfl .int .nil) rfl rfl) ?_;obtain⟨u9,gw,h⟩:=aa h;refine fr 1 ?_;refine cR rfl rfl rfl (bu rfl rfl c9 (ao gw)) ⟨rfl,rfl,trivial⟩ λY=>?_;refine aq (aG (bn ?_));exact jz (Y,y4.1++[a0.2.1]) h [1,0]
    .refine ab (mq ?_);refine ja (aW (t:=Ti) [(.const (.int .i64 (-1)),_)] [(-1:Int)] rfl rfl c9 (.cons rfl .int .nil) rfl rfl) ?_;obtain⟨qt,E,h⟩:=aa h;refine fr 1 ?_;refine cR rfl rfl rfl (bu rfl rfl c9 (ao E)) ⟨rfl,rfl,trivial⟩ λX=>?_;refine aq (aG (bn ?_));exact jz (X,y4.1++[(-1:Int)]) h [1,0]
   .refine ab (mq ?_);obtain⟨O,y,h⟩:=aa h;refine jb (bj rfl y) ?_;refine aq (nl ?_);exact jz (z7,(x6,O)) h [0,1]
  .refine xa ?_;exact jz (z5,y4.1) h [0,1]
 .
  refine sr (mq ?_);refine fr 1 ?_;refine ee (ie [5,26] ⟨rfl,rfl,trivial⟩) ?_;refine aZ rfl rfl rfl (i7 (t:=Tl) [(.tmp 26,_)] [x2] rfl rfl nm (.cons rfl .rep .nil) rfl rfl) ⟨rfl,trivial⟩ λU=>?_;refine aq (nt ?_);refine aF (Z:=Value) (α:=(List (List Int))) (λj s=>[(7,.eq j)]) (λj s=>[.sl j 28 Tl s]) h (λK h=>?_) (λj s h=>?_)
  .refine sr (cq (nt (ai ?_)));refine aD (λe c=>[(2,Pt b1),(7,.eq e),(8,I c.2)]) (λe c=>[.obj b1 25 (.rep am a0),.sl e 28 Tl c.1]) (fQ k a0) k U ([x2],0) (λ_=>rfl) h (SE.fin [1,0] ⟨rfl,rfl,rfl,trivial⟩ rfl) (λn e c h=>?_);unfold fQ at h;refine aj (sr (mq ?_));refine fl bS ?_;refine lo eH ?_;refine ol oy ?_;refine jb (bq rfl) ?_;refine nt (ci h (λh=>?_) (λh=>?_))
   .refine sk (aj (ai (bN ?_)));refine dm ?_;refine ea 0 (ap rfl dk (qe) rfl) ?_;refine dm ?_;refine dm ?_;refine dm ?_;obtain⟨M,l,h⟩:=aa h;refine eb 1 (cH (t:=Tl) rfl pY fC l) ?_;refine ea 1 (gA (i:=Int.toNat c.2) (off:=0) rfl fC (λ_=>rfl) rfl (dF l).2.2 rfl) ?_;obtain⟨u,F,h⟩:=aa h;refine dc (av [.tmp 36,.tmp 37,.tmp 41] rfl rfl TM rfl (zC k a0 c.2 M u F)) ?_;refine da (aW (t:=Tl) [(.tmp 42,_)] [u] rfl rfl nm (.cons rfl .rep .nil) rfl rfl) ?_;refine df cS ?_;obtain⟨mw,D,h⟩:=aa h;refine fr 1 ?_;refine cR rfl rfl rfl (bu rfl rfl nm (ao D)) ⟨rfl,rfl,trivial⟩ λQ=>?_;refine aq (aG (aI (tn (ab ?_))));refine mq ?_;obtain⟨J,x,h⟩:=aa h;refine jb (bj rfl x) ?_;refine aq (nl ?_);exact jz (Q,(c.1++[u],J)) h [1,0]
   .refine xa ?_;exact jz (e,c.1) h [1]
  .refine sr (mq ?_);refine aq (nt (aC ?_));refine bM (ie [4,7,45] ⟨rfl,rfl,rfl,trivial⟩) ?_;cases h;exact ra
def lQ(k:Nat)(a0:ae)(a1:(List Int)):Option ((List (List Int))×Int):=
 (lA k a0).bind λr2=>
 if¬(r2=0) then(some (([]:(List (List Int))),r2)) else((gW k a0 a1).bind λr3=>
 if¬(r3=0) then(some (([]:(List (List Int))),r3)) else((oR k a0 a1).bind λr4=>
 some (r4,0)))
theorem wl(k:Nat)(a0:ae)(a1:(List Int))(r:(List (List Int))×Int)(h:lQ k a0 a1=some r):
 cV Tryz.prog 18 [.rep am a0,.rep Tl a1] [] (λ_:Unit=>(bF [.rep (.slice Tl) r.1,I r.2],[])):=by
 unfold lQ at h
 replace h:=ba h
 refine cV.of 22 Tryz.func18 rfl Tryz.ntmps18 rfl λS w0=>?_
 refine sr ?_
 refine bx λb1=>?_
 refine cq ?_
 refine cq ?_
 refine nt ?_
 refine aj ?_
 refine sr ?_
 refine lo dk ?_
 obtain⟨r2,j,h⟩:=aa h
 have l:=rI k a0 r2 j
 refine ja (av [.tmp 8] rfl rfl Q8 rfl l) ?_
 refine aq ?_
 refine nt ?_
 refine sr ?_
 refine mq ?_
 refine jb (d4 rfl) ?_
 refine nt ?_
 refine cn h (λh=>?_) (λh=>?_)
 .
  refine sr (mq ?_);refine cq ?_;refine aq (nt (rx ?_));refine bM (ew (t:=(.slice Tl)) (x:=([]:(List (List Int)))) 4 rfl .nil rfl rfl) ?_;cases h;exact rb
 .
  refine sk (aj (sr (lo dk ?_)));refine mq ?_;obtain⟨r3,e,h⟩:=aa h;refine jb (av [.tmp 13,.tmp 14] rfl rfl Ue rfl (rH k a0 a1 r3 e)) ?_;refine aq (nt (sr ?_));refine mq ?_;refine jb (d4 rfl) ?_;refine nt (cn h (λh=>?_) (λh=>?_))
  .refine sr (mq ?_);refine cq ?_;refine aq (nt (rx ?_));refine bM (ew (t:=(.slice Tl)) (x:=([]:(List (List Int)))) 4 rfl .nil rfl rfl) ?_;cases h;exact rb
  .refine sk (sr (lo dk ?_));refine mq ?_;obtain⟨r4,c,h⟩:=aa h;refine jb (av [.tmp 19,.tmp 20] rfl rfl Ud rfl (zE k a0 a1 r4 c)) ?_;refine aq ?_;refine cq (nt (aC ?_));cases h;exact rb
def dA(k:Nat)(a0:ae)(a1:ae):Nat->Int->Option (Except Bool Unit)
 |0,_=>none
 |n+1,y7=>
  if y7 < (a0.2.2.2.2.1.length:Int) then((aH a0.2.2.2.2.1 y7).bind λx9=>
  (aH a1.2.2.2.2.1 y7).bind λe=>
  (dT k x9 e).bind λh=>
  if¬(h=true) then(some (.error false)) else((ck (y7+1)).bind λc=>
  dA k a0 a1 n c)) else(some (.ok ()))
def dz(k:Nat)(a0:ae)(a1:ae):Nat->Int->Option (Except Bool Unit)
 |0,_=>none
 |n+1,c=>
  if c < (a0.2.2.2.2.2.length:Int) then((aH a0.2.2.2.2.2 c).bind λj=>
  (aH a1.2.2.2.2.2 c).bind λh=>
  if¬(j=h) then(some (.error false)) else((ck (c+1)).bind λe=>
  dz k a0 a1 n e)) else(some (.ok ()))
def iG(k:Nat)(a0:ae)(a1:ae):Option Bool:=
 ((if¬(a0.1=a1.1) then(some true) else(if¬(a0.2.1=a1.2.1) then(some true) else(if¬(a0.2.2.1=a1.2.2.1) then(some true) else(if¬(a0.2.2.2.1=a1.2.2.2.1) then(some true) else(if¬((a0.2.2.2.2.1.length:Int)=(a1.2.2.2.2.1.length:Int)) then(some true) else(some (!decide ((a0.2.2.2.2.2.length:Int)=(a1.2.2.2.2.2.length:Int))))))))):Option (Bool)).bind λx3=>
 if x3=true then(some false) else(bE (α:=Unit) (dA k a0 a1 k 0) (some) λ_=>
 bE (α:=Unit) (dz k a0 a1 k 0) (some) λ_=>
 some true)
theorem tf(k:Nat)(a0:ae)(a1:ae)(r:Bool)(h:iG k a0 a1=some r):
 cV Tryz.prog 22 [.rep am a0,.rep am a1] [] (λ_:Unit=>(bF [.eq (.bool r)],[])):=by
 unfold iG at h
 replace h:=ba h
 refine cV.of 88 Tryz.func22 rfl Tryz.ntmps22 rfl λS w0=>?_
 refine sr ?_
 refine bx λb1=>?_
 refine bx λb2=>?_
 refine cq ?_
 refine nt ?_
 refine aj ?_
 refine aF (Z:=Unit) (α:=Bool) (λz4 x3=>[(2,Pt b1),(3,Pt b2),(50,.eq (.bool x3))]) (λz4 x3=>[.obj b1 25 (.rep am a0),.obj b2 25 (.rep am a1)]) h (λK h=>?_) (λz4 x3 h=>?_)
 .
  refine ab (fl fy ?_);refine fr 1 ?_;refine lo bW ?_;refine fl fy ?_;refine fr 1 ?_;refine lo bW ?_;refine jb (d4 rfl) ?_;refine mq ?_;refine bX (s:=12) rfl (λhb=>?_) (λhb=>?_)
  .replace h:=dU (Ni hb) h;iterate 5 refine gn ?_
   refine pt ?_;refine mq ?_;iterate 5 refine gn ?_
   refine pt ?_;refine mq ?_;iterate 5 refine gn ?_
   refine pt ?_;refine mq ?_;iterate 7 refine gn ?_
   refine pt ?_;refine mq ?_;iterate 7 refine gn ?_
   refine pt (nl ?_);exact jz ((),true) h [1,0]
  .replace h:=cG (zW hb) h;refine ga (au rfl pj) ?_;refine fr 1 ?_;refine eL rfl rfl rfl rfl rfl rfl (ap rfl bW jN rfl) ⟨rfl,trivial⟩ ?_;refine ga (au rfl pj) ?_;refine fr 1 ?_;refine eL rfl rfl rfl rfl rfl rfl (ap rfl bW jN rfl) ⟨rfl,trivial⟩ ?_;refine gb (d4 rfl) ?_;refine pf ?_;refine mq ?_;refine bX (s:=19) rfl (λhb=>?_) (λhb=>?_)
   .replace h:=dU (Ni hb) h;iterate 5 refine gn ?_
    refine pt ?_;refine mq ?_;iterate 5 refine gn ?_
    refine pt ?_;refine mq ?_;iterate 7 refine gn ?_
    refine pt ?_;refine mq ?_;iterate 7 refine gn ?_
    refine pt (nl ?_);exact jz ((),true) h [1,0]
   .replace h:=cG (zW hb) h;refine ga (au rfl tA) ?_;refine fr 1 ?_;refine eL rfl rfl rfl rfl rfl rfl (ap rfl bW jN rfl) ⟨rfl,trivial⟩ ?_;refine ga (au rfl tA) ?_;refine fr 1 ?_;refine eL rfl rfl rfl rfl rfl rfl (ap rfl bW jN rfl) ⟨rfl,trivial⟩ ?_;refine gb (d4 rfl) ?_;refine pf ?_;refine mq ?_;refine bX (s:=26) rfl (λhb=>?_) (λhb=>?_)
    .replace h:=dU (Ni hb) h;iterate 5 refine gn ?_
     refine pt ?_;refine mq ?_;iterate 7 refine gn ?_
     refine pt ?_;refine mq ?_;iterate 7 refine gn ?_
     refine pt (nl ?_);exact jz ((),true) h [1,0]
    .replace h:=cG (zW hb) h;refine ga (au rfl tz) ?_;refine fr 1 ?_;refine eL rfl rfl rfl rfl rfl rfl (ap rfl bW jN rfl) ⟨rfl,trivial⟩ ?_;refine ga (au rfl tz) ?_;refine fr 1 ?_;refine eL rfl rfl rfl rfl rfl rfl (ap rfl bW jN rfl) ⟨rfl,trivial⟩ ?_;refine gb (d4 rfl) ?_;refine pf ?_;refine mq ?_;refine bX (s:=33) rfl (λhb=>?_) (λhb=>?_)
     .replace h:=dU (Ni hb) h;iterate 7 refine gn ?_
      refine pt ?_;refine mq ?_;iterate 7 refine gn ?_
      refine pt (nl ?_);exact jz ((),true) h [1,0]
     .replace h:=cG (zW hb) h;refine ga (au rfl bS) ?_;refine fr 1 ?_;refine eL rfl rfl rfl rfl rfl rfl (ap rfl eH jN rfl) ⟨rfl,trivial⟩ ?_;refine ga (od rfl rfl oy) ?_;refine ga (au rfl bS) ?_;refine fr 1 ?_;refine eL rfl rfl rfl rfl rfl rfl (ap rfl eH jN rfl) ⟨rfl,trivial⟩ ?_;refine ga (od rfl rfl oy) ?_;refine gb (d4 rfl) ?_;refine pf ?_;refine mq ?_;refine bX (s:=42) rfl (λhb=>?_) (λhb=>?_)
      .replace h:=dU (Ni hb) h;iterate 7 refine gn ?_
       refine pt (nl ?_);exact jz ((),true) h [1,0]
      .replace h:=cG (zW hb) h;refine ga (au rfl fK) ?_;refine fr 1 ?_;refine eL rfl rfl rfl rfl rfl rfl (ap rfl nh jN rfl) ⟨rfl,trivial⟩ ?_;refine ga (od rfl rfl Ei) ?_;refine ga (au rfl fK) ?_;refine fr 1 ?_;refine eL rfl rfl rfl rfl rfl rfl (ap rfl nh jN rfl) ⟨rfl,trivial⟩ ?_;refine ga (od rfl rfl Ei) ?_;refine gb (d4 rfl) ?_;refine pf (nl ?_);exact jz ((), !decide ((a0.2.2.2.2.2.length:Int)=(a1.2.2.2.2.2.length:Int))) h [1,0]
 .
  refine cv h (λh=>?_) (λh=>?_)
  .refine sr (cq (nt (rx ?_)));cases h;exact ra
  .refine sk (cO (Z:=Unit) (α:=Unit) (λz6 x5=>[(2,Pt b1),(3,Pt b2)]) (λz6 x5=>[.obj b1 25 (.rep am a0),.obj b2 25 (.rep am a1)]) (λe=>e=r) h (λe h=>Option.some.inj h) (λK hR h=>?_) (λz6 x5 h=>?_))
   .refine sr (cq (nt (ai ?_)));refine aD (λz8 y7=>[(2,Pt b1),(3,Pt b2),(5,I y7)]) (λz8 y7=>[.obj b1 25 (.rep am a0),.obj b2 25 (.rep am a1)]) (dA k a0 a1) k () 0 (λ_=>rfl) h (SE.fin [0,1] ⟨rfl,rfl,rfl,trivial⟩ rfl) (λn z8 y7 h=>?_);unfold dA at h;refine aj (sr (mq ?_));refine fl bS ?_;refine lo eH ?_;refine ol oy ?_;refine jb (bq rfl) ?_;refine nt (ci h (λh=>?_) (λh=>?_))
    .refine sk (aj (ai (aj (bN ?_))));refine da (au rfl bS) ?_;refine ea 0 (ap rfl eH jN rfl) ?_;refine dm ?_;obtain⟨x9,X,h⟩:=aa h;refine db (aE (t:=(.slice Tl)) rfl oy jJ X) ?_;refine da (an (t:=(.slice Tl)) rfl jJ rfl) ?_;refine da (au rfl bS) ?_;refine ea 1 (ap rfl eH jN rfl) ?_;refine dm ?_;obtain⟨Q,F,h⟩:=aa h;refine db (aE (t:=(.slice Tl)) rfl oy jJ F) ?_;refine da (an (t:=(.slice Tl)) rfl jJ rfl) ?_;refine df cS ?_;obtain⟨U,J,h⟩:=aa h;refine jb (av [.tmp 62,.tmp 67] rfl rfl Lt rfl (im k x9 Q U J)) ?_;refine ja (eI rfl) ?_;refine nt (cw h (λh=>?_) (λh=>?_))
     .refine sr (cq (nt (aC (br (aX (aY ?_))))));obtain rfl:=hR _ h;exact ra
     .refine bi (aI (tn (ab (mq ?_))));obtain⟨O,E,h⟩:=aa h;refine jb (bj rfl E) ?_;refine aq (nl ?_);exact jz ((),O) h [0,1]
    .refine xa ?_;exact jz ((),()) h [0,1]
   .refine cO (Z:=Unit) (α:=Unit) (λl u=>[]) (λl u=>[]) (λe=>e=r) h (λe h=>Option.some.inj h) (λK hR h=>?_) (λl u h=>?_)
    .refine sr (cq (nt (ai ?_)));refine aD (λj c=>[(2,Pt b1),(3,Pt b2),(6,I c)]) (λj c=>[.obj b1 25 (.rep am a0),.obj b2 25 (.rep am a1)]) (dz k a0 a1) k () 0 (λ_=>rfl) h (SE.fin [0,1] ⟨rfl,rfl,rfl,trivial⟩ rfl) (λn j c h=>?_);unfold dz at h;refine aj (sr (mq ?_));refine fl fK ?_;refine lo nh ?_;refine ol Ei ?_;refine jb (bq rfl) ?_;refine nt (ci h (λh=>?_) (λh=>?_))
     .refine sk (aj (ai (aj (bN ?_))));refine da (au rfl fK) ?_;refine ea 0 (ap rfl nh jN rfl) ?_;refine dm ?_;obtain⟨gw,D,h⟩:=aa h;refine db (aE (t:=aJ) rfl Ei nI D) ?_;refine da (an (t:=aJ) rfl nI rfl) ?_;refine da (au rfl fK) ?_;refine ea 1 (ap rfl nh jN rfl) ?_;refine dm ?_;obtain⟨Y,y,h⟩:=aa h;refine db (aE (t:=aJ) rfl Ei nI y) ?_;refine da (an (t:=aJ) rfl nI rfl) ?_;refine df cS ?_;refine jb (Hr rfl TL rfl) ?_;refine nt (cn h (λh=>?_) (λh=>?_))
      .refine sr (cq (nt (aC (br (aX (aY ?_))))));obtain rfl:=hR _ h;exact ra
      .refine bi (aI (tn (ab (mq ?_))));obtain⟨M,x,h⟩:=aa h;refine jb (bj rfl x) ?_;refine aq (nl ?_);exact jz ((),M) h [0,1]
     .refine xa ?_;exact jz ((),()) h []
    .refine sr (cq (nt (aC ?_)));cases h;exact ra
